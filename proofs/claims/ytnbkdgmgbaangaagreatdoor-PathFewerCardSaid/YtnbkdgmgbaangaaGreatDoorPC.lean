/- SinSpan, cut, Spread, Boxes, spans, between. -/
import Derived.Test.YtnbkdgmgbaangaaGreatDoorPB
open Go.IntKind renaming i64 → Za
open ByteArray renaming mk → Zb
open Int renaming ofNat → Zc, ofNat_eq_natCast → Zk
open Go.Value renaming int → Zd
open List renaming map → Ze, getElem?_eq_getElem → Zh, take_of_length_le → Zj
open Array renaming mk → Zf
open Go.Eng.Ch renaming r → Zg, v → Zi
namespace Go.Proofs
open Go Go.Eng
def spN (n:Nat)(s:Sp):List Ch:=[.r s.lo n,.r s.hi n]
def JT (t:Sp):Nat->Sp
 | 0=>WV t
 | 1=>J0 t (WV t) (-1)
 | _=>WW t
def Qg1:Blk:= .row 3 1 (ints [-1,1])
def QPk (l:Rat)(a:Nat)(h:Rat)(b:Nat):LI:=fun _=> .inv ⟨Nat,fun i=>⟨[(1,.x false [.p 1 0]),(2,.x false [.p 2 0]),(3,.x false [.p 3 0]),(21,.x false [.w 500 0 2]),(22,iA .i64 2),(23,iA .i64 i)],[(1,.box 83 [.r l a,.r h b]),(2,.box 83 (Xg++Xg)),(3,.box 83 (spN (4*(a+b)+400) (JT ⟨l,h⟩ i))),(500,Qg1)]⟩,fun i=>i<=2,fun i=>2-i,fun _=>0⟩
def loN (n:Nat)(l:LoV):List Ch:=[.r l.x.lo n,.r l.x.hi n,.r l.y.lo n,.r l.y.hi n,.r l.c.lo n,.r l.c.hi n,.r l.s.lo n,.r l.s.hi n]
def lb:Nat->Nat
 | 0=>700
 | i+1=>4*lb i+9000
structure SpX where
 ls:List LoV
 l:LoV
 b:FrV
 i:Nat
structure SpI (a:QN)(ts:List Sp)(qs:List Rat)(x:SpX):Prop where
 n:x.ls.length=x.i
 le:x.i<=a.links.length
 eq:x.ls++Xn x.l (a.links.drop x.i) (ts.drop x.i)=Xn (YZ a) a.links ts
 has:x.l.has x.b
 qs:HasQ (ts.drop x.i) (qs.drop x.i)
def QMN (a:QN)(B:Nat)(ts:List Sp)(qs:List Rat):LI:=fun _=> .inv ⟨SpX,fun x=>⟨[(1,.x false [.s 6 (ts.map (spN B))]),(2,.x false [.p 2 0]),(8,.x false [.p 8 0]),(9,.x false [.w 500 0 x.i]),(43,.x false [.s 16 (a.links.map QB)]),(44,iA .i64 a.links.length),(45,iA .i64 x.i)],
 [(2,.box 34 (XX a)),(8,.box 156 (loN (lb x.i) x.l)),(500,.row 156 24 (x.ls.map (loN 240000)))]⟩,SpI a ts qs,fun x=>a.links.length-x.i,fun _=>0⟩
def VK (ps qs:List Rat):List Sp:=List.zipWith (fun p q=>⟨XF p q,XJ p q⟩) ps qs
theorem KA {α:Type}{l:List α}{i:Nat}{a:α}(h:l[i]? =some a):l.drop i=a::l.drop (i+1):=by
 obtain⟨hi,e⟩:=List.getElem?_eq_some_iff.1 h
 rw[List.drop_eq_getElem_cons hi,e]
theorem Hz (p:Rat):XJ p p=p:=by unfold XJ;split<;>rfl
theorem QTg (t:Sp)(i:Nat):(JT t i).lo<=(JT t i).hi:=by
 have h0:(WV t).has (Q4 false t.lo):=Uu (XH _);have h1:=h0.sub (Wi t (WV t) (-1));have h2:=h1.sub (Wi t (J0 t (WV t) (-1)) 1);match i with
 | 0=>exact h0.ok
 | 1=>exact h1.ok
 | _+2=>exact h2.ok
theorem QMO (t:Sp)(i:Nat)(d:Int)(h:([-1,1]:List Int)[i]? =some d):JT t (i+1)=J0 t (JT t i) (d:Rat):=by
 match i,h with
 | 0,h=>cases h;rfl
 | 1,h=>cases h;rfl
theorem Qag {n:Nat}{ts:List Sp}{i:Nat}{t:Sp}(h:ts[i]? =some t):ldE (ts.map (spN n)) i 0 6=some [.r t.lo n,.r t.hi n]:=by
 simp only[ldE,List.getElem?_map,h];rfl
theorem Qg2 {i:Nat}(h:i<=2):lb i<=56200:=by
 have:i=0∨i=1∨i=2:=by omega
 rcases this with e | e | e<;>rw[e]<;>decide
theorem QdZ {i:Nat}(h:i<=3):lb i<=240000:=by
 have:i=0∨i=1∨i=2∨i=3:=by omega
 rcases this with e | e | e | e<;>rw[e]<;>decide
theorem Qda (N:Nat)(ls:List LoV):QC (ls.map (loN N)) (ls.map (loN N)):=by
 refine⟨rfl,fun i x y hx hy=> ?_⟩;rw[hx]at hy;cases hy
 simp only[List.getElem?_map,Option.map_eq_some_iff]at hx;obtain⟨q,_,rfl⟩:=hx;have r:=Nat.le_refl N;exact⟨.r r (.r r (.r r (.r r (.r r (.r r (.r r (.r r .nil))))))),rfl⟩
theorem QYT {n1 n2 n3 n4 n5 n6 n7 n8 N:Nat}(ls:List LoV)(l:LoV)(h1:n1<=N)(h2:n2<=N)(h3:n3<=N)(h4:n4<=N)(h5:n5<=N)(h6:n6<=N)(h7:n7<=N)(h8:n8<=N):
  QC (ls.map (loN N)++[[.r l.x.lo n1,.r l.x.hi n2,.r l.y.lo n3,.r l.y.hi n4,.r l.c.lo n5,.r l.c.hi n6,.r l.s.lo n7,.r l.s.hi n8]]) ((ls++[l]).map (loN N)):=by
 rw[List.map_append];exact QSx (Qda N ls) ⟨.r h1 (.r h2 (.r h3 (.r h4 (.r h5 (.r h6 (.r h7 (.r h8 .nil))))))),rfl⟩
theorem QFS {ps qs:List Rat}(h:ps.length=qs.length):(VK ps qs).length=ps.length:=by simp[VK,h]
theorem QPl {ps qs:List Rat}{i:Nat}{p q:Rat}(hp:ps[i]? =some p)(hq:qs[i]? =some q):(VK ps qs)[i]? =some ⟨XF p q,XJ p q⟩:=by
 simp[VK,List.getElem?_zipWith,hp,hq]
def QJv:OT:=fun id=>bif id.beq 2 then([0,1,5,6,11,2,3,4,7,8,9,10,12],[[],[0],[1,0],[2,1,0],[3,2,1,0],[],[5],[6,5,4,3,2,1,0],[7,6,5,4,3,2,1,0],[8,7,6,5,4,3,2,1,0],[4,3,2,1,0,9,8,7,6,5],[],[11,10,4,3,2,1,0,9,8,7,6,5]])else bif id.beq 8 then([0,1,2,3,4],[[],[],[1],[0,2,1],[3,0,2,1]])else([],[])
def Vv (l:Rat)(a:Nat)(h:Rat)(b:Nat)(K:AV->Prop):Prop:=QX Qg0 QJv (QPk l a h b) Tryz.f160 [.x true [.r l a,.r h b]] K
theorem H3 (l:Rat)(a:Nat)(h:Rat)(b:Nat)(K:AV->Prop):Vv l a h b K=((a+b+a+b<=4294967290/\l<=h/\l<=h)/\max a a<=1000000000/\max a a<=500000000/\∀(n:Nat),n<=4*max a a+400->n<=2000000000/\max b b<=1000000000/\max b b<=500000000/\∀(n_1:Nat),n_1<=4*max b b+400->n_1<=2000000000/\(n+n+n_1+n_1<=4294967290/\Q4 false (XF l l)<=Q4 false (XF l l)/\Q4 false (XJ h h)<=Q4 false (XJ h h))/\(∃(x:Nat),(x<=2/\OfNat.ofNat 0=0)/\0=0/\0=0/\0=0/\0=0/\2=2/\(2:Int)=2/\0=Zc x/\83=83/\XF l l=l/\max a a<=a/\XJ h h=h/\max b b<=b/\83=83/\false=false/\Zb (Zf [])=Zb (Zf [])/\Zb (Zf [])=Zb (Zf [])/\false=false/\Zb (Zf [])=Zb (Zf [])/\Zb (Zf [])=Zb (Zf [])/\83=83/\XF (Q4 false (XF l l)) (Q4 false (XJ h h))=(JT (Sp.mk l h) x).lo/\max n n_1<=4*(a+b)+400/\XJ (Q4 false (XF l l)) (Q4 false (XJ h h))=(JT (Sp.mk l h) x).hi/\max n n_1<=4*(a+b)+400/\3=3/\1=1/\([[Zi (Zd Za (-1))],[Zi (Zd Za 1)]]=[[Zi (Zd Za (-1))],[Zi (Zd Za 1)]]∨QC [[Zi (Zd Za (-1))],[Zi (Zd Za 1)]] [[Zi (Zd Za (-1))],[Zi (Zd Za 1)]])/\True)/\∀(x:Nat),x<=2->OfNat.ofNat 0=0->bif decide (Zc x<2)then(0<=Zc x/\Zc x<2)/\∃(d:Int),ldE [[Zi (Zd Za (-1))],[Zi (Zd Za 1)]] (0+(Zc x).toNat) 0 1=some [Zi (Zd Za d)]/\(-9223372036854775808<=d/\d<9223372036854775808)/\(a+b+64<=4294967290/\l<=h)/\bif J4 (Sp.mk l h) ↑d then 64<=2000000000/\(4*(a+b)+400+(4*(a+b)+400)+64+64<=4294967290/\(JT (Sp.mk l h) x).lo<=(JT (Sp.mk l h) x).hi/\(↑d:Rat)<=(↑d:Rat))/\∃(x':Nat),(x'<=2/\OfNat.ofNat 0=0/\2-x'<2-x)/\0=0/\0=0/\0=0/\0=0/\2=2/\(2:Int)=2/\Za.wrap (Zc x+1)=Zc x'/\83=83/\l=l/\a<=a/\h=h/\b<=b/\83=83/\false=false/\Zb (Zf [])=Zb (Zf [])/\Zb (Zf [])=Zb (Zf [])/\false=false/\Zb (Zf [])=Zb (Zf [])/\Zb (Zf [])=Zb (Zf [])/\83=83/\XF (JT (Sp.mk l h) x).lo ↑d=(JT (Sp.mk l h) x').lo/\max (4*(a+b)+400) 64<=4*(a+b)+400/\XJ (JT (Sp.mk l h) x).hi ↑d=(JT (Sp.mk l h) x').hi/\max (4*(a+b)+400) 64<=4*(a+b)+400/\3=3/\1=1/\([[Zi (Zd Za (-1))],[Zi (Zd Za 1)]]=[[Zi (Zd Za (-1))],[Zi (Zd Za 1)]]∨QC [[Zi (Zd Za (-1))],[Zi (Zd Za 1)]] [[Zi (Zd Za (-1))],[Zi (Zd Za 1)]])/\True else ∃(x':Nat),(x'<=2/\OfNat.ofNat 0=0/\2-x'<2-x)/\0=0/\0=0/\0=0/\0=0/\2=2/\(2:Int)=2/\Za.wrap (Zc x+1)=Zc x'/\83=83/\l=l/\a<=a/\h=h/\b<=b/\83=83/\false=false/\Zb (Zf [])=Zb (Zf [])/\Zb (Zf [])=Zb (Zf [])/\false=false/\Zb (Zf [])=Zb (Zf [])/\Zb (Zf [])=Zb (Zf [])/\83=83/\(JT (Sp.mk l h) x).lo=(JT (Sp.mk l h) x').lo/\4*(a+b)+400<=4*(a+b)+400/\(JT (Sp.mk l h) x).hi=(JT (Sp.mk l h) x').hi/\4*(a+b)+400<=4*(a+b)+400/\3=3/\1=1/\([[Zi (Zd Za (-1))],[Zi (Zd Za 1)]]=[[Zi (Zd Za (-1))],[Zi (Zd Za 1)]]∨QC [[Zi (Zd Za (-1))],[Zi (Zd Za 1)]] [[Zi (Zd Za (-1))],[Zi (Zd Za 1)]])/\True else K (AV.x true [Zg (JT (Sp.mk l h) x).lo (4*(a+b)+400),Zg (JT (Sp.mk l h) x).hi (4*(a+b)+400)])):=by kernel_rfl
theorem QMP (l:Rat)(a:Nat)(h:Rat)(b:Nat)(hc:(a+b<=100000000)/\(l<=h))(K:AV->Prop)(hK:K (.x true (spN (4*(a+b)+400) (WW ⟨l,h⟩)))):QR (Vv l a h b K):=by
 refine⟨?_⟩;rw[H3];try simp only[Zk,R0,R1,Nat.zero_add,Nat.le_refl,R4,R2]
 refine⟨⟨by omega,hc.2,hc.2⟩,by omega,by omega,fun n hn=>⟨by omega,by omega,by omega,fun n1 hn1=>⟨by omega,⟨by omega,Rat.le_refl,Rat.le_refl⟩,⟨0,by omega,rfl,W8 l,by omega,Hz h,by omega,?_,by omega,?_,by omega⟩,fun x hx=>QF (fun hp=> ?_) (fun hp=> ?_)⟩⟩⟩
 ·rw[W8,Hz];rfl
 ·rw[W8,Hz];rfl
 ·have hp:x<2:=by have:=R5 hp;omega
  obtain⟨d,hd,hdb⟩: ∃d:Int,([-1,1]:List Int)[x]? =some d/\ -1<=d/\d<=1:=by
   have:x=0∨x=1:=by omega
   rcases this with rfl | rfl
   ·exact⟨-1,rfl,by omega⟩
   ·exact⟨1,rfl,by omega⟩
  have hn:=QMO ⟨l,h⟩ x d hd;have ok:=QTg ⟨l,h⟩ x;refine⟨by omega,d,QSp (l:=[-1,1]) (by simpa using hd),by omega,⟨by omega,hc.2⟩,QF (fun hb=>⟨by omega,⟨by omega,ok,Rat.le_refl⟩,x+1,⟨by omega,by omega⟩,by rw[w64 (by omega)];simp,?_,by omega,?_,by omega⟩) (fun hb=>⟨x+1,⟨by omega,by omega⟩,by rw[w64 (by omega)];simp,?_,?_⟩)⟩<;>rw[hn]<;>unfold J0<;>rw[hb]<;>rfl
 ·have hp:x=2:=by have:=R6 hp;omega
  subst hp;exact hK
def UH:Ctr:=fun as0=>match as0 with
 | [.x true [.r l a,.r h b]]=>some fun K=>((a+b<=100000000)/\(l<=h))/\(K (.x true (spN (4*(a+b)+400) (WW ⟨l,h⟩))))
 | _=>none
theorem QJw:CtrOK Tryz.prog QH QG 160 UH:=by
 refine⟨QK Tryz.func160 (by kernel_rfl),fun l T hT K hK=> ?_⟩;unfold UH at hT;split at hT
 ·cases hT
  obtain⟨hc,hK⟩:=hK;exact QJ QdY QP Tryz.func160 (by kernel_rfl) (by kernel_rfl) (by rfl) (QMP _ _ _ _ hc K hK)
 ·cases hT
def Qdb:List (Nat×Ctr):=(160,UH)::QdX
noncomputable def Qg3:QU:=mkT Qdb M79 X4
theorem QTh:CtrsOK Tryz.prog QH QG Qdb:= .cons QJw QTf
theorem Qdc:QM Tryz.prog QH QG Qg3:=Qc QTh Q7 Ql
def QYU:OT:=fun _=>([],[])
def QFT  (K:AV->Prop):Prop:=QX Qg3 QYU noL Tryz.f204 [] K
theorem QHU (K:AV->Prop):QFT K=(((-9223372036854775808:Int)<= -1/\(-1:Int)<9223372036854775808)/\((-9223372036854775808:Int)<=1/\(1:Int)<9223372036854775808)/\K (AV.x true [Zg (↑(-1:Int)) 64,Zg (↑(1:Int)) 64])):=by kernel_rfl
theorem Qdd  (_hc:True)(K:AV->Prop)(hK:K (.x true [.r ((-1:Int):Rat) 64,.r ((1:Int):Rat) 64])):QR (QFT  K):=by
 refine⟨?_⟩;rw[QHU];try simp only[Zk,R0,R1,Nat.zero_add,Nat.le_refl,R4,R2,R3]
 exact⟨by omega,by omega,hK⟩
def QMQ:Ctr:=fun as0=>match as0 with
 | []=>some fun K=>(True)/\(K (.x true [.r ((-1:Int):Rat) 64,.r ((1:Int):Rat) 64]))
 | _=>none
theorem QYV:CtrOK Tryz.prog QH QG 204 QMQ:=by
 refine⟨QK Tryz.func204 (by kernel_rfl),fun l T hT K hK=> ?_⟩;unfold QMQ at hT;split at hT
 ·cases hT
  obtain⟨hc,hK⟩:=hK;exact QJ Qdc QP Tryz.func204 (by kernel_rfl) (by kernel_rfl) (by rfl) (Qdd  hc K hK)
 ·cases hT
def Qde:List (Nat×Ctr):=(204,QMQ)::Qdb
noncomputable def Qg4:QU:=mkT Qde M79 X4
theorem QTi:CtrsOK Tryz.prog QH QG Qde:= .cons QYV QTh
theorem Qdf:QM Tryz.prog QH QG Qg4:=Qc QTi Q7 Ql
def QYW:OT:=fun id=>bif id.beq 2 then([0,1,5,6,2,3,4,7,8,9,10,11],[[],[0],[],[2],[1,0,3,2],[],[5],[4,1,0,3,2],[7,4,1,0,3,2],[6,5,8,7,4,1,0,3,2],[4,1,0,3,2,9,6,5,8,7],[10,4,1,0,3,2,9,6,5,8,7]])else([],[])
def QFU (l:Rat)(a:Nat)(h:Rat)(b:Nat)(K:AV->Prop):Prop:=QX Qg4 QYW noL Tryz.f161 [.x true [.r l a,.r h b]] K
theorem QHV (l:Rat)(a:Nat)(h:Rat)(b:Nat)(K:AV->Prop):QFU l a h b K=(((a<=1000000000/\b<=1000000000)/\l<=h/\(1:Int)<=1000000/\(1000000:Int)<9223372036854775808)/\∀(n m:Nat),n<=a+200->m<=b+200->True/\n+64<=4294967296/\True/\m+64<=4294967296/\K (AV.x true [Zg (XJ (VI l 1000000) ↑(-1:Int)) (max n 64),Zg (XF (upR h 1000000) ↑(1:Int)) (max m 64)])):=by kernel_rfl
theorem Qdg (l:Rat)(a:Nat)(h:Rat)(b:Nat)(hc:(a+b<=100000000)/\(l<=h))(K:AV->Prop)(hK: ∀(s:Sp) n m,s=Gn ⟨l,h⟩->n<=a+200->m<=b+200->K (.x true [.r s.lo n,.r s.hi m])):QR (QFU l a h b K):=by
 refine⟨?_⟩;rw[QHV];try simp only[R0]
 exact⟨⟨⟨by omega,by omega⟩,hc.2,by omega,by omega⟩,fun n m hn hm=>⟨by omega,by omega,hK (Gn ⟨l,h⟩) _ _ rfl (by omega) (by omega)⟩⟩
def QMR:Ctr:=fun as0=>match as0 with
 | [.x true [.r l a,.r h b]]=>some fun K=>((a+b<=100000000)/\(l<=h))/\(∀(s:Sp) n m,s=Gn ⟨l,h⟩->n<=a+200->m<=b+200->K (.x true [.r s.lo n,.r s.hi m]))
 | _=>none
theorem QYX:CtrOK Tryz.prog QH QG 161 QMR:=by
 refine⟨QK Tryz.func161 (by kernel_rfl),fun l T hT K hK=> ?_⟩;unfold QMR at hT;split at hT
 ·cases hT
  obtain⟨hc,hK⟩:=hK;exact QJ Qdf QP Tryz.func161 (by kernel_rfl) (by kernel_rfl) (by rfl) (Qdg _ _ _ _ hc K hK)
 ·cases hT
def Qdh:List (Nat×Ctr):=(161,QMR)::Qde
noncomputable def Qg5:QU:=mkT Qdh M79 X4
theorem QTj:CtrsOK Tryz.prog QH QG Qdh:= .cons QYX QTi
theorem Qdi:QM Tryz.prog QH QG Qg5:=Qc QTj Q7 Ql
def QMS:OT:=fun id=>bif id.beq 5 then([0,1,2,4,5,6,8,9,12,13,17,3,7,10,11,14,15,16,18],[[],[0],[1,0],[2,1,0],[],[4],[5,4],[6,5,4,3,2,1,0],[],[8],[9,8,7,6,5,4,3,2,1,0],[10,9,8,7,6,5,4,3,2,1,0],[],[12],[13,12,11,10,9,8,7,6,5,4,3,2,1,0],[14,13,12,11,10,9,8,7,6,5,4,3,2,1,0],[3,2,1,0,7,6,5,4,11,10,9,8,15,14,13,12],[],[17,16,3,2,1,0,7,6,5,4,11,10,9,8,15,14,13,12]])else bif id.beq 10 then([0,1,2,3,5,6,7,8,10,11,4,9,12,13],[[],[],[0,1],[2,0,1],[3,2,0,1],[],[],[5,6],[7,5,6],[8,7,5,6,4,3,2,0,1],[],[],[10,4,3,2,0,1,9,8,7,5,6,11],[11,9,8,7,5,6,4,3,2,0,1,12,10]])else bif id.beq 12 then([0,1,2,4,5,6,3,7,8,9,10,11],[[],[0],[],[1,0,2],[],[4],[],[5,4,6,3,1,0,2],[3,1,0,2,7,5,4,6],[8,3,1,0,2,7,5,4,6],[0,1,2,3,4,5,6,7,8,9],[10,0,1,2,3,4,5,6,7,8,9]])else bif id.beq 13 then([0,1,2,4,5,6,3,7,8,9,10,11],[[],[0],[],[1,0,2],[],[4],[],[5,4,6,3,1,0,2],[3,1,0,2,7,5,4,6],[8,3,1,0,2,7,5,4,6],[0,1,2,3,4,5,6,7,8,9],[10,0,1,2,3,4,5,6,7,8,9]])else bif id.beq 16 then([0,1,2,3,4,5,6,7,8],[[],[0],[],[],[3],[2,4,3],[1,0,5,2,4,3],[0,1,2,3,4,5,6],[7,0,1,2,3,4,5,6]])else bif id.beq 17 then([0,1,2,3,4,5,6,7,8],[[],[0],[],[],[3],[2,4,3],[1,0,5,2,4,3],[0,1,2,3,4,5,6],[7,0,1,2,3,4,5,6]])else([],[])
def Uz (a:QN)(B:Nat)(ts:List Sp)(qs:List Rat)(K:AV->Prop):Prop:=QX Qg5 QMS (QMN a B ts qs) Tryz.f101 [Jy a,.x false [.s 6 (ts.map (spN B))]] K
theorem QAQ (a:QN)(B:Nat)(ts:List Sp)(qs:List Rat)(K:AV->Prop):Uz a B ts qs K=(∃(a_1:QN),[Zi (Value.string a.name),Zg a.x 63,Zg a.y 63,Zi (Value.bool a.half),Zg a.t 63,Ch.s 16 (Ze QB a.links)]=[Zi (Value.string a_1.name),Zg a_1.x 63,Zg a_1.y 63,Zi (Value.bool a_1.half),Zg a_1.t 63,Ch.s 16 (Ze QB a_1.links)]/\(QO a_1/\Zc (Ze (spN B) ts).length=Zc a_1.links.length)/\63<=2000000000/\63<=2000000000/\63<=500000000/\∀(n:Nat),n<=652->n<=2000000000/\63<=500000000/\∀(n_1:Nat),n_1<=652->n_1<=2000000000/\(∃(x:SpX),(SpI a ts qs x/\OfNat.ofNat 0=0)/\6=6/\Ze (spN B) ts=Ze (spN B) ts/\0=0/\0=0/\Value.slice none 0 0=Value.slice none 0 0/\0=0/\x.i=0/\16=16/\Ze QB a.links=Ze QB a.links/\Zc (Ze QB a.links).length=Zc a.links.length/\0=Zc x.i/\34=34/\a.name=a.name/\a.x=a.x/\63<=63/\a.y=a.y/\63<=63/\a.half=a.half/\a.t=a.t/\63<=63/\16=16/\Ze QB a.links=Ze QB a.links/\156=156/\a.x=x.l.x.lo/\63<=lb x.i/\a.x=x.l.x.hi/\63<=lb x.i/\a.y=x.l.y.lo/\63<=lb x.i/\a.y=x.l.y.hi/\63<=lb x.i/\Xr a.half a.t=x.l.c.lo/\n<=lb x.i/\Xr a.half a.t=x.l.c.hi/\n<=lb x.i/\Q4 a.half a.t=x.l.s.lo/\n_1<=lb x.i/\Q4 a.half a.t=x.l.s.hi/\n_1<=lb x.i/\Ze (loN 240000) x.ls=[]/\True)/\∀(x:SpX),SpI a ts qs x->OfNat.ofNat 0=0->bif decide (Zc x.i<Zc a.links.length)then(0<=Zc x.i/\Zc x.i<Zc (Ze QB a.links).length)/\∃(q:Rat)(n:Nat)(q_1:Rat)(n_2:Nat)(q_2:Rat)(n_3:Nat)(q_3:Rat)(n_4:Nat)(q_4:Rat)(n_5:Nat)(ys:List (List Ch)),ldE (Ze QB a.links) (Zc x.i).toNat 0 16=some [Zg q n,Zg q_1 n_2,Zg q_2 n_3,Zg q_3 n_4,Zg q_4 n_5,Ch.s 6 ys]/\(0<=Zc x.i/\Zc x.i<Zc (Ze (spN B) ts).length)/\∃(q_5:Rat)(n_6:Nat)(q_6:Rat)(n_7:Nat),ldE (Ze (spN B) ts) (Zc x.i).toNat 0 6=some [Zg q_5 n_6,Zg q_6 n_7]/\(0<=Zc x.i/\Zc x.i<Zc (Ze (spN B) ts).length)/\∃(q_7:Rat)(n_8:Nat)(q_8:Rat)(n_9:Nat),ldE (Ze (spN B) ts) (Zc x.i).toNat 0 6=some [Zg q_7 n_8,Zg q_8 n_9]/\(n_6+n_7<=200000000/\q_5<=q_6)/\∀(s:Sp) (n_10 m:Nat),s=QCZ (Sp.mk q_5 q_6)->n_10<=4*(n_6+n_7)+400->m<=4*(n_6+n_7)+400->(n_8+n_9<=100000000/\q_7<=q_8)/\(lb x.i+lb x.i+n_10+m<=2000000000/\x.l.c.lo<=x.l.c.hi/\s.lo<=s.hi)/\∀(s_1:Sp) (n_11:Nat),s_1=YM (Sp.mk x.l.c.lo x.l.c.hi) (Sp.mk s.lo s.hi)->n_11<=max (lb x.i) (lb x.i)+max n_10 m->(lb x.i+lb x.i+(4*(n_8+n_9)+400)+(4*(n_8+n_9)+400)<=2000000000/\x.l.s.lo<=x.l.s.hi/\(WW (Sp.mk q_7 q_8)).lo<=(WW (Sp.mk q_7 q_8)).hi)/\∀(s_2:Sp) (n_12:Nat),s_2=YM (Sp.mk x.l.s.lo x.l.s.hi) (Sp.mk (WW (Sp.mk q_7 q_8)).lo (WW (Sp.mk q_7 q_8)).hi)->n_12<=max (lb x.i) (lb x.i)+max (4*(n_8+n_9)+400) (4*(n_8+n_9)+400)->(n_11+n_11+n_12+n_12<=4294967290/\s_1.lo<=s_1.hi/\s_2.lo<=s_2.hi)/\(n_11+n_12+1+(n_11+n_12+1)<=100000000/\s_1.lo-s_2.hi<=s_1.hi-s_2.lo)/\∀(s_3:Sp) (n_13 m_1:Nat),s_3=Gn (Sp.mk (s_1.lo-s_2.hi) (s_1.hi-s_2.lo))->n_13<=n_11+n_12+1+200->m_1<=n_11+n_12+1+200->(lb x.i+lb x.i+n_10+m<=2000000000/\x.l.s.lo<=x.l.s.hi/\s.lo<=s.hi)/\∀(s_4:Sp) (n_14:Nat),s_4=YM (Sp.mk x.l.s.lo x.l.s.hi) (Sp.mk s.lo s.hi)->n_14<=max (lb x.i) (lb x.i)+max n_10 m->(lb x.i+lb x.i+(4*(n_8+n_9)+400)+(4*(n_8+n_9)+400)<=2000000000/\x.l.c.lo<=x.l.c.hi/\(WW (Sp.mk q_7 q_8)).lo<=(WW (Sp.mk q_7 q_8)).hi)/\∀(s:Sp) (n_15:Nat),s=YM (Sp.mk x.l.c.lo x.l.c.hi) (Sp.mk (WW (Sp.mk q_7 q_8)).lo (WW (Sp.mk q_7 q_8)).hi)->n_15<=max (lb x.i) (lb x.i)+max (4*(n_8+n_9)+400) (4*(n_8+n_9)+400)->(n_14+n_14+n_15+n_15<=4294967290/\s_4.lo<=s_4.hi/\s.lo<=s.hi)/\(n_14+n_15+1+(n_14+n_15+1)<=100000000/\s_4.lo+s.lo<=s_4.hi+s.hi)/\∀(s_5:Sp) (n_16 m:Nat),s_5=Gn (Sp.mk (s_4.lo+s.lo) (s_4.hi+s.hi))->n_16<=n_14+n_15+1+200->m<=n_14+n_15+1+200->((x.i+1)*320<=140737488355328/\x.i+1<=9223372036854775807)/\n<=2000000000/\(n+n+n_13+m_1<=2000000000/\q<=q/\s_3.lo<=s_3.hi)/\∀(s:Sp) (n_17:Nat),s=YM (Sp.mk q q) (Sp.mk s_3.lo s_3.hi)->n_17<=max n n+max n_13 m_1->(lb x.i+lb x.i+n_17+n_17<=4294967290/\x.l.x.lo<=x.l.x.hi/\s.lo<=s.hi)/\(n+n+n_16+m<=2000000000/\q<=q/\s_5.lo<=s_5.hi)/\∀(s_6:Sp) (n_18:Nat),s_6=YM (Sp.mk q q) (Sp.mk s_5.lo s_5.hi)->n_18<=max n n+max n_16 m->(lb x.i+lb x.i+n_18+n_18<=4294967290/\x.l.y.lo<=x.l.y.hi/\s_6.lo<=s_6.hi)/\∃(x':SpX),(SpI a ts qs x'/\OfNat.ofNat 0=0/\a.links.length-x'.i<a.links.length-x.i)/\6=6/\Ze (spN B) ts=Ze (spN B) ts/\0=0/\0=0/\0=0/\x.i+1=x'.i/\16=16/\Ze QB a.links=Ze QB a.links/\Zc a.links.length=Zc a.links.length/\Za.wrap (Zc x.i+1)=Zc x'.i/\34=34/\a.name=a.name/\a.x=a.x/\63<=63/\a.y=a.y/\63<=63/\a.half=a.half/\a.t=a.t/\63<=63/\16=16/\Ze QB a.links=Ze QB a.links/\156=156/\x.l.x.lo+s.lo=x'.l.x.lo/\lb x.i+n_17+1<=lb x'.i/\x.l.x.hi+s.hi=x'.l.x.hi/\lb x.i+n_17+1<=lb x'.i/\x.l.y.lo+s_6.lo=x'.l.y.lo/\lb x.i+n_18+1<=lb x'.i/\x.l.y.hi+s_6.hi=x'.l.y.hi/\lb x.i+n_18+1<=lb x'.i/\s_3.lo=x'.l.c.lo/\n_13<=lb x'.i/\s_3.hi=x'.l.c.hi/\m_1<=lb x'.i/\s_5.lo=x'.l.s.lo/\n_16<=lb x'.i/\s_5.hi=x'.l.s.hi/\m<=lb x'.i/\156=156/\24=24/\(List.take x.i (Ze (loN 240000) x.ls)++[[Zg x.l.x.lo (lb x.i),Zg x.l.x.hi (lb x.i),Zg x.l.y.lo (lb x.i),Zg x.l.y.hi (lb x.i),Zg s_3.lo n_13,Zg s_3.hi m_1,Zg s_5.lo n_16,Zg s_5.hi m]]=Ze (loN 240000) x'.ls∨QC (List.take x.i (Ze (loN 240000) x.ls)++[[Zg x.l.x.lo (lb x.i),Zg x.l.x.hi (lb x.i),Zg x.l.y.lo (lb x.i),Zg x.l.y.hi (lb x.i),Zg s_3.lo n_13,Zg s_3.hi m_1,Zg s_5.lo n_16,Zg s_5.hi m]]) (Ze (loN 240000) x'.ls))/\True else((x.i+1)*320<=140737488355328/\x.i+1<=9223372036854775807)/\K (AV.t [(false,[Ch.s 24 (List.take (x.i+1) (List.drop 0 (List.take x.i (Ze (loN 240000) x.ls)++[[Zg x.l.x.lo (lb x.i),Zg x.l.x.hi (lb x.i),Zg x.l.y.lo (lb x.i),Zg x.l.y.hi (lb x.i),Zg x.l.c.lo (lb x.i),Zg x.l.c.hi (lb x.i),Zg x.l.s.lo (lb x.i),Zg x.l.s.hi (lb x.i)]])))]),(false,[Zi (Zd Za 0)])])):=by kernel_rfl
theorem QPm (a:QN)(B:Nat)(ts:List Sp)(qs:List Rat)(hc:(QO a)/\(B<=400/\ts.length=a.links.length)/\(HasQ ts qs))(K:AV->Prop)(hK: ∀(ls:List LoV) (l:LoV),ls++[l]=Xn (YZ a) a.links ts->ls.length=a.links.length->K (.t [(false,[.s 24 (ls.map (loN 240000)++[loN (lb a.links.length) l])]),(false,[.v (.int .i64 0)])])):QR (Uz a B ts qs K):=by
 refine⟨?_⟩;rw[QAQ];try simp only[Zk,R0,R1,Nat.le_refl,R4]
 obtain⟨hg,⟨hB,hts⟩,hq⟩:=hc;have hn:=hg.n;simp only[List.length_map];refine⟨a,rfl,⟨hg,by rw[hts]⟩,by omega,by omega,by omega,fun n hn1=>⟨by omega,by omega,fun n1 hn2=>⟨by omega,⟨⟨[],YZ a,Vt a,0⟩,⟨rfl,by simp,rfl,Uw a,hq⟩,rfl,trivial,rfl,rfl,by simp only[lb];omega,rfl,by simp only[lb];omega,rfl,by simp only[lb];omega,rfl,by simp only[lb];omega,rfl,by simp only[lb];omega,rfl,by simp only[lb];omega,rfl,by simp only[lb];omega,rfl,by simp only[lb];omega,rfl⟩,fun x hx=>QF (fun hp=> ?_) (fun hp=> ?_)⟩⟩⟩
 ·have hp:x.i<a.links.length:=by have:=R5 hp;omega
  have hxn:=hx.n;obtain⟨L,hL⟩: ∃L,a.links[x.i]? =some L:=⟨_,Zh hp⟩
  obtain⟨t,ht⟩: ∃t,ts[x.i]? =some t:=⟨_,Zh (by omega)⟩
  have hql:=hq.1;obtain⟨q,hqq⟩: ∃q,qs[x.i]? =some q:=⟨_,Zh (by omega)⟩
  have hh:=hx.has;have hxq:=hx.qs;have he:=hx.eq;rw[KA ht,KA hqq]at hxq;rw[KA hL,KA ht,Xn]at he;obtain⟨hq1,hq2⟩:=hxq.tail;have hlb:=Qg2 (i:=x.i) (by omega);have hls:lb (x.i+1)=4*lb x.i+9000:=rfl;have c1:=Ht hq1;have c2:=Hu hq1;have m1:=Q8 hh.c c1;have m2:=Q8 hh.s c2;have m3:=Q8 hh.s c1;have m4:=Q8 hh.c c2;have hN:=QCb hh hq1;have hE:=QFK hN L.len;refine⟨by omega,_,_,_,_,_,_,_,_,_,_,_,KU (by simpa using hL),by omega,_,_,_,_,Qag (by simpa using ht),by omega,_,_,_,_,Qag (by simpa using ht),⟨by omega,hq1.ok⟩,fun s1 b1 b2 e1 h1 h2=> ?_⟩
  subst e1;refine⟨⟨by omega,hq1.ok⟩,⟨by omega,hh.c.ok,c1.ok⟩,fun s2 b3 e2 h3=> ?_⟩;subst e2;refine⟨⟨by omega,hh.s.ok,c2.ok⟩,fun s3 b4 e3 h4=> ?_⟩;subst e3;refine⟨⟨by omega,m1.ok,m2.ok⟩,⟨by omega,(Vc m1 m2).ok⟩,fun s4 b5 b6 e4 h5 h6=> ?_⟩;subst e4;refine⟨⟨by omega,hh.s.ok,c1.ok⟩,fun s5 b7 e5 h7=> ?_⟩;subst e5;refine⟨⟨by omega,hh.c.ok,c2.ok⟩,fun s6 b8 e6 h8=> ?_⟩;subst e6;refine⟨⟨by omega,m3.ok,m4.ok⟩,⟨by omega,(JB m3 m4).ok⟩,fun s7 b9 b10 e7 h9 h10=> ?_⟩;subst e7;refine⟨by omega,by omega,⟨by omega,Rat.le_refl,hN.c.ok⟩,fun s8 b11 e8 h11=> ?_⟩;subst e8;refine⟨⟨by omega,hh.x.ok,(Q8 (XH L.len) hN.c).ok⟩,⟨by omega,Rat.le_refl,hN.s.ok⟩,fun s9 b12 e9 h12=> ?_⟩
  subst e9;refine⟨⟨by omega,hh.y.ok,(Q8 (XH L.len) hN.s).ok⟩,⟨x.ls++[Hv x.l t],QS8 (Hv x.l t) L.len,_,x.i+1⟩,⟨⟨by simp[hxn],hp,by simp only;rw[List.append_assoc];exact he,hE,hq2⟩,by simp only;omega⟩,rfl,by rw[w64 (by omega)];simp,rfl,by simp only[hls];omega,rfl,by simp only[hls];omega,rfl,by simp only[hls];omega,rfl,by simp only[hls];omega,rfl,by simp only[hls];omega,rfl,by simp only[hls];omega,rfl,by simp only[hls];omega,rfl,by simp only[hls];omega,.inr ?_⟩;rw[Zj (by simp[hxn])];exact QYT x.ls (Hv x.l t) (by omega) (by omega) (by omega) (by omega) (by omega) (by omega) (by omega) (by omega)
 ·have hp:x.i=a.links.length:=by have:=R6 hp;have:=hx.le;omega
  have hxn:=hx.n;have he:=hx.eq;rw[hp,List.drop_length,show Xn x.l [] (ts.drop a.links.length)=[x.l]by cases ts.drop a.links.length<;>rfl]at he;have:=hK x.ls x.l he (by omega);refine⟨by omega,?_⟩;rw[List.drop_zero,Zj (l:=x.ls.map (loN 240000)) (by simp[hxn]),Zj (by simp[hxn]),hp];exact this
def H4:Ctr:=fun as0=>match as0 with
 | [.x true xs,.x false [.s 6 ys]]=>some fun K=> ∃(a:QN) (B:Nat) (ts:List Sp) (qs:List Rat),xs=XX a/\ys=ts.map (spN B)/\((QO a)/\(B<=400/\ts.length=a.links.length)/\(HasQ ts qs))/\(∀(ls:List LoV) (l:LoV),ls++[l]=Xn (YZ a) a.links ts->ls.length=a.links.length->K (.t [(false,[.s 24 (ls.map (loN 240000)++[loN (lb a.links.length) l])]),(false,[.v (.int .i64 0)])]))
 | _=>none
theorem QMT:CtrOK Tryz.prog QH QG 101 H4:=by
 refine⟨QK Tryz.func101 (by kernel_rfl),fun l T hT K hK=> ?_⟩;unfold H4 at hT;split at hT
 ·cases hT
  obtain⟨a,B,ts,qs,rfl,rfl,hc,hK⟩:=hK;exact QJ Qdi QP Tryz.func101 (by kernel_rfl) (by kernel_rfl) (by rfl) (QPm _ _ _ _ hc K hK)
 ·cases hT
def Qg6:List (Nat×Ctr):=(101,H4)::Qdh
theorem Qdj:CtrsOK Tryz.prog QH QG Qg6:= .cons QMT QTj
def Qg7:List (Nat×Ctr):=Qg6
theorem Qdk:CtrsOK Tryz.prog QH QG Qg7:=Qdj
def Qdl:List (Nat×Ctr):=Qg7
noncomputable def Qg8:QU:=mkT Qdl M79 X4
theorem QTk:CtrsOK Tryz.prog QH QG Qdl:=Qdk
theorem Qdm:QM Tryz.prog QH QG Qg8:=Qc QTk Q7 Ql
end Go.Proofs
