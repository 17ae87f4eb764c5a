/- SinSpan, cut, Spread, Boxes, spans, between. -/
import Derived.Test.YtfhfenokfkenoaaGreatDoorPB
open Go.IntKind renaming i64 → Za
open ByteArray renaming mk → Zb
open Int renaming ofNat → Zc, ofNat_eq_natCast → Zk
open Go.Value renaming int → Zd
open List renaming map → Ze, getElem?_eq_getElem → Zh, take_of_length_le → Zj
open Array renaming mk → Zf
open Go.Eng.Ch renaming r → Zg, v → Zi
namespace Go.Proofs
open Go Go.Eng
def spN (n:Nat)(s:Sp):List Ch:=[.r s.lo n,.r s.hi n]
def Jf (t:Sp):Nat->Sp
 | 0=>Wk t
 | 1=>Je t (Wk t) (-1)
 | _=>J7 t
def Qau:Blk:= .row 3 1 (ints [-1,1])
def QMU (l:Rat)(a:Nat)(h:Rat)(b:Nat):LI:=fun _=> .inv ⟨Nat,fun i=>⟨[(1,.x false [.p 1 0]),(2,.x false [.p 2 0]),(3,.x false [.p 3 0]),(21,.x false [.w 500 0 2]),(22,iA .i64 2),(23,iA .i64 i)],[(1,.box 86 [.r l a,.r h b]),(2,.box 86 (Xs++Xs)),(3,.box 86 (spN (4*(a+b)+400) (Jf ⟨l,h⟩ i))),(500,Qau)]⟩,fun i=>i<=2,fun i=>2-i,fun _=>0⟩
def loN (n:Nat)(l:LoV):List Ch:=[.r l.x.lo n,.r l.x.hi n,.r l.y.lo n,.r l.y.hi n,.r l.c.lo n,.r l.c.hi n,.r l.s.lo n,.r l.s.hi n]
def lb:Nat->Nat
 | 0=>700
 | i+1=>4*lb i+2000000
structure SpX where
 ls:List LoV
 l:LoV
 b:FrV
 i:Nat
structure SpI (a:ArmV)(ts:List Sp)(qs:List Rat)(x:SpX):Prop where
 n:x.ls.length=x.i
 le:x.i<=a.links.length
 eq:x.ls++XL x.l (a.links.drop x.i) (ts.drop x.i)=XL (Xp a) a.links ts
 has:x.l.has x.b
 qs:HasQ (ts.drop x.i) (qs.drop x.i)
def QI4 (a:ArmV)(B:Nat)(ts:List Sp)(qs:List Rat):LI:=fun _=> .inv ⟨SpX,fun x=>⟨[(1,.x false [.s 6 (ts.map (spN B))]),(2,.x false [.p 2 0]),(8,.x false [.p 8 0]),(9,.x false [.w 500 0 x.i]),(43,.x false [.s 16 (a.links.map QB)]),(44,iA .i64 a.links.length),(45,iA .i64 x.i)],
 [(2,.box 34 (XM a)),(8,.box 155 (loN (lb x.i) x.l)),(500,.row 155 24 (x.ls.map (loN 42100000)))]⟩,SpI a ts qs,fun x=>a.links.length-x.i,fun _=>0⟩
def KA (ps qs:List Rat):List Sp:=List.zipWith (fun p q=>⟨XA p q,XH p q⟩) ps qs
theorem KT {α:Type}{l:List α}{i:Nat}{a:α}(h:l[i]? =some a):l.drop i=a::l.drop (i+1):=by
 obtain⟨hi,e⟩:=List.getElem?_eq_some_iff.1 h
 rw[List.drop_eq_getElem_cons hi,e]
theorem Hw (p:Rat):XH p p=p:=by unfold XH;split<;>rfl
theorem QPz (t:Sp)(i:Nat):(Jf t i).lo<=(Jf t i).hi:=by
 have h0:(Wk t).has (Q4 false t.lo):=U4 (XR _);have h1:=h0.sub (Wz t (Wk t) (-1));have h2:=h1.sub (Wz t (Je t (Wk t) (-1)) 1);match i with
 | 0=>exact h0.ok
 | 1=>exact h1.ok
 | _+2=>exact h2.ok
theorem QI5 (t:Sp)(i:Nat)(d:Int)(h:([-1,1]:List Int)[i]? =some d):Jf t (i+1)=Je t (Jf t i) (d:Rat):=by
 match i,h with
 | 0,h=>cases h;rfl
 | 1,h=>cases h;rfl
theorem QWI {n:Nat}{ts:List Sp}{i:Nat}{t:Sp}(h:ts[i]? =some t):ldE (ts.map (spN n)) i 0 6=some [.r t.lo n,.r t.hi n]:=by
 simp only[ldE,List.getElem?_map,h];rfl
theorem Qav {i:Nat}(h:i<=2):lb i<=10011200:=by
 have:i=0∨i=1∨i=2:=by omega
 rcases this with e | e | e<;>rw[e]<;>decide
theorem QYP {i:Nat}(h:i<=3):lb i<=42100000:=by
 have:i=0∨i=1∨i=2∨i=3:=by omega
 rcases this with e | e | e | e<;>rw[e]<;>decide
theorem QYQ (N:Nat)(ls:List LoV):QC (ls.map (loN N)) (ls.map (loN N)):=by
 refine⟨rfl,fun i x y hx hy=> ?_⟩;rw[hx]at hy;cases hy
 simp only[List.getElem?_map,Option.map_eq_some_iff]at hx;obtain⟨q,_,rfl⟩:=hx;have r:=Nat.le_refl N;exact⟨.r r (.r r (.r r (.r r (.r r (.r r (.r r (.r r .nil))))))),rfl⟩
theorem QUN {n1 n2 n3 n4 n5 n6 n7 n8 N:Nat}(ls:List LoV)(l:LoV)(h1:n1<=N)(h2:n2<=N)(h3:n3<=N)(h4:n4<=N)(h5:n5<=N)(h6:n6<=N)(h7:n7<=N)(h8:n8<=N):
  QC (ls.map (loN N)++[[.r l.x.lo n1,.r l.x.hi n2,.r l.y.lo n3,.r l.y.hi n4,.r l.c.lo n5,.r l.c.hi n6,.r l.s.lo n7,.r l.s.hi n8]]) ((ls++[l]).map (loN N)):=by
 rw[List.map_append];exact QPI (QYQ N ls) ⟨.r h1 (.r h2 (.r h3 (.r h4 (.r h5 (.r h6 (.r h7 (.r h8 .nil))))))),rfl⟩
theorem QC0 {ps qs:List Rat}(h:ps.length=qs.length):(KA ps qs).length=ps.length:=by simp[KA,h]
theorem QC1 {ps qs:List Rat}{i:Nat}{p q:Rat}(hp:ps[i]? =some p)(hq:qs[i]? =some q):(KA ps qs)[i]? =some ⟨XA p q,XH p q⟩:=by
 simp[KA,List.getElem?_zipWith,hp,hq]
set_option maxHeartbeats 1000000 in
theorem QI6 (l:Rat)(a:Nat)(h:Rat)(b:Nat)(hc:(a+b<=100000000)/\(l<=h))(K:AV->Prop)(hK:K (.x true (spN (4*(a+b)+400) (J7 ⟨l,h⟩)))):QM (QR Qat (oF Tryz.f156) (QMU l a h b) Tryz.f156 [.x true [.r l a,.r h b]] K):=by
 refine HV (((a+b+a+b<=4294967290/\l<=h/\l<=h)/\max a a<=1000000000/\max a a<=500000000/\∀(n:Nat),n<=4*max a a+400->n<=2000000000/\max b b<=1000000000/\max b b<=500000000/\∀(n_1:Nat),n_1<=4*max b b+400->n_1<=2000000000/\(n+n+n_1+n_1<=4294967290/\Q4 false (XA l l)<=Q4 false (XA l l)/\Q4 false (XH h h)<=Q4 false (XH h h))/\(∃(x:Nat),(x<=2/\OfNat.ofNat 0=0)/\0=0/\0=0/\0=0/\0=0/\2=2/\(2:Int)=2/\0=Zc x/\86=86/\XA l l=l/\max a a<=a/\XH h h=h/\max b b<=b/\86=86/\false=false/\Zb (Zf [])=Zb (Zf [])/\Zb (Zf [])=Zb (Zf [])/\false=false/\Zb (Zf [])=Zb (Zf [])/\Zb (Zf [])=Zb (Zf [])/\86=86/\XA (Q4 false (XA l l)) (Q4 false (XH h h))=(Jf (Sp.mk l h) x).lo/\max n n_1<=4*(a+b)+400/\XH (Q4 false (XA l l)) (Q4 false (XH h h))=(Jf (Sp.mk l h) x).hi/\max n n_1<=4*(a+b)+400/\3=3/\1=1/\([[Zi (Zd Za (-1))],[Zi (Zd Za 1)]]=[[Zi (Zd Za (-1))],[Zi (Zd Za 1)]]∨QC [[Zi (Zd Za (-1))],[Zi (Zd Za 1)]] [[Zi (Zd Za (-1))],[Zi (Zd Za 1)]])/\True)/\∀(x:Nat),x<=2->OfNat.ofNat 0=0->bif decide (Zc x<2)then(0<=Zc x/\Zc x<2)/\∃(d:Int),ldE [[Zi (Zd Za (-1))],[Zi (Zd Za 1)]] (0+(Zc x).toNat) 0 1=some [Zi (Zd Za d)]/\(-9223372036854775808<=d/\d<9223372036854775808)/\(a+b+64<=4294967290/\l<=h)/\bif Jd (Sp.mk l h) ↑d then 64<=2000000000/\(4*(a+b)+400+(4*(a+b)+400)+64+64<=4294967290/\(Jf (Sp.mk l h) x).lo<=(Jf (Sp.mk l h) x).hi/\(↑d:Rat)<=(↑d:Rat))/\∃(x':Nat),(x'<=2/\OfNat.ofNat 0=0/\2-x'<2-x)/\0=0/\0=0/\0=0/\0=0/\2=2/\(2:Int)=2/\Za.wrap (Zc x+1)=Zc x'/\86=86/\l=l/\a<=a/\h=h/\b<=b/\86=86/\false=false/\Zb (Zf [])=Zb (Zf [])/\Zb (Zf [])=Zb (Zf [])/\false=false/\Zb (Zf [])=Zb (Zf [])/\Zb (Zf [])=Zb (Zf [])/\86=86/\XA (Jf (Sp.mk l h) x).lo ↑d=(Jf (Sp.mk l h) x').lo/\max (4*(a+b)+400) 64<=4*(a+b)+400/\XH (Jf (Sp.mk l h) x).hi ↑d=(Jf (Sp.mk l h) x').hi/\max (4*(a+b)+400) 64<=4*(a+b)+400/\3=3/\1=1/\([[Zi (Zd Za (-1))],[Zi (Zd Za 1)]]=[[Zi (Zd Za (-1))],[Zi (Zd Za 1)]]∨QC [[Zi (Zd Za (-1))],[Zi (Zd Za 1)]] [[Zi (Zd Za (-1))],[Zi (Zd Za 1)]])/\True else ∃(x':Nat),(x'<=2/\OfNat.ofNat 0=0/\2-x'<2-x)/\0=0/\0=0/\0=0/\0=0/\2=2/\(2:Int)=2/\Za.wrap (Zc x+1)=Zc x'/\86=86/\l=l/\a<=a/\h=h/\b<=b/\86=86/\false=false/\Zb (Zf [])=Zb (Zf [])/\Zb (Zf [])=Zb (Zf [])/\false=false/\Zb (Zf [])=Zb (Zf [])/\Zb (Zf [])=Zb (Zf [])/\86=86/\(Jf (Sp.mk l h) x).lo=(Jf (Sp.mk l h) x').lo/\4*(a+b)+400<=4*(a+b)+400/\(Jf (Sp.mk l h) x).hi=(Jf (Sp.mk l h) x').hi/\4*(a+b)+400<=4*(a+b)+400/\3=3/\1=1/\([[Zi (Zd Za (-1))],[Zi (Zd Za 1)]]=[[Zi (Zd Za (-1))],[Zi (Zd Za 1)]]∨QC [[Zi (Zd Za (-1))],[Zi (Zd Za 1)]] [[Zi (Zd Za (-1))],[Zi (Zd Za 1)]])/\True else K (AV.x true [Zg (Jf (Sp.mk l h) x).lo (4*(a+b)+400),Zg (Jf (Sp.mk l h) x).hi (4*(a+b)+400)]))) ?_
 try simp only[Zk,R0,R1,Nat.zero_add,Nat.le_refl,R4,R2]
 refine⟨⟨by omega,hc.2,hc.2⟩,by omega,by omega,fun n hn=>⟨by omega,by omega,by omega,fun n1 hn1=>⟨by omega,⟨by omega,Rat.le_refl,Rat.le_refl⟩,⟨0,by omega,rfl,KP l,by omega,Hw h,by omega,?_,by omega,?_,by omega⟩,fun x hx=>QF (fun hp=> ?_) (fun hp=> ?_)⟩⟩⟩
 ·rw[KP,Hw];rfl
 ·rw[KP,Hw];rfl
 ·have hp:x<2:=by have:=R5 hp;omega
  obtain⟨d,hd,hdb⟩: ∃d:Int,([-1,1]:List Int)[x]? =some d/\ -1<=d/\d<=1:=by
   have:x=0∨x=1:=by omega
   rcases this with rfl | rfl
   ·exact⟨-1,rfl,by omega⟩
   ·exact⟨1,rfl,by omega⟩
  have hn:=QI5 ⟨l,h⟩ x d hd;have ok:=QPz ⟨l,h⟩ x;refine⟨by omega,d,QPB (l:=[-1,1]) (by simpa using hd),by omega,⟨by omega,hc.2⟩,QF (fun hb=>⟨by omega,⟨by omega,ok,Rat.le_refl⟩,x+1,⟨by omega,by omega⟩,by rw[w64 (by omega)];simp,?_,by omega,?_,by omega⟩) (fun hb=>⟨x+1,⟨by omega,by omega⟩,by rw[w64 (by omega)];simp,?_,?_⟩)⟩<;>rw[hn]<;>unfold Je<;>rw[hb]<;>rfl
 ·have hp:x=2:=by have:=R6 hp;omega
  subst hp;exact hK
def UY:Ctr
 | [.x true [.r l a,.r h b]]=>some fun K=>((a+b<=100000000)/\(l<=h))/\(K (.x true (spN (4*(a+b)+400) (J7 ⟨l,h⟩))))
 | _=>none
theorem QGd:QI 156 UY:=by
 refine okL Tryz.func156 fun l T hT K hK=> ?_
 unfold UY at hT;split at hT<;>cases hT
 obtain⟨hc,hK⟩:=hK;exact spL QYO QK Tryz.func156 (QI6 _ _ _ _ hc K hK)
def QYR:LC:=(156,UY)::QYN
theorem QP0:QG QYR:= .cons QGd QPy
theorem QYS (_hc:True)(K:AV->Prop)(hK:K (.x true [.r ((-1:Int):Rat) 64,.r ((1:Int):Rat) 64])):QM (QR (mkT QYR M79 X4) (oF Tryz.f200) noL Tryz.f200 [] K):=by
 refine HV ((((-9223372036854775808:Int)<= -1/\(-1:Int)<9223372036854775808)/\((-9223372036854775808:Int)<=1/\(1:Int)<9223372036854775808)/\K (AV.x true [Zg (↑(-1:Int)) 64,Zg (↑(1:Int)) 64]))) ?_
 try simp only[Zk,R0,R1,Nat.zero_add,Nat.le_refl,R4,R2,R3]
 exact⟨by omega,by omega,hK⟩
def QI7:Ctr
 | []=>some fun K=>(True)/\(K (.x true [.r ((-1:Int):Rat) 64,.r ((1:Int):Rat) 64]))
 | _=>none
theorem QUO:QI 200 QI7:=by
 refine okL Tryz.func200 fun l T hT K hK=> ?_
 unfold QI7 at hT;split at hT<;>cases hT
 obtain⟨hc,hK⟩:=hK;exact spL (QW QP0 Q8 Qg) QK Tryz.func200 (QYS  hc K hK)
def QYT:LC:=(200,QI7)::QYR
theorem QP1:QG QYT:= .cons QUO QP0
abbrev QP2 (l:Rat)(a:Nat)(h:Rat)(b:Nat)(K:AV->Prop):Prop:=((a+b<=100000000)/\(l<=h))/\(∀(s:Sp) n m,s=U3 ⟨l,h⟩->n<=a+200->m<=b+200->K (.x true [.r s.lo n,.r s.hi m]))
theorem QYU (l:Rat)(a:Nat)(h:Rat)(b:Nat)(K:AV->Prop)(hK:QP2 l a h b K):QM (QR (mkT QYT M79 X4) (oF Tryz.f157) noL Tryz.f157 [.x true [.r l a,.r h b]] K):=by
 obtain⟨hc,hK⟩:=hK;refine HV ((((a<=1000000000/\b<=1000000000)/\l<=h/\(1:Int)<=1000000/\(1000000:Int)<9223372036854775808)/\∀(n m:Nat),n<=a+200->m<=b+200->True/\n+64<=4294967296/\True/\m+64<=4294967296/\K (AV.x true [Zg (XH (Ky l 1000000) ↑(-1:Int)) (max n 64),Zg (XA (upR h 1000000) ↑(1:Int)) (max m 64)]))) ?_
 try simp only[R0]
 exact⟨⟨⟨by omega,by omega⟩,hc.2,by omega,by omega⟩,fun n m hn hm=>⟨by omega,by omega,hK (U3 ⟨l,h⟩) _ _ rfl (by omega) (by omega)⟩⟩
def QI8:Ctr
 | [.x true [.r l a,.r h b]]=>some fun K=>QP2 l a h b K
 | _=>none
theorem QUP:QI 157 QI8:=by
 refine okL Tryz.func157 fun l T hT K hK=> ?_
 unfold QI8 at hT;split at hT<;>cases hT
 exact spL (QW QP1 Q8 Qg) QK Tryz.func157 (QYU _ _ _ _ K hK)
def QYV:LC:=(157,QI8)::QYT
theorem QP3:QG QYV:= .cons QUP QP1
abbrev QC2 (a:ArmV)(B:Nat)(ts:List Sp)(qs:List Rat)(K:AV->Prop):Prop:=((QJ a)/\(B<=100000/\ts.length=a.links.length)/\(HasQ ts qs))/\(∀(ls:List LoV) (l:LoV),ls++[l]=XL (Xp a) a.links ts->ls.length=a.links.length->K (.t [(false,[.s 24 (ls.map (loN 42100000)++[loN (lb a.links.length) l])]),(false,[.v (.int .i64 0)])]))
set_option maxHeartbeats 1000000 in
theorem QMV (a:ArmV)(B:Nat)(ts:List Sp)(qs:List Rat)(K:AV->Prop)(hK:QC2 a B ts qs K):QM (QR (mkT QYV M79 X4) (oF Tryz.f97) (QI4 a B ts qs) Tryz.f97 [J5 a,.x false [.s 6 (ts.map (spN B))]] K):=by
 obtain⟨hc,hK⟩:=hK;refine HV ((∃(a_1:ArmV),[Zi (Value.string a.name),Zg a.x 63,Zg a.y 63,Zi (Value.bool a.half),Zg a.t 63,Ch.s 16 (Ze QB a.links)]=[Zi (Value.string a_1.name),Zg a_1.x 63,Zg a_1.y 63,Zi (Value.bool a_1.half),Zg a_1.t 63,Ch.s 16 (Ze QB a_1.links)]/\(QJ a_1/\Zc (Ze (spN B) ts).length=Zc a_1.links.length)/\63<=2000000000/\63<=2000000000/\63<=500000000/\∀(n:Nat),n<=652->n<=2000000000/\63<=500000000/\∀(n_1:Nat),n_1<=652->n_1<=2000000000/\(∃(x:SpX),(SpI a ts qs x/\OfNat.ofNat 0=0)/\6=6/\Ze (spN B) ts=Ze (spN B) ts/\0=0/\0=0/\Value.slice none 0 0=Value.slice none 0 0/\0=0/\x.i=0/\16=16/\Ze QB a.links=Ze QB a.links/\Zc (Ze QB a.links).length=Zc a.links.length/\0=Zc x.i/\34=34/\a.name=a.name/\a.x=a.x/\63<=63/\a.y=a.y/\63<=63/\a.half=a.half/\a.t=a.t/\63<=63/\16=16/\Ze QB a.links=Ze QB a.links/\155=155/\a.x=x.l.x.lo/\63<=lb x.i/\a.x=x.l.x.hi/\63<=lb x.i/\a.y=x.l.y.lo/\63<=lb x.i/\a.y=x.l.y.hi/\63<=lb x.i/\Xw a.half a.t=x.l.c.lo/\n<=lb x.i/\Xw a.half a.t=x.l.c.hi/\n<=lb x.i/\Q4 a.half a.t=x.l.s.lo/\n_1<=lb x.i/\Q4 a.half a.t=x.l.s.hi/\n_1<=lb x.i/\Ze (loN 42100000) x.ls=[]/\True)/\∀(x:SpX),SpI a ts qs x->OfNat.ofNat 0=0->bif decide (Zc x.i<Zc a.links.length)then(0<=Zc x.i/\Zc x.i<Zc (Ze QB a.links).length)/\∃(q:Rat),∃(n:Nat),∃(q_1:Rat),∃(n_2:Nat),∃(q_2:Rat),∃(n_3:Nat),∃(q_3:Rat),∃(n_4:Nat),∃(q_4:Rat),∃(n_5:Nat),∃(ys:List (List Ch)),ldE (Ze QB a.links) (Zc x.i).toNat 0 16=some [Zg q n,Zg q_1 n_2,Zg q_2 n_3,Zg q_3 n_4,Zg q_4 n_5,Ch.s 6 ys]/\(0<=Zc x.i/\Zc x.i<Zc (Ze (spN B) ts).length)/\∃(q_5:Rat),∃(n_6:Nat),∃(q_6:Rat),∃(n_7:Nat),ldE (Ze (spN B) ts) (Zc x.i).toNat 0 6=some [Zg q_5 n_6,Zg q_6 n_7]/\(0<=Zc x.i/\Zc x.i<Zc (Ze (spN B) ts).length)/\∃(q_7:Rat),∃(n_8:Nat),∃(q_8:Rat),∃(n_9:Nat),ldE (Ze (spN B) ts) (Zc x.i).toNat 0 6=some [Zg q_7 n_8,Zg q_8 n_9]/\(n_6+n_7<=200000000/\q_5<=q_6)/\∀(s:Sp) (n_10 m:Nat),s=GY (Sp.mk q_5 q_6)->n_10<=4*(n_6+n_7)+400->m<=4*(n_6+n_7)+400->(n_8+n_9<=100000000/\q_7<=q_8)/\(lb x.i+lb x.i+n_10+m<=2000000000/\x.l.c.lo<=x.l.c.hi/\s.lo<=s.hi)/\∀(s_1:Sp) (n_11:Nat),s_1=YO (Sp.mk x.l.c.lo x.l.c.hi) (Sp.mk s.lo s.hi)->n_11<=max (lb x.i) (lb x.i)+max n_10 m->(lb x.i+lb x.i+(4*(n_8+n_9)+400)+(4*(n_8+n_9)+400)<=2000000000/\x.l.s.lo<=x.l.s.hi/\(J7 (Sp.mk q_7 q_8)).lo<=(J7 (Sp.mk q_7 q_8)).hi)/\∀(s_2:Sp) (n_12:Nat),s_2=YO (Sp.mk x.l.s.lo x.l.s.hi) (Sp.mk (J7 (Sp.mk q_7 q_8)).lo (J7 (Sp.mk q_7 q_8)).hi)->n_12<=max (lb x.i) (lb x.i)+max (4*(n_8+n_9)+400) (4*(n_8+n_9)+400)->(n_11+n_11+n_12+n_12<=4294967290/\s_1.lo<=s_1.hi/\s_2.lo<=s_2.hi)/\(n_11+n_12+1+(n_11+n_12+1)<=100000000/\s_1.lo-s_2.hi<=s_1.hi-s_2.lo)/\∀(s_3:Sp) (n_13 m_1:Nat),s_3=U3 (Sp.mk (s_1.lo-s_2.hi) (s_1.hi-s_2.lo))->n_13<=n_11+n_12+1+200->m_1<=n_11+n_12+1+200->(lb x.i+lb x.i+n_10+m<=2000000000/\x.l.s.lo<=x.l.s.hi/\s.lo<=s.hi)/\∀(s_4:Sp) (n_14:Nat),s_4=YO (Sp.mk x.l.s.lo x.l.s.hi) (Sp.mk s.lo s.hi)->n_14<=max (lb x.i) (lb x.i)+max n_10 m->(lb x.i+lb x.i+(4*(n_8+n_9)+400)+(4*(n_8+n_9)+400)<=2000000000/\x.l.c.lo<=x.l.c.hi/\(J7 (Sp.mk q_7 q_8)).lo<=(J7 (Sp.mk q_7 q_8)).hi)/\∀(s:Sp) (n_15:Nat),s=YO (Sp.mk x.l.c.lo x.l.c.hi) (Sp.mk (J7 (Sp.mk q_7 q_8)).lo (J7 (Sp.mk q_7 q_8)).hi)->n_15<=max (lb x.i) (lb x.i)+max (4*(n_8+n_9)+400) (4*(n_8+n_9)+400)->(n_14+n_14+n_15+n_15<=4294967290/\s_4.lo<=s_4.hi/\s.lo<=s.hi)/\(n_14+n_15+1+(n_14+n_15+1)<=100000000/\s_4.lo+s.lo<=s_4.hi+s.hi)/\∀(s_5:Sp) (n_16 m:Nat),s_5=U3 (Sp.mk (s_4.lo+s.lo) (s_4.hi+s.hi))->n_16<=n_14+n_15+1+200->m<=n_14+n_15+1+200->((x.i+1)*320<=140737488355328/\x.i+1<=9223372036854775807)/\n<=2000000000/\(n+n+n_13+m_1<=2000000000/\q<=q/\s_3.lo<=s_3.hi)/\∀(s:Sp) (n_17:Nat),s=YO (Sp.mk q q) (Sp.mk s_3.lo s_3.hi)->n_17<=max n n+max n_13 m_1->(lb x.i+lb x.i+n_17+n_17<=4294967290/\x.l.x.lo<=x.l.x.hi/\s.lo<=s.hi)/\(n+n+n_16+m<=2000000000/\q<=q/\s_5.lo<=s_5.hi)/\∀(s_6:Sp) (n_18:Nat),s_6=YO (Sp.mk q q) (Sp.mk s_5.lo s_5.hi)->n_18<=max n n+max n_16 m->(lb x.i+lb x.i+n_18+n_18<=4294967290/\x.l.y.lo<=x.l.y.hi/\s_6.lo<=s_6.hi)/\∃(x':SpX),(SpI a ts qs x'/\OfNat.ofNat 0=0/\a.links.length-x'.i<a.links.length-x.i)/\6=6/\Ze (spN B) ts=Ze (spN B) ts/\0=0/\0=0/\0=0/\x.i+1=x'.i/\16=16/\Ze QB a.links=Ze QB a.links/\Zc a.links.length=Zc a.links.length/\Za.wrap (Zc x.i+1)=Zc x'.i/\34=34/\a.name=a.name/\a.x=a.x/\63<=63/\a.y=a.y/\63<=63/\a.half=a.half/\a.t=a.t/\63<=63/\16=16/\Ze QB a.links=Ze QB a.links/\155=155/\x.l.x.lo+s.lo=x'.l.x.lo/\lb x.i+n_17+1<=lb x'.i/\x.l.x.hi+s.hi=x'.l.x.hi/\lb x.i+n_17+1<=lb x'.i/\x.l.y.lo+s_6.lo=x'.l.y.lo/\lb x.i+n_18+1<=lb x'.i/\x.l.y.hi+s_6.hi=x'.l.y.hi/\lb x.i+n_18+1<=lb x'.i/\s_3.lo=x'.l.c.lo/\n_13<=lb x'.i/\s_3.hi=x'.l.c.hi/\m_1<=lb x'.i/\s_5.lo=x'.l.s.lo/\n_16<=lb x'.i/\s_5.hi=x'.l.s.hi/\m<=lb x'.i/\155=155/\24=24/\(List.take x.i (Ze (loN 42100000) x.ls)++[[Zg x.l.x.lo (lb x.i),Zg x.l.x.hi (lb x.i),Zg x.l.y.lo (lb x.i),Zg x.l.y.hi (lb x.i),Zg s_3.lo n_13,Zg s_3.hi m_1,Zg s_5.lo n_16,Zg s_5.hi m]]=Ze (loN 42100000) x'.ls∨QC (List.take x.i (Ze (loN 42100000) x.ls)++[[Zg x.l.x.lo (lb x.i),Zg x.l.x.hi (lb x.i),Zg x.l.y.lo (lb x.i),Zg x.l.y.hi (lb x.i),Zg s_3.lo n_13,Zg s_3.hi m_1,Zg s_5.lo n_16,Zg s_5.hi m]]) (Ze (loN 42100000) x'.ls))/\True else((x.i+1)*320<=140737488355328/\x.i+1<=9223372036854775807)/\K (AV.t [(false,[Ch.s 24 (List.take (x.i+1) (List.drop 0 (List.take x.i (Ze (loN 42100000) x.ls)++[[Zg x.l.x.lo (lb x.i),Zg x.l.x.hi (lb x.i),Zg x.l.y.lo (lb x.i),Zg x.l.y.hi (lb x.i),Zg x.l.c.lo (lb x.i),Zg x.l.c.hi (lb x.i),Zg x.l.s.lo (lb x.i),Zg x.l.s.hi (lb x.i)]])))]),(false,[Zi (Zd Za 0)])]))) ?_
 try simp only[Zk,R0,R1,Nat.le_refl,R4]
 obtain⟨hg,⟨hB,hts⟩,hq⟩:=hc;have hn:=hg.n;simp only[List.length_map];refine⟨a,rfl,⟨hg,by rw[hts]⟩,by omega,by omega,by omega,fun n hn1=>⟨by omega,by omega,fun n1 hn2=>⟨by omega,⟨⟨[],Xp a,Wx a,0⟩,⟨rfl,by simp,rfl,KS a,hq⟩,rfl,trivial,rfl,rfl,by simp only[lb];omega,rfl,by simp only[lb];omega,rfl,by simp only[lb];omega,rfl,by simp only[lb];omega,rfl,by simp only[lb];omega,rfl,by simp only[lb];omega,rfl,by simp only[lb];omega,rfl,by simp only[lb];omega,rfl⟩,fun x hx=>QF (fun hp=> ?_) (fun hp=> ?_)⟩⟩⟩
 ·have hp:x.i<a.links.length:=by have:=R5 hp;omega
  have hxn:=hx.n;obtain⟨L,hL⟩: ∃L,a.links[x.i]? =some L:=⟨_,Zh hp⟩
  obtain⟨t,ht⟩: ∃t,ts[x.i]? =some t:=⟨_,Zh (by omega)⟩
  have hql:=hq.1;obtain⟨q,hqq⟩: ∃q,qs[x.i]? =some q:=⟨_,Zh (by omega)⟩
  have hh:=hx.has;have hxq:=hx.qs;have he:=hx.eq;rw[KT ht,KT hqq]at hxq;rw[KT hL,KT ht,XL]at he;obtain⟨hq1,hq2⟩:=hxq.tail;have hlb:=Qav (i:=x.i) (by omega);have hls:lb (x.i+1)=4*lb x.i+2000000:=rfl;have c1:=Vx hq1;have c2:=JN hq1;have m1:=Qt hh.c c1;have m2:=Qt hh.s c2;have m3:=Qt hh.s c1;have m4:=Qt hh.c c2;have hN:=UU hh hq1;have hE:=Ht hN L.len;refine⟨by omega,_,_,_,_,_,_,_,_,_,_,_,Ko (by simpa using hL),by omega,_,_,_,_,QWI (by simpa using ht),by omega,_,_,_,_,QWI (by simpa using ht),⟨by omega,hq1.ok⟩,fun s1 b1 b2 e1 h1 h2=> ?_⟩
  subst e1;refine⟨⟨by omega,hq1.ok⟩,⟨by omega,hh.c.ok,c1.ok⟩,fun s2 b3 e2 h3=> ?_⟩;subst e2;refine⟨⟨by omega,hh.s.ok,c2.ok⟩,fun s3 b4 e3 h4=> ?_⟩;subst e3;refine⟨⟨by omega,m1.ok,m2.ok⟩,⟨by omega,(Vw m1 m2).ok⟩,fun s4 b5 b6 e4 h5 h6=> ?_⟩;subst e4;refine⟨⟨by omega,hh.s.ok,c1.ok⟩,fun s5 b7 e5 h7=> ?_⟩;subst e5;refine⟨⟨by omega,hh.c.ok,c2.ok⟩,fun s6 b8 e6 h8=> ?_⟩;subst e6;refine⟨⟨by omega,m3.ok,m4.ok⟩,⟨by omega,(JM m3 m4).ok⟩,fun s7 b9 b10 e7 h9 h10=> ?_⟩;subst e7;refine⟨by omega,by omega,⟨by omega,Rat.le_refl,hN.c.ok⟩,fun s8 b11 e8 h11=> ?_⟩;subst e8;refine⟨⟨by omega,hh.x.ok,(Qt (XR L.len) hN.c).ok⟩,⟨by omega,Rat.le_refl,hN.s.ok⟩,fun s9 b12 e9 h12=> ?_⟩
  subst e9;refine⟨⟨by omega,hh.y.ok,(Qt (XR L.len) hN.s).ok⟩,⟨x.ls++[Vb x.l t],QGZ (Vb x.l t) L.len,_,x.i+1⟩,⟨⟨by simp[hxn],hp,by simp only;rw[List.append_assoc];exact he,hE,hq2⟩,by simp only;omega⟩,rfl,by rw[w64 (by omega)];simp,rfl,by simp only[hls];omega,rfl,by simp only[hls];omega,rfl,by simp only[hls];omega,rfl,by simp only[hls];omega,rfl,by simp only[hls];omega,rfl,by simp only[hls];omega,rfl,by simp only[hls];omega,rfl,by simp only[hls];omega,.inr ?_⟩;rw[Zj (by simp[hxn])];exact QUN x.ls (Vb x.l t) (by omega) (by omega) (by omega) (by omega) (by omega) (by omega) (by omega) (by omega)
 ·have hp:x.i=a.links.length:=by have:=R6 hp;have:=hx.le;omega
  have hxn:=hx.n;have he:=hx.eq;rw[hp,List.drop_length,show XL x.l [] (ts.drop a.links.length)=[x.l]by cases ts.drop a.links.length<;>rfl]at he;have:=hK x.ls x.l he (by omega);refine⟨by omega,?_⟩;rw[List.drop_zero,Zj (l:=x.ls.map (loN 42100000)) (by simp[hxn]),Zj (by simp[hxn]),hp];exact this
def Hx:Ctr
 | [.x true xs,.x false [.s 6 ys]]=>some fun K=> ∃(a:ArmV) (B:Nat) (ts:List Sp) (qs:List Rat),xs=XM a/\ys=ts.map (spN B)/\QC2 a B ts qs K
 | _=>none
theorem QI9:QI 97 Hx:=by
 refine okL Tryz.func97 fun l T hT K hK=> ?_
 unfold Hx at hT;split at hT<;>cases hT
 obtain⟨a,B,ts,qs,rfl,rfl,hK⟩:=hK;exact spL (QW QP3 Q8 Qg) QK Tryz.func97 (QMV _ _ _ _ K hK)
def Qaw:LC:=(97,Hx)::QYV
theorem QYW:QG Qaw:= .cons QI9 QP3
def Qax:LC:=Qaw
theorem QYX:QG Qax:=QYW
def QYY:LC:=Qax
noncomputable def Qay:QZ:=mkT QYY M79 X4
theorem QP4:QG QYY:=QYX
theorem QYZ:Q7 Qay:=QW QP4 Q8 Qg
end Go.Proofs
