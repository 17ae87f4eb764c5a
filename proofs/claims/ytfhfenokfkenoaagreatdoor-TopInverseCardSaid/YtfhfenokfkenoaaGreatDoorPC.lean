/- SinSpan, cut, Spread, Boxes, spans, between. -/
import Derived.Test.YtfhfenokfkenoaaGreatDoorPB
open Go.IntKind renaming i64 → Za
open ByteArray renaming mk → Zb
open Int renaming ofNat → Zc, ofNat_eq_natCast → Zk
open Go.Value renaming int → Zd
open List renaming map → Ze, getElem?_eq_getElem → Zh, take_of_length_le → Zj
open Array renaming mk → Zf
open Go.Eng.Ch renaming r → Zg, v → Zi
namespace Go.Proofs
open Go Go.Eng
def spN (n:Nat)(s:Sp):List Ch:=[.r s.lo n,.r s.hi n]
def Ju (t:Sp):Nat->Sp
 | 0=>Wv t
 | 1=>WX t (Wv t) (-1)
 | _=>Ww t
def Qbl:Blk:= .row 3 1 (ints [-1,1])
def QMu (l:Rat)(a:Nat)(h:Rat)(b:Nat):LI:=fun _=> .inv ⟨Nat,fun i=>⟨[(1,.x false [.p 1 0]),(2,.x false [.p 2 0]),(3,.x false [.p 3 0]),(21,.x false [.w 500 0 2]),(22,iA .i64 2),(23,iA .i64 i)],[(1,.box 86 [.r l a,.r h b]),(2,.box 86 (Jd++Jd)),(3,.box 86 (spN (4*(a+b)+400) (Ju ⟨l,h⟩ i))),(500,Qbl)]⟩,fun i=>i<=2,fun i=>2-i,fun _=>0⟩
def loN (n:Nat)(l:LoV):List Ch:=[.r l.x.lo n,.r l.x.hi n,.r l.y.lo n,.r l.y.hi n,.r l.c.lo n,.r l.c.hi n,.r l.s.lo n,.r l.s.hi n]
def lb:Nat->Nat
 | 0=>700
 | i+1=>4*lb i+2000000
structure SpX where
 ls:List LoV
 l:LoV
 b:FrV
 i:Nat
structure SpI (a:ArmV)(ts:List Sp)(qs:List Rat)(x:SpX):Prop where
 n:x.ls.length=x.i
 le:x.i<=a.links.length
 eq:x.ls++XI x.l (a.links.drop x.i) (ts.drop x.i)=XI (Xe a) a.links ts
 has:x.l.has x.b
 qs:HasQ (ts.drop x.i) (qs.drop x.i)
def QJP (a:ArmV)(B:Nat)(ts:List Sp)(qs:List Rat):LI:=fun _=> .inv ⟨SpX,fun x=>⟨[(1,.x false [.s 6 (ts.map (spN B))]),(2,.x false [.p 2 0]),(8,.x false [.p 8 0]),(9,.x false [.w 500 0 x.i]),(43,.x false [.s 16 (a.links.map QC)]),(44,iA .i64 a.links.length),(45,iA .i64 x.i)],
 [(2,.box 34 (Xi a)),(8,.box 155 (loN (lb x.i) x.l)),(500,.row 155 24 (x.ls.map (loN 42100000)))]⟩,SpI a ts qs,fun x=>a.links.length-x.i,fun _=>0⟩
theorem Kd {α:Type}{l:List α}{i:Nat}{a:α}(h:l[i]? =some a):l.drop i=a::l.drop (i+1):=by
 obtain⟨hi,e⟩:=List.getElem?_eq_some_iff.1 h
 rw[List.drop_eq_getElem_cons hi,e]
theorem GY (p:Rat):Q7 p p=p:=by unfold Q7;split<;>rfl
theorem QQL (t:Sp)(i:Nat):(Ju t i).lo<=(Ju t i).hi:=by
 have h0:(Wv t).has (Qa false t.lo):=HR (XT _);have h1:=h0.sub (KA t (Wv t) (-1));have h2:=h1.sub (KA t (WX t (Wv t) (-1)) 1);match i with
 | 0=>exact h0.ok
 | 1=>exact h1.ok
 | _+2=>exact h2.ok
theorem QJQ (t:Sp)(i:Nat)(d:Int)(h:([-1,1]:List Int)[i]? =some d):Ju t (i+1)=WX t (Ju t i) (d:Rat):=by
 match i,h with
 | 0,h=>cases h;rfl
 | 1,h=>cases h;rfl
theorem HX {n:Nat}{ts:List Sp}{i:Nat}{t:Sp}(h:ts[i]? =some t):ldE (ts.map (spN n)) i 0 6=some [.r t.lo n,.r t.hi n]:=by
 simp only[ldE,List.getElem?_map,h];rfl
theorem Qbm {i:Nat}(h:i<=2):lb i<=10011200:=by
 have:i=0∨i=1∨i=2:=by omega
 rcases this with e | e | e<;>rw[e]<;>decide
theorem QY5 {i:Nat}(h:i<=3):lb i<=42100000:=by
 have:i=0∨i=1∨i=2∨i=3:=by omega
 rcases this with e | e | e | e<;>rw[e]<;>decide
theorem QY6 (N:Nat)(ls:List LoV):QE (ls.map (loN N)) (ls.map (loN N)):=by
 refine⟨rfl,fun i x y hx hy=> ?_⟩;rw[hx]at hy;cases hy
 simp only[List.getElem?_map,Option.map_eq_some_iff]at hx;obtain⟨q,_,rfl⟩:=hx;have r:=Nat.le_refl N;exact⟨.r r (.r r (.r r (.r r (.r r (.r r (.r r (.r r .nil))))))),rfl⟩
theorem QUY {n1 n2 n3 n4 n5 n6 n7 n8 N:Nat}(ls:List LoV)(l:LoV)(h1:n1<=N)(h2:n2<=N)(h3:n3<=N)(h4:n4<=N)(h5:n5<=N)(h6:n6<=N)(h7:n7<=N)(h8:n8<=N):
  QE (ls.map (loN N)++[[.r l.x.lo n1,.r l.x.hi n2,.r l.y.lo n3,.r l.y.hi n4,.r l.c.lo n5,.r l.c.hi n6,.r l.s.lo n7,.r l.s.hi n8]]) ((ls++[l]).map (loN N)):=by
 rw[List.map_append];exact QBo (QY6 N ls) ⟨.r h1 (.r h2 (.r h3 (.r h4 (.r h5 (.r h6 (.r h7 (.r h8 .nil))))))),rfl⟩
set_option maxHeartbeats 1000000 in
theorem QJR (l:Rat)(a:Nat)(h:Rat)(b:Nat)(hc:(a+b<=100000000)/\(l<=h))(K:AV->Prop)(hK:K (.x true (spN (4*(a+b)+400) (Ww ⟨l,h⟩)))):QK (QN Qbk (oF Tryz.f156) (QMu l a h b) Tryz.f156 [.x true [.r l a,.r h b]] K):=by
 refine HV (((a+b+a+b<=4294967290/\l<=h/\l<=h)/\max a a<=1000000000/\max a a<=500000000/\∀(n:Nat),n<=4*max a a+400->n<=2000000000/\max b b<=1000000000/\max b b<=500000000/\∀(n_1:Nat),n_1<=4*max b b+400->n_1<=2000000000/\(n+n+n_1+n_1<=4294967290/\Qa false (Qt l l)<=Qa false (Qt l l)/\Qa false (Q7 h h)<=Qa false (Q7 h h))/\(∃(x:Nat),(x<=2/\OfNat.ofNat 0=0)/\0=0/\0=0/\0=0/\0=0/\2=2/\(2:Int)=2/\0=Zc x/\86=86/\Qt l l=l/\max a a<=a/\Q7 h h=h/\max b b<=b/\86=86/\false=false/\Zb (Zf [])=Zb (Zf [])/\Zb (Zf [])=Zb (Zf [])/\false=false/\Zb (Zf [])=Zb (Zf [])/\Zb (Zf [])=Zb (Zf [])/\86=86/\Qt (Qa false (Qt l l)) (Qa false (Q7 h h))=(Ju (Sp.mk l h) x).lo/\max n n_1<=4*(a+b)+400/\Q7 (Qa false (Qt l l)) (Qa false (Q7 h h))=(Ju (Sp.mk l h) x).hi/\max n n_1<=4*(a+b)+400/\3=3/\1=1/\([[Zi (Zd Za (-1))],[Zi (Zd Za 1)]]=[[Zi (Zd Za (-1))],[Zi (Zd Za 1)]]∨QE [[Zi (Zd Za (-1))],[Zi (Zd Za 1)]] [[Zi (Zd Za (-1))],[Zi (Zd Za 1)]])/\True)/\∀(x:Nat),x<=2->OfNat.ofNat 0=0->bif decide (Zc x<2)then(0<=Zc x/\Zc x<2)/\∃(d:Int),ldE [[Zi (Zd Za (-1))],[Zi (Zd Za 1)]] (0+(Zc x).toNat) 0 1=some [Zi (Zd Za d)]/\(-9223372036854775808<=d/\d<9223372036854775808)/\(a+b+64<=4294967290/\l<=h)/\bif XW (Sp.mk l h) ↑d then 64<=2000000000/\(4*(a+b)+400+(4*(a+b)+400)+64+64<=4294967290/\(Ju (Sp.mk l h) x).lo<=(Ju (Sp.mk l h) x).hi/\(↑d:Rat)<=(↑d:Rat))/\∃(x':Nat),(x'<=2/\OfNat.ofNat 0=0/\2-x'<2-x)/\0=0/\0=0/\0=0/\0=0/\2=2/\(2:Int)=2/\Za.wrap (Zc x+1)=Zc x'/\86=86/\l=l/\a<=a/\h=h/\b<=b/\86=86/\false=false/\Zb (Zf [])=Zb (Zf [])/\Zb (Zf [])=Zb (Zf [])/\false=false/\Zb (Zf [])=Zb (Zf [])/\Zb (Zf [])=Zb (Zf [])/\86=86/\Qt (Ju (Sp.mk l h) x).lo ↑d=(Ju (Sp.mk l h) x').lo/\max (4*(a+b)+400) 64<=4*(a+b)+400/\Q7 (Ju (Sp.mk l h) x).hi ↑d=(Ju (Sp.mk l h) x').hi/\max (4*(a+b)+400) 64<=4*(a+b)+400/\3=3/\1=1/\([[Zi (Zd Za (-1))],[Zi (Zd Za 1)]]=[[Zi (Zd Za (-1))],[Zi (Zd Za 1)]]∨QE [[Zi (Zd Za (-1))],[Zi (Zd Za 1)]] [[Zi (Zd Za (-1))],[Zi (Zd Za 1)]])/\True else ∃(x':Nat),(x'<=2/\OfNat.ofNat 0=0/\2-x'<2-x)/\0=0/\0=0/\0=0/\0=0/\2=2/\(2:Int)=2/\Za.wrap (Zc x+1)=Zc x'/\86=86/\l=l/\a<=a/\h=h/\b<=b/\86=86/\false=false/\Zb (Zf [])=Zb (Zf [])/\Zb (Zf [])=Zb (Zf [])/\false=false/\Zb (Zf [])=Zb (Zf [])/\Zb (Zf [])=Zb (Zf [])/\86=86/\(Ju (Sp.mk l h) x).lo=(Ju (Sp.mk l h) x').lo/\4*(a+b)+400<=4*(a+b)+400/\(Ju (Sp.mk l h) x).hi=(Ju (Sp.mk l h) x').hi/\4*(a+b)+400<=4*(a+b)+400/\3=3/\1=1/\([[Zi (Zd Za (-1))],[Zi (Zd Za 1)]]=[[Zi (Zd Za (-1))],[Zi (Zd Za 1)]]∨QE [[Zi (Zd Za (-1))],[Zi (Zd Za 1)]] [[Zi (Zd Za (-1))],[Zi (Zd Za 1)]])/\True else K (AV.x true [Zg (Ju (Sp.mk l h) x).lo (4*(a+b)+400),Zg (Ju (Sp.mk l h) x).hi (4*(a+b)+400)]))) ?_
 try simp only[Zk,R0,R1,Nat.zero_add,Nat.le_refl,R4,R2]
 refine⟨⟨by omega,hc.2,hc.2⟩,by omega,by omega,fun n hn=>⟨by omega,by omega,by omega,fun n1 hn1=>⟨by omega,⟨by omega,Rat.le_refl,Rat.le_refl⟩,⟨0,by omega,rfl,YH l,by omega,GY h,by omega,?_,by omega,?_,by omega⟩,fun x hx=>QF (fun hp=> ?_) (fun hp=> ?_)⟩⟩⟩
 ·rw[YH,GY];rfl
 ·rw[YH,GY];rfl
 ·have hp:x<2:=by have:=R5 hp;omega
  obtain⟨d,hd,hdb⟩: ∃d:Int,([-1,1]:List Int)[x]? =some d/\ -1<=d/\d<=1:=by
   have:x=0∨x=1:=by omega
   rcases this with rfl | rfl
   ·exact⟨-1,rfl,by omega⟩
   ·exact⟨1,rfl,by omega⟩
  have hn:=QJQ ⟨l,h⟩ x d hd;have ok:=QQL ⟨l,h⟩ x;refine⟨by omega,d,QPU (l:=[-1,1]) (by simpa using hd),by omega,⟨by omega,hc.2⟩,QF (fun hb=>⟨by omega,⟨by omega,ok,Rat.le_refl⟩,x+1,⟨by omega,by omega⟩,by rw[w64 (by omega)];simp,?_,by omega,?_,by omega⟩) (fun hb=>⟨x+1,⟨by omega,by omega⟩,by rw[w64 (by omega)];simp,?_,?_⟩)⟩<;>rw[hn]<;>unfold WX<;>rw[hb]<;>rfl
 ·have hp:x=2:=by have:=R6 hp;omega
  subst hp;exact hK
def Ux:Ctr
 | [.x true [.r l a,.r h b]]=>some fun K=>((a+b<=100000000)/\(l<=h))/\(K (.x true (spN (4*(a+b)+400) (Ww ⟨l,h⟩))))
 | _=>none
theorem QGz:QI 156 Ux:=by
 refine okL Tryz.func156 fun l T hT K hK=> ?_
 unfold Ux at hT;split at hT<;>cases hT
 obtain⟨hc,hK⟩:=hK;exact spL QY4 QM Tryz.func156 (QJR _ _ _ _ hc K hK)
def QY7:LC:=(156,Ux)::QY3
theorem QQM:QG QY7:= .cons QGz QQK
theorem QY8 (_hc:True)(K:AV->Prop)(hK:K (.x true [.r ((-1:Int):Rat) 64,.r ((1:Int):Rat) 64])):QK (QN (mkT QY7 M79 X4) (oF Tryz.f200) noL Tryz.f200 [] K):=by
 refine HV ((((-9223372036854775808:Int)<= -1/\(-1:Int)<9223372036854775808)/\((-9223372036854775808:Int)<=1/\(1:Int)<9223372036854775808)/\K (AV.x true [Zg (↑(-1:Int)) 64,Zg (↑(1:Int)) 64]))) ?_
 try simp only[Zk,R0,R1,Nat.zero_add,Nat.le_refl,R4,R2,R3]
 exact⟨by omega,by omega,hK⟩
def QJS:Ctr
 | []=>some fun K=>(True)/\(K (.x true [.r ((-1:Int):Rat) 64,.r ((1:Int):Rat) 64]))
 | _=>none
theorem QUZ:QI 200 QJS:=by
 refine okL Tryz.func200 fun l T hT K hK=> ?_
 unfold QJS at hT;split at hT<;>cases hT
 obtain⟨hc,hK⟩:=hK;exact spL (QP QQM XN Qg) QM Tryz.func200 (QY8  hc K hK)
def QY9:LC:=(200,QJS)::QY7
theorem QQN:QG QY9:= .cons QUZ QQM
abbrev QQO (l:Rat)(a:Nat)(h:Rat)(b:Nat)(K:AV->Prop):Prop:=((a+b<=100000000)/\(l<=h))/\(∀(s:Sp) n m,s=QBt ⟨l,h⟩->n<=a+200->m<=b+200->K (.x true [.r s.lo n,.r s.hi m]))
theorem QZA (l:Rat)(a:Nat)(h:Rat)(b:Nat)(K:AV->Prop)(hK:QQO l a h b K):QK (QN (mkT QY9 M79 X4) (oF Tryz.f157) noL Tryz.f157 [.x true [.r l a,.r h b]] K):=by
 obtain⟨hc,hK⟩:=hK;refine HV ((((a<=1000000000/\b<=1000000000)/\l<=h/\(1:Int)<=1000000/\(1000000:Int)<9223372036854775808)/\∀(n m:Nat),n<=a+200->m<=b+200->True/\n+64<=4294967296/\True/\m+64<=4294967296/\K (AV.x true [Zg (Q7 (HQ l 1000000) ↑(-1:Int)) (max n 64),Zg (Qt (upR h 1000000) ↑(1:Int)) (max m 64)]))) ?_
 try simp only[R0]
 exact⟨⟨⟨by omega,by omega⟩,hc.2,by omega,by omega⟩,fun n m hn hm=>⟨by omega,by omega,hK (QBt ⟨l,h⟩) _ _ rfl (by omega) (by omega)⟩⟩
def QJT:Ctr
 | [.x true [.r l a,.r h b]]=>some fun K=>QQO l a h b K
 | _=>none
theorem QUa:QI 157 QJT:=by
 refine okL Tryz.func157 fun l T hT K hK=> ?_
 unfold QJT at hT;split at hT<;>cases hT
 exact spL (QP QQN XN Qg) QM Tryz.func157 (QZA _ _ _ _ K hK)
def QZB:LC:=(157,QJT)::QY9
theorem QQP:QG QZB:= .cons QUa QQN
abbrev QDT (a:ArmV)(B:Nat)(ts:List Sp)(qs:List Rat)(K:AV->Prop):Prop:=((QX a)/\(B<=100000/\ts.length=a.links.length)/\(HasQ ts qs))/\(∀(ls:List LoV) (l:LoV),ls++[l]=XI (Xe a) a.links ts->ls.length=a.links.length->K (.t [(false,[.s 24 (ls.map (loN 42100000)++[loN (lb a.links.length) l])]),(false,[.v (.int .i64 0)])]))
set_option maxHeartbeats 1000000 in
theorem QMv (a:ArmV)(B:Nat)(ts:List Sp)(qs:List Rat)(K:AV->Prop)(hK:QDT a B ts qs K):QK (QN (mkT QZB M79 X4) (oF Tryz.f97) (QJP a B ts qs) Tryz.f97 [WN a,.x false [.s 6 (ts.map (spN B))]] K):=by
 obtain⟨hc,hK⟩:=hK;refine HV ((∃(a_1:ArmV),[Zi (Value.string a.name),Zg a.x 63,Zg a.y 63,Zi (Value.bool a.half),Zg a.t 63,Ch.s 16 (Ze QC a.links)]=[Zi (Value.string a_1.name),Zg a_1.x 63,Zg a_1.y 63,Zi (Value.bool a_1.half),Zg a_1.t 63,Ch.s 16 (Ze QC a_1.links)]/\(QX a_1/\Zc (Ze (spN B) ts).length=Zc a_1.links.length)/\63<=2000000000/\63<=2000000000/\63<=500000000/\∀(n:Nat),n<=652->n<=2000000000/\63<=500000000/\∀(n_1:Nat),n_1<=652->n_1<=2000000000/\(∃(x:SpX),(SpI a ts qs x/\OfNat.ofNat 0=0)/\6=6/\Ze (spN B) ts=Ze (spN B) ts/\0=0/\0=0/\Value.slice none 0 0=Value.slice none 0 0/\0=0/\x.i=0/\16=16/\Ze QC a.links=Ze QC a.links/\Zc (Ze QC a.links).length=Zc a.links.length/\0=Zc x.i/\34=34/\a.name=a.name/\a.x=a.x/\63<=63/\a.y=a.y/\63<=63/\a.half=a.half/\a.t=a.t/\63<=63/\16=16/\Ze QC a.links=Ze QC a.links/\155=155/\a.x=x.l.x.lo/\63<=lb x.i/\a.x=x.l.x.hi/\63<=lb x.i/\a.y=x.l.y.lo/\63<=lb x.i/\a.y=x.l.y.hi/\63<=lb x.i/\Qn a.half a.t=x.l.c.lo/\n<=lb x.i/\Qn a.half a.t=x.l.c.hi/\n<=lb x.i/\Qa a.half a.t=x.l.s.lo/\n_1<=lb x.i/\Qa a.half a.t=x.l.s.hi/\n_1<=lb x.i/\Ze (loN 42100000) x.ls=[]/\True)/\∀(x:SpX),SpI a ts qs x->OfNat.ofNat 0=0->bif decide (Zc x.i<Zc a.links.length)then(0<=Zc x.i/\Zc x.i<Zc (Ze QC a.links).length)/\∃(q:Rat),∃(n:Nat),∃(q_1:Rat),∃(n_2:Nat),∃(q_2:Rat),∃(n_3:Nat),∃(q_3:Rat),∃(n_4:Nat),∃(q_4:Rat),∃(n_5:Nat),∃(ys:List (List Ch)),ldE (Ze QC a.links) (Zc x.i).toNat 0 16=some [Zg q n,Zg q_1 n_2,Zg q_2 n_3,Zg q_3 n_4,Zg q_4 n_5,Ch.s 6 ys]/\(0<=Zc x.i/\Zc x.i<Zc (Ze (spN B) ts).length)/\∃(q_5:Rat),∃(n_6:Nat),∃(q_6:Rat),∃(n_7:Nat),ldE (Ze (spN B) ts) (Zc x.i).toNat 0 6=some [Zg q_5 n_6,Zg q_6 n_7]/\(0<=Zc x.i/\Zc x.i<Zc (Ze (spN B) ts).length)/\∃(q_7:Rat),∃(n_8:Nat),∃(q_8:Rat),∃(n_9:Nat),ldE (Ze (spN B) ts) (Zc x.i).toNat 0 6=some [Zg q_7 n_8,Zg q_8 n_9]/\(n_6+n_7<=200000000/\q_5<=q_6)/\∀(s:Sp) (n_10 m:Nat),s=QDN (Sp.mk q_5 q_6)->n_10<=4*(n_6+n_7)+400->m<=4*(n_6+n_7)+400->(n_8+n_9<=100000000/\q_7<=q_8)/\(lb x.i+lb x.i+n_10+m<=2000000000/\x.l.c.lo<=x.l.c.hi/\s.lo<=s.hi)/\∀(s_1:Sp) (n_11:Nat),s_1=JG (Sp.mk x.l.c.lo x.l.c.hi) (Sp.mk s.lo s.hi)->n_11<=max (lb x.i) (lb x.i)+max n_10 m->(lb x.i+lb x.i+(4*(n_8+n_9)+400)+(4*(n_8+n_9)+400)<=2000000000/\x.l.s.lo<=x.l.s.hi/\(Ww (Sp.mk q_7 q_8)).lo<=(Ww (Sp.mk q_7 q_8)).hi)/\∀(s_2:Sp) (n_12:Nat),s_2=JG (Sp.mk x.l.s.lo x.l.s.hi) (Sp.mk (Ww (Sp.mk q_7 q_8)).lo (Ww (Sp.mk q_7 q_8)).hi)->n_12<=max (lb x.i) (lb x.i)+max (4*(n_8+n_9)+400) (4*(n_8+n_9)+400)->(n_11+n_11+n_12+n_12<=4294967290/\s_1.lo<=s_1.hi/\s_2.lo<=s_2.hi)/\(n_11+n_12+1+(n_11+n_12+1)<=100000000/\s_1.lo-s_2.hi<=s_1.hi-s_2.lo)/\∀(s_3:Sp) (n_13 m_1:Nat),s_3=QBt (Sp.mk (s_1.lo-s_2.hi) (s_1.hi-s_2.lo))->n_13<=n_11+n_12+1+200->m_1<=n_11+n_12+1+200->(lb x.i+lb x.i+n_10+m<=2000000000/\x.l.s.lo<=x.l.s.hi/\s.lo<=s.hi)/\∀(s_4:Sp) (n_14:Nat),s_4=JG (Sp.mk x.l.s.lo x.l.s.hi) (Sp.mk s.lo s.hi)->n_14<=max (lb x.i) (lb x.i)+max n_10 m->(lb x.i+lb x.i+(4*(n_8+n_9)+400)+(4*(n_8+n_9)+400)<=2000000000/\x.l.c.lo<=x.l.c.hi/\(Ww (Sp.mk q_7 q_8)).lo<=(Ww (Sp.mk q_7 q_8)).hi)/\∀(s:Sp) (n_15:Nat),s=JG (Sp.mk x.l.c.lo x.l.c.hi) (Sp.mk (Ww (Sp.mk q_7 q_8)).lo (Ww (Sp.mk q_7 q_8)).hi)->n_15<=max (lb x.i) (lb x.i)+max (4*(n_8+n_9)+400) (4*(n_8+n_9)+400)->(n_14+n_14+n_15+n_15<=4294967290/\s_4.lo<=s_4.hi/\s.lo<=s.hi)/\(n_14+n_15+1+(n_14+n_15+1)<=100000000/\s_4.lo+s.lo<=s_4.hi+s.hi)/\∀(s_5:Sp) (n_16 m:Nat),s_5=QBt (Sp.mk (s_4.lo+s.lo) (s_4.hi+s.hi))->n_16<=n_14+n_15+1+200->m<=n_14+n_15+1+200->((x.i+1)*320<=140737488355328/\x.i+1<=9223372036854775807)/\n<=2000000000/\(n+n+n_13+m_1<=2000000000/\q<=q/\s_3.lo<=s_3.hi)/\∀(s:Sp) (n_17:Nat),s=JG (Sp.mk q q) (Sp.mk s_3.lo s_3.hi)->n_17<=max n n+max n_13 m_1->(lb x.i+lb x.i+n_17+n_17<=4294967290/\x.l.x.lo<=x.l.x.hi/\s.lo<=s.hi)/\(n+n+n_16+m<=2000000000/\q<=q/\s_5.lo<=s_5.hi)/\∀(s_6:Sp) (n_18:Nat),s_6=JG (Sp.mk q q) (Sp.mk s_5.lo s_5.hi)->n_18<=max n n+max n_16 m->(lb x.i+lb x.i+n_18+n_18<=4294967290/\x.l.y.lo<=x.l.y.hi/\s_6.lo<=s_6.hi)/\∃(x':SpX),(SpI a ts qs x'/\OfNat.ofNat 0=0/\a.links.length-x'.i<a.links.length-x.i)/\6=6/\Ze (spN B) ts=Ze (spN B) ts/\0=0/\0=0/\0=0/\x.i+1=x'.i/\16=16/\Ze QC a.links=Ze QC a.links/\Zc a.links.length=Zc a.links.length/\Za.wrap (Zc x.i+1)=Zc x'.i/\34=34/\a.name=a.name/\a.x=a.x/\63<=63/\a.y=a.y/\63<=63/\a.half=a.half/\a.t=a.t/\63<=63/\16=16/\Ze QC a.links=Ze QC a.links/\155=155/\x.l.x.lo+s.lo=x'.l.x.lo/\lb x.i+n_17+1<=lb x'.i/\x.l.x.hi+s.hi=x'.l.x.hi/\lb x.i+n_17+1<=lb x'.i/\x.l.y.lo+s_6.lo=x'.l.y.lo/\lb x.i+n_18+1<=lb x'.i/\x.l.y.hi+s_6.hi=x'.l.y.hi/\lb x.i+n_18+1<=lb x'.i/\s_3.lo=x'.l.c.lo/\n_13<=lb x'.i/\s_3.hi=x'.l.c.hi/\m_1<=lb x'.i/\s_5.lo=x'.l.s.lo/\n_16<=lb x'.i/\s_5.hi=x'.l.s.hi/\m<=lb x'.i/\155=155/\24=24/\(List.take x.i (Ze (loN 42100000) x.ls)++[[Zg x.l.x.lo (lb x.i),Zg x.l.x.hi (lb x.i),Zg x.l.y.lo (lb x.i),Zg x.l.y.hi (lb x.i),Zg s_3.lo n_13,Zg s_3.hi m_1,Zg s_5.lo n_16,Zg s_5.hi m]]=Ze (loN 42100000) x'.ls∨QE (List.take x.i (Ze (loN 42100000) x.ls)++[[Zg x.l.x.lo (lb x.i),Zg x.l.x.hi (lb x.i),Zg x.l.y.lo (lb x.i),Zg x.l.y.hi (lb x.i),Zg s_3.lo n_13,Zg s_3.hi m_1,Zg s_5.lo n_16,Zg s_5.hi m]]) (Ze (loN 42100000) x'.ls))/\True else((x.i+1)*320<=140737488355328/\x.i+1<=9223372036854775807)/\K (AV.t [(false,[Ch.s 24 (List.take (x.i+1) (List.drop 0 (List.take x.i (Ze (loN 42100000) x.ls)++[[Zg x.l.x.lo (lb x.i),Zg x.l.x.hi (lb x.i),Zg x.l.y.lo (lb x.i),Zg x.l.y.hi (lb x.i),Zg x.l.c.lo (lb x.i),Zg x.l.c.hi (lb x.i),Zg x.l.s.lo (lb x.i),Zg x.l.s.hi (lb x.i)]])))]),(false,[Zi (Zd Za 0)])]))) ?_
 try simp only[Zk,R0,R1,Nat.le_refl,R4]
 obtain⟨hg,⟨hB,hts⟩,hq⟩:=hc;have hn:=hg.n;simp only[List.length_map];refine⟨a,rfl,⟨hg,by rw[hts]⟩,by omega,by omega,by omega,fun n hn1=>⟨by omega,by omega,fun n1 hn2=>⟨by omega,⟨⟨[],Xe a,Xs a,0⟩,⟨rfl,by simp,rfl,V0 a,hq⟩,rfl,trivial,rfl,rfl,by simp only[lb];omega,rfl,by simp only[lb];omega,rfl,by simp only[lb];omega,rfl,by simp only[lb];omega,rfl,by simp only[lb];omega,rfl,by simp only[lb];omega,rfl,by simp only[lb];omega,rfl,by simp only[lb];omega,rfl⟩,fun x hx=>QF (fun hp=> ?_) (fun hp=> ?_)⟩⟩⟩
 ·have hp:x.i<a.links.length:=by have:=R5 hp;omega
  have hxn:=hx.n;obtain⟨L,hL⟩: ∃L,a.links[x.i]? =some L:=⟨_,Zh hp⟩
  obtain⟨t,ht⟩: ∃t,ts[x.i]? =some t:=⟨_,Zh (by omega)⟩
  have hql:=hq.1;obtain⟨q,hqq⟩: ∃q,qs[x.i]? =some q:=⟨_,Zh (by omega)⟩
  have hh:=hx.has;have hxq:=hx.qs;have he:=hx.eq;rw[Kd ht,Kd hqq]at hxq;rw[Kd hL,Kd ht,XI]at he;obtain⟨hq1,hq2⟩:=hxq.tail;have hlb:=Qbm (i:=x.i) (by omega);have hls:lb (x.i+1)=4*lb x.i+2000000:=rfl;have c1:=GU hq1;have c2:=GV hq1;have m1:=XB hh.c c1;have m2:=XB hh.s c2;have m3:=XB hh.s c1;have m4:=XB hh.c c2;have hN:=QBv hh hq1;have hE:=QDQ hN L.len;refine⟨by omega,_,_,_,_,_,_,_,_,_,_,_,Js (by simpa using hL),by omega,_,_,_,_,HX (by simpa using ht),by omega,_,_,_,_,HX (by simpa using ht),⟨by omega,hq1.ok⟩,fun s1 b1 b2 e1 h1 h2=> ?_⟩
  subst e1;refine⟨⟨by omega,hq1.ok⟩,⟨by omega,hh.c.ok,c1.ok⟩,fun s2 b3 e2 h3=> ?_⟩;subst e2;refine⟨⟨by omega,hh.s.ok,c2.ok⟩,fun s3 b4 e3 h4=> ?_⟩;subst e3;refine⟨⟨by omega,m1.ok,m2.ok⟩,⟨by omega,(UJ m1 m2).ok⟩,fun s4 b5 b6 e4 h5 h6=> ?_⟩;subst e4;refine⟨⟨by omega,hh.s.ok,c1.ok⟩,fun s5 b7 e5 h7=> ?_⟩;subst e5;refine⟨⟨by omega,hh.c.ok,c2.ok⟩,fun s6 b8 e6 h8=> ?_⟩;subst e6;refine⟨⟨by omega,m3.ok,m4.ok⟩,⟨by omega,(Je m3 m4).ok⟩,fun s7 b9 b10 e7 h9 h10=> ?_⟩;subst e7;refine⟨by omega,by omega,⟨by omega,Rat.le_refl,hN.c.ok⟩,fun s8 b11 e8 h11=> ?_⟩;subst e8;refine⟨⟨by omega,hh.x.ok,(XB (XT L.len) hN.c).ok⟩,⟨by omega,Rat.le_refl,hN.s.ok⟩,fun s9 b12 e9 h12=> ?_⟩
  subst e9;refine⟨⟨by omega,hh.y.ok,(XB (XT L.len) hN.s).ok⟩,⟨x.ls++[GW x.l t],QPo (GW x.l t) L.len,_,x.i+1⟩,⟨⟨by simp[hxn],hp,by simp only;rw[List.append_assoc];exact he,hE,hq2⟩,by simp only;omega⟩,rfl,by rw[w64 (by omega)];simp,rfl,by simp only[hls];omega,rfl,by simp only[hls];omega,rfl,by simp only[hls];omega,rfl,by simp only[hls];omega,rfl,by simp only[hls];omega,rfl,by simp only[hls];omega,rfl,by simp only[hls];omega,rfl,by simp only[hls];omega,.inr ?_⟩;rw[Zj (by simp[hxn])];exact QUY x.ls (GW x.l t) (by omega) (by omega) (by omega) (by omega) (by omega) (by omega) (by omega) (by omega)
 ·have hp:x.i=a.links.length:=by have:=R6 hp;have:=hx.le;omega
  have hxn:=hx.n;have he:=hx.eq;rw[hp,List.drop_length,show XI x.l [] (ts.drop a.links.length)=[x.l]by cases ts.drop a.links.length<;>rfl]at he;have:=hK x.ls x.l he (by omega);refine⟨by omega,?_⟩;rw[List.drop_zero,Zj (l:=x.ls.map (loN 42100000)) (by simp[hxn]),Zj (by simp[hxn]),hp];exact this
def GZ:Ctr
 | [.x true xs,.x false [.s 6 ys]]=>some fun K=> ∃(a:ArmV) (B:Nat) (ts:List Sp) (qs:List Rat),xs=Xi a/\ys=ts.map (spN B)/\QDT a B ts qs K
 | _=>none
theorem QJU:QI 97 GZ:=by
 refine okL Tryz.func97 fun l T hT K hK=> ?_
 unfold GZ at hT;split at hT<;>cases hT
 obtain⟨a,B,ts,qs,rfl,rfl,hK⟩:=hK;exact spL (QP QQP XN Qg) QM Tryz.func97 (QMv _ _ _ _ K hK)
def Qbn:LC:=(97,GZ)::QZB
theorem QZC:QG Qbn:= .cons QJU QQP
def Qbo:LC:=Qbn
theorem QZD:QG Qbo:=QZC
def QZE:LC:=Qbo
noncomputable def Qbp:QZ:=mkT QZE M79 X4
theorem QQQ:QG QZE:=QZD
theorem QZF:XL Qbp:=QP QQQ XN Qg
end Go.Proofs
