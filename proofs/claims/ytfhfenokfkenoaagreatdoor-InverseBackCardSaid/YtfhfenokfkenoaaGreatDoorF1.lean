/- Turns, vectors, frames. -/
import Derived.Test.YtfhfenokfkenoaaGreatDoorAJ
open Go.Value renaming bool → Za, string → Zj
open Int renaming ofNat_eq_natCast → Zb, ofNat → Zd
open List renaming map → Zc, getElem?_eq_getElem → Zh, getElem?_append_right → Zk, getElem?_append_left → Zl, take_of_length_le → Zm, length_map → Zn, take → Zo
open Go.Eng.Ch renaming r → Ze, v → Zi
open Nat renaming le_refl → Zf, zero_add → Zg
namespace Go.Proofs
open Go Go.Eng
def XT (h:Bool)(t:Rat):Rat:=bif h then 0 else t
def HF (t:Rat):Bool:=decide (t=0)
def Uh (t:Rat):Rat:=bif HF t then 0 else((-1:Int):Rat)/t
def thH (h1:Bool)(t1:Rat)(h2:Bool)(t2:Rat):Bool:=bif h1&&h2 then false else bif h1 then HF (XT h2 t2)else bif h2 then HF (XT h1 t1)else decide (1-t1*t2=0)
def thT (h1:Bool)(t1:Rat)(h2:Bool)(t2:Rat):Rat:=bif h1&&h2 then 0 else bif h1 then Uh (XT h2 t2)else bif h2 then Uh (XT h1 t1)else bif decide (1-t1*t2=0)then 0 else(t1+t2)/(1-t1*t2)
def Qt (h:Bool)(t:Rat):Rat:=bif h then-1 else(1-t*t)/(1+t*t)
def Qd (h:Bool)(t:Rat):Rat:=bif h then 0 else(t+t)/(1+t*t)
structure FrV where
  x:Rat
  y:Rat
  h:Bool
  t:Rat
def HG (f:FrV)(x y:Rat):Rat:=f.x+(x*Qt f.h f.t-y*Qd f.h f.t)
def HH (f:FrV)(x y:Rat):Rat:=f.y+(x*Qd f.h f.t+y*Qt f.h f.t)
def XZ (f g:FrV):FrV:=⟨HG f g.x g.y,HH f g.x g.y,thH f.h f.t g.h g.t,thT f.h f.t g.h g.t⟩
theorem X8 (p:Rat):Qm p p=p:=by unfold Qm;split<;>rfl
theorem UM (t:Rat):0<=t*t:=by
 rcases @Rat.le_total 0 t with h | h
 ·exact Rat.mul_nonneg h h
 ·have:=Rat.mul_nonneg (show 0<= -t by grind) (show 0<= -t by grind);grind
theorem sq1 (t:Rat):1+t*t≠0:=by have:=UM t;grind
def L79:List (Nat×Ctr):=L52
def M79:List (Nat×YA):=M48
noncomputable def T79:QR:=mkT L79 M79 X4
theorem QZ4:QH L79:=Qfc
theorem XE:X6 M79:=QSH
theorem Qfd:QJ T79:=QU QZ4 XE Ql
def Qb2:OT:=fun _=>([],[])
def QJL (t:Rat)(a:Nat)(K:AV->Prop):Prop:=QS T79 Qb2 noL Tryz.f141 [rA t a] K
theorem QJM (t:Rat)(a:Nat)(K:AV->Prop):QJL t a K=(a+a<=4294967296/\K (AV.x true [Zi (Za false),Ze (Qm t t) (max a a)])):=by kernel_rfl
theorem Qfe (t:Rat)(a:Nat)(hc:(a<=1000000000))(K:AV->Prop)(hK:K (.x true [.v (.bool false),.r t a])):QO (QJL t a K):=by
 refine⟨?_⟩;rw[QJM];try simp only[Zb,R0,R1,Zg,Zf,R4,R2,R3]
 rw[X8,Nat.max_self];exact⟨by omega,hK⟩
def QSP:Ctr
 | [.x true [.r t a]]=>some fun K=>((a<=1000000000))/\(K (.x true [.v (.bool false),.r t a]))
 | _=>none
theorem Qb3:QI 141 QSP:=by
 refine⟨QK Tryz.func141 (by kernel_rfl),fun l T hT K hK=> ?_⟩;unfold QSP at hT;split at hT
 ·cases hT
  obtain⟨hc,hK⟩:=hK;exact QF Qfd QP Tryz.func141 (by kernel_rfl) (by kernel_rfl) (by rfl) (Qfe _ _ hc K hK)
 ·cases hT
def L80:List (Nat×Ctr):=(141,QSP)::L79
noncomputable def T80:QR:=mkT L80 M79 X4
theorem QZ5:QH L80:= .cons Qb3 QZ4
theorem Qff:QJ T80:=QU QZ5 XE Ql
def QSQ:OT:=fun _=>([],[])
def QCW  (K:AV->Prop):Prop:=QS T80 QSQ noL Tryz.f195 [] K
theorem QDu (K:AV->Prop):QCW K=(((-9223372036854775808:Int)<=0/\(0:Int)<9223372036854775808)/\K (AV.x true [Zi (Za true),Ze (↑(0:Int)) 64])):=by kernel_rfl
theorem QW8  (_hc:True)(K:AV->Prop)(hK:K (.x true [.v (.bool true),.r 0 64])):QO (QCW  K):=by
 refine⟨?_⟩;rw[QDu];try simp only[Zb,R0,R1,Zg,Zf,R4,R2,R3]
 exact⟨by omega,hK⟩
def QGy:Ctr
 | []=>some fun K=>(True)/\(K (.x true [.v (.bool true),.r 0 64]))
 | _=>none
theorem QSR:QI 195 QGy:=by
 refine⟨QK Tryz.func195 (by kernel_rfl),fun l T hT K hK=> ?_⟩;unfold QGy at hT;split at hT
 ·cases hT
  obtain⟨hc,hK⟩:=hK;exact QF Qff QP Tryz.func195 (by kernel_rfl) (by kernel_rfl) (by rfl) (QW8  hc K hK)
 ·cases hT
def L81:List (Nat×Ctr):=(195,QGy)::L80
noncomputable def T81:QR:=mkT L81 M79 X4
theorem QZ6:QH L81:= .cons QSR QZ5
theorem Qfg:QJ T81:=QU QZ6 XE Ql
def QW9:OT:=fun _=>([],[])
def QE9 (h:Bool)(t:Rat)(a:Nat)(K:AV->Prop):Prop:=QS T81 QW9 noL Tryz.f190 [.x true [.v (.bool h),.r t a]] K
theorem QGz (h:Bool)(t:Rat)(a:Nat)(K:AV->Prop):QE9 h t a K=(bif h then True/\K (AV.x true [Zi (Za true),Ze (OfNat.ofNat 0) 64])else a<=1000000000/\K (AV.x true [Zi (Za false),Ze t a])):=by kernel_rfl
theorem Qb4 (h:Bool)(t:Rat)(a:Nat)(hc:(a<=1000000000))(K:AV->Prop)(hK: ∀n,n<=a+64->K (.x true [.v (.bool h),.r (XT h t) n])):QO (QE9 h t a K):=by
 refine⟨?_⟩;rw[QGz];try simp only[R0]
 cases h with
 | true=>exact hK 64 (by omega)
 | false=>exact⟨hc,hK a (by omega)⟩
def QLs:Ctr
 | [.x true [.v (.bool h),.r t a]]=>some fun K=>((a<=1000000000))/\(∀n,n<=a+64->K (.x true [.v (.bool h),.r (XT h t) n]))
 | _=>none
theorem QXA:QI 190 QLs:=by
 refine⟨QK Tryz.func190 (by kernel_rfl),fun l T hT K hK=> ?_⟩;unfold QLs at hT;split at hT
 ·cases hT
  obtain⟨hc,hK⟩:=hK;exact QF Qfg QP Tryz.func190 (by kernel_rfl) (by kernel_rfl) (by rfl) (Qb4 _ _ _ hc K hK)
 ·cases hT
def L82:List (Nat×Ctr):=(190,QLs)::L81
noncomputable def T82:QR:=mkT L82 M79 X4
theorem QZ7:QH L82:= .cons QXA QZ6
theorem Qfh:QJ T82:=QU QZ7 XE Ql
def QXB:OT:=fun id=>bif id.beq 1 then([1,2,7,0,3,4,5,6,8,9],[[],[],[1],[0,2,1],[3,0,2,1],[4,3,0,2,1],[4,3,0,2,1],[],[7,5,4,3,0,2,1],[6,4,3,0,2,1,8,7,5]])else([],[])
def QFA (h:Bool)(t:Rat)(a:Nat)(K:AV->Prop):Prop:=QS T82 QXB noL Tryz.f194 [.x true [.v (.bool h),.r t a]] K
theorem QG0 (h:Bool)(t:Rat)(a:Nat)(K:AV->Prop):QFA h t a K=(((-9223372036854775808:Int)<= -1/\(-1:Int)<9223372036854775808)/\64+a<=4294967296/\(t≠OfNat.ofNat 0->64+a<=1000000000/\K (AV.x true [Zi (Za false),Ze (↑(-1:Int)/t) (64+a)]))/\(t=OfNat.ofNat 0->True/\K (AV.x true [Zi (Za true),Ze (OfNat.ofNat 0) 64]))):=by kernel_rfl
theorem Qb5 (h:Bool)(t:Rat)(a:Nat)(hc:(a<=900000000))(K:AV->Prop)(hK: ∀n,n<=a+64->K (.x true [.v (.bool (HF t)),.r (Uh t) n])):QO (QFA h t a K):=by
 refine⟨?_⟩;rw[QG0];try simp only[R0]
 refine⟨by omega,by omega,fun h0=>⟨by omega,?_⟩,fun h0=> ?_⟩
 ·have e:HF t=false:=decide_eq_false h0;have:=hK (64+a) (by omega);unfold Uh at this;rw[e]at this;exact this
 ·have e:HF t=true:=decide_eq_true h0;have:=hK 64 (by omega);unfold Uh at this;rw[e]at this;exact this
def QLt:Ctr
 | [.x true [.v (.bool _h),.r t a]]=>some fun K=>((a<=900000000))/\(∀n,n<=a+64->K (.x true [.v (.bool (HF t)),.r (Uh t) n]))
 | _=>none
theorem QXC:QI 194 QLt:=by
 refine⟨QK Tryz.func194 (by kernel_rfl),fun l T hT K hK=> ?_⟩;unfold QLt at hT;split at hT
 ·cases hT
  obtain⟨hc,hK⟩:=hK;exact QF Qfh QP Tryz.func194 (by kernel_rfl) (by kernel_rfl) (by rfl) (Qb5 _ _ _ hc K hK)
 ·cases hT
def L83:List (Nat×Ctr):=(194,QLt)::L82
noncomputable def T83:QR:=mkT L83 M79 X4
theorem QZ8:QH L83:= .cons QXC QZ7
theorem Qfi:QJ T83:=QU QZ8 XE Ql
def QSS:OT:=fun id=>bif id.beq 1 then([0,2,1,3,4,5],[[],[0],[],[2,1,0],[1,0,3,2],[3,2,1,0,4]])else bif id.beq 8 then([0,1,2,3,6,7,8,9,16,4,5,10,11,12,13,14,15,17,18],[[],[0],[],[2],[1,0,3,2],[4,1,0,3,2],[],[6],[],[8],[7,6,9,8,5,4,1,0,3,2],[5,4,1,0,3,2,10,7,6,9,8],[4,1,0,3,2,11,5,10,7,6,9,8],[12,4,1,0,3,2,11,5,10,7,6,9,8],[13,12,4,1,0,3,2,11,5,10,7,6,9,8],[13,12,4,1,0,3,2,11,5,10,7,6,9,8],[],[16,14,13,12,4,1,0,3,2,11,5,10,7,6,9,8],[15,13,12,4,1,0,3,2,11,5,10,7,6,9,8,17,16,14]])else([],[])
def QCX (h:Bool)(t:Rat)(a:Nat)(g:Bool)(u:Rat)(b:Nat)(K:AV->Prop):Prop:=QS T83 QSS noL Tryz.f148 [.x true [.v (.bool h),.r t a],.x true [.v (.bool g),.r u b]] K
theorem QDv (h:Bool)(t:Rat)(a:Nat)(g:Bool)(u:Rat)(b:Nat)(K:AV->Prop):QCX h t a g u b K=(a<=1000000000/\∀(n:Nat),n<=a+64->b<=1000000000/\∀(n_1:Nat),n_1<=b+64->bif h then bif g then((-9223372036854775808:Int)<=0/\(0:Int)<9223372036854775808)/\64<=1000000000/\K (AV.x true [Zi (Za false),Ze (↑(0:Int)) 64])else bif h then n_1<=900000000/\∀(n:Nat),n<=n_1+64->K (AV.x true [Zi (Za (HF (XT g u))),Ze (Uh (XT g u)) n])else bif g then n<=900000000/\∀(n_2:Nat),n_2<=n+64->K (AV.x true [Zi (Za (HF (XT h t))),Ze (Uh (XT h t)) n_2])else n+n_1+1<=4294967296/\((-9223372036854775808:Int)<=1/\(1:Int)<9223372036854775808)/\n+n_1<=4294967296/\64+(n+n_1)+1<=4294967296/\n+n_1+1+(64+(n+n_1)+1)<=4294967296/\(↑(1:Int)-XT h t*XT g u≠OfNat.ofNat 0->n+n_1+1+(64+(n+n_1)+1)<=1000000000/\K (AV.x true [Zi (Za false),Ze ((XT h t+XT g u)/(↑(1:Int)-XT h t*XT g u)) (n+n_1+1+(64+(n+n_1)+1))]))/\(↑(1:Int)-XT h t*XT g u=OfNat.ofNat 0->True/\K (AV.x true [Zi (Za true),Ze (OfNat.ofNat 0) 64]))else bif h then n_1<=900000000/\∀(n:Nat),n<=n_1+64->K (AV.x true [Zi (Za (HF (XT g u))),Ze (Uh (XT g u)) n])else bif g then n<=900000000/\∀(n_2:Nat),n_2<=n+64->K (AV.x true [Zi (Za (HF (XT h t))),Ze (Uh (XT h t)) n_2])else n+n_1+1<=4294967296/\((-9223372036854775808:Int)<=1/\(1:Int)<9223372036854775808)/\n+n_1<=4294967296/\64+(n+n_1)+1<=4294967296/\n+n_1+1+(64+(n+n_1)+1)<=4294967296/\(↑(1:Int)-XT h t*XT g u≠OfNat.ofNat 0->n+n_1+1+(64+(n+n_1)+1)<=1000000000/\K (AV.x true [Zi (Za false),Ze ((XT h t+XT g u)/(↑(1:Int)-XT h t*XT g u)) (n+n_1+1+(64+(n+n_1)+1))]))/\(↑(1:Int)-XT h t*XT g u=OfNat.ofNat 0->True/\K (AV.x true [Zi (Za true),Ze (OfNat.ofNat 0) 64]))):=by kernel_rfl
theorem QXD (h:Bool)(t:Rat)(a:Nat)(g:Bool)(u:Rat)(b:Nat)(hc:(a+b<=400000000))(K:AV->Prop)(hK: ∀n,n<=2*a+2*b+400->K (.x true [.v (.bool (thH h t g u)),.r (thT h t g u) n])):QO (QCX h t a g u b K):=by
 refine⟨?_⟩;rw[QDv];try simp only[R0]
 refine⟨by omega,fun n hn=>⟨by omega,fun m hm=> ?_⟩⟩;cases h with
 | true=>
  cases g with
  | true=>exact⟨by omega,by omega,hK 64 (by omega)⟩
  | false=>exact⟨by omega,fun k hk=>hK k (by omega)⟩
 | false=>
  cases g with
  | true=>exact⟨by omega,fun k hk=>hK k (by omega)⟩
  | false=>
   refine⟨by omega,by omega,by omega,by omega,by omega,fun h0=>⟨by omega,?_⟩,fun h0=> ?_⟩
   ·have e:decide (1-t*u=0)=false:=decide_eq_false h0;have:=hK (n+m+1+(64+(n+m)+1)) (by omega);simp only[thH,thT,Bool.and_self,R8,e]at this;exact this
   ·have e:decide (1-t*u=0)=true:=decide_eq_true h0;have:=hK 64 (by omega);simp only[thH,thT,Bool.and_self,R8,e,R7]at this;exact this
def QG1:Ctr
 | [.x true [.v (.bool h),.r t a],.x true [.v (.bool g),.r u b]]=>some fun K=>((a+b<=400000000))/\(∀n,n<=2*a+2*b+400->K (.x true [.v (.bool (thH h t g u)),.r (thT h t g u) n]))
 | _=>none
theorem QST:QI 148 QG1:=by
 refine⟨QK Tryz.func148 (by kernel_rfl),fun l T hT K hK=> ?_⟩;unfold QG1 at hT;split at hT
 ·cases hT
  obtain⟨hc,hK⟩:=hK;exact QF Qfi QP Tryz.func148 (by kernel_rfl) (by kernel_rfl) (by rfl) (QXD _ _ _ _ _ _ hc K hK)
 ·cases hT
def L84:List (Nat×Ctr):=(148,QG1)::L83
noncomputable def T84:QR:=mkT L84 M79 X4
theorem QZ9:QH L84:= .cons QST QZ8
theorem Qfj:QJ T84:=QU QZ9 XE Ql
def QXE:OT:=fun id=>bif id.beq 5 then([1,4,10,0,2,3,5,6,7,8,9,11,12],[[],[],[0,1],[2,0,1],[],[3,2,0,1,4],[2,0,1,5,3,4],[6,2,0,1,5,3,4],[7,6,2,0,1,5,3,4],[7,6,2,0,1,5,3,4],[],[10,8,7,6,2,0,1,5,3,4],[9,7,6,2,0,1,5,3,4,11,10,8]])else([],[])
def QFB (h:Bool)(t:Rat)(a:Nat)(K:AV->Prop):Prop:=QS T84 QXE noL Tryz.f149 [.x true [.v (.bool h),.r t a]] K
theorem QG2 (h:Bool)(t:Rat)(a:Nat)(K:AV->Prop):QFB h t a K=(a<=1000000000/\∀(n:Nat),n<=a+64->bif h then((-9223372036854775808:Int)<= -1/\(-1:Int)<9223372036854775808)/\K (AV.x true [Ze (↑(-1:Int)) 64])else n+n<=4294967296/\((-9223372036854775808:Int)<=1/\(1:Int)<9223372036854775808)/\64+(n+n)+1<=4294967296/\((-9223372036854775808:Int)<=1/\(1:Int)<9223372036854775808)/\64+(n+n)+1<=4294967296/\64+(n+n)+1+(64+(n+n)+1)<=4294967296/\(↑(1:Int)+XT h t*XT h t≠OfNat.ofNat 0->K (AV.x true [Ze ((↑(1:Int)-XT h t*XT h t)/(↑(1:Int)+XT h t*XT h t)) (64+(n+n)+1+(64+(n+n)+1))]))/\(↑(1:Int)+XT h t*XT h t=OfNat.ofNat 0->K (AV.x true [Zi (Za false),Zi (Zj (ByteArray.mk (Array.mk []))),Zi (Zj (ByteArray.mk (Array.mk [])))]))):=by kernel_rfl
theorem Qb6 (h:Bool)(t:Rat)(a:Nat)(hc:(a<=500000000))(K:AV->Prop)(hK: ∀n,n<=4*a+400->K (rA (Qt h t) n)):QO (QFB h t a K):=by
 refine⟨?_⟩;rw[QG2];try simp only[Zb,R0,R1,Zg,Zf,R4,R2,R3]
 refine⟨by omega,fun n hn=> ?_⟩;cases h with
 | true=>exact⟨by omega,hK 64 (by omega)⟩
 | false=>exact⟨by omega,by omega,by omega,by omega,by omega,by omega,fun _=>hK _ (by omega),fun h0=>absurd h0 (sq1 t)⟩
def QLu:Ctr
 | [.x true [.v (.bool h),.r t a]]=>some fun K=>((a<=500000000))/\(∀n,n<=4*a+400->K (rA (Qt h t) n))
 | _=>none
theorem QXF:QI 149 QLu:=by
 refine⟨QK Tryz.func149 (by kernel_rfl),fun l T hT K hK=> ?_⟩;unfold QLu at hT;split at hT
 ·cases hT
  obtain⟨hc,hK⟩:=hK;exact QF Qfj QP Tryz.func149 (by kernel_rfl) (by kernel_rfl) (by rfl) (Qb6 _ _ _ hc K hK)
 ·cases hT
def L85:List (Nat×Ctr):=(149,QLu)::L84
noncomputable def T85:QR:=mkT L85 M79 X4
theorem QaA:QH L85:= .cons QXF QZ9
theorem Qfk:QJ T85:=QU QaA XE Ql
def QXG:OT:=fun id=>bif id.beq 2 then([0,1,2,3,6,7,8,9,16,4,5,10,11,12,13,14,15,17,18],[[],[0],[],[2],[1,0,3,2],[4,1,0,3,2],[],[6],[],[8],[7,6,9,8,5,4,1,0,3,2],[5,4,1,0,3,2,10,7,6,9,8],[4,1,0,3,2,11,5,10,7,6,9,8],[12,4,1,0,3,2,11,5,10,7,6,9,8],[13,12,4,1,0,3,2,11,5,10,7,6,9,8],[13,12,4,1,0,3,2,11,5,10,7,6,9,8],[],[16,14,13,12,4,1,0,3,2,11,5,10,7,6,9,8],[15,13,12,4,1,0,3,2,11,5,10,7,6,9,8,17,16,14]])else([],[])
def QFC (h:Bool)(t:Rat)(a:Nat)(K:AV->Prop):Prop:=QS T85 QXG noL Tryz.f150 [.x true [.v (.bool h),.r t a]] K
theorem QG3 (h:Bool)(t:Rat)(a:Nat)(K:AV->Prop):QFC h t a K=(a<=1000000000/\∀(n:Nat),n<=a+64->n+n+1<=4294967296/\((-9223372036854775808:Int)<=1/\(1:Int)<9223372036854775808)/\n+n<=4294967296/\64+(n+n)+1<=4294967296/\n+n+1+(64+(n+n)+1)<=4294967296/\(↑(1:Int)+XT h t*XT h t≠OfNat.ofNat 0->K (AV.x true [Ze ((XT h t+XT h t)/(↑(1:Int)+XT h t*XT h t)) (n+n+1+(64+(n+n)+1))]))/\(↑(1:Int)+XT h t*XT h t=OfNat.ofNat 0->K (AV.x true [Zi (Za false),Zi (Zj (ByteArray.mk (Array.mk []))),Zi (Zj (ByteArray.mk (Array.mk [])))]))):=by kernel_rfl
theorem Qb7 (h:Bool)(t:Rat)(a:Nat)(hc:(a<=500000000))(K:AV->Prop)(hK: ∀n,n<=4*a+400->K (rA (Qd h t) n)):QO (QFC h t a K):=by
 refine⟨?_⟩;rw[QG3];try simp only[Zb,R0,R1,Zg,Zf,R4,R2,R3]
 refine⟨by omega,fun n hn=>⟨by omega,by omega,by omega,by omega,by omega,fun h0=> ?_,fun h0=>absurd h0 (sq1 _)⟩⟩;have e:(XT h t+XT h t)/(((1:Int):Rat)+XT h t*XT h t)=Qd h t:=by
  cases h with
  | true=>show((0:Rat)+0)/_=0;rw[Rat.add_zero,Rat.div_def,Rat.zero_mul]
  | false=>rfl
 rw[e];exact hK _ (by omega)
def QLv:Ctr
 | [.x true [.v (.bool h),.r t a]]=>some fun K=>((a<=500000000))/\(∀n,n<=4*a+400->K (rA (Qd h t) n))
 | _=>none
theorem QXH:QI 150 QLv:=by
 refine⟨QK Tryz.func150 (by kernel_rfl),fun l T hT K hK=> ?_⟩;unfold QLv at hT;split at hT
 ·cases hT
  obtain⟨hc,hK⟩:=hK;exact QF Qfk QP Tryz.func150 (by kernel_rfl) (by kernel_rfl) (by rfl) (Qb7 _ _ _ hc K hK)
 ·cases hT
def L86:List (Nat×Ctr):=(150,QLv)::L85
noncomputable def T86:QR:=mkT L86 M79 X4
theorem QaB:QH L86:= .cons QXH QaA
theorem Qfl:QJ T86:=QU QaB XE Ql
def QXI:OT:=fun id=>bif id.beq 1 then([0,1,2,3,5,6,7,8,4,9,10,11],[[],[0],[],[2],[1,0,3,2],[],[5],[],[7],[6,5,8,7,4,1,0,3,2],[4,1,0,3,2,9,6,5,8,7],[10,4,1,0,3,2,9,6,5,8,7]])else([],[])
def QFD (px:Rat)(a:Nat)(py:Rat)(b:Nat)(qx:Rat)(c:Nat)(qy:Rat)(d:Nat)(K:AV->Prop):Prop:=QS T86 QXI noL Tryz.f108 [.x true [.r px a,.r py b],.x true [.r qx c,.r qy d]] K
theorem QG4 (px:Rat)(a:Nat)(py:Rat)(b:Nat)(qx:Rat)(c:Nat)(qy:Rat)(d:Nat)(K:AV->Prop):QFD px a py b qx c qy d K=(a+c+1<=4294967296/\b+d+1<=4294967296/\K (AV.x true [Ze (px+qx) (a+c+1),Ze (py+qy) (b+d+1)])):=by kernel_rfl
theorem Qb8 (px:Rat)(a:Nat)(py:Rat)(b:Nat)(qx:Rat)(c:Nat)(qy:Rat)(d:Nat)(hc:(a+c<=4294967290)/\(b+d<=4294967290))(K:AV->Prop)(hK:K (.x true [.r (px+qx) (a+c+1),.r (py+qy) (b+d+1)])):QO (QFD px a py b qx c qy d K):=by
 refine⟨?_⟩;rw[QG4];try simp only[Zb,R0,R1,Zg,Zf,R4,R2,R3]
 exact⟨by omega,by omega,hK⟩
def QLw:Ctr
 | [.x true [.r px a,.r py b],.x true [.r qx c,.r qy d]]=>some fun K=>((a+c<=4294967290)/\(b+d<=4294967290))/\(K (.x true [.r (px+qx) (a+c+1),.r (py+qy) (b+d+1)]))
 | _=>none
theorem QXJ:QI 108 QLw:=by
 refine⟨QK Tryz.func108 (by kernel_rfl),fun l T hT K hK=> ?_⟩;unfold QLw at hT;split at hT
 ·cases hT
  obtain⟨hc,hK⟩:=hK;exact QF Qfl QP Tryz.func108 (by kernel_rfl) (by kernel_rfl) (by rfl) (Qb8 _ _ _ _ _ _ _ _ hc K hK)
 ·cases hT
def L87:List (Nat×Ctr):=(108,QLw)::L86
noncomputable def T87:QR:=mkT L87 M79 X4
theorem QaC:QH L87:= .cons QXJ QaB
theorem Qfm:QJ T87:=QU QaC XE Ql
def QXK:OT:=fun id=>bif id.beq 1 then([0,1,2,3,5,6,7,8,4,9,10,11],[[],[0],[],[2],[1,0,3,2],[],[5],[],[7],[6,5,8,7,4,1,0,3,2],[4,1,0,3,2,9,6,5,8,7],[10,4,1,0,3,2,9,6,5,8,7]])else([],[])
def QFE (px:Rat)(a:Nat)(py:Rat)(b:Nat)(qx:Rat)(c:Nat)(qy:Rat)(d:Nat)(K:AV->Prop):Prop:=QS T87 QXK noL Tryz.f222 [.x true [.r px a,.r py b],.x true [.r qx c,.r qy d]] K
theorem QG5 (px:Rat)(a:Nat)(py:Rat)(b:Nat)(qx:Rat)(c:Nat)(qy:Rat)(d:Nat)(K:AV->Prop):QFE px a py b qx c qy d K=(a+c<=4294967296/\b+d<=4294967296/\a+c+(b+d)+1<=4294967296/\K (AV.x true [Ze (px*qx+py*qy) (a+c+(b+d)+1)])):=by kernel_rfl
theorem Qb9 (px:Rat)(a:Nat)(py:Rat)(b:Nat)(qx:Rat)(c:Nat)(qy:Rat)(d:Nat)(hc:(a+b+c+d<=4294967290))(K:AV->Prop)(hK:K (rA (px*qx+py*qy) (a+c+(b+d)+1))):QO (QFE px a py b qx c qy d K):=by
 refine⟨?_⟩;rw[QG5];try simp only[Zb,R0,R1,Zg,Zf,R4,R2,R3]
 exact⟨by omega,by omega,by omega,hK⟩
def QLx:Ctr
 | [.x true [.r px a,.r py b],.x true [.r qx c,.r qy d]]=>some fun K=>((a+b+c+d<=4294967290))/\(K (rA (px*qx+py*qy) (a+c+(b+d)+1)))
 | _=>none
theorem QXL:QI 222 QLx:=by
 refine⟨QK Tryz.func222 (by kernel_rfl),fun l T hT K hK=> ?_⟩;unfold QLx at hT;split at hT
 ·cases hT
  obtain⟨hc,hK⟩:=hK;exact QF Qfm QP Tryz.func222 (by kernel_rfl) (by kernel_rfl) (by rfl) (Qb9 _ _ _ _ _ _ _ _ hc K hK)
 ·cases hT
def L88:List (Nat×Ctr):=(222,QLx)::L87
theorem Qfn:QH L88:= .cons QXL QaC
def L89:List (Nat×Ctr):=L88
noncomputable def T89:QR:=mkT L89 M79 X4
theorem QaD:QH L89:=Qfn
theorem Qfo:QJ T89:=QU QaD XE Ql
def QSU:OT:=fun id=>bif id.beq 1 then([0,2,5,1,3,4,6],[[],[0],[],[2,1,0],[1,0,3,2],[],[5,4,1,0,3,2]])else bif id.beq 2 then([0,1,2,3,5,6,7,8,11,12,13,14,16,17,18,19,4,9,10,15,20,21,22,23],[[],[0],[],[2],[1,0,3,2],[],[5],[],[7],[6,5,8,7,4,1,0,3,2],[4,1,0,3,2,9,6,5,8,7],[],[11],[],[13],[12,11,14,13,10,4,1,0,3,2,9,6,5,8,7],[],[16],[],[18],[17,16,19,18,15,12,11,14,13,10,4,1,0,3,2,9,6,5,8,7],[15,12,11,14,13,10,4,1,0,3,2,9,6,5,8,7,20,17,16,19,18],[10,4,1,0,3,2,9,6,5,8,7,21,15,12,11,14,13,20,17,16,19,18],[22,10,4,1,0,3,2,9,6,5,8,7,21,15,12,11,14,13,20,17,16,19,18]])else([],[])
def QCY (px:Rat)(a:Nat)(py:Rat)(b:Nat)(h:Bool)(t:Rat)(c:Nat)(K:AV->Prop):Prop:=QS T89 QSU noL Tryz.f93 [.x true [.r px a,.r py b],.x true [.v (.bool h),.r t c]] K
theorem QDw (px:Rat)(a:Nat)(py:Rat)(b:Nat)(h:Bool)(t:Rat)(c:Nat)(K:AV->Prop):QCY px a py b h t c K=(c<=500000000/\∀(n:Nat),n<=4*c+400->c<=500000000/\∀(n_1:Nat),n_1<=4*c+400->a+n<=4294967296/\b+n_1<=4294967296/\a+n+(b+n_1)+1<=4294967296/\a+n_1<=4294967296/\b+n<=4294967296/\a+n_1+(b+n)+1<=4294967296/\K (AV.x true [Ze (px*Qt h t-py*Qd h t) (a+n+(b+n_1)+1),Ze (px*Qd h t+py*Qt h t) (a+n_1+(b+n)+1)])):=by kernel_rfl
theorem QXM (px:Rat)(a:Nat)(py:Rat)(b:Nat)(h:Bool)(t:Rat)(c:Nat)(hc:(a+b+c<=400000000))(K:AV->Prop)(hK: ∀n m,n<=a+b+8*c+1000->m<=a+b+8*c+1000->K (.x true [.r (px*Qt h t-py*Qd h t) n,.r (px*Qd h t+py*Qt h t) m])):QO (QCY px a py b h t c K):=by
 refine⟨?_⟩;rw[QDw];try simp only[Zb,R0,R1,Zg,Zf,R4,R2,R3]
 exact⟨by omega,fun n hn=>⟨by omega,fun m hm=>⟨by omega,by omega,by omega,by omega,by omega,by omega,hK _ _ (by omega) (by omega)⟩⟩⟩
def QG6:Ctr
 | [.x true [.r px a,.r py b],.x true [.v (.bool h),.r t c]]=>some fun K=>((a+b+c<=400000000))/\(∀n m,n<=a+b+8*c+1000->m<=a+b+8*c+1000->K (.x true [.r (px*Qt h t-py*Qd h t) n,.r (px*Qd h t+py*Qt h t) m]))
 | _=>none
theorem QSV:QI 93 QG6:=by
 refine⟨QK Tryz.func93 (by kernel_rfl),fun l T hT K hK=> ?_⟩;unfold QG6 at hT;split at hT
 ·cases hT
  obtain⟨hc,hK⟩:=hK;exact QF Qfo QP Tryz.func93 (by kernel_rfl) (by kernel_rfl) (by rfl) (QXM _ _ _ _ _ _ _ hc K hK)
 ·cases hT
def L90:List (Nat×Ctr):=(93,QG6)::L89
noncomputable def T90:QR:=mkT L90 M79 X4
theorem QaE:QH L90:= .cons QSV QaD
theorem Qfp:QJ T90:=QU QaE XE Ql
def QXN:OT:=fun id=>bif id.beq 1 then([0,1,2,3,4,5,6,7],[[],[0],[],[],[3],[2,4,3],[1,0,5,2,4,3],[6,1,0,5,2,4,3]])else([],[])
def QFF (x:Rat)(i:Nat)(y:Rat)(j:Nat)(h:Bool)(t:Rat)(k:Nat)(px:Rat)(a:Nat)(py:Rat)(b:Nat)(K:AV->Prop):Prop:=QS T90 QXN noL Tryz.f82 [.x true [.r x i,.r y j,.v (.bool h),.r t k],.x true [.r px a,.r py b]] K
theorem QG7 (x:Rat)(i:Nat)(y:Rat)(j:Nat)(h:Bool)(t:Rat)(k:Nat)(px:Rat)(a:Nat)(py:Rat)(b:Nat)(K:AV->Prop):QFF x i y j h t k px a py b K=(a+b+k<=400000000/\∀(n m:Nat),n<=a+b+8*k+1000->m<=a+b+8*k+1000->(i+n<=4294967290/\j+m<=4294967290)/\K (AV.x true [Ze (x+(px*Qt h t-py*Qd h t)) (i+n+1),Ze (y+(px*Qd h t+py*Qt h t)) (j+m+1)])):=by kernel_rfl
theorem QcA (x:Rat)(i:Nat)(y:Rat)(j:Nat)(h:Bool)(t:Rat)(k:Nat)(px:Rat)(a:Nat)(py:Rat)(b:Nat)(hc:(i+j+k+a+b<=400000000))(K:AV->Prop)(hK: ∀n m,n<=i+a+b+8*k+1100->m<=j+a+b+8*k+1100->K (.x true [.r (HG ⟨x,y,h,t⟩ px py) n,.r (HH ⟨x,y,h,t⟩ px py) m])):QO (QFF x i y j h t k px a py b K):=by
 refine⟨?_⟩;rw[QG7];try simp only[Zb,R0,R1,Zg,Zf,R4,R2,R3]
 exact⟨by omega,fun n m hn hm=>⟨by omega,hK _ _ (by omega) (by omega)⟩⟩
def QLy:Ctr
 | [.x true [.r x i,.r y j,.v (.bool h),.r t k],.x true [.r px a,.r py b]]=>some fun K=>((i+j+k+a+b<=400000000))/\(∀n m,n<=i+a+b+8*k+1100->m<=j+a+b+8*k+1100->K (.x true [.r (HG ⟨x,y,h,t⟩ px py) n,.r (HH ⟨x,y,h,t⟩ px py) m]))
 | _=>none
theorem QXO:QI 82 QLy:=by
 refine⟨QK Tryz.func82 (by kernel_rfl),fun l T hT K hK=> ?_⟩;unfold QLy at hT;split at hT
 ·cases hT
  obtain⟨hc,hK⟩:=hK;exact QF Qfp QP Tryz.func82 (by kernel_rfl) (by kernel_rfl) (by rfl) (QcA _ _ _ _ _ _ _ _ _ _ _ hc K hK)
 ·cases hT
def L91:List (Nat×Ctr):=(82,QLy)::L90
noncomputable def T91:QR:=mkT L91 M79 X4
theorem QaF:QH L91:= .cons QXO QaE
theorem Qfq:QJ T91:=QU QaF XE Ql
def QSW:OT:=fun id=>bif id.beq 1 then([0,1,2,4,5,6,7,3,8,9,10],[[],[],[1],[0,2,1],[],[4],[],[6],[5,4,7,6,3,0,2,1],[3,0,2,1,8,5,4,7,6],[9,3,0,2,1,8,5,4,7,6]])else([],[])
def QCZ (x:Rat)(i:Nat)(y:Rat)(j:Nat)(h:Bool)(t:Rat)(k:Nat)(px:Rat)(a:Nat)(py:Rat)(b:Nat)(g:Bool)(u:Rat)(l:Nat)(K:AV->Prop):Prop:=QS T91 QSW noL Tryz.f91 [.x true [.r x i,.r y j,.v (.bool h),.r t k],.x true [.r px a,.r py b,.v (.bool g),.r u l]] K
theorem QDx (x:Rat)(i:Nat)(y:Rat)(j:Nat)(h:Bool)(t:Rat)(k:Nat)(px:Rat)(a:Nat)(py:Rat)(b:Nat)(g:Bool)(u:Rat)(l:Nat)(K:AV->Prop):QCZ x i y j h t k px a py b g u l K=(i+j+k+a+b<=400000000/\∀(n m:Nat),n<=i+a+b+8*k+1100->m<=j+a+b+8*k+1100->k+l<=400000000/\∀(n_1:Nat),n_1<=2*k+2*l+400->K (AV.x true [Ze (HG (FrV.mk x y h t) px py) n,Ze (HH (FrV.mk x y h t) px py) m,Zi (Za (thH h t g u)),Ze (thT h t g u) n_1])):=by kernel_rfl
theorem QXP (x:Rat)(i:Nat)(y:Rat)(j:Nat)(h:Bool)(t:Rat)(k:Nat)(px:Rat)(a:Nat)(py:Rat)(b:Nat)(g:Bool)(u:Rat)(l:Nat)(hc:(i+j+k+a+b+l<=400000000))(K:AV->Prop)(hK: ∀f n m o,f=XZ ⟨x,y,h,t⟩ ⟨px,py,g,u⟩->n<=i+a+b+8*k+1100->m<=j+a+b+8*k+1100->o<=2*k+2*l+400->K (.x true [.r f.x n,.r f.y m,.v (.bool f.h),.r f.t o])):QO (QCZ x i y j h t k px a py b g u l K):=by
 refine⟨?_⟩;rw[QDx];try simp only[Zb,R0,R1,Zg,Zf,R4,R2,R3]
 exact⟨by omega,fun n m hn hm=>⟨by omega,fun o ho=>hK _ _ _ _ rfl (by omega) (by omega) (by omega)⟩⟩
def QG8:Ctr
 | [.x true [.r x i,.r y j,.v (.bool h),.r t k],.x true [.r px a,.r py b,.v (.bool g),.r u l]]=>some fun K=>((i+j+k+a+b+l<=400000000))/\(∀f n m o,f=XZ ⟨x,y,h,t⟩ ⟨px,py,g,u⟩->n<=i+a+b+8*k+1100->m<=j+a+b+8*k+1100->o<=2*k+2*l+400->K (.x true [.r f.x n,.r f.y m,.v (.bool f.h),.r f.t o]))
 | _=>none
theorem QSX:QI 91 QG8:=by
 refine⟨QK Tryz.func91 (by kernel_rfl),fun l T hT K hK=> ?_⟩;unfold QG8 at hT;split at hT
 ·cases hT
  obtain⟨hc,hK⟩:=hK;exact QF Qfq QP Tryz.func91 (by kernel_rfl) (by kernel_rfl) (by rfl) (QXP _ _ _ _ _ _ _ _ _ _ _ _ _ _ hc K hK)
 ·cases hT
def L92:List (Nat×Ctr):=(91,QG8)::L91
noncomputable def T92:QR:=mkT L92 M79 X4
theorem QaG:QH L92:= .cons QSX QaF
theorem Qfr:QJ T92:=QU QaG XE Ql
end Go.Proofs
namespace Go.Proofs
open Go Go.Eng
def YG:FrV->List Qw->List Rat->List FrV
 | b,L::ls,q::qs=>XZ b ⟨0,0,false,q⟩::YG (XZ (XZ b ⟨0,0,false,q⟩) ⟨L.len,0,false,0⟩) ls qs
 | b,_,_=>[b]
def WT (a:Qs):FrV:=⟨a.x,a.y,a.half,a.t⟩
def bnd:Nat->Nat
 | 0=>63
 | i+1=>81*bnd i+12279
def frN (n:Nat)(f:FrV):List Ch:=[.r f.x n,.r f.y n,.v (.bool f.h),.r f.t n]
abbrev KV (f:FrV):List Ch:=[.r f.x 12800000,.r f.y 12800000,.v (.bool f.h),.r f.t 12800000]
theorem QCa {xs:List (List Ch)}{a b:List Ch}(hx:QC xs xs)(h:MC (fun _=>none) a b/\Qh b=[]):QC (xs++[a]) (xs++[b]):=by
 refine⟨by simp,fun i x y hx' hy'=> ?_⟩;by_cases hi:i<xs.length
 ·rw[Zl hi]at hx' hy';exact hx.2 i x y hx' hy'
 ·rw[Zk (by omega)]at hx' hy';have:i-xs.length=0:=by
   have:=(List.getElem?_eq_some_iff.1 hx').1;simp at this;omega
  rw[this]at hx' hy';cases hx';cases hy';exact h
theorem QaH {n m o N:Nat}{f:FrV}(h1:n<=N)(h2:m<=N)(h3:o<=N):MC (fun _=>none) [.r f.x n,.r f.y m,.v (.bool f.h),.r f.t o] (frN N f)/\Qh (frN N f)=[]:=⟨.r h1 (.r h2 (.v (.r h3 .nil))),rfl⟩
theorem QcB {n:Nat}(h:n<=3):bnd n<=120000000:=by
 have:n=0∨n=1∨n=2∨n=3:=by omega
 rcases this with e | e | e | e<;>rw[e]<;>decide
theorem QcC (fs:List FrV):QC (fs.map KV) (fs.map KV):=by
 refine⟨rfl,fun i x y hx hy=> ?_⟩;rw[hx]at hy;cases hy
 rw[List.getElem?_map]at hx;cases hf:fs[i]? with
 | none=>rw[hf]at hx;cases hx
 | some f=>rw[hf]at hx;cases hx;exact QaH (Zf _) (Zf _) (Zf _)
theorem QcD {fs:List FrV}{f:FrV}{m i:Nat}{g:FrV}(hm:m<=120000000)(h:(fs++[f])[i]? =some g): ∃n,n<=120000000/\(fs.map KV++[frN m f])[i]? =some (frN n g):=by
 by_cases hi:i<fs.length
 ·rw[Zl hi]at h;exact⟨12800000,by omega,by rw[Zl (by simpa using hi),List.getElem?_map,h];rfl⟩
 ·rw[Zk (by omega)]at h;have:i-fs.length=0:=by
   have:=(List.getElem?_eq_some_iff.1 h).1;simp at this;omega
  rw[this]at h;cases h
  exact⟨m,hm,by rw[Zk (by simp;omega),Zn,this];rfl⟩
structure FmX where
 fs:List FrV
 b:FrV
 i:Nat
structure FmI (a:Qs)(qs:List Rat)(x:FmX):Prop where
 n:x.fs.length=x.i
 le:x.i<=a.links.length
 eq:x.fs++YG x.b (a.links.drop x.i) (qs.drop x.i)=YG (WT a) a.links qs
def QLz (a:Qs)(b:Nat)(qs:List Rat):LI:=fun _=> .inv ⟨FmX,fun x=>⟨[(1,sR b qs),(2,.x false [.p 2 0]),(7,.x false [.p 7 0]),(8,.x false [.p 8 0]),(9,.x false [.p 9 0]),(10,.x false [.w 500 0 x.fs.length]),(29,.x false [.s 16 (a.links.map QN)]),(30,iA .i64 a.links.length),(31,iA .i64 x.i)],
 [(2,.box 34 (WH a)),(7,.box 31 (frN (bnd x.i) x.b)),(8,.box 27 [.r ((0:Int):Rat) 64,.r ((0:Int):Rat) 64]),(9,.box 29 [.v (.bool false),.r ((0:Int):Rat) 64]),(500,.row 31 10 (x.fs.map KV))]⟩,FmI a qs,fun x=>a.links.length-x.i,fun _=>0⟩
def QL0:OT:=fun id=>bif id.beq 11 then([0,1,2,3,4,5,9,6,7,8,10],[[],[],[],[],[2,3],[4,2,3],[5,4,2,3],[1,6,5,4,2,3],[0,7,1,6,5,4,2,3],[],[9,8,0,7,1,6,5,4,2,3]])else bif id.beq 13 then([0,1,2,5,3,4,6,7,8],[[],[],[1],[],[2,1,3],[],[4,2,1,3,5],[0,6,4,2,1,3,5],[7,0,6,4,2,1,3,5]])else([],[])
def HI (a:Qs)(b:Nat)(qs:List Rat)(K:AV->Prop):Prop:=QS T92 QL0 (QLz a b qs) Tryz.f80 [Ug a,sR b qs] K
theorem QAY (a:Qs)(b:Nat)(qs:List Rat)(K:AV->Prop):HI a b qs K=(∃(a_1:Qs),[Zi (Zj a.name),Ze a.x 63,Ze a.y 63,Zi (Za a.half),Ze a.t 63,Ch.s 16 (Zc QN a.links)]=[Zi (Zj a_1.name),Ze a_1.x 63,Ze a_1.y 63,Zi (Za a_1.half),Ze a_1.t 63,Ch.s 16 (Zc QN a_1.links)]/\(Q7 a_1/\Zd (lR b qs).length=Zd a_1.links.length)/\((-9223372036854775808:Int)<=0/\(0:Int)<9223372036854775808)/\((-9223372036854775808:Int)<=0/\(0:Int)<9223372036854775808)/\((-9223372036854775808:Int)<=0/\(0:Int)<9223372036854775808)/\64<=1000000000/\(∃(x:FmX),(FmI a qs x/\OfNat.ofNat 0=0)/\3=3/\lR b qs=lR b qs/\0=0/\0=0/\0=0/\0=0/\Value.slice none 0 0=Value.slice none 0 0/\0=0/\x.fs.length=0/\16=16/\Zc QN a.links=Zc QN a.links/\Zd (Zc QN a.links).length=Zd a.links.length/\0=Zd x.i/\34=34/\a.name=a.name/\a.x=a.x/\63<=63/\a.y=a.y/\63<=63/\a.half=a.half/\a.t=a.t/\63<=63/\16=16/\Zc QN a.links=Zc QN a.links/\31=31/\a.x=x.b.x/\63<=bnd x.i/\a.y=x.b.y/\63<=bnd x.i/\a.half=x.b.h/\a.t=x.b.t/\63<=bnd x.i/\27=27/\(↑(0:Int):Rat)=(↑(0:Int):Rat)/\64<=64/\(↑(0:Int):Rat)=(↑(0:Int):Rat)/\64<=64/\29=29/\false=false/\(↑(0:Int):Rat)=(↑(0:Int):Rat)/\64<=64/\Zc KV x.fs=[]/\True)/\∀(x:FmX),FmI a qs x->OfNat.ofNat 0=0->bif decide (Zd x.i<Zd a.links.length)then(0<=Zd x.i/\Zd x.i<Zd (Zc QN a.links).length)/\∃(q:Rat)(n:Nat)(q_1:Rat)(n_1:Nat)(q_2:Rat)(n_2:Nat)(q_3:Rat)(n_3:Nat)(q_4:Rat)(n_4:Nat)(ys:List (List Ch)),ldE (Zc QN a.links) (Zd x.i).toNat 0 16=some [Ze q n,Ze q_1 n_1,Ze q_2 n_2,Ze q_3 n_3,Ze q_4 n_4,Ch.s 6 ys]/\(0<=Zd x.i/\Zd x.i<Zd (lR b qs).length)/\∃(q_5:Rat)(n_5:Nat),ldE (lR b qs) (Zd x.i).toNat 0 3=some [Ze q_5 n_5]/\n_5<=1000000000/\bnd x.i+bnd x.i+bnd x.i+64+64+n_5<=400000000/\∀(f:FrV) (n_6 m o:Nat),f=XZ (FrV.mk x.b.x x.b.y x.b.h x.b.t) (FrV.mk (↑(0:Int)) (↑(0:Int)) false q_5)->n_6<=bnd x.i+64+64+8*bnd x.i+1100->m<=bnd x.i+64+64+8*bnd x.i+1100->o<=2*bnd x.i+2*n_5+400->((x.fs.length+1)*128<=140737488355328/\x.fs.length+1<=9223372036854775807)/\((-9223372036854775808:Int)<=0/\(0:Int)<9223372036854775808)/\n_6+m+o+n+64+64<=400000000/\∀(f_1:FrV) (n_7 m_1 o_1:Nat),f_1=XZ (FrV.mk f.x f.y f.h f.t) (FrV.mk q (↑(0:Int)) false ↑(0:Int))->n_7<=n_6+n+64+8*o+1100->m_1<=m+n+64+8*o+1100->o_1<=2*o+128+400->∃(x':FmX),(FmI a qs x'/\OfNat.ofNat 0=0/\a.links.length-x'.i<a.links.length-x.i)/\3=3/\lR b qs=lR b qs/\0=0/\0=0/\0=0/\0=0/\0=0/\x.fs.length+1=x'.fs.length/\16=16/\Zc QN a.links=Zc QN a.links/\Zd a.links.length=Zd a.links.length/\IntKind.i64.wrap (Zd x.i+1)=Zd x'.i/\34=34/\a.name=a.name/\a.x=a.x/\63<=63/\a.y=a.y/\63<=63/\a.half=a.half/\a.t=a.t/\63<=63/\16=16/\Zc QN a.links=Zc QN a.links/\31=31/\f_1.x=x'.b.x/\n_7<=bnd x'.i/\f_1.y=x'.b.y/\m_1<=bnd x'.i/\f_1.h=x'.b.h/\f_1.t=x'.b.t/\o_1<=bnd x'.i/\27=27/\(↑(0:Int):Rat)=(↑(0:Int):Rat)/\64<=64/\(↑(0:Int):Rat)=(↑(0:Int):Rat)/\64<=64/\29=29/\false=false/\(↑(0:Int):Rat)=(↑(0:Int):Rat)/\64<=64/\31=31/\10=10/\(Zo x.fs.length (Zc KV x.fs)++[[Ze f.x n_6,Ze f.y m,Zi (Za f.h),Ze f.t o]]=Zc KV x'.fs∨QC (Zo x.fs.length (Zc KV x.fs)++[[Ze f.x n_6,Ze f.y m,Zi (Za f.h),Ze f.t o]]) (Zc KV x'.fs))/\True else((x.fs.length+1)*128<=140737488355328/\x.fs.length+1<=9223372036854775807)/\K (AV.t [(false,[Ch.s 10 (Zo (x.fs.length+1) (List.drop 0 (Zo x.fs.length (Zc KV x.fs)++[[Ze x.b.x (bnd x.i),Ze x.b.y (bnd x.i),Zi (Za x.b.h),Ze x.b.t (bnd x.i)]])))]),(false,[Zi (Value.int IntKind.i64 0)])])):=by kernel_rfl
theorem QPa (a:Qs)(b:Nat)(qs:List Rat)(hc:(Q7 a)/\(b<=400/\qs.length=a.links.length))(K:AV->Prop)(hK: ∀(fs:List FrV) (f:FrV),fs++[f]=YG (WT a) a.links qs->fs.length=a.links.length->K (.t [(false,[.s 10 (fs.map KV++[frN (bnd a.links.length) f])]),(false,[.v (.int .i64 0)])])):QO (HI a b qs K):=by
 refine⟨?_⟩;rw[QAY];try simp only[Zb,R0,R1,Zf,R4]
 obtain⟨ha,hb,hq⟩:=hc;have hn:=ha.n;refine⟨a,rfl,⟨ha,by rw[Xw,hq]⟩,by omega,by omega,by omega,by omega,⟨⟨[],WT a,0⟩,⟨rfl,by simp,rfl⟩,rfl,by simp,rfl,rfl,Zf _,rfl,Zf _,rfl,rfl,Zf _,rfl⟩,fun x ⟨h1,h2,h3⟩=>QG (fun hp=> ?_) (fun hp=> ?_)⟩
 ·have hp:x.i<a.links.length:=by have:=R5 hp;omega
  obtain⟨L,hL⟩: ∃L,a.links[x.i]? =some L:=⟨_,Zh hp⟩
  obtain⟨q,hqi⟩: ∃q,qs[x.i]? =some q:=⟨_,Zh (by omega)⟩
  have hbn:bnd x.i<=1420221:=by
   have:x.i=0∨x.i=1∨x.i=2:=by omega
   rcases this with e | e | e<;>rw[e]<;>decide
  refine⟨by rw[Zn];omega,_,_,_,_,_,_,_,_,_,_,_,HB (by simpa using hL),by rw[Xw];omega,q,b,JB (by simpa using hqi),by omega,by omega,fun f n m o hf hn1 hm ho=> ?_⟩;subst hf;have e1:x.fs.map KV=Zo x.fs.length (x.fs.map KV):=by rw[Zm (by simp)]
  rw[<-e1];refine⟨⟨by omega,by omega⟩,by omega,by omega,fun g n' m' o' hg hn' hm' ho'=> ?_⟩;subst hg;have eb:bnd (x.i+1)=81*bnd x.i+12279:=rfl;refine⟨⟨x.fs++[XZ x.b ⟨0,0,false,q⟩],XZ (XZ x.b ⟨0,0,false,q⟩) ⟨L.len,0,false,0⟩,x.i+1⟩,⟨⟨by simp[h1],hp,?_⟩,by simp only;omega⟩,by simp,by rw[w64 (by omega)];simp,rfl,by simp only[eb];omega,rfl,by simp only[eb];omega,rfl,rfl,by simp only[eb];omega,.inr ?_⟩
  ·simp only;rw[List.append_assoc,<-h3];congr 1;rw[List.drop_eq_getElem_cons hp,List.drop_eq_getElem_cons (by omega:x.i<qs.length)];rw[Zh hp]at hL;rw[Zh (by omega)]at hqi;rw[Option.some.inj hL,Option.some.inj hqi];rfl
  ·rw[List.map_append];exact QCa (QcC _) (QaH (by omega) (by omega) (by omega))
 ·have hp:x.i=a.links.length:=by have:=R6 hp;omega
  refine⟨by omega,?_⟩;have e:a.links.drop x.i=[]:=by rw[hp,List.drop_length]
  rw[e,show YG x.b [] (qs.drop x.i)=[x.b]by cases qs.drop x.i<;>rfl]at h3;have:=hK x.fs x.b h3 (by omega);rw[Zm (by simp),List.drop_zero,Zm (by simp),hp];exact this
def GI:Ctr
 | [.x true xs,.x false [.s 3 ys]]=>some fun K=> ∃(a:Qs) (b:Nat) (qs:List Rat),xs=WH a/\ys=lR b qs/\((Q7 a)/\(b<=400/\qs.length=a.links.length))/\(∀(fs:List FrV) (f:FrV),fs++[f]=YG (WT a) a.links qs->fs.length=a.links.length->K (.t [(false,[.s 10 (fs.map KV++[frN (bnd a.links.length) f])]),(false,[.v (.int .i64 0)])]))
 | _=>none
theorem QL1:QI 80 GI:=by
 refine⟨QK Tryz.func80 (by kernel_rfl),fun l T hT K hK=> ?_⟩;unfold GI at hT;split at hT
 ·cases hT
  obtain⟨a,b,qs,rfl,rfl,hc,hK⟩:=hK;exact QF Qfr QP Tryz.func80 (by kernel_rfl) (by kernel_rfl) (by rfl) (QPa _ _ _ hc K hK)
 ·cases hT
def L93:List (Nat×Ctr):=(80,GI)::L92
noncomputable def T93:QR:=mkT L93 M79 X4
theorem QaI:QH L93:= .cons QL1 QaG
theorem Qfs:QJ T93:=QU QaI XE Ql
def QXQ:OT:=fun _=>([],[])
def QFG (a:Qs)(b:Nat)(qs:List Rat)(K:AV->Prop):Prop:=QS T93 QXQ noL Tryz.f26 [Ug a,sR b qs] K
theorem QG9 (a:Qs)(b:Nat)(qs:List Rat)(K:AV->Prop):QFG a b qs K=(∃(a_1:Qs)(b_1:Nat)(qs_1:List Rat),[Zi (Zj a.name),Ze a.x 63,Ze a.y 63,Zi (Za a.half),Ze a.t 63,Ch.s 16 (Zc QN a.links)]=[Zi (Zj a_1.name),Ze a_1.x 63,Ze a_1.y 63,Zi (Za a_1.half),Ze a_1.t 63,Ch.s 16 (Zc QN a_1.links)]/\lR b qs=lR b_1 qs_1/\(Q7 a_1/\b_1<=400/\qs_1.length=a_1.links.length)/\∀(fs:List FrV) (f:FrV),fs++[f]=YG (WT a_1) a_1.links qs_1->fs.length=a_1.links.length->(0<=IntKind.i64.wrap (Zd (Zc KV fs++[[Ze f.x (bnd a_1.links.length),Ze f.y (bnd a_1.links.length),Zi (Za f.h),Ze f.t (bnd a_1.links.length)]]).length-1)/\IntKind.i64.wrap (Zd (Zc KV fs++[[Ze f.x (bnd a_1.links.length),Ze f.y (bnd a_1.links.length),Zi (Za f.h),Ze f.t (bnd a_1.links.length)]]).length-1)<Zd (Zc KV fs++[[Ze f.x (bnd a_1.links.length),Ze f.y (bnd a_1.links.length),Zi (Za f.h),Ze f.t (bnd a_1.links.length)]]).length)/\∃(q:Rat)(n:Nat)(q_1:Rat)(n_1:Nat)(b:Bool)(q_2:Rat)(n_2:Nat),ldE (Zc KV fs++[[Ze f.x (bnd a_1.links.length),Ze f.y (bnd a_1.links.length),Zi (Za f.h),Ze f.t (bnd a_1.links.length)]]) (IntKind.i64.wrap (Zd (Zc KV fs++[[Ze f.x (bnd a_1.links.length),Ze f.y (bnd a_1.links.length),Zi (Za f.h),Ze f.t (bnd a_1.links.length)]]).length-1)).toNat 0 10=some [Ze q n,Ze q_1 n_1,Zi (Za b),Ze q_2 n_2]/\K (AV.t [(true,[Ze q n,Ze q_1 n_1,Zi (Za b),Ze q_2 n_2]),(false,[Zi (Value.int IntKind.i64 0)])])):=by kernel_rfl
theorem QcE (a:Qs)(b:Nat)(qs:List Rat)(hc:(Q7 a)/\(b<=400/\qs.length=a.links.length))(K:AV->Prop)(hK: ∀n f,n<=120000000->(YG (WT a) a.links qs)[a.links.length]? =some f->K (.t [(true,frN n f),(false,[.v (.int .i64 0)])])):QO (QFG a b qs K):=by
 refine⟨?_⟩;rw[QG9];try simp only[Zb]
 obtain⟨ha,hb,hq⟩:=hc;have hn:=ha.n;refine⟨a,b,qs,rfl,rfl,⟨ha,hb,hq⟩,fun fs f hf hl=> ?_⟩;have hbn:bnd a.links.length<=120000000:=QcB hn.2;simp only[List.length_append,Zn,List.length_cons,List.length_nil];rw[w64 (by omega)];have e:((((fs.length+(0+1):Nat):Int)-1).toNat)=a.links.length:=by omega
 rw[e];have hg:(fs++[f])[a.links.length]? =some f:=by rw[<-hl];simp
 obtain⟨n,hn',hld⟩:=QcD hbn hg;have:=hK n f hn' (by rw[<-hf];exact hg);refine⟨by omega,f.x,n,f.y,n,f.h,f.t,n,?_,this⟩;have hld':(Zc KV fs++[[Ze f.x (bnd a.links.length),Ze f.y (bnd a.links.length),Zi (Za f.h),Ze f.t (bnd a.links.length)]])[a.links.length]? =some (frN n f):=hld
 simp only[ldE,hld'];rfl
def QL2:Ctr
 | [.x true xs,.x false [.s 3 ys]]=>some fun K=> ∃(a:Qs) (b:Nat) (qs:List Rat),xs=WH a/\ys=lR b qs/\((Q7 a)/\(b<=400/\qs.length=a.links.length))/\(∀n f,n<=120000000->(YG (WT a) a.links qs)[a.links.length]? =some f->K (.t [(true,frN n f),(false,[.v (.int .i64 0)])]))
 | _=>none
theorem QXR:QI 26 QL2:=by
 refine⟨QK Tryz.func26 (by kernel_rfl),fun l T hT K hK=> ?_⟩;unfold QL2 at hT;split at hT
 ·cases hT
  obtain⟨a,b,qs,rfl,rfl,hc,hK⟩:=hK;exact QF Qfs QP Tryz.func26 (by kernel_rfl) (by kernel_rfl) (by rfl) (QcE _ _ _ hc K hK)
 ·cases hT
def L94:List (Nat×Ctr):=(26,QL2)::L93
noncomputable def T94:QR:=mkT L94 M79 X4
theorem QaJ:QH L94:= .cons QXR QaI
theorem Qft:QJ T94:=QU QaJ XE Ql
end Go.Proofs
