/- Turns, vectors, frames. -/
import Derived.Test.YtnbkdgmgbaangaaGreatDoorAJ
open Go.Value renaming bool → Za, string → Zj
open Int renaming ofNat_eq_natCast → Zb, ofNat → Zd
open List renaming map → Zc, getElem?_eq_getElem → Zh, getElem?_append_right → Zk, getElem?_append_left → Zl, take_of_length_le → Zm, length_map → Zn, take → Zo
open Go.Eng.Ch renaming r → Ze, v → Zi
open Nat renaming le_refl → Zf, zero_add → Zg
namespace Go.Proofs
open Go Go.Eng
def XO (h:Bool)(t:Rat):Rat:=bif h then 0 else t
def Us (t:Rat):Bool:=decide (t=0)
def UN (t:Rat):Rat:=bif Us t then 0 else((-1:Int):Rat)/t
def thH (h1:Bool)(t1:Rat)(h2:Bool)(t2:Rat):Bool:=bif h1&&h2 then false else bif h1 then Us (XO h2 t2)else bif h2 then Us (XO h1 t1)else decide (1-t1*t2=0)
def thT (h1:Bool)(t1:Rat)(h2:Bool)(t2:Rat):Rat:=bif h1&&h2 then 0 else bif h1 then UN (XO h2 t2)else bif h2 then UN (XO h1 t1)else bif decide (1-t1*t2=0)then 0 else(t1+t2)/(1-t1*t2)
def Q3 (h:Bool)(t:Rat):Rat:=bif h then-1 else(1-t*t)/(1+t*t)
def Q0 (h:Bool)(t:Rat):Rat:=bif h then 0 else(t+t)/(1+t*t)
structure FrV where
  x:Rat
  y:Rat
  h:Bool
  t:Rat
def QFt (f:FrV)(x y:Rat):Rat:=f.x+(x*Q3 f.h f.t-y*Q0 f.h f.t)
def QFu (f:FrV)(x y:Rat):Rat:=f.y+(x*Q0 f.h f.t+y*Q3 f.h f.t)
def JM (f g:FrV):FrV:=⟨QFt f g.x g.y,QFu f g.x g.y,thH f.h f.t g.h g.t,thT f.h f.t g.h g.t⟩
theorem JP (p:Rat):Xi p p=p:=by unfold Xi;split<;>rfl
theorem QcG (t:Rat):0<=t*t:=by
 rcases @Rat.le_total 0 t with h | h
 ·exact Rat.mul_nonneg h h
 ·have:=Rat.mul_nonneg (show 0<= -t by grind) (show 0<= -t by grind);grind
theorem sq1 (t:Rat):1+t*t≠0:=by have:=QcG t;grind
def L79:List (Nat×Ctr):=L52
def M79:List (Nat×Xh):=M48
noncomputable def T79:QU:=mkT L79 M79 X4
theorem QXA:CtrsOK Tryz.prog QH QG L79:=QcF
theorem YF:CtrMsOK Tryz.prog QH QG M79:=QLt
theorem QcH:QM Tryz.prog QH QG T79:=QY QXA YF Qp
def QY7:OT:=fun _=>([],[])
def QIH (t:Rat)(a:Nat)(K:AV->Prop):Prop:=QW T79 QY7 noL Tryz.f145 [rA t a] K
theorem QII (t:Rat)(a:Nat)(K:AV->Prop):QIH t a K=(a+a<=4294967296/\K (AV.x true [Zi (Za false),Ze (Xi t t) (max a a)])):=by kernel_rfl
theorem QcI (t:Rat)(a:Nat)(hc:(a<=1000000000))(K:AV->Prop)(hK:K (.x true [.v (.bool false),.r t a])):QR (QIH t a K):=by
 refine⟨?_⟩;rw[QII];try simp only[Zb,R0,R1,Zg,Zf,R4,R2,R3]
 rw[JP,Nat.max_self];exact⟨by omega,hK⟩
def QQX:Ctr:=fun as0=>match as0 with
 | [.x true [.r t a]]=>some fun K=>((a<=1000000000))/\(K (.x true [.v (.bool false),.r t a]))
 | _=>none
theorem QY8:CtrOK Tryz.prog QH QG 145 QQX:=by
 refine⟨QJ Tryz.func145 (by kernel_rfl),fun l T hT K hK=> ?_⟩;unfold QQX at hT;split at hT
 ·cases hT
  obtain⟨hc,hK⟩:=hK;exact QI QcH QP Tryz.func145 (by kernel_rfl) (by kernel_rfl) (by rfl) (QcI _ _ hc K hK)
 ·cases hT
def L80:List (Nat×Ctr):=(145,QQX)::L79
noncomputable def T80:QU:=mkT L80 M79 X4
theorem QXB:CtrsOK Tryz.prog QH QG L80:= .cons QY8 QXA
theorem QcJ:QM Tryz.prog QH QG T80:=QY QXB YF Qp
def QQY:OT:=fun _=>([],[])
def QBk  (K:AV->Prop):Prop:=QW T80 QQY noL Tryz.f199 [] K
theorem QCz (K:AV->Prop):QBk K=(((-9223372036854775808:Int)<=0/\(0:Int)<9223372036854775808)/\K (AV.x true [Zi (Za true),Ze (↑(0:Int)) 64])):=by kernel_rfl
theorem QUc  (_hc:True)(K:AV->Prop)(hK:K (.x true [.v (.bool true),.r 0 64])):QR (QBk  K):=by
 refine⟨?_⟩;rw[QCz];try simp only[Zb,R0,R1,Zg,Zf,R4,R2,R3]
 exact⟨by omega,hK⟩
def QFv:Ctr:=fun as0=>match as0 with
 | []=>some fun K=>(True)/\(K (.x true [.v (.bool true),.r 0 64]))
 | _=>none
theorem QQZ:CtrOK Tryz.prog QH QG 199 QFv:=by
 refine⟨QJ Tryz.func199 (by kernel_rfl),fun l T hT K hK=> ?_⟩;unfold QFv at hT;split at hT
 ·cases hT
  obtain⟨hc,hK⟩:=hK;exact QI QcJ QP Tryz.func199 (by kernel_rfl) (by kernel_rfl) (by rfl) (QUc  hc K hK)
 ·cases hT
def L81:List (Nat×Ctr):=(199,QFv)::L80
noncomputable def T81:QU:=mkT L81 M79 X4
theorem QXC:CtrsOK Tryz.prog QH QG L81:= .cons QQZ QXB
theorem QcK:QM Tryz.prog QH QG T81:=QY QXC YF Qp
def QUd:OT:=fun _=>([],[])
def QEB (h:Bool)(t:Rat)(a:Nat)(K:AV->Prop):Prop:=QW T81 QUd noL Tryz.f194 [.x true [.v (.bool h),.r t a]] K
theorem QFw (h:Bool)(t:Rat)(a:Nat)(K:AV->Prop):QEB h t a K=(bif h then True/\K (AV.x true [Zi (Za true),Ze (OfNat.ofNat 0) 64])else a<=1000000000/\K (AV.x true [Zi (Za false),Ze t a])):=by kernel_rfl
theorem QY9 (h:Bool)(t:Rat)(a:Nat)(hc:(a<=1000000000))(K:AV->Prop)(hK: ∀n,n<=a+64->K (.x true [.v (.bool h),.r (XO h t) n])):QR (QEB h t a K):=by
 refine⟨?_⟩;rw[QFw];try simp only[R0]
 cases h with
 | true=>exact hK 64 (by omega)
 | false=>exact⟨hc,hK a (by omega)⟩
def QKV:Ctr:=fun as0=>match as0 with
 | [.x true [.v (.bool h),.r t a]]=>some fun K=>((a<=1000000000))/\(∀n,n<=a+64->K (.x true [.v (.bool h),.r (XO h t) n]))
 | _=>none
theorem QUe:CtrOK Tryz.prog QH QG 194 QKV:=by
 refine⟨QJ Tryz.func194 (by kernel_rfl),fun l T hT K hK=> ?_⟩;unfold QKV at hT;split at hT
 ·cases hT
  obtain⟨hc,hK⟩:=hK;exact QI QcK QP Tryz.func194 (by kernel_rfl) (by kernel_rfl) (by rfl) (QY9 _ _ _ hc K hK)
 ·cases hT
def L82:List (Nat×Ctr):=(194,QKV)::L81
noncomputable def T82:QU:=mkT L82 M79 X4
theorem QXD:CtrsOK Tryz.prog QH QG L82:= .cons QUe QXC
theorem QcL:QM Tryz.prog QH QG T82:=QY QXD YF Qp
def QUf:OT:=fun id=>bif id.beq 1 then([1,2,7,0,3,4,5,6,8,9],[[],[],[1],[0,2,1],[3,0,2,1],[4,3,0,2,1],[4,3,0,2,1],[],[7,5,4,3,0,2,1],[6,4,3,0,2,1,8,7,5]])else([],[])
def QEC (h:Bool)(t:Rat)(a:Nat)(K:AV->Prop):Prop:=QW T82 QUf noL Tryz.f198 [.x true [.v (.bool h),.r t a]] K
theorem QFx (h:Bool)(t:Rat)(a:Nat)(K:AV->Prop):QEC h t a K=(((-9223372036854775808:Int)<= -1/\(-1:Int)<9223372036854775808)/\64+a<=4294967296/\(t≠OfNat.ofNat 0->64+a<=1000000000/\K (AV.x true [Zi (Za false),Ze (↑(-1:Int)/t) (64+a)]))/\(t=OfNat.ofNat 0->True/\K (AV.x true [Zi (Za true),Ze (OfNat.ofNat 0) 64]))):=by kernel_rfl
theorem QZA (h:Bool)(t:Rat)(a:Nat)(hc:(a<=900000000))(K:AV->Prop)(hK: ∀n,n<=a+64->K (.x true [.v (.bool (Us t)),.r (UN t) n])):QR (QEC h t a K):=by
 refine⟨?_⟩;rw[QFx];try simp only[R0]
 refine⟨by omega,by omega,fun h0=>⟨by omega,?_⟩,fun h0=> ?_⟩
 ·have e:Us t=false:=decide_eq_false h0;have:=hK (64+a) (by omega);unfold UN at this;rw[e]at this;exact this
 ·have e:Us t=true:=decide_eq_true h0;have:=hK 64 (by omega);unfold UN at this;rw[e]at this;exact this
def QKW:Ctr:=fun as0=>match as0 with
 | [.x true [.v (.bool _h),.r t a]]=>some fun K=>((a<=900000000))/\(∀n,n<=a+64->K (.x true [.v (.bool (Us t)),.r (UN t) n]))
 | _=>none
theorem QUg:CtrOK Tryz.prog QH QG 198 QKW:=by
 refine⟨QJ Tryz.func198 (by kernel_rfl),fun l T hT K hK=> ?_⟩;unfold QKW at hT;split at hT
 ·cases hT
  obtain⟨hc,hK⟩:=hK;exact QI QcL QP Tryz.func198 (by kernel_rfl) (by kernel_rfl) (by rfl) (QZA _ _ _ hc K hK)
 ·cases hT
def L83:List (Nat×Ctr):=(198,QKW)::L82
noncomputable def T83:QU:=mkT L83 M79 X4
theorem QXE:CtrsOK Tryz.prog QH QG L83:= .cons QUg QXD
theorem QcM:QM Tryz.prog QH QG T83:=QY QXE YF Qp
def QQa:OT:=fun id=>bif id.beq 1 then([0,2,1,3,4,5],[[],[0],[],[2,1,0],[1,0,3,2],[3,2,1,0,4]])else bif id.beq 8 then([0,1,2,3,6,7,8,9,16,4,5,10,11,12,13,14,15,17,18],[[],[0],[],[2],[1,0,3,2],[4,1,0,3,2],[],[6],[],[8],[7,6,9,8,5,4,1,0,3,2],[5,4,1,0,3,2,10,7,6,9,8],[4,1,0,3,2,11,5,10,7,6,9,8],[12,4,1,0,3,2,11,5,10,7,6,9,8],[13,12,4,1,0,3,2,11,5,10,7,6,9,8],[13,12,4,1,0,3,2,11,5,10,7,6,9,8],[],[16,14,13,12,4,1,0,3,2,11,5,10,7,6,9,8],[15,13,12,4,1,0,3,2,11,5,10,7,6,9,8,17,16,14]])else([],[])
def QBl (h:Bool)(t:Rat)(a:Nat)(g:Bool)(u:Rat)(b:Nat)(K:AV->Prop):Prop:=QW T83 QQa noL Tryz.f154 [.x true [.v (.bool h),.r t a],.x true [.v (.bool g),.r u b]] K
theorem QC0 (h:Bool)(t:Rat)(a:Nat)(g:Bool)(u:Rat)(b:Nat)(K:AV->Prop):QBl h t a g u b K=(a<=1000000000/\∀(n:Nat),n<=a+64->b<=1000000000/\∀(n_1:Nat),n_1<=b+64->bif h then bif g then((-9223372036854775808:Int)<=0/\(0:Int)<9223372036854775808)/\64<=1000000000/\K (AV.x true [Zi (Za false),Ze (↑(0:Int)) 64])else bif h then n_1<=900000000/\∀(n:Nat),n<=n_1+64->K (AV.x true [Zi (Za (Us (XO g u))),Ze (UN (XO g u)) n])else bif g then n<=900000000/\∀(n_2:Nat),n_2<=n+64->K (AV.x true [Zi (Za (Us (XO h t))),Ze (UN (XO h t)) n_2])else n+n_1+1<=4294967296/\((-9223372036854775808:Int)<=1/\(1:Int)<9223372036854775808)/\n+n_1<=4294967296/\64+(n+n_1)+1<=4294967296/\n+n_1+1+(64+(n+n_1)+1)<=4294967296/\(↑(1:Int)-XO h t*XO g u≠OfNat.ofNat 0->n+n_1+1+(64+(n+n_1)+1)<=1000000000/\K (AV.x true [Zi (Za false),Ze ((XO h t+XO g u)/(↑(1:Int)-XO h t*XO g u)) (n+n_1+1+(64+(n+n_1)+1))]))/\(↑(1:Int)-XO h t*XO g u=OfNat.ofNat 0->True/\K (AV.x true [Zi (Za true),Ze (OfNat.ofNat 0) 64]))else bif h then n_1<=900000000/\∀(n:Nat),n<=n_1+64->K (AV.x true [Zi (Za (Us (XO g u))),Ze (UN (XO g u)) n])else bif g then n<=900000000/\∀(n_2:Nat),n_2<=n+64->K (AV.x true [Zi (Za (Us (XO h t))),Ze (UN (XO h t)) n_2])else n+n_1+1<=4294967296/\((-9223372036854775808:Int)<=1/\(1:Int)<9223372036854775808)/\n+n_1<=4294967296/\64+(n+n_1)+1<=4294967296/\n+n_1+1+(64+(n+n_1)+1)<=4294967296/\(↑(1:Int)-XO h t*XO g u≠OfNat.ofNat 0->n+n_1+1+(64+(n+n_1)+1)<=1000000000/\K (AV.x true [Zi (Za false),Ze ((XO h t+XO g u)/(↑(1:Int)-XO h t*XO g u)) (n+n_1+1+(64+(n+n_1)+1))]))/\(↑(1:Int)-XO h t*XO g u=OfNat.ofNat 0->True/\K (AV.x true [Zi (Za true),Ze (OfNat.ofNat 0) 64]))):=by kernel_rfl
theorem QUh (h:Bool)(t:Rat)(a:Nat)(g:Bool)(u:Rat)(b:Nat)(hc:(a+b<=400000000))(K:AV->Prop)(hK: ∀n,n<=2*a+2*b+400->K (.x true [.v (.bool (thH h t g u)),.r (thT h t g u) n])):QR (QBl h t a g u b K):=by
 refine⟨?_⟩;rw[QC0];try simp only[R0]
 refine⟨by omega,fun n hn=>⟨by omega,fun m hm=> ?_⟩⟩;cases h with
 | true=>
  cases g with
  | true=>exact⟨by omega,by omega,hK 64 (by omega)⟩
  | false=>exact⟨by omega,fun k hk=>hK k (by omega)⟩
 | false=>
  cases g with
  | true=>exact⟨by omega,fun k hk=>hK k (by omega)⟩
  | false=>
   refine⟨by omega,by omega,by omega,by omega,by omega,fun h0=>⟨by omega,?_⟩,fun h0=> ?_⟩
   ·have e:decide (1-t*u=0)=false:=decide_eq_false h0;have:=hK (n+m+1+(64+(n+m)+1)) (by omega);simp only[thH,thT,Bool.and_self,R8,e]at this;exact this
   ·have e:decide (1-t*u=0)=true:=decide_eq_true h0;have:=hK 64 (by omega);simp only[thH,thT,Bool.and_self,R8,e,R7]at this;exact this
def QFy:Ctr:=fun as0=>match as0 with
 | [.x true [.v (.bool h),.r t a],.x true [.v (.bool g),.r u b]]=>some fun K=>((a+b<=400000000))/\(∀n,n<=2*a+2*b+400->K (.x true [.v (.bool (thH h t g u)),.r (thT h t g u) n]))
 | _=>none
theorem QQb:CtrOK Tryz.prog QH QG 154 QFy:=by
 refine⟨QJ Tryz.func154 (by kernel_rfl),fun l T hT K hK=> ?_⟩;unfold QFy at hT;split at hT
 ·cases hT
  obtain⟨hc,hK⟩:=hK;exact QI QcM QP Tryz.func154 (by kernel_rfl) (by kernel_rfl) (by rfl) (QUh _ _ _ _ _ _ hc K hK)
 ·cases hT
def L84:List (Nat×Ctr):=(154,QFy)::L83
noncomputable def T84:QU:=mkT L84 M79 X4
theorem QXF:CtrsOK Tryz.prog QH QG L84:= .cons QQb QXE
theorem QcN:QM Tryz.prog QH QG T84:=QY QXF YF Qp
def QUi:OT:=fun id=>bif id.beq 5 then([1,4,10,0,2,3,5,6,7,8,9,11,12],[[],[],[0,1],[2,0,1],[],[3,2,0,1,4],[2,0,1,5,3,4],[6,2,0,1,5,3,4],[7,6,2,0,1,5,3,4],[7,6,2,0,1,5,3,4],[],[10,8,7,6,2,0,1,5,3,4],[9,7,6,2,0,1,5,3,4,11,10,8]])else([],[])
def QED (h:Bool)(t:Rat)(a:Nat)(K:AV->Prop):Prop:=QW T84 QUi noL Tryz.f155 [.x true [.v (.bool h),.r t a]] K
theorem QFz (h:Bool)(t:Rat)(a:Nat)(K:AV->Prop):QED h t a K=(a<=1000000000/\∀(n:Nat),n<=a+64->bif h then((-9223372036854775808:Int)<= -1/\(-1:Int)<9223372036854775808)/\K (AV.x true [Ze (↑(-1:Int)) 64])else n+n<=4294967296/\((-9223372036854775808:Int)<=1/\(1:Int)<9223372036854775808)/\64+(n+n)+1<=4294967296/\((-9223372036854775808:Int)<=1/\(1:Int)<9223372036854775808)/\64+(n+n)+1<=4294967296/\64+(n+n)+1+(64+(n+n)+1)<=4294967296/\(↑(1:Int)+XO h t*XO h t≠OfNat.ofNat 0->K (AV.x true [Ze ((↑(1:Int)-XO h t*XO h t)/(↑(1:Int)+XO h t*XO h t)) (64+(n+n)+1+(64+(n+n)+1))]))/\(↑(1:Int)+XO h t*XO h t=OfNat.ofNat 0->K (AV.x true [Zi (Za false),Zi (Zj (ByteArray.mk (Array.mk []))),Zi (Zj (ByteArray.mk (Array.mk [])))]))):=by kernel_rfl
theorem QZB (h:Bool)(t:Rat)(a:Nat)(hc:(a<=500000000))(K:AV->Prop)(hK: ∀n,n<=4*a+400->K (rA (Q3 h t) n)):QR (QED h t a K):=by
 refine⟨?_⟩;rw[QFz];try simp only[Zb,R0,R1,Zg,Zf,R4,R2,R3]
 refine⟨by omega,fun n hn=> ?_⟩;cases h with
 | true=>exact⟨by omega,hK 64 (by omega)⟩
 | false=>exact⟨by omega,by omega,by omega,by omega,by omega,by omega,fun _=>hK _ (by omega),fun h0=>absurd h0 (sq1 t)⟩
def QKX:Ctr:=fun as0=>match as0 with
 | [.x true [.v (.bool h),.r t a]]=>some fun K=>((a<=500000000))/\(∀n,n<=4*a+400->K (rA (Q3 h t) n))
 | _=>none
theorem QUj:CtrOK Tryz.prog QH QG 155 QKX:=by
 refine⟨QJ Tryz.func155 (by kernel_rfl),fun l T hT K hK=> ?_⟩;unfold QKX at hT;split at hT
 ·cases hT
  obtain⟨hc,hK⟩:=hK;exact QI QcN QP Tryz.func155 (by kernel_rfl) (by kernel_rfl) (by rfl) (QZB _ _ _ hc K hK)
 ·cases hT
def L85:List (Nat×Ctr):=(155,QKX)::L84
noncomputable def T85:QU:=mkT L85 M79 X4
theorem QXG:CtrsOK Tryz.prog QH QG L85:= .cons QUj QXF
theorem QcO:QM Tryz.prog QH QG T85:=QY QXG YF Qp
def QUk:OT:=fun id=>bif id.beq 2 then([0,1,2,3,6,7,8,9,16,4,5,10,11,12,13,14,15,17,18],[[],[0],[],[2],[1,0,3,2],[4,1,0,3,2],[],[6],[],[8],[7,6,9,8,5,4,1,0,3,2],[5,4,1,0,3,2,10,7,6,9,8],[4,1,0,3,2,11,5,10,7,6,9,8],[12,4,1,0,3,2,11,5,10,7,6,9,8],[13,12,4,1,0,3,2,11,5,10,7,6,9,8],[13,12,4,1,0,3,2,11,5,10,7,6,9,8],[],[16,14,13,12,4,1,0,3,2,11,5,10,7,6,9,8],[15,13,12,4,1,0,3,2,11,5,10,7,6,9,8,17,16,14]])else([],[])
def QEE (h:Bool)(t:Rat)(a:Nat)(K:AV->Prop):Prop:=QW T85 QUk noL Tryz.f156 [.x true [.v (.bool h),.r t a]] K
theorem QF0 (h:Bool)(t:Rat)(a:Nat)(K:AV->Prop):QEE h t a K=(a<=1000000000/\∀(n:Nat),n<=a+64->n+n+1<=4294967296/\((-9223372036854775808:Int)<=1/\(1:Int)<9223372036854775808)/\n+n<=4294967296/\64+(n+n)+1<=4294967296/\n+n+1+(64+(n+n)+1)<=4294967296/\(↑(1:Int)+XO h t*XO h t≠OfNat.ofNat 0->K (AV.x true [Ze ((XO h t+XO h t)/(↑(1:Int)+XO h t*XO h t)) (n+n+1+(64+(n+n)+1))]))/\(↑(1:Int)+XO h t*XO h t=OfNat.ofNat 0->K (AV.x true [Zi (Za false),Zi (Zj (ByteArray.mk (Array.mk []))),Zi (Zj (ByteArray.mk (Array.mk [])))]))):=by kernel_rfl
theorem QZC (h:Bool)(t:Rat)(a:Nat)(hc:(a<=500000000))(K:AV->Prop)(hK: ∀n,n<=4*a+400->K (rA (Q0 h t) n)):QR (QEE h t a K):=by
 refine⟨?_⟩;rw[QF0];try simp only[Zb,R0,R1,Zg,Zf,R4,R2,R3]
 refine⟨by omega,fun n hn=>⟨by omega,by omega,by omega,by omega,by omega,fun h0=> ?_,fun h0=>absurd h0 (sq1 _)⟩⟩;have e:(XO h t+XO h t)/(((1:Int):Rat)+XO h t*XO h t)=Q0 h t:=by
  cases h with
  | true=>show((0:Rat)+0)/_=0;rw[Rat.add_zero,Rat.div_def,Rat.zero_mul]
  | false=>rfl
 rw[e];exact hK _ (by omega)
def QKY:Ctr:=fun as0=>match as0 with
 | [.x true [.v (.bool h),.r t a]]=>some fun K=>((a<=500000000))/\(∀n,n<=4*a+400->K (rA (Q0 h t) n))
 | _=>none
theorem QUl:CtrOK Tryz.prog QH QG 156 QKY:=by
 refine⟨QJ Tryz.func156 (by kernel_rfl),fun l T hT K hK=> ?_⟩;unfold QKY at hT;split at hT
 ·cases hT
  obtain⟨hc,hK⟩:=hK;exact QI QcO QP Tryz.func156 (by kernel_rfl) (by kernel_rfl) (by rfl) (QZC _ _ _ hc K hK)
 ·cases hT
def L86:List (Nat×Ctr):=(156,QKY)::L85
noncomputable def T86:QU:=mkT L86 M79 X4
theorem QXH:CtrsOK Tryz.prog QH QG L86:= .cons QUl QXG
theorem QcP:QM Tryz.prog QH QG T86:=QY QXH YF Qp
def QUm:OT:=fun id=>bif id.beq 1 then([0,1,2,3,5,6,7,8,4,9,10,11],[[],[0],[],[2],[1,0,3,2],[],[5],[],[7],[6,5,8,7,4,1,0,3,2],[4,1,0,3,2,9,6,5,8,7],[10,4,1,0,3,2,9,6,5,8,7]])else([],[])
def QEF (px:Rat)(a:Nat)(py:Rat)(b:Nat)(qx:Rat)(c:Nat)(qy:Rat)(d:Nat)(K:AV->Prop):Prop:=QW T86 QUm noL Tryz.f112 [.x true [.r px a,.r py b],.x true [.r qx c,.r qy d]] K
theorem QF1 (px:Rat)(a:Nat)(py:Rat)(b:Nat)(qx:Rat)(c:Nat)(qy:Rat)(d:Nat)(K:AV->Prop):QEF px a py b qx c qy d K=(a+c+1<=4294967296/\b+d+1<=4294967296/\K (AV.x true [Ze (px+qx) (a+c+1),Ze (py+qy) (b+d+1)])):=by kernel_rfl
theorem QZD (px:Rat)(a:Nat)(py:Rat)(b:Nat)(qx:Rat)(c:Nat)(qy:Rat)(d:Nat)(hc:(a+c<=4294967290)/\(b+d<=4294967290))(K:AV->Prop)(hK:K (.x true [.r (px+qx) (a+c+1),.r (py+qy) (b+d+1)])):QR (QEF px a py b qx c qy d K):=by
 refine⟨?_⟩;rw[QF1];try simp only[Zb,R0,R1,Zg,Zf,R4,R2,R3]
 exact⟨by omega,by omega,hK⟩
def QKZ:Ctr:=fun as0=>match as0 with
 | [.x true [.r px a,.r py b],.x true [.r qx c,.r qy d]]=>some fun K=>((a+c<=4294967290)/\(b+d<=4294967290))/\(K (.x true [.r (px+qx) (a+c+1),.r (py+qy) (b+d+1)]))
 | _=>none
theorem QUn:CtrOK Tryz.prog QH QG 112 QKZ:=by
 refine⟨QJ Tryz.func112 (by kernel_rfl),fun l T hT K hK=> ?_⟩;unfold QKZ at hT;split at hT
 ·cases hT
  obtain⟨hc,hK⟩:=hK;exact QI QcP QP Tryz.func112 (by kernel_rfl) (by kernel_rfl) (by rfl) (QZD _ _ _ _ _ _ _ _ hc K hK)
 ·cases hT
def L87:List (Nat×Ctr):=(112,QKZ)::L86
noncomputable def T87:QU:=mkT L87 M79 X4
theorem QXI:CtrsOK Tryz.prog QH QG L87:= .cons QUn QXH
theorem QcQ:QM Tryz.prog QH QG T87:=QY QXI YF Qp
def QUo:OT:=fun id=>bif id.beq 1 then([0,1,2,3,5,6,7,8,4,9,10,11],[[],[0],[],[2],[1,0,3,2],[],[5],[],[7],[6,5,8,7,4,1,0,3,2],[4,1,0,3,2,9,6,5,8,7],[10,4,1,0,3,2,9,6,5,8,7]])else([],[])
def QEG (px:Rat)(a:Nat)(py:Rat)(b:Nat)(qx:Rat)(c:Nat)(qy:Rat)(d:Nat)(K:AV->Prop):Prop:=QW T87 QUo noL Tryz.f226 [.x true [.r px a,.r py b],.x true [.r qx c,.r qy d]] K
theorem QF2 (px:Rat)(a:Nat)(py:Rat)(b:Nat)(qx:Rat)(c:Nat)(qy:Rat)(d:Nat)(K:AV->Prop):QEG px a py b qx c qy d K=(a+c<=4294967296/\b+d<=4294967296/\a+c+(b+d)+1<=4294967296/\K (AV.x true [Ze (px*qx+py*qy) (a+c+(b+d)+1)])):=by kernel_rfl
theorem QZE (px:Rat)(a:Nat)(py:Rat)(b:Nat)(qx:Rat)(c:Nat)(qy:Rat)(d:Nat)(hc:(a+b+c+d<=4294967290))(K:AV->Prop)(hK:K (rA (px*qx+py*qy) (a+c+(b+d)+1))):QR (QEG px a py b qx c qy d K):=by
 refine⟨?_⟩;rw[QF2];try simp only[Zb,R0,R1,Zg,Zf,R4,R2,R3]
 exact⟨by omega,by omega,by omega,hK⟩
def QKa:Ctr:=fun as0=>match as0 with
 | [.x true [.r px a,.r py b],.x true [.r qx c,.r qy d]]=>some fun K=>((a+b+c+d<=4294967290))/\(K (rA (px*qx+py*qy) (a+c+(b+d)+1)))
 | _=>none
theorem QUp:CtrOK Tryz.prog QH QG 226 QKa:=by
 refine⟨QJ Tryz.func226 (by kernel_rfl),fun l T hT K hK=> ?_⟩;unfold QKa at hT;split at hT
 ·cases hT
  obtain⟨hc,hK⟩:=hK;exact QI QcQ QP Tryz.func226 (by kernel_rfl) (by kernel_rfl) (by rfl) (QZE _ _ _ _ _ _ _ _ hc K hK)
 ·cases hT
def L88:List (Nat×Ctr):=(226,QKa)::L87
theorem QcR:CtrsOK Tryz.prog QH QG L88:= .cons QUp QXI
def L89:List (Nat×Ctr):=L88
noncomputable def T89:QU:=mkT L89 M79 X4
theorem QXJ:CtrsOK Tryz.prog QH QG L89:=QcR
theorem QcS:QM Tryz.prog QH QG T89:=QY QXJ YF Qp
def QQc:OT:=fun id=>bif id.beq 1 then([0,2,5,1,3,4,6],[[],[0],[],[2,1,0],[1,0,3,2],[],[5,4,1,0,3,2]])else bif id.beq 2 then([0,1,2,3,5,6,7,8,11,12,13,14,16,17,18,19,4,9,10,15,20,21,22,23],[[],[0],[],[2],[1,0,3,2],[],[5],[],[7],[6,5,8,7,4,1,0,3,2],[4,1,0,3,2,9,6,5,8,7],[],[11],[],[13],[12,11,14,13,10,4,1,0,3,2,9,6,5,8,7],[],[16],[],[18],[17,16,19,18,15,12,11,14,13,10,4,1,0,3,2,9,6,5,8,7],[15,12,11,14,13,10,4,1,0,3,2,9,6,5,8,7,20,17,16,19,18],[10,4,1,0,3,2,9,6,5,8,7,21,15,12,11,14,13,20,17,16,19,18],[22,10,4,1,0,3,2,9,6,5,8,7,21,15,12,11,14,13,20,17,16,19,18]])else([],[])
def QBm (px:Rat)(a:Nat)(py:Rat)(b:Nat)(h:Bool)(t:Rat)(c:Nat)(K:AV->Prop):Prop:=QW T89 QQc noL Tryz.f99 [.x true [.r px a,.r py b],.x true [.v (.bool h),.r t c]] K
theorem QC1 (px:Rat)(a:Nat)(py:Rat)(b:Nat)(h:Bool)(t:Rat)(c:Nat)(K:AV->Prop):QBm px a py b h t c K=(c<=500000000/\∀(n:Nat),n<=4*c+400->c<=500000000/\∀(n_1:Nat),n_1<=4*c+400->a+n<=4294967296/\b+n_1<=4294967296/\a+n+(b+n_1)+1<=4294967296/\a+n_1<=4294967296/\b+n<=4294967296/\a+n_1+(b+n)+1<=4294967296/\K (AV.x true [Ze (px*Q3 h t-py*Q0 h t) (a+n+(b+n_1)+1),Ze (px*Q0 h t+py*Q3 h t) (a+n_1+(b+n)+1)])):=by kernel_rfl
theorem QUq (px:Rat)(a:Nat)(py:Rat)(b:Nat)(h:Bool)(t:Rat)(c:Nat)(hc:(a+b+c<=400000000))(K:AV->Prop)(hK: ∀n m,n<=a+b+8*c+1000->m<=a+b+8*c+1000->K (.x true [.r (px*Q3 h t-py*Q0 h t) n,.r (px*Q0 h t+py*Q3 h t) m])):QR (QBm px a py b h t c K):=by
 refine⟨?_⟩;rw[QC1];try simp only[Zb,R0,R1,Zg,Zf,R4,R2,R3]
 exact⟨by omega,fun n hn=>⟨by omega,fun m hm=>⟨by omega,by omega,by omega,by omega,by omega,by omega,hK _ _ (by omega) (by omega)⟩⟩⟩
def QF3:Ctr:=fun as0=>match as0 with
 | [.x true [.r px a,.r py b],.x true [.v (.bool h),.r t c]]=>some fun K=>((a+b+c<=400000000))/\(∀n m,n<=a+b+8*c+1000->m<=a+b+8*c+1000->K (.x true [.r (px*Q3 h t-py*Q0 h t) n,.r (px*Q0 h t+py*Q3 h t) m]))
 | _=>none
theorem QQd:CtrOK Tryz.prog QH QG 99 QF3:=by
 refine⟨QJ Tryz.func99 (by kernel_rfl),fun l T hT K hK=> ?_⟩;unfold QF3 at hT;split at hT
 ·cases hT
  obtain⟨hc,hK⟩:=hK;exact QI QcS QP Tryz.func99 (by kernel_rfl) (by kernel_rfl) (by rfl) (QUq _ _ _ _ _ _ _ hc K hK)
 ·cases hT
def L90:List (Nat×Ctr):=(99,QF3)::L89
noncomputable def T90:QU:=mkT L90 M79 X4
theorem QXK:CtrsOK Tryz.prog QH QG L90:= .cons QQd QXJ
theorem QcT:QM Tryz.prog QH QG T90:=QY QXK YF Qp
def QUr:OT:=fun id=>bif id.beq 1 then([0,1,2,3,4,5,6,7],[[],[0],[],[],[3],[2,4,3],[1,0,5,2,4,3],[6,1,0,5,2,4,3]])else([],[])
def QEH (x:Rat)(i:Nat)(y:Rat)(j:Nat)(h:Bool)(t:Rat)(k:Nat)(px:Rat)(a:Nat)(py:Rat)(b:Nat)(K:AV->Prop):Prop:=QW T90 QUr noL Tryz.f86 [.x true [.r x i,.r y j,.v (.bool h),.r t k],.x true [.r px a,.r py b]] K
theorem QF4 (x:Rat)(i:Nat)(y:Rat)(j:Nat)(h:Bool)(t:Rat)(k:Nat)(px:Rat)(a:Nat)(py:Rat)(b:Nat)(K:AV->Prop):QEH x i y j h t k px a py b K=(a+b+k<=400000000/\∀(n m:Nat),n<=a+b+8*k+1000->m<=a+b+8*k+1000->(i+n<=4294967290/\j+m<=4294967290)/\K (AV.x true [Ze (x+(px*Q3 h t-py*Q0 h t)) (i+n+1),Ze (y+(px*Q0 h t+py*Q3 h t)) (j+m+1)])):=by kernel_rfl
theorem QZF (x:Rat)(i:Nat)(y:Rat)(j:Nat)(h:Bool)(t:Rat)(k:Nat)(px:Rat)(a:Nat)(py:Rat)(b:Nat)(hc:(i+j+k+a+b<=400000000))(K:AV->Prop)(hK: ∀n m,n<=i+a+b+8*k+1100->m<=j+a+b+8*k+1100->K (.x true [.r (QFt ⟨x,y,h,t⟩ px py) n,.r (QFu ⟨x,y,h,t⟩ px py) m])):QR (QEH x i y j h t k px a py b K):=by
 refine⟨?_⟩;rw[QF4];try simp only[Zb,R0,R1,Zg,Zf,R4,R2,R3]
 exact⟨by omega,fun n m hn hm=>⟨by omega,hK _ _ (by omega) (by omega)⟩⟩
def QKb:Ctr:=fun as0=>match as0 with
 | [.x true [.r x i,.r y j,.v (.bool h),.r t k],.x true [.r px a,.r py b]]=>some fun K=>((i+j+k+a+b<=400000000))/\(∀n m,n<=i+a+b+8*k+1100->m<=j+a+b+8*k+1100->K (.x true [.r (QFt ⟨x,y,h,t⟩ px py) n,.r (QFu ⟨x,y,h,t⟩ px py) m]))
 | _=>none
theorem QUs:CtrOK Tryz.prog QH QG 86 QKb:=by
 refine⟨QJ Tryz.func86 (by kernel_rfl),fun l T hT K hK=> ?_⟩;unfold QKb at hT;split at hT
 ·cases hT
  obtain⟨hc,hK⟩:=hK;exact QI QcT QP Tryz.func86 (by kernel_rfl) (by kernel_rfl) (by rfl) (QZF _ _ _ _ _ _ _ _ _ _ _ hc K hK)
 ·cases hT
def L91:List (Nat×Ctr):=(86,QKb)::L90
noncomputable def T91:QU:=mkT L91 M79 X4
theorem QXL:CtrsOK Tryz.prog QH QG L91:= .cons QUs QXK
theorem QcU:QM Tryz.prog QH QG T91:=QY QXL YF Qp
def QQe:OT:=fun id=>bif id.beq 1 then([0,1,2,4,5,6,7,3,8,9,10],[[],[],[1],[0,2,1],[],[4],[],[6],[5,4,7,6,3,0,2,1],[3,0,2,1,8,5,4,7,6],[9,3,0,2,1,8,5,4,7,6]])else([],[])
def QBn (x:Rat)(i:Nat)(y:Rat)(j:Nat)(h:Bool)(t:Rat)(k:Nat)(px:Rat)(a:Nat)(py:Rat)(b:Nat)(g:Bool)(u:Rat)(l:Nat)(K:AV->Prop):Prop:=QW T91 QQe noL Tryz.f97 [.x true [.r x i,.r y j,.v (.bool h),.r t k],.x true [.r px a,.r py b,.v (.bool g),.r u l]] K
theorem QC2 (x:Rat)(i:Nat)(y:Rat)(j:Nat)(h:Bool)(t:Rat)(k:Nat)(px:Rat)(a:Nat)(py:Rat)(b:Nat)(g:Bool)(u:Rat)(l:Nat)(K:AV->Prop):QBn x i y j h t k px a py b g u l K=(i+j+k+a+b<=400000000/\∀(n m:Nat),n<=i+a+b+8*k+1100->m<=j+a+b+8*k+1100->k+l<=400000000/\∀(n_1:Nat),n_1<=2*k+2*l+400->K (AV.x true [Ze (QFt (FrV.mk x y h t) px py) n,Ze (QFu (FrV.mk x y h t) px py) m,Zi (Za (thH h t g u)),Ze (thT h t g u) n_1])):=by kernel_rfl
theorem QUt (x:Rat)(i:Nat)(y:Rat)(j:Nat)(h:Bool)(t:Rat)(k:Nat)(px:Rat)(a:Nat)(py:Rat)(b:Nat)(g:Bool)(u:Rat)(l:Nat)(hc:(i+j+k+a+b+l<=400000000))(K:AV->Prop)(hK: ∀f n m o,f=JM ⟨x,y,h,t⟩ ⟨px,py,g,u⟩->n<=i+a+b+8*k+1100->m<=j+a+b+8*k+1100->o<=2*k+2*l+400->K (.x true [.r f.x n,.r f.y m,.v (.bool f.h),.r f.t o])):QR (QBn x i y j h t k px a py b g u l K):=by
 refine⟨?_⟩;rw[QC2];try simp only[Zb,R0,R1,Zg,Zf,R4,R2,R3]
 exact⟨by omega,fun n m hn hm=>⟨by omega,fun o ho=>hK _ _ _ _ rfl (by omega) (by omega) (by omega)⟩⟩
def QF5:Ctr:=fun as0=>match as0 with
 | [.x true [.r x i,.r y j,.v (.bool h),.r t k],.x true [.r px a,.r py b,.v (.bool g),.r u l]]=>some fun K=>((i+j+k+a+b+l<=400000000))/\(∀f n m o,f=JM ⟨x,y,h,t⟩ ⟨px,py,g,u⟩->n<=i+a+b+8*k+1100->m<=j+a+b+8*k+1100->o<=2*k+2*l+400->K (.x true [.r f.x n,.r f.y m,.v (.bool f.h),.r f.t o]))
 | _=>none
theorem QQf:CtrOK Tryz.prog QH QG 97 QF5:=by
 refine⟨QJ Tryz.func97 (by kernel_rfl),fun l T hT K hK=> ?_⟩;unfold QF5 at hT;split at hT
 ·cases hT
  obtain⟨hc,hK⟩:=hK;exact QI QcU QP Tryz.func97 (by kernel_rfl) (by kernel_rfl) (by rfl) (QUt _ _ _ _ _ _ _ _ _ _ _ _ _ _ hc K hK)
 ·cases hT
def L92:List (Nat×Ctr):=(97,QF5)::L91
noncomputable def T92:QU:=mkT L92 M79 X4
theorem QXM:CtrsOK Tryz.prog QH QG L92:= .cons QQf QXL
theorem QcV:QM Tryz.prog QH QG T92:=QY QXM YF Qp
end Go.Proofs
namespace Go.Proofs
open Go Go.Eng
def Y4:FrV->List Qh->List Rat->List FrV
 | b,L::ls,q::qs=>JM b ⟨0,0,false,q⟩::Y4 (JM (JM b ⟨0,0,false,q⟩) ⟨L.len,0,false,0⟩) ls qs
 | b,_,_=>[b]
def KA (a:Qs):FrV:=⟨a.x,a.y,a.half,a.t⟩
def bnd:Nat->Nat
 | 0=>63
 | i+1=>81*bnd i+12279
def frN (n:Nat)(f:FrV):List Ch:=[.r f.x n,.r f.y n,.v (.bool f.h),.r f.t n]
abbrev KB (f:FrV):List Ch:=[.r f.x 12800000,.r f.y 12800000,.v (.bool f.h),.r f.t 12800000]
theorem QQg {xs:List (List Ch)}{a b:List Ch}(hx:QC xs xs)(h:MC (fun _=>none) a b/\Qi b=[]):QC (xs++[a]) (xs++[b]):=by
 refine⟨by simp,fun i x y hx' hy'=> ?_⟩;by_cases hi:i<xs.length
 ·rw[Zl hi]at hx' hy';exact hx.2 i x y hx' hy'
 ·rw[Zk (by omega)]at hx' hy';have:i-xs.length=0:=by
   have:=(List.getElem?_eq_some_iff.1 hx').1;simp at this;omega
  rw[this]at hx' hy';cases hx';cases hy';exact h
theorem QXN {n m o N:Nat}{f:FrV}(h1:n<=N)(h2:m<=N)(h3:o<=N):MC (fun _=>none) [.r f.x n,.r f.y m,.v (.bool f.h),.r f.t o] (frN N f)/\Qi (frN N f)=[]:=⟨.r h1 (.r h2 (.v (.r h3 .nil))),rfl⟩
theorem QZG {n:Nat}(h:n<=3):bnd n<=120000000:=by
 have:n=0∨n=1∨n=2∨n=3:=by omega
 rcases this with e | e | e | e<;>rw[e]<;>decide
theorem QZH (fs:List FrV):QC (fs.map KB) (fs.map KB):=by
 refine⟨rfl,fun i x y hx hy=> ?_⟩;rw[hx]at hy;cases hy
 rw[List.getElem?_map]at hx;cases hf:fs[i]? with
 | none=>rw[hf]at hx;cases hx
 | some f=>rw[hf]at hx;cases hx;exact QXN (Zf _) (Zf _) (Zf _)
theorem QZI {fs:List FrV}{f:FrV}{m i:Nat}{g:FrV}(hm:m<=120000000)(h:(fs++[f])[i]? =some g): ∃n,n<=120000000/\(fs.map KB++[frN m f])[i]? =some (frN n g):=by
 by_cases hi:i<fs.length
 ·rw[Zl hi]at h;exact⟨12800000,by omega,by rw[Zl (by simpa using hi),List.getElem?_map,h];rfl⟩
 ·rw[Zk (by omega)]at h;have:i-fs.length=0:=by
   have:=(List.getElem?_eq_some_iff.1 h).1;simp at this;omega
  rw[this]at h;cases h
  exact⟨m,hm,by rw[Zk (by simp;omega),Zn,this];rfl⟩
structure FmX where
 fs:List FrV
 b:FrV
 i:Nat
structure FmI (a:Qs)(qs:List Rat)(x:FmX):Prop where
 n:x.fs.length=x.i
 le:x.i<=a.links.length
 eq:x.fs++Y4 x.b (a.links.drop x.i) (qs.drop x.i)=Y4 (KA a) a.links qs
def QKc (a:Qs)(b:Nat)(qs:List Rat):LI:=fun _=> .inv ⟨FmX,fun x=>⟨[(1,sR b qs),(2,.x false [.p 2 0]),(7,.x false [.p 7 0]),(8,.x false [.p 8 0]),(9,.x false [.p 9 0]),(10,.x false [.w 500 0 x.fs.length]),(29,.x false [.s 16 (a.links.map QN)]),(30,iA .i64 a.links.length),(31,iA .i64 x.i)],
 [(2,.box 34 (Jc a)),(7,.box 31 (frN (bnd x.i) x.b)),(8,.box 27 [.r ((0:Int):Rat) 64,.r ((0:Int):Rat) 64]),(9,.box 29 [.v (.bool false),.r ((0:Int):Rat) 64]),(500,.row 31 10 (x.fs.map KB))]⟩,FmI a qs,fun x=>a.links.length-x.i,fun _=>0⟩
def QKd:OT:=fun id=>bif id.beq 11 then([0,1,2,3,4,5,9,6,7,8,10],[[],[],[],[],[2,3],[4,2,3],[5,4,2,3],[1,6,5,4,2,3],[0,7,1,6,5,4,2,3],[],[9,8,0,7,1,6,5,4,2,3]])else bif id.beq 13 then([0,1,2,5,3,4,6,7,8],[[],[],[1],[],[2,1,3],[],[4,2,1,3,5],[0,6,4,2,1,3,5],[7,0,6,4,2,1,3,5]])else([],[])
def Ut (a:Qs)(b:Nat)(qs:List Rat)(K:AV->Prop):Prop:=QW T92 QKd (QKc a b qs) Tryz.f84 [Ww a,sR b qs] K
theorem Gk (a:Qs)(b:Nat)(qs:List Rat)(K:AV->Prop):Ut a b qs K=(∃(a_1:Qs),[Zi (Zj a.name),Ze a.x 63,Ze a.y 63,Zi (Za a.half),Ze a.t 63,Ch.s 16 (Zc QN a.links)]=[Zi (Zj a_1.name),Ze a_1.x 63,Ze a_1.y 63,Zi (Za a_1.half),Ze a_1.t 63,Ch.s 16 (Zc QN a_1.links)]/\(Qt a_1/\Zd (lR b qs).length=Zd a_1.links.length)/\((-9223372036854775808:Int)<=0/\(0:Int)<9223372036854775808)/\((-9223372036854775808:Int)<=0/\(0:Int)<9223372036854775808)/\((-9223372036854775808:Int)<=0/\(0:Int)<9223372036854775808)/\64<=1000000000/\(∃(x:FmX),(FmI a qs x/\OfNat.ofNat 0=0)/\3=3/\lR b qs=lR b qs/\0=0/\0=0/\0=0/\0=0/\Value.slice none 0 0=Value.slice none 0 0/\0=0/\x.fs.length=0/\16=16/\Zc QN a.links=Zc QN a.links/\Zd (Zc QN a.links).length=Zd a.links.length/\0=Zd x.i/\34=34/\a.name=a.name/\a.x=a.x/\63<=63/\a.y=a.y/\63<=63/\a.half=a.half/\a.t=a.t/\63<=63/\16=16/\Zc QN a.links=Zc QN a.links/\31=31/\a.x=x.b.x/\63<=bnd x.i/\a.y=x.b.y/\63<=bnd x.i/\a.half=x.b.h/\a.t=x.b.t/\63<=bnd x.i/\27=27/\(↑(0:Int):Rat)=(↑(0:Int):Rat)/\64<=64/\(↑(0:Int):Rat)=(↑(0:Int):Rat)/\64<=64/\29=29/\false=false/\(↑(0:Int):Rat)=(↑(0:Int):Rat)/\64<=64/\Zc KB x.fs=[]/\True)/\∀(x:FmX),FmI a qs x->OfNat.ofNat 0=0->bif decide (Zd x.i<Zd a.links.length)then(0<=Zd x.i/\Zd x.i<Zd (Zc QN a.links).length)/\∃(q:Rat)(n:Nat)(q_1:Rat)(n_1:Nat)(q_2:Rat)(n_2:Nat)(q_3:Rat)(n_3:Nat)(q_4:Rat)(n_4:Nat)(ys:List (List Ch)),ldE (Zc QN a.links) (Zd x.i).toNat 0 16=some [Ze q n,Ze q_1 n_1,Ze q_2 n_2,Ze q_3 n_3,Ze q_4 n_4,Ch.s 6 ys]/\(0<=Zd x.i/\Zd x.i<Zd (lR b qs).length)/\∃(q_5:Rat)(n_5:Nat),ldE (lR b qs) (Zd x.i).toNat 0 3=some [Ze q_5 n_5]/\n_5<=1000000000/\bnd x.i+bnd x.i+bnd x.i+64+64+n_5<=400000000/\∀(f:FrV) (n_6 m o:Nat),f=JM (FrV.mk x.b.x x.b.y x.b.h x.b.t) (FrV.mk (↑(0:Int)) (↑(0:Int)) false q_5)->n_6<=bnd x.i+64+64+8*bnd x.i+1100->m<=bnd x.i+64+64+8*bnd x.i+1100->o<=2*bnd x.i+2*n_5+400->((x.fs.length+1)*128<=140737488355328/\x.fs.length+1<=9223372036854775807)/\((-9223372036854775808:Int)<=0/\(0:Int)<9223372036854775808)/\n_6+m+o+n+64+64<=400000000/\∀(f_1:FrV) (n_7 m_1 o_1:Nat),f_1=JM (FrV.mk f.x f.y f.h f.t) (FrV.mk q (↑(0:Int)) false ↑(0:Int))->n_7<=n_6+n+64+8*o+1100->m_1<=m+n+64+8*o+1100->o_1<=2*o+128+400->∃(x':FmX),(FmI a qs x'/\OfNat.ofNat 0=0/\a.links.length-x'.i<a.links.length-x.i)/\3=3/\lR b qs=lR b qs/\0=0/\0=0/\0=0/\0=0/\0=0/\x.fs.length+1=x'.fs.length/\16=16/\Zc QN a.links=Zc QN a.links/\Zd a.links.length=Zd a.links.length/\IntKind.i64.wrap (Zd x.i+1)=Zd x'.i/\34=34/\a.name=a.name/\a.x=a.x/\63<=63/\a.y=a.y/\63<=63/\a.half=a.half/\a.t=a.t/\63<=63/\16=16/\Zc QN a.links=Zc QN a.links/\31=31/\f_1.x=x'.b.x/\n_7<=bnd x'.i/\f_1.y=x'.b.y/\m_1<=bnd x'.i/\f_1.h=x'.b.h/\f_1.t=x'.b.t/\o_1<=bnd x'.i/\27=27/\(↑(0:Int):Rat)=(↑(0:Int):Rat)/\64<=64/\(↑(0:Int):Rat)=(↑(0:Int):Rat)/\64<=64/\29=29/\false=false/\(↑(0:Int):Rat)=(↑(0:Int):Rat)/\64<=64/\31=31/\10=10/\(Zo x.fs.length (Zc KB x.fs)++[[Ze f.x n_6,Ze f.y m,Zi (Za f.h),Ze f.t o]]=Zc KB x'.fs∨QC (Zo x.fs.length (Zc KB x.fs)++[[Ze f.x n_6,Ze f.y m,Zi (Za f.h),Ze f.t o]]) (Zc KB x'.fs))/\True else((x.fs.length+1)*128<=140737488355328/\x.fs.length+1<=9223372036854775807)/\K (AV.t [(false,[Ch.s 10 (Zo (x.fs.length+1) (List.drop 0 (Zo x.fs.length (Zc KB x.fs)++[[Ze x.b.x (bnd x.i),Ze x.b.y (bnd x.i),Zi (Za x.b.h),Ze x.b.t (bnd x.i)]])))]),(false,[Zi (Value.int IntKind.i64 0)])])):=by kernel_rfl
theorem QNp (a:Qs)(b:Nat)(qs:List Rat)(hc:(Qt a)/\(b<=400/\qs.length=a.links.length))(K:AV->Prop)(hK: ∀(fs:List FrV) (f:FrV),fs++[f]=Y4 (KA a) a.links qs->fs.length=a.links.length->K (.t [(false,[.s 10 (fs.map KB++[frN (bnd a.links.length) f])]),(false,[.v (.int .i64 0)])])):QR (Ut a b qs K):=by
 refine⟨?_⟩;rw[Gk];try simp only[Zb,R0,R1,Zf,R4]
 obtain⟨ha,hb,hq⟩:=hc;have hn:=ha.n;refine⟨a,rfl,⟨ha,by rw[Xs,hq]⟩,by omega,by omega,by omega,by omega,⟨⟨[],KA a,0⟩,⟨rfl,by simp,rfl⟩,rfl,by simp,rfl,rfl,Zf _,rfl,Zf _,rfl,rfl,Zf _,rfl⟩,fun x ⟨h1,h2,h3⟩=>QF (fun hp=> ?_) (fun hp=> ?_)⟩
 ·have hp:x.i<a.links.length:=by have:=R5 hp;omega
  obtain⟨L,hL⟩: ∃L,a.links[x.i]? =some L:=⟨_,Zh hp⟩
  obtain⟨q,hqi⟩: ∃q,qs[x.i]? =some q:=⟨_,Zh (by omega)⟩
  have hbn:bnd x.i<=1420221:=by
   have:x.i=0∨x.i=1∨x.i=2:=by omega
   rcases this with e | e | e<;>rw[e]<;>decide
  refine⟨by rw[Zn];omega,_,_,_,_,_,_,_,_,_,_,_,Vi (by simpa using hL),by rw[Xs];omega,q,b,Y7 (by simpa using hqi),by omega,by omega,fun f n m o hf hn1 hm ho=> ?_⟩;subst hf;have e1:x.fs.map KB=Zo x.fs.length (x.fs.map KB):=by rw[Zm (by simp)]
  rw[<-e1];refine⟨⟨by omega,by omega⟩,by omega,by omega,fun g n' m' o' hg hn' hm' ho'=> ?_⟩;subst hg;have eb:bnd (x.i+1)=81*bnd x.i+12279:=rfl;refine⟨⟨x.fs++[JM x.b ⟨0,0,false,q⟩],JM (JM x.b ⟨0,0,false,q⟩) ⟨L.len,0,false,0⟩,x.i+1⟩,⟨⟨by simp[h1],hp,?_⟩,by simp only;omega⟩,by simp,by rw[w64 (by omega)];simp,rfl,by simp only[eb];omega,rfl,by simp only[eb];omega,rfl,rfl,by simp only[eb];omega,.inr ?_⟩
  ·simp only;rw[List.append_assoc,<-h3];congr 1;rw[List.drop_eq_getElem_cons hp,List.drop_eq_getElem_cons (by omega:x.i<qs.length)];rw[Zh hp]at hL;rw[Zh (by omega)]at hqi;rw[Option.some.inj hL,Option.some.inj hqi];rfl
  ·rw[List.map_append];exact QQg (QZH _) (QXN (by omega) (by omega) (by omega))
 ·have hp:x.i=a.links.length:=by have:=R6 hp;omega
  refine⟨by omega,?_⟩;have e:a.links.drop x.i=[]:=by rw[hp,List.drop_length]
  rw[e,show Y4 x.b [] (qs.drop x.i)=[x.b]by cases qs.drop x.i<;>rfl]at h3;have:=hK x.fs x.b h3 (by omega);rw[Zm (by simp),List.drop_zero,Zm (by simp),hp];exact this
def Hm:Ctr:=fun as0=>match as0 with
 | [.x true xs,.x false [.s 3 ys]]=>some fun K=> ∃(a:Qs) (b:Nat) (qs:List Rat),xs=Jc a/\ys=lR b qs/\((Qt a)/\(b<=400/\qs.length=a.links.length))/\(∀(fs:List FrV) (f:FrV),fs++[f]=Y4 (KA a) a.links qs->fs.length=a.links.length->K (.t [(false,[.s 10 (fs.map KB++[frN (bnd a.links.length) f])]),(false,[.v (.int .i64 0)])]))
 | _=>none
theorem QKe:CtrOK Tryz.prog QH QG 84 Hm:=by
 refine⟨QJ Tryz.func84 (by kernel_rfl),fun l T hT K hK=> ?_⟩;unfold Hm at hT;split at hT
 ·cases hT
  obtain⟨a,b,qs,rfl,rfl,hc,hK⟩:=hK;exact QI QcV QP Tryz.func84 (by kernel_rfl) (by kernel_rfl) (by rfl) (QNp _ _ _ hc K hK)
 ·cases hT
def L93:List (Nat×Ctr):=(84,Hm)::L92
noncomputable def T93:QU:=mkT L93 M79 X4
theorem QXO:CtrsOK Tryz.prog QH QG L93:= .cons QKe QXM
theorem QcW:QM Tryz.prog QH QG T93:=QY QXO YF Qp
def QUu:OT:=fun _=>([],[])
def QEI (a:Qs)(b:Nat)(qs:List Rat)(K:AV->Prop):Prop:=QW T93 QUu noL Tryz.f29 [Ww a,sR b qs] K
theorem QF6 (a:Qs)(b:Nat)(qs:List Rat)(K:AV->Prop):QEI a b qs K=(∃(a_1:Qs)(b_1:Nat)(qs_1:List Rat),[Zi (Zj a.name),Ze a.x 63,Ze a.y 63,Zi (Za a.half),Ze a.t 63,Ch.s 16 (Zc QN a.links)]=[Zi (Zj a_1.name),Ze a_1.x 63,Ze a_1.y 63,Zi (Za a_1.half),Ze a_1.t 63,Ch.s 16 (Zc QN a_1.links)]/\lR b qs=lR b_1 qs_1/\(Qt a_1/\b_1<=400/\qs_1.length=a_1.links.length)/\∀(fs:List FrV) (f:FrV),fs++[f]=Y4 (KA a_1) a_1.links qs_1->fs.length=a_1.links.length->(0<=IntKind.i64.wrap (Zd (Zc KB fs++[[Ze f.x (bnd a_1.links.length),Ze f.y (bnd a_1.links.length),Zi (Za f.h),Ze f.t (bnd a_1.links.length)]]).length-1)/\IntKind.i64.wrap (Zd (Zc KB fs++[[Ze f.x (bnd a_1.links.length),Ze f.y (bnd a_1.links.length),Zi (Za f.h),Ze f.t (bnd a_1.links.length)]]).length-1)<Zd (Zc KB fs++[[Ze f.x (bnd a_1.links.length),Ze f.y (bnd a_1.links.length),Zi (Za f.h),Ze f.t (bnd a_1.links.length)]]).length)/\∃(q:Rat)(n:Nat)(q_1:Rat)(n_1:Nat)(b:Bool)(q_2:Rat)(n_2:Nat),ldE (Zc KB fs++[[Ze f.x (bnd a_1.links.length),Ze f.y (bnd a_1.links.length),Zi (Za f.h),Ze f.t (bnd a_1.links.length)]]) (IntKind.i64.wrap (Zd (Zc KB fs++[[Ze f.x (bnd a_1.links.length),Ze f.y (bnd a_1.links.length),Zi (Za f.h),Ze f.t (bnd a_1.links.length)]]).length-1)).toNat 0 10=some [Ze q n,Ze q_1 n_1,Zi (Za b),Ze q_2 n_2]/\K (AV.t [(true,[Ze q n,Ze q_1 n_1,Zi (Za b),Ze q_2 n_2]),(false,[Zi (Value.int IntKind.i64 0)])])):=by kernel_rfl
theorem QZJ (a:Qs)(b:Nat)(qs:List Rat)(hc:(Qt a)/\(b<=400/\qs.length=a.links.length))(K:AV->Prop)(hK: ∀n f,n<=120000000->(Y4 (KA a) a.links qs)[a.links.length]? =some f->K (.t [(true,frN n f),(false,[.v (.int .i64 0)])])):QR (QEI a b qs K):=by
 refine⟨?_⟩;rw[QF6];try simp only[Zb]
 obtain⟨ha,hb,hq⟩:=hc;have hn:=ha.n;refine⟨a,b,qs,rfl,rfl,⟨ha,hb,hq⟩,fun fs f hf hl=> ?_⟩;have hbn:bnd a.links.length<=120000000:=QZG hn.2;simp only[List.length_append,Zn,List.length_cons,List.length_nil];rw[w64 (by omega)];have e:((((fs.length+(0+1):Nat):Int)-1).toNat)=a.links.length:=by omega
 rw[e];have hg:(fs++[f])[a.links.length]? =some f:=by rw[<-hl];simp
 obtain⟨n,hn',hld⟩:=QZI hbn hg;have:=hK n f hn' (by rw[<-hf];exact hg);refine⟨by omega,f.x,n,f.y,n,f.h,f.t,n,?_,this⟩;have hld':(Zc KB fs++[[Ze f.x (bnd a.links.length),Ze f.y (bnd a.links.length),Zi (Za f.h),Ze f.t (bnd a.links.length)]])[a.links.length]? =some (frN n f):=hld
 simp only[ldE,hld'];rfl
def QF7:Ctr:=fun as0=>match as0 with
 | [.x true xs,.x false [.s 3 ys]]=>some fun K=> ∃(a:Qs) (b:Nat) (qs:List Rat),xs=Jc a/\ys=lR b qs/\((Qt a)/\(b<=400/\qs.length=a.links.length))/\(∀n f,n<=120000000->(Y4 (KA a) a.links qs)[a.links.length]? =some f->K (.t [(true,frN n f),(false,[.v (.int .i64 0)])]))
 | _=>none
theorem QLv:CtrOK Tryz.prog QH QG 29 QF7:=by
 refine⟨QJ Tryz.func29 (by kernel_rfl),fun l T hT K hK=> ?_⟩;unfold QF7 at hT;split at hT
 ·cases hT
  obtain⟨a,b,qs,rfl,rfl,hc,hK⟩:=hK;exact QI QcW QP Tryz.func29 (by kernel_rfl) (by kernel_rfl) (by rfl) (QZJ _ _ _ hc K hK)
 ·cases hT
def L94:List (Nat×Ctr):=(29,QF7)::L93
noncomputable def T94:QU:=mkT L94 M79 X4
theorem QXP:CtrsOK Tryz.prog QH QG L94:= .cons QLv QXO
theorem QcX:QM Tryz.prog QH QG T94:=QY QXP YF Qp
end Go.Proofs
