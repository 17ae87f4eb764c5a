/- Turns, vectors, frames. -/
import Derived.Test.YtfhfenokfkenoaaGreatDoorAJ
open Go.Value renaming bool → Za, string → Zj
open Int renaming ofNat_eq_natCast → Zb, ofNat → Zd
open List renaming map → Zc, getElem?_eq_getElem → Zh, getElem?_append_right → Zk, getElem?_append_left → Zl, take_of_length_le → Zm, length_map → Zn, take → Zo
open Go.Eng.Ch renaming r → Ze, v → Zi
open Nat renaming le_refl → Zf, zero_add → Zg
namespace Go.Proofs
open Go Go.Eng
def XR (h:Bool)(t:Rat):Rat:=bif h then 0 else t
def QAX (t:Rat):Bool:=decide (t=0)
def QBF (t:Rat):Rat:=bif QAX t then 0 else((-1:Int):Rat)/t
def thH (h1:Bool)(t1:Rat)(h2:Bool)(t2:Rat):Bool:=bif h1&&h2 then false else bif h1 then QAX (XR h2 t2)else bif h2 then QAX (XR h1 t1)else decide (1-t1*t2=0)
def thT (h1:Bool)(t1:Rat)(h2:Bool)(t2:Rat):Rat:=bif h1&&h2 then 0 else bif h1 then QBF (XR h2 t2)else bif h2 then QBF (XR h1 t1)else bif decide (1-t1*t2=0)then 0 else(t1+t2)/(1-t1*t2)
def Vn (h:Bool)(t:Rat):Rat:=bif h then-1 else(1-t*t)/(1+t*t)
def VS (h:Bool)(t:Rat):Rat:=bif h then 0 else(t+t)/(1+t*t)
structure FrV where
  x:Rat
  y:Rat
  h:Bool
  t:Rat
def QNN (f:FrV)(x y:Rat):Rat:=f.x+(x*Vn f.h f.t-y*VS f.h f.t)
def QNO (f:FrV)(x y:Rat):Rat:=f.y+(x*VS f.h f.t+y*Vn f.h f.t)
def KD (f g:FrV):FrV:=⟨QNN f g.x g.y,QNO f g.x g.y,thH f.h f.t g.h g.t,thT f.h f.t g.h g.t⟩
theorem JD (p:Rat):Y7 p p=p:=by unfold Y7;split<;>rfl
theorem QXH (t:Rat):0<=t*t:=by
 rcases @Rat.le_total 0 t with h | h
 ·exact Rat.mul_nonneg h h
 ·have:=Rat.mul_nonneg (show 0<= -t by grind) (show 0<= -t by grind);grind
theorem sq1 (t:Rat):1+t*t≠0:=by have:=QXH t;grind
def L79:LC:=L52
def M79:List (Nat×XW):=M48
theorem QS8:QG L79:=QS7
theorem YH:Xe M79:=UF
theorem QXI (t:Rat)(a:Nat)(hc:(a<=1000000000))(K:AV->Prop)(hK:K (.x true [.v (.bool false),.r t a])):QK (QT (mkT L79 M79 X4) (oF Tryz.f141) noL Tryz.f141 [rA t a] K):=by
 refine HV ((a+a<=4294967296/\K (AV.x true [Zi (Za false),Ze (Y7 t t) (max a a)]))) ?_
 try simp only[Zb,R0,R1,Zg,Zf,R4,R2,R3]
 rw[JD,Nat.max_self];exact⟨by omega,hK⟩
def QNP:Ctr
 | [.x true [.r t a]]=>some fun K=>((a<=1000000000))/\(K (.x true [.v (.bool false),.r t a]))
 | _=>none
theorem QUl:QJ 141 QNP:=by
 refine okL Tryz.func141 fun l T hT K hK=> ?_
 unfold QNP at hT;split at hT<;>cases hT
 obtain⟨hc,hK⟩:=hK;exact spL (QV QS8 YH Qo) QN Tryz.func141 (QXI _ _ hc K hK)
def L80:LC:=(141,QNP)::L79
theorem QS9:QG L80:= .cons QUl QS8
theorem QRA (_hc:True)(K:AV->Prop)(hK:K (.x true [.v (.bool true),.r 0 64])):QK (QT (mkT L80 M79 X4) (oF Tryz.f195) noL Tryz.f195 [] K):=by
 refine HV ((((-9223372036854775808:Int)<=0/\(0:Int)<9223372036854775808)/\K (AV.x true [Zi (Za true),Ze (↑(0:Int)) 64]))) ?_
 try simp only[Zb,R0,R1,Zg,Zf,R4,R2,R3]
 exact⟨by omega,hK⟩
def QDI:Ctr
 | []=>some fun K=>(True)/\(K (.x true [.v (.bool true),.r 0 64]))
 | _=>none
theorem QNQ:QJ 195 QDI:=by
 refine okL Tryz.func195 fun l T hT K hK=> ?_
 unfold QDI at hT;split at hT<;>cases hT
 obtain⟨hc,hK⟩:=hK;exact spL (QV QS9 YH Qo) QN Tryz.func195 (QRA  hc K hK)
def L81:LC:=(195,QDI)::L80
theorem QTA:QG L81:= .cons QNQ QS9
theorem QUm (h:Bool)(t:Rat)(a:Nat)(hc:(a<=1000000000))(K:AV->Prop)(hK: ∀n,n<=a+64->K (.x true [.v (.bool h),.r (XR h t) n])):QK (QT (mkT L81 M79 X4) (oF Tryz.f190) noL Tryz.f190 [.x true [.v (.bool h),.r t a]] K):=by
 refine HV ((bif h then True/\K (AV.x true [Zi (Za true),Ze (OfNat.ofNat 0) 64])else a<=1000000000/\K (AV.x true [Zi (Za false),Ze t a]))) ?_
 try simp only[R0]
 cases h with
 | true=>exact hK 64 (by omega)
 | false=>exact⟨hc,hK a (by omega)⟩
def QHG:Ctr
 | [.x true [.v (.bool h),.r t a]]=>some fun K=>((a<=1000000000))/\(∀n,n<=a+64->K (.x true [.v (.bool h),.r (XR h t) n]))
 | _=>none
theorem QRB:QJ 190 QHG:=by
 refine okL Tryz.func190 fun l T hT K hK=> ?_
 unfold QHG at hT;split at hT<;>cases hT
 obtain⟨hc,hK⟩:=hK;exact spL (QV QTA YH Qo) QN Tryz.func190 (QUm _ _ _ hc K hK)
def L82:LC:=(190,QHG)::L81
theorem QTB:QG L82:= .cons QRB QTA
theorem QUn (h:Bool)(t:Rat)(a:Nat)(hc:(a<=900000000))(K:AV->Prop)(hK: ∀n,n<=a+64->K (.x true [.v (.bool (QAX t)),.r (QBF t) n])):QK (QT (mkT L82 M79 X4) (oF Tryz.f194) noL Tryz.f194 [.x true [.v (.bool h),.r t a]] K):=by
 refine HV ((((-9223372036854775808:Int)<= -1/\(-1:Int)<9223372036854775808)/\64+a<=4294967296/\(t≠OfNat.ofNat 0->64+a<=1000000000/\K (AV.x true [Zi (Za false),Ze (↑(-1:Int)/t) (64+a)]))/\(t=OfNat.ofNat 0->True/\K (AV.x true [Zi (Za true),Ze (OfNat.ofNat 0) 64])))) ?_
 try simp only[R0]
 refine⟨by omega,by omega,fun h0=>⟨by omega,?_⟩,fun h0=> ?_⟩
 ·have e:QAX t=false:=decide_eq_false h0;have:=hK (64+a) (by omega);unfold QBF at this;rw[e]at this;exact this
 ·have e:QAX t=true:=decide_eq_true h0;have:=hK 64 (by omega);unfold QBF at this;rw[e]at this;exact this
def QHH:Ctr
 | [.x true [.v (.bool _h),.r t a]]=>some fun K=>((a<=900000000))/\(∀n,n<=a+64->K (.x true [.v (.bool (QAX t)),.r (QBF t) n]))
 | _=>none
theorem QRC:QJ 194 QHH:=by
 refine okL Tryz.func194 fun l T hT K hK=> ?_
 unfold QHH at hT;split at hT<;>cases hT
 obtain⟨hc,hK⟩:=hK;exact spL (QV QTB YH Qo) QN Tryz.func194 (QUn _ _ _ hc K hK)
def L83:LC:=(194,QHH)::L82
theorem QTC:QG L83:= .cons QRC QTB
theorem QRD (h:Bool)(t:Rat)(a:Nat)(g:Bool)(u:Rat)(b:Nat)(hc:(a+b<=400000000))(K:AV->Prop)(hK: ∀n,n<=2*a+2*b+400->K (.x true [.v (.bool (thH h t g u)),.r (thT h t g u) n])):QK (QT (mkT L83 M79 X4) (oF Tryz.f148) noL Tryz.f148 [.x true [.v (.bool h),.r t a],.x true [.v (.bool g),.r u b]] K):=by
 refine HV ((a<=1000000000/\∀(n:Nat),n<=a+64->b<=1000000000/\∀(n_1:Nat),n_1<=b+64->bif h then bif g then((-9223372036854775808:Int)<=0/\(0:Int)<9223372036854775808)/\64<=1000000000/\K (AV.x true [Zi (Za false),Ze (↑(0:Int)) 64])else bif h then n_1<=900000000/\∀(n:Nat),n<=n_1+64->K (AV.x true [Zi (Za (QAX (XR g u))),Ze (QBF (XR g u)) n])else bif g then n<=900000000/\∀(n_2:Nat),n_2<=n+64->K (AV.x true [Zi (Za (QAX (XR h t))),Ze (QBF (XR h t)) n_2])else n+n_1+1<=4294967296/\((-9223372036854775808:Int)<=1/\(1:Int)<9223372036854775808)/\n+n_1<=4294967296/\64+(n+n_1)+1<=4294967296/\n+n_1+1+(64+(n+n_1)+1)<=4294967296/\(↑(1:Int)-XR h t*XR g u≠OfNat.ofNat 0->n+n_1+1+(64+(n+n_1)+1)<=1000000000/\K (AV.x true [Zi (Za false),Ze ((XR h t+XR g u)/(↑(1:Int)-XR h t*XR g u)) (n+n_1+1+(64+(n+n_1)+1))]))/\(↑(1:Int)-XR h t*XR g u=OfNat.ofNat 0->True/\K (AV.x true [Zi (Za true),Ze (OfNat.ofNat 0) 64]))else bif h then n_1<=900000000/\∀(n:Nat),n<=n_1+64->K (AV.x true [Zi (Za (QAX (XR g u))),Ze (QBF (XR g u)) n])else bif g then n<=900000000/\∀(n_2:Nat),n_2<=n+64->K (AV.x true [Zi (Za (QAX (XR h t))),Ze (QBF (XR h t)) n_2])else n+n_1+1<=4294967296/\((-9223372036854775808:Int)<=1/\(1:Int)<9223372036854775808)/\n+n_1<=4294967296/\64+(n+n_1)+1<=4294967296/\n+n_1+1+(64+(n+n_1)+1)<=4294967296/\(↑(1:Int)-XR h t*XR g u≠OfNat.ofNat 0->n+n_1+1+(64+(n+n_1)+1)<=1000000000/\K (AV.x true [Zi (Za false),Ze ((XR h t+XR g u)/(↑(1:Int)-XR h t*XR g u)) (n+n_1+1+(64+(n+n_1)+1))]))/\(↑(1:Int)-XR h t*XR g u=OfNat.ofNat 0->True/\K (AV.x true [Zi (Za true),Ze (OfNat.ofNat 0) 64])))) ?_
 try simp only[R0]
 refine⟨by omega,fun n hn=>⟨by omega,fun m hm=> ?_⟩⟩;cases h with
 | true=>
  cases g with
  | true=>exact⟨by omega,by omega,hK 64 (by omega)⟩
  | false=>exact⟨by omega,fun k hk=>hK k (by omega)⟩
 | false=>
  cases g with
  | true=>exact⟨by omega,fun k hk=>hK k (by omega)⟩
  | false=>
   refine⟨by omega,by omega,by omega,by omega,by omega,fun h0=>⟨by omega,?_⟩,fun h0=> ?_⟩
   ·have e:decide (1-t*u=0)=false:=decide_eq_false h0;have:=hK (n+m+1+(64+(n+m)+1)) (by omega);simp only[thH,thT,Bool.and_self,R8,e]at this;exact this
   ·have e:decide (1-t*u=0)=true:=decide_eq_true h0;have:=hK 64 (by omega);simp only[thH,thT,Bool.and_self,R8,e,R7]at this;exact this
def QDJ:Ctr
 | [.x true [.v (.bool h),.r t a],.x true [.v (.bool g),.r u b]]=>some fun K=>((a+b<=400000000))/\(∀n,n<=2*a+2*b+400->K (.x true [.v (.bool (thH h t g u)),.r (thT h t g u) n]))
 | _=>none
theorem QNR:QJ 148 QDJ:=by
 refine okL Tryz.func148 fun l T hT K hK=> ?_
 unfold QDJ at hT;split at hT<;>cases hT
 obtain⟨hc,hK⟩:=hK;exact spL (QV QTC YH Qo) QN Tryz.func148 (QRD _ _ _ _ _ _ hc K hK)
def L84:LC:=(148,QDJ)::L83
theorem QTD:QG L84:= .cons QNR QTC
theorem QUo (h:Bool)(t:Rat)(a:Nat)(hc:(a<=500000000))(K:AV->Prop)(hK: ∀n,n<=4*a+400->K (rA (Vn h t) n)):QK (QT (mkT L84 M79 X4) (oF Tryz.f149) noL Tryz.f149 [.x true [.v (.bool h),.r t a]] K):=by
 refine HV ((a<=1000000000/\∀(n:Nat),n<=a+64->bif h then((-9223372036854775808:Int)<= -1/\(-1:Int)<9223372036854775808)/\K (AV.x true [Ze (↑(-1:Int)) 64])else n+n<=4294967296/\((-9223372036854775808:Int)<=1/\(1:Int)<9223372036854775808)/\64+(n+n)+1<=4294967296/\((-9223372036854775808:Int)<=1/\(1:Int)<9223372036854775808)/\64+(n+n)+1<=4294967296/\64+(n+n)+1+(64+(n+n)+1)<=4294967296/\(↑(1:Int)+XR h t*XR h t≠OfNat.ofNat 0->K (AV.x true [Ze ((↑(1:Int)-XR h t*XR h t)/(↑(1:Int)+XR h t*XR h t)) (64+(n+n)+1+(64+(n+n)+1))]))/\(↑(1:Int)+XR h t*XR h t=OfNat.ofNat 0->K (AV.x true [Zi (Za false),Zi (Zj (ByteArray.mk (Array.mk []))),Zi (Zj (ByteArray.mk (Array.mk [])))])))) ?_
 try simp only[Zb,R0,R1,Zg,Zf,R4,R2,R3]
 refine⟨by omega,fun n hn=> ?_⟩;cases h with
 | true=>exact⟨by omega,hK 64 (by omega)⟩
 | false=>exact⟨by omega,by omega,by omega,by omega,by omega,by omega,fun _=>hK _ (by omega),fun h0=>absurd h0 (sq1 t)⟩
def QHI:Ctr
 | [.x true [.v (.bool h),.r t a]]=>some fun K=>((a<=500000000))/\(∀n,n<=4*a+400->K (rA (Vn h t) n))
 | _=>none
theorem QRE:QJ 149 QHI:=by
 refine okL Tryz.func149 fun l T hT K hK=> ?_
 unfold QHI at hT;split at hT<;>cases hT
 obtain⟨hc,hK⟩:=hK;exact spL (QV QTD YH Qo) QN Tryz.func149 (QUo _ _ _ hc K hK)
def L85:LC:=(149,QHI)::L84
theorem QTE:QG L85:= .cons QRE QTD
theorem QUp (h:Bool)(t:Rat)(a:Nat)(hc:(a<=500000000))(K:AV->Prop)(hK: ∀n,n<=4*a+400->K (rA (VS h t) n)):QK (QT (mkT L85 M79 X4) (oF Tryz.f150) noL Tryz.f150 [.x true [.v (.bool h),.r t a]] K):=by
 refine HV ((a<=1000000000/\∀(n:Nat),n<=a+64->n+n+1<=4294967296/\((-9223372036854775808:Int)<=1/\(1:Int)<9223372036854775808)/\n+n<=4294967296/\64+(n+n)+1<=4294967296/\n+n+1+(64+(n+n)+1)<=4294967296/\(↑(1:Int)+XR h t*XR h t≠OfNat.ofNat 0->K (AV.x true [Ze ((XR h t+XR h t)/(↑(1:Int)+XR h t*XR h t)) (n+n+1+(64+(n+n)+1))]))/\(↑(1:Int)+XR h t*XR h t=OfNat.ofNat 0->K (AV.x true [Zi (Za false),Zi (Zj (ByteArray.mk (Array.mk []))),Zi (Zj (ByteArray.mk (Array.mk [])))])))) ?_
 try simp only[Zb,R0,R1,Zg,Zf,R4,R2,R3]
 refine⟨by omega,fun n hn=>⟨by omega,by omega,by omega,by omega,by omega,fun h0=> ?_,fun h0=>absurd h0 (sq1 _)⟩⟩;have e:(XR h t+XR h t)/(((1:Int):Rat)+XR h t*XR h t)=VS h t:=by
  cases h with
  | true=>show((0:Rat)+0)/_=0;rw[Rat.add_zero,Rat.div_def,Rat.zero_mul]
  | false=>rfl
 rw[e];exact hK _ (by omega)
def QHJ:Ctr
 | [.x true [.v (.bool h),.r t a]]=>some fun K=>((a<=500000000))/\(∀n,n<=4*a+400->K (rA (VS h t) n))
 | _=>none
theorem QRF:QJ 150 QHJ:=by
 refine okL Tryz.func150 fun l T hT K hK=> ?_
 unfold QHJ at hT;split at hT<;>cases hT
 obtain⟨hc,hK⟩:=hK;exact spL (QV QTE YH Qo) QN Tryz.func150 (QUp _ _ _ hc K hK)
def L86:LC:=(150,QHJ)::L85
theorem QTF:QG L86:= .cons QRF QTE
theorem QUq (px:Rat)(a:Nat)(py:Rat)(b:Nat)(qx:Rat)(c:Nat)(qy:Rat)(d:Nat)(hc:(a+c<=4294967290)/\(b+d<=4294967290))(K:AV->Prop)(hK:K (.x true [.r (px+qx) (a+c+1),.r (py+qy) (b+d+1)])):QK (QT (mkT L86 M79 X4) (oF Tryz.f108) noL Tryz.f108 [.x true [.r px a,.r py b],.x true [.r qx c,.r qy d]] K):=by
 refine HV ((a+c+1<=4294967296/\b+d+1<=4294967296/\K (AV.x true [Ze (px+qx) (a+c+1),Ze (py+qy) (b+d+1)]))) ?_
 try simp only[Zb,R0,R1,Zg,Zf,R4,R2,R3]
 exact⟨by omega,by omega,hK⟩
def QHK:Ctr
 | [.x true [.r px a,.r py b],.x true [.r qx c,.r qy d]]=>some fun K=>((a+c<=4294967290)/\(b+d<=4294967290))/\(K (.x true [.r (px+qx) (a+c+1),.r (py+qy) (b+d+1)]))
 | _=>none
theorem QRG:QJ 108 QHK:=by
 refine okL Tryz.func108 fun l T hT K hK=> ?_
 unfold QHK at hT;split at hT<;>cases hT
 obtain⟨hc,hK⟩:=hK;exact spL (QV QTF YH Qo) QN Tryz.func108 (QUq _ _ _ _ _ _ _ _ hc K hK)
def L87:LC:=(108,QHK)::L86
theorem QTG:QG L87:= .cons QRG QTF
theorem QUr (px:Rat)(a:Nat)(py:Rat)(b:Nat)(qx:Rat)(c:Nat)(qy:Rat)(d:Nat)(hc:(a+b+c+d<=4294967290))(K:AV->Prop)(hK:K (rA (px*qx+py*qy) (a+c+(b+d)+1))):QK (QT (mkT L87 M79 X4) (oF Tryz.f222) noL Tryz.f222 [.x true [.r px a,.r py b],.x true [.r qx c,.r qy d]] K):=by
 refine HV ((a+c<=4294967296/\b+d<=4294967296/\a+c+(b+d)+1<=4294967296/\K (AV.x true [Ze (px*qx+py*qy) (a+c+(b+d)+1)]))) ?_
 try simp only[Zb,R0,R1,Zg,Zf,R4,R2,R3]
 exact⟨by omega,by omega,by omega,hK⟩
def QHL:Ctr
 | [.x true [.r px a,.r py b],.x true [.r qx c,.r qy d]]=>some fun K=>((a+b+c+d<=4294967290))/\(K (rA (px*qx+py*qy) (a+c+(b+d)+1)))
 | _=>none
theorem QRH:QJ 222 QHL:=by
 refine okL Tryz.func222 fun l T hT K hK=> ?_
 unfold QHL at hT;split at hT<;>cases hT
 obtain⟨hc,hK⟩:=hK;exact spL (QV QTG YH Qo) QN Tryz.func222 (QUr _ _ _ _ _ _ _ _ hc K hK)
def L88:LC:=(222,QHL)::L87
theorem QXJ:QG L88:= .cons QRH QTG
def L89:LC:=L88
theorem QTH:QG L89:=QXJ
abbrev QIb (px:Rat)(a:Nat)(py:Rat)(b:Nat)(h:Bool)(t:Rat)(c:Nat)(K:AV->Prop):Prop:=((a+b+c<=400000000))/\(∀n m,n<=a+b+8*c+1000->m<=a+b+8*c+1000->K (.x true [.r (px*Vn h t-py*VS h t) n,.r (px*VS h t+py*Vn h t) m]))
theorem QRI (px:Rat)(a:Nat)(py:Rat)(b:Nat)(h:Bool)(t:Rat)(c:Nat)(K:AV->Prop)(hK:QIb px a py b h t c K):QK (QT (mkT L89 M79 X4) (oF Tryz.f93) noL Tryz.f93 [.x true [.r px a,.r py b],.x true [.v (.bool h),.r t c]] K):=by
 obtain⟨hc,hK⟩:=hK;refine HV ((c<=500000000/\∀(n:Nat),n<=4*c+400->c<=500000000/\∀(n_1:Nat),n_1<=4*c+400->a+n<=4294967296/\b+n_1<=4294967296/\a+n+(b+n_1)+1<=4294967296/\a+n_1<=4294967296/\b+n<=4294967296/\a+n_1+(b+n)+1<=4294967296/\K (AV.x true [Ze (px*Vn h t-py*VS h t) (a+n+(b+n_1)+1),Ze (px*VS h t+py*Vn h t) (a+n_1+(b+n)+1)]))) ?_
 try simp only[Zb,R0,R1,Zg,Zf,R4,R2,R3]
 exact⟨by omega,fun n hn=>⟨by omega,fun m hm=>⟨by omega,by omega,by omega,by omega,by omega,by omega,hK _ _ (by omega) (by omega)⟩⟩⟩
def QDK:Ctr
 | [.x true [.r px a,.r py b],.x true [.v (.bool h),.r t c]]=>some fun K=>QIb px a py b h t c K
 | _=>none
theorem QNS:QJ 93 QDK:=by
 refine okL Tryz.func93 fun l T hT K hK=> ?_
 unfold QDK at hT;split at hT<;>cases hT
 exact spL (QV QTH YH Qo) QN Tryz.func93 (QRI _ _ _ _ _ _ _ K hK)
def L90:LC:=(93,QDK)::L89
theorem QTI:QG L90:= .cons QNS QTH
abbrev QNT (x:Rat)(i:Nat)(y:Rat)(j:Nat)(h:Bool)(t:Rat)(k:Nat)(px:Rat)(a:Nat)(py:Rat)(b:Nat)(K:AV->Prop):Prop:=((i+j+k+a+b<=400000000))/\(∀n m,n<=i+a+b+8*k+1100->m<=j+a+b+8*k+1100->K (.x true [.r (QNN ⟨x,y,h,t⟩ px py) n,.r (QNO ⟨x,y,h,t⟩ px py) m]))
theorem QUs (x:Rat)(i:Nat)(y:Rat)(j:Nat)(h:Bool)(t:Rat)(k:Nat)(px:Rat)(a:Nat)(py:Rat)(b:Nat)(K:AV->Prop)(hK:QNT x i y j h t k px a py b K):QK (QT (mkT L90 M79 X4) (oF Tryz.f82) noL Tryz.f82 [.x true [.r x i,.r y j,.v (.bool h),.r t k],.x true [.r px a,.r py b]] K):=by
 obtain⟨hc,hK⟩:=hK;refine HV ((a+b+k<=400000000/\∀(n m:Nat),n<=a+b+8*k+1000->m<=a+b+8*k+1000->(i+n<=4294967290/\j+m<=4294967290)/\K (AV.x true [Ze (x+(px*Vn h t-py*VS h t)) (i+n+1),Ze (y+(px*VS h t+py*Vn h t)) (j+m+1)]))) ?_
 try simp only[Zb,R0,R1,Zg,Zf,R4,R2,R3]
 exact⟨by omega,fun n m hn hm=>⟨by omega,hK _ _ (by omega) (by omega)⟩⟩
def QHM:Ctr
 | [.x true [.r x i,.r y j,.v (.bool h),.r t k],.x true [.r px a,.r py b]]=>some fun K=>QNT x i y j h t k px a py b K
 | _=>none
theorem QRJ:QJ 82 QHM:=by
 refine okL Tryz.func82 fun l T hT K hK=> ?_
 unfold QHM at hT;split at hT<;>cases hT
 exact spL (QV QTI YH Qo) QN Tryz.func82 (QUs _ _ _ _ _ _ _ _ _ _ _ K hK)
def L91:LC:=(82,QHM)::L90
theorem QTJ:QG L91:= .cons QRJ QTI
abbrev QIc (x:Rat)(i:Nat)(y:Rat)(j:Nat)(h:Bool)(t:Rat)(k:Nat)(px:Rat)(a:Nat)(py:Rat)(b:Nat)(g:Bool)(u:Rat)(l:Nat)(K:AV->Prop):Prop:=((i+j+k+a+b+l<=400000000))/\(∀f n m o,f=KD ⟨x,y,h,t⟩ ⟨px,py,g,u⟩->n<=i+a+b+8*k+1100->m<=j+a+b+8*k+1100->o<=2*k+2*l+400->K (.x true [.r f.x n,.r f.y m,.v (.bool f.h),.r f.t o]))
theorem QRK (x:Rat)(i:Nat)(y:Rat)(j:Nat)(h:Bool)(t:Rat)(k:Nat)(px:Rat)(a:Nat)(py:Rat)(b:Nat)(g:Bool)(u:Rat)(l:Nat)(K:AV->Prop)(hK:QIc x i y j h t k px a py b g u l K):QK (QT (mkT L91 M79 X4) (oF Tryz.f91) noL Tryz.f91 [.x true [.r x i,.r y j,.v (.bool h),.r t k],.x true [.r px a,.r py b,.v (.bool g),.r u l]] K):=by
 obtain⟨hc,hK⟩:=hK;refine HV ((i+j+k+a+b<=400000000/\∀(n m:Nat),n<=i+a+b+8*k+1100->m<=j+a+b+8*k+1100->k+l<=400000000/\∀(n_1:Nat),n_1<=2*k+2*l+400->K (AV.x true [Ze (QNN (FrV.mk x y h t) px py) n,Ze (QNO (FrV.mk x y h t) px py) m,Zi (Za (thH h t g u)),Ze (thT h t g u) n_1]))) ?_
 try simp only[Zb,R0,R1,Zg,Zf,R4,R2,R3]
 exact⟨by omega,fun n m hn hm=>⟨by omega,fun o ho=>hK _ _ _ _ rfl (by omega) (by omega) (by omega)⟩⟩
def QDL:Ctr
 | [.x true [.r x i,.r y j,.v (.bool h),.r t k],.x true [.r px a,.r py b,.v (.bool g),.r u l]]=>some fun K=>QIc x i y j h t k px a py b g u l K
 | _=>none
theorem QNU:QJ 91 QDL:=by
 refine okL Tryz.func91 fun l T hT K hK=> ?_
 unfold QDL at hT;split at hT<;>cases hT
 exact spL (QV QTJ YH Qo) QN Tryz.func91 (QRK _ _ _ _ _ _ _ _ _ _ _ _ _ _ K hK)
def L92:LC:=(91,QDL)::L91
noncomputable def T92:Qa:=mkT L92 M79 X4
theorem QTK:QG L92:= .cons QNU QTJ
theorem QXK:XH T92:=QV QTK YH Qo
end Go.Proofs
namespace Go.Proofs
open Go Go.Eng
def JQ:FrV->List QZ->List Rat->List FrV
 | b,L::ls,q::qs=>KD b ⟨0,0,false,q⟩::JQ (KD (KD b ⟨0,0,false,q⟩) ⟨L.len,0,false,0⟩) ls qs
 | b,_,_=>[b]
def UI (a:ArmV):FrV:=⟨a.x,a.y,a.half,a.t⟩
def bnd:Nat->Nat
 | 0=>63
 | i+1=>81*bnd i+12279
def frN (n:Nat)(f:FrV):List Ch:=[.r f.x n,.r f.y n,.v (.bool f.h),.r f.t n]
abbrev KE (f:FrV):List Ch:=[.r f.x 12800000,.r f.y 12800000,.v (.bool f.h),.r f.t 12800000]
theorem QNV {xs:List (List Ch)}{a b:List Ch}(hx:QE xs xs)(h:MC (fun _=>none) a b/\Qj b=[]):QE (xs++[a]) (xs++[b]):=by
 refine⟨by simp,fun i x y hx' hy'=> ?_⟩;by_cases hi:i<xs.length
 ·rw[Zl hi]at hx' hy';exact hx.2 i x y hx' hy'
 ·rw[Zk (by omega)]at hx' hy';have:i-xs.length=0:=by
   have:=(List.getElem?_eq_some_iff.1 hx').1;simp at this;omega
  rw[this]at hx' hy';cases hx';cases hy';exact h
theorem QTL {n m o N:Nat}{f:FrV}(h1:n<=N)(h2:m<=N)(h3:o<=N):MC (fun _=>none) [.r f.x n,.r f.y m,.v (.bool f.h),.r f.t o] (frN N f)/\Qj (frN N f)=[]:=⟨.r h1 (.r h2 (.v (.r h3 .nil))),rfl⟩
theorem QUt {n:Nat}(h:n<=3):bnd n<=120000000:=by
 have:n=0∨n=1∨n=2∨n=3:=by omega
 rcases this with e | e | e | e<;>rw[e]<;>decide
theorem QUu (fs:List FrV):QE (fs.map KE) (fs.map KE):=by
 refine⟨rfl,fun i x y hx hy=> ?_⟩;rw[hx]at hy;cases hy
 rw[List.getElem?_map]at hx;cases hf:fs[i]? with
 | none=>rw[hf]at hx;cases hx
 | some f=>rw[hf]at hx;cases hx;exact QTL (Zf _) (Zf _) (Zf _)
theorem QUv {fs:List FrV}{f:FrV}{m i:Nat}{g:FrV}(hm:m<=120000000)(h:(fs++[f])[i]? =some g): ∃n,n<=120000000/\(fs.map KE++[frN m f])[i]? =some (frN n g):=by
 by_cases hi:i<fs.length
 ·rw[Zl hi]at h;exact⟨12800000,by omega,by rw[Zl (by simpa using hi),List.getElem?_map,h];rfl⟩
 ·rw[Zk (by omega)]at h;have:i-fs.length=0:=by
   have:=(List.getElem?_eq_some_iff.1 h).1;simp at this;omega
  rw[this]at h;cases h
  exact⟨m,hm,by rw[Zk (by simp;omega),Zn,this];rfl⟩
structure FmX where
 fs:List FrV
 b:FrV
 i:Nat
structure FmI (a:ArmV)(qs:List Rat)(x:FmX):Prop where
 n:x.fs.length=x.i
 le:x.i<=a.links.length
 eq:x.fs++JQ x.b (a.links.drop x.i) (qs.drop x.i)=JQ (UI a) a.links qs
def QHN (a:ArmV)(b:Nat)(qs:List Rat):LI:=fun _=> .inv ⟨FmX,fun x=>⟨[(1,sR b qs),(2,.x false [.p 2 0]),(7,.x false [.p 7 0]),(8,.x false [.p 8 0]),(9,.x false [.p 9 0]),(10,.x false [.w 500 0 x.fs.length]),(29,.x false [.s 16 (a.links.map QH)]),(30,iA .i64 a.links.length),(31,iA .i64 x.i)],
 [(2,.box 34 (XY a)),(7,.box 31 (frN (bnd x.i) x.b)),(8,.box 27 [.r ((0:Int):Rat) 64,.r ((0:Int):Rat) 64]),(9,.box 29 [.v (.bool false),.r ((0:Int):Rat) 64]),(500,.row 31 10 (x.fs.map KE))]⟩,FmI a qs,fun x=>a.links.length-x.i,fun _=>0⟩
abbrev QBw (a:ArmV)(b:Nat)(qs:List Rat)(K:AV->Prop):Prop:=((QX a)/\(b<=400/\qs.length=a.links.length))/\(∀(fs:List FrV) (f:FrV),fs++[f]=JQ (UI a) a.links qs->fs.length=a.links.length->K (.t [(false,[.s 10 (fs.map KE++[frN (bnd a.links.length) f])]),(false,[.v (.int .i64 0)])]))
set_option maxHeartbeats 1000000 in
theorem QKc (a:ArmV)(b:Nat)(qs:List Rat)(K:AV->Prop)(hK:QBw a b qs K):QK (QT T92 (oF Tryz.f80) (QHN a b qs) Tryz.f80 [KT a,sR b qs] K):=by
 obtain⟨hc,hK⟩:=hK;refine HV ((∃(a_1:ArmV),[Zi (Zj a.name),Ze a.x 63,Ze a.y 63,Zi (Za a.half),Ze a.t 63,Ch.s 16 (Zc QH a.links)]=[Zi (Zj a_1.name),Ze a_1.x 63,Ze a_1.y 63,Zi (Za a_1.half),Ze a_1.t 63,Ch.s 16 (Zc QH a_1.links)]/\(QX a_1/\Zd (lR b qs).length=Zd a_1.links.length)/\((-9223372036854775808:Int)<=0/\(0:Int)<9223372036854775808)/\((-9223372036854775808:Int)<=0/\(0:Int)<9223372036854775808)/\((-9223372036854775808:Int)<=0/\(0:Int)<9223372036854775808)/\64<=1000000000/\(∃(x:FmX),(FmI a qs x/\OfNat.ofNat 0=0)/\3=3/\lR b qs=lR b qs/\0=0/\0=0/\0=0/\0=0/\Value.slice none 0 0=Value.slice none 0 0/\0=0/\x.fs.length=0/\16=16/\Zc QH a.links=Zc QH a.links/\Zd (Zc QH a.links).length=Zd a.links.length/\0=Zd x.i/\34=34/\a.name=a.name/\a.x=a.x/\63<=63/\a.y=a.y/\63<=63/\a.half=a.half/\a.t=a.t/\63<=63/\16=16/\Zc QH a.links=Zc QH a.links/\31=31/\a.x=x.b.x/\63<=bnd x.i/\a.y=x.b.y/\63<=bnd x.i/\a.half=x.b.h/\a.t=x.b.t/\63<=bnd x.i/\27=27/\(↑(0:Int):Rat)=(↑(0:Int):Rat)/\64<=64/\(↑(0:Int):Rat)=(↑(0:Int):Rat)/\64<=64/\29=29/\false=false/\(↑(0:Int):Rat)=(↑(0:Int):Rat)/\64<=64/\Zc KE x.fs=[]/\True)/\∀(x:FmX),FmI a qs x->OfNat.ofNat 0=0->bif decide (Zd x.i<Zd a.links.length)then(0<=Zd x.i/\Zd x.i<Zd (Zc QH a.links).length)/\∃(q:Rat),∃(n:Nat),∃(q_1:Rat),∃(n_1:Nat),∃(q_2:Rat),∃(n_2:Nat),∃(q_3:Rat),∃(n_3:Nat),∃(q_4:Rat),∃(n_4:Nat),∃(ys:List (List Ch)),ldE (Zc QH a.links) (Zd x.i).toNat 0 16=some [Ze q n,Ze q_1 n_1,Ze q_2 n_2,Ze q_3 n_3,Ze q_4 n_4,Ch.s 6 ys]/\(0<=Zd x.i/\Zd x.i<Zd (lR b qs).length)/\∃(q_5:Rat),∃(n_5:Nat),ldE (lR b qs) (Zd x.i).toNat 0 3=some [Ze q_5 n_5]/\n_5<=1000000000/\bnd x.i+bnd x.i+bnd x.i+64+64+n_5<=400000000/\∀(f:FrV) (n_6 m o:Nat),f=KD (FrV.mk x.b.x x.b.y x.b.h x.b.t) (FrV.mk (↑(0:Int)) (↑(0:Int)) false q_5)->n_6<=bnd x.i+64+64+8*bnd x.i+1100->m<=bnd x.i+64+64+8*bnd x.i+1100->o<=2*bnd x.i+2*n_5+400->((x.fs.length+1)*128<=140737488355328/\x.fs.length+1<=9223372036854775807)/\((-9223372036854775808:Int)<=0/\(0:Int)<9223372036854775808)/\n_6+m+o+n+64+64<=400000000/\∀(f_1:FrV) (n_7 m_1 o_1:Nat),f_1=KD (FrV.mk f.x f.y f.h f.t) (FrV.mk q (↑(0:Int)) false ↑(0:Int))->n_7<=n_6+n+64+8*o+1100->m_1<=m+n+64+8*o+1100->o_1<=2*o+128+400->∃(x':FmX),(FmI a qs x'/\OfNat.ofNat 0=0/\a.links.length-x'.i<a.links.length-x.i)/\3=3/\lR b qs=lR b qs/\0=0/\0=0/\0=0/\0=0/\0=0/\x.fs.length+1=x'.fs.length/\16=16/\Zc QH a.links=Zc QH a.links/\Zd a.links.length=Zd a.links.length/\IntKind.i64.wrap (Zd x.i+1)=Zd x'.i/\34=34/\a.name=a.name/\a.x=a.x/\63<=63/\a.y=a.y/\63<=63/\a.half=a.half/\a.t=a.t/\63<=63/\16=16/\Zc QH a.links=Zc QH a.links/\31=31/\f_1.x=x'.b.x/\n_7<=bnd x'.i/\f_1.y=x'.b.y/\m_1<=bnd x'.i/\f_1.h=x'.b.h/\f_1.t=x'.b.t/\o_1<=bnd x'.i/\27=27/\(↑(0:Int):Rat)=(↑(0:Int):Rat)/\64<=64/\(↑(0:Int):Rat)=(↑(0:Int):Rat)/\64<=64/\29=29/\false=false/\(↑(0:Int):Rat)=(↑(0:Int):Rat)/\64<=64/\31=31/\10=10/\(Zo x.fs.length (Zc KE x.fs)++[[Ze f.x n_6,Ze f.y m,Zi (Za f.h),Ze f.t o]]=Zc KE x'.fs∨QE (Zo x.fs.length (Zc KE x.fs)++[[Ze f.x n_6,Ze f.y m,Zi (Za f.h),Ze f.t o]]) (Zc KE x'.fs))/\True else((x.fs.length+1)*128<=140737488355328/\x.fs.length+1<=9223372036854775807)/\K (AV.t [(false,[Ch.s 10 (Zo (x.fs.length+1) (List.drop 0 (Zo x.fs.length (Zc KE x.fs)++[[Ze x.b.x (bnd x.i),Ze x.b.y (bnd x.i),Zi (Za x.b.h),Ze x.b.t (bnd x.i)]])))]),(false,[Zi (Value.int IntKind.i64 0)])]))) ?_
 try simp only[Zb,R0,R1,Zf,R4]
 obtain⟨ha,hb,hq⟩:=hc;have hn:=ha.n;refine⟨a,rfl,⟨ha,by rw[Qr,hq]⟩,by omega,by omega,by omega,by omega,⟨⟨[],UI a,0⟩,⟨rfl,by simp,rfl⟩,rfl,by simp,rfl,rfl,Zf _,rfl,Zf _,rfl,rfl,Zf _,rfl⟩,fun x ⟨h1,h2,h3⟩=>QC (fun hp=> ?_) (fun hp=> ?_)⟩
 ·have hp:x.i<a.links.length:=by have:=R5 hp;omega
  obtain⟨L,hL⟩: ∃L,a.links[x.i]? =some L:=⟨_,Zh hp⟩
  obtain⟨q,hqi⟩: ∃q,qs[x.i]? =some q:=⟨_,Zh (by omega)⟩
  have hbn:bnd x.i<=1420221:=by
   have:x.i=0∨x.i=1∨x.i=2:=by omega
   rcases this with e | e | e<;>rw[e]<;>decide
  refine⟨by rw[Zn];omega,_,_,_,_,_,_,_,_,_,_,_,KC (by simpa using hL),by rw[Qr];omega,q,b,XD (by simpa using hqi),by omega,by omega,fun f n m o hf hn1 hm ho=> ?_⟩;subst hf;have e1:x.fs.map KE=Zo x.fs.length (x.fs.map KE):=by rw[Zm (by simp)]
  rw[<-e1];refine⟨⟨by omega,by omega⟩,by omega,by omega,fun g n' m' o' hg hn' hm' ho'=> ?_⟩;subst hg;have eb:bnd (x.i+1)=81*bnd x.i+12279:=rfl;refine⟨⟨x.fs++[KD x.b ⟨0,0,false,q⟩],KD (KD x.b ⟨0,0,false,q⟩) ⟨L.len,0,false,0⟩,x.i+1⟩,⟨⟨by simp[h1],hp,?_⟩,by simp only;omega⟩,by simp,by rw[w64 (by omega)];simp,rfl,by simp only[eb];omega,rfl,by simp only[eb];omega,rfl,rfl,by simp only[eb];omega,.inr ?_⟩
  ·simp only;rw[List.append_assoc,<-h3];congr 1;rw[List.drop_eq_getElem_cons hp,List.drop_eq_getElem_cons (by omega:x.i<qs.length)];rw[Zh hp]at hL;rw[Zh (by omega)]at hqi;rw[Option.some.inj hL,Option.some.inj hqi];rfl
  ·rw[List.map_append];exact QNV (QUu _) (QTL (by omega) (by omega) (by omega))
 ·have hp:x.i=a.links.length:=by have:=R6 hp;omega
  refine⟨by omega,?_⟩;have e:a.links.drop x.i=[]:=by rw[hp,List.drop_length]
  rw[e,show JQ x.b [] (qs.drop x.i)=[x.b]by cases qs.drop x.i<;>rfl]at h3;have:=hK x.fs x.b h3 (by omega);rw[Zm (by simp),List.drop_zero,Zm (by simp),hp];exact this
def U7:Ctr
 | [.x true xs,.x false [.s 3 ys]]=>some fun K=> ∃(a:ArmV) (b:Nat) (qs:List Rat),xs=XY a/\ys=lR b qs/\QBw a b qs K
 | _=>none
theorem QHO:QJ 80 U7:=by
 refine okL Tryz.func80 fun l T hT K hK=> ?_
 unfold U7 at hT;split at hT<;>cases hT
 obtain⟨a,b,qs,rfl,rfl,hK⟩:=hK;exact spL QXK QN Tryz.func80 (QKc _ _ _ K hK)
def L93:LC:=(80,U7)::L92
theorem QTM:QG L93:= .cons QHO QTK
theorem QUw (a:ArmV)(b:Nat)(qs:List Rat)(hc:(QX a)/\(b<=400/\qs.length=a.links.length))(K:AV->Prop)(hK: ∀n f,n<=120000000->(JQ (UI a) a.links qs)[a.links.length]? =some f->K (.t [(true,frN n f),(false,[.v (.int .i64 0)])])):QK (QT (mkT L93 M79 X4) (oF Tryz.f26) noL Tryz.f26 [KT a,sR b qs] K):=by
 refine HV ((∃(a_1:ArmV),∃(b_1:Nat),∃(qs_1:List Rat),[Zi (Zj a.name),Ze a.x 63,Ze a.y 63,Zi (Za a.half),Ze a.t 63,Ch.s 16 (Zc QH a.links)]=[Zi (Zj a_1.name),Ze a_1.x 63,Ze a_1.y 63,Zi (Za a_1.half),Ze a_1.t 63,Ch.s 16 (Zc QH a_1.links)]/\lR b qs=lR b_1 qs_1/\(QX a_1/\b_1<=400/\qs_1.length=a_1.links.length)/\∀(fs:List FrV) (f:FrV),fs++[f]=JQ (UI a_1) a_1.links qs_1->fs.length=a_1.links.length->(0<=IntKind.i64.wrap (Zd (Zc KE fs++[[Ze f.x (bnd a_1.links.length),Ze f.y (bnd a_1.links.length),Zi (Za f.h),Ze f.t (bnd a_1.links.length)]]).length-1)/\IntKind.i64.wrap (Zd (Zc KE fs++[[Ze f.x (bnd a_1.links.length),Ze f.y (bnd a_1.links.length),Zi (Za f.h),Ze f.t (bnd a_1.links.length)]]).length-1)<Zd (Zc KE fs++[[Ze f.x (bnd a_1.links.length),Ze f.y (bnd a_1.links.length),Zi (Za f.h),Ze f.t (bnd a_1.links.length)]]).length)/\∃(q:Rat),∃(n:Nat),∃(q_1:Rat),∃(n_1:Nat),∃(b:Bool),∃(q_2:Rat),∃(n_2:Nat),ldE (Zc KE fs++[[Ze f.x (bnd a_1.links.length),Ze f.y (bnd a_1.links.length),Zi (Za f.h),Ze f.t (bnd a_1.links.length)]]) (IntKind.i64.wrap (Zd (Zc KE fs++[[Ze f.x (bnd a_1.links.length),Ze f.y (bnd a_1.links.length),Zi (Za f.h),Ze f.t (bnd a_1.links.length)]]).length-1)).toNat 0 10=some [Ze q n,Ze q_1 n_1,Zi (Za b),Ze q_2 n_2]/\K (AV.t [(true,[Ze q n,Ze q_1 n_1,Zi (Za b),Ze q_2 n_2]),(false,[Zi (Value.int IntKind.i64 0)])]))) ?_
 try simp only[Zb]
 obtain⟨ha,hb,hq⟩:=hc;have hn:=ha.n;refine⟨a,b,qs,rfl,rfl,⟨ha,hb,hq⟩,fun fs f hf hl=> ?_⟩;have hbn:bnd a.links.length<=120000000:=QUt hn.2;simp only[List.length_append,Zn,List.length_cons,List.length_nil];rw[w64 (by omega)];have e:((((fs.length+(0+1):Nat):Int)-1).toNat)=a.links.length:=by omega
 rw[e];have hg:(fs++[f])[a.links.length]? =some f:=by rw[<-hl];simp
 obtain⟨n,hn',hld⟩:=QUv hbn hg;have:=hK n f hn' (by rw[<-hf];exact hg);refine⟨by omega,f.x,n,f.y,n,f.h,f.t,n,?_,this⟩;have hld':(Zc KE fs++[[Ze f.x (bnd a.links.length),Ze f.y (bnd a.links.length),Zi (Za f.h),Ze f.t (bnd a.links.length)]])[a.links.length]? =some (frN n f):=hld
 simp only[ldE,hld'];rfl
def QDM:Ctr
 | [.x true xs,.x false [.s 3 ys]]=>some fun K=> ∃(a:ArmV) (b:Nat) (qs:List Rat),xs=XY a/\ys=lR b qs/\((QX a)/\(b<=400/\qs.length=a.links.length))/\(∀n f,n<=120000000->(JQ (UI a) a.links qs)[a.links.length]? =some f->K (.t [(true,frN n f),(false,[.v (.int .i64 0)])]))
 | _=>none
theorem QId:QJ 26 QDM:=by
 refine okL Tryz.func26 fun l T hT K hK=> ?_
 unfold QDM at hT;split at hT<;>cases hT
 obtain⟨a,b,qs,rfl,rfl,hc,hK⟩:=hK;exact spL (QV QTM YH Qo) QN Tryz.func26 (QUw _ _ _ hc K hK)
def L94:LC:=(26,QDM)::L93
noncomputable def T94:Qa:=mkT L94 M79 X4
theorem QXL:QG L94:= .cons QId QTM
end Go.Proofs
