/- Turns, vectors, frames. -/
import Derived.Test.YtfhfenokfkenoaaGreatDoorAJ
open Go.Value renaming bool → Za, string → Zj
open Int renaming ofNat_eq_natCast → Zb, ofNat → Zd
open List renaming map → Zc, getElem?_eq_getElem → Zh, getElem?_append_right → Zk, getElem?_append_left → Zl, take_of_length_le → Zm, length_map → Zn, take → Zo
open Go.Eng.Ch renaming r → Ze, v → Zi
open Nat renaming le_refl → Zf, zero_add → Zg
namespace Go.Proofs
open Go Go.Eng
def XP (h:Bool)(t:Rat):Rat:=bif h then 0 else t
def Up (t:Rat):Bool:=decide (t=0)
def UN (t:Rat):Rat:=bif Up t then 0 else((-1:Int):Rat)/t
def thH (h1:Bool)(t1:Rat)(h2:Bool)(t2:Rat):Bool:=bif h1&&h2 then false else bif h1 then Up (XP h2 t2)else bif h2 then Up (XP h1 t1)else decide (1-t1*t2=0)
def thT (h1:Bool)(t1:Rat)(h2:Bool)(t2:Rat):Rat:=bif h1&&h2 then 0 else bif h1 then UN (XP h2 t2)else bif h2 then UN (XP h1 t1)else bif decide (1-t1*t2=0)then 0 else(t1+t2)/(1-t1*t2)
def Qz (h:Bool)(t:Rat):Rat:=bif h then-1 else(1-t*t)/(1+t*t)
def Qv (h:Bool)(t:Rat):Rat:=bif h then 0 else(t+t)/(1+t*t)
structure FrV where
  x:Rat
  y:Rat
  h:Bool
  t:Rat
def QDr (f:FrV)(x y:Rat):Rat:=f.x+(x*Qz f.h f.t-y*Qv f.h f.t)
def QDs (f:FrV)(x y:Rat):Rat:=f.y+(x*Qv f.h f.t+y*Qz f.h f.t)
def Xn (f g:FrV):FrV:=⟨QDr f g.x g.y,QDs f g.x g.y,thH f.h f.t g.h g.t,thT f.h f.t g.h g.t⟩
theorem JZ (p:Rat):Xl p p=p:=by unfold Xl;split<;>rfl
theorem QZK (t:Rat):0<=t*t:=by
 rcases @Rat.le_total 0 t with h | h
 ·exact Rat.mul_nonneg h h
 ·have:=Rat.mul_nonneg (show 0<= -t by grind) (show 0<= -t by grind);grind
theorem sq1 (t:Rat):1+t*t≠0:=by have:=QZK t;grind
def L79:LC:=L52
def M79:List (Nat×Xt):=M48
theorem QUo:QF L79:=QUn
theorem Xe:Xm M79:=QCX
theorem QZL (t:Rat)(a:Nat)(hc:(a<=1000000000))(K:AV->Prop)(hK:K (.x true [.v (.bool false),.r t a])):QK (QP (mkT L79 M79 X4) (oF Tryz.f141) noL Tryz.f141 [rA t a] K):=by
 refine HV ((a+a<=4294967296/\K (AV.x true [Zi (Za false),Ze (Xl t t) (max a a)]))) ?_
 try simp only[Zb,R0,R1,Zg,Zf,R4,R2,R3]
 rw[JZ,Nat.max_self];exact⟨by omega,hK⟩
def QOF:Ctr
 | [.x true [.r t a]]=>some fun K=>((a<=1000000000))/\(K (.x true [.v (.bool false),.r t a]))
 | _=>none
theorem QWN:QI 141 QOF:=by
 refine okL Tryz.func141 fun l T hT K hK=> ?_
 unfold QOF at hT;split at hT<;>cases hT
 obtain⟨hc,hK⟩:=hK;exact spL (QS QUo Xe Qm) QM Tryz.func141 (QZL _ _ hc K hK)
def L80:LC:=(141,QOF)::L79
theorem QUp:QF L80:= .cons QWN QUo
theorem QSY (_hc:True)(K:AV->Prop)(hK:K (.x true [.v (.bool true),.r 0 64])):QK (QP (mkT L80 M79 X4) (oF Tryz.f195) noL Tryz.f195 [] K):=by
 refine HV ((((-9223372036854775808:Int)<=0/\(0:Int)<9223372036854775808)/\K (AV.x true [Zi (Za true),Ze (↑(0:Int)) 64]))) ?_
 try simp only[Zb,R0,R1,Zg,Zf,R4,R2,R3]
 exact⟨by omega,hK⟩
def QDt:Ctr
 | []=>some fun K=>(True)/\(K (.x true [.v (.bool true),.r 0 64]))
 | _=>none
theorem QOG:QI 195 QDt:=by
 refine okL Tryz.func195 fun l T hT K hK=> ?_
 unfold QDt at hT;split at hT<;>cases hT
 obtain⟨hc,hK⟩:=hK;exact spL (QS QUp Xe Qm) QM Tryz.func195 (QSY  hc K hK)
def L81:LC:=(195,QDt)::L80
theorem QUq:QF L81:= .cons QOG QUp
theorem QWO (h:Bool)(t:Rat)(a:Nat)(hc:(a<=1000000000))(K:AV->Prop)(hK: ∀n,n<=a+64->K (.x true [.v (.bool h),.r (XP h t) n])):QK (QP (mkT L81 M79 X4) (oF Tryz.f190) noL Tryz.f190 [.x true [.v (.bool h),.r t a]] K):=by
 refine HV ((bif h then True/\K (AV.x true [Zi (Za true),Ze (OfNat.ofNat 0) 64])else a<=1000000000/\K (AV.x true [Zi (Za false),Ze t a]))) ?_
 try simp only[R0]
 cases h with
 | true=>exact hK 64 (by omega)
 | false=>exact⟨hc,hK a (by omega)⟩
def QHz:Ctr
 | [.x true [.v (.bool h),.r t a]]=>some fun K=>((a<=1000000000))/\(∀n,n<=a+64->K (.x true [.v (.bool h),.r (XP h t) n]))
 | _=>none
theorem QSZ:QI 190 QHz:=by
 refine okL Tryz.func190 fun l T hT K hK=> ?_
 unfold QHz at hT;split at hT<;>cases hT
 obtain⟨hc,hK⟩:=hK;exact spL (QS QUq Xe Qm) QM Tryz.func190 (QWO _ _ _ hc K hK)
def L82:LC:=(190,QHz)::L81
theorem QUr:QF L82:= .cons QSZ QUq
theorem QWP (h:Bool)(t:Rat)(a:Nat)(hc:(a<=900000000))(K:AV->Prop)(hK: ∀n,n<=a+64->K (.x true [.v (.bool (Up t)),.r (UN t) n])):QK (QP (mkT L82 M79 X4) (oF Tryz.f194) noL Tryz.f194 [.x true [.v (.bool h),.r t a]] K):=by
 refine HV ((((-9223372036854775808:Int)<= -1/\(-1:Int)<9223372036854775808)/\64+a<=4294967296/\(t≠OfNat.ofNat 0->64+a<=1000000000/\K (AV.x true [Zi (Za false),Ze (↑(-1:Int)/t) (64+a)]))/\(t=OfNat.ofNat 0->True/\K (AV.x true [Zi (Za true),Ze (OfNat.ofNat 0) 64])))) ?_
 try simp only[R0]
 refine⟨by omega,by omega,fun h0=>⟨by omega,?_⟩,fun h0=> ?_⟩
 ·have e:Up t=false:=decide_eq_false h0;have:=hK (64+a) (by omega);unfold UN at this;rw[e]at this;exact this
 ·have e:Up t=true:=decide_eq_true h0;have:=hK 64 (by omega);unfold UN at this;rw[e]at this;exact this
def QH0:Ctr
 | [.x true [.v (.bool _h),.r t a]]=>some fun K=>((a<=900000000))/\(∀n,n<=a+64->K (.x true [.v (.bool (Up t)),.r (UN t) n]))
 | _=>none
theorem QSa:QI 194 QH0:=by
 refine okL Tryz.func194 fun l T hT K hK=> ?_
 unfold QH0 at hT;split at hT<;>cases hT
 obtain⟨hc,hK⟩:=hK;exact spL (QS QUr Xe Qm) QM Tryz.func194 (QWP _ _ _ hc K hK)
def L83:LC:=(194,QH0)::L82
theorem QUs:QF L83:= .cons QSa QUr
theorem QSb (h:Bool)(t:Rat)(a:Nat)(g:Bool)(u:Rat)(b:Nat)(hc:(a+b<=400000000))(K:AV->Prop)(hK: ∀n,n<=2*a+2*b+400->K (.x true [.v (.bool (thH h t g u)),.r (thT h t g u) n])):QK (QP (mkT L83 M79 X4) (oF Tryz.f148) noL Tryz.f148 [.x true [.v (.bool h),.r t a],.x true [.v (.bool g),.r u b]] K):=by
 refine HV ((a<=1000000000/\∀(n:Nat),n<=a+64->b<=1000000000/\∀(n_1:Nat),n_1<=b+64->bif h then bif g then((-9223372036854775808:Int)<=0/\(0:Int)<9223372036854775808)/\64<=1000000000/\K (AV.x true [Zi (Za false),Ze (↑(0:Int)) 64])else bif h then n_1<=900000000/\∀(n:Nat),n<=n_1+64->K (AV.x true [Zi (Za (Up (XP g u))),Ze (UN (XP g u)) n])else bif g then n<=900000000/\∀(n_2:Nat),n_2<=n+64->K (AV.x true [Zi (Za (Up (XP h t))),Ze (UN (XP h t)) n_2])else n+n_1+1<=4294967296/\((-9223372036854775808:Int)<=1/\(1:Int)<9223372036854775808)/\n+n_1<=4294967296/\64+(n+n_1)+1<=4294967296/\n+n_1+1+(64+(n+n_1)+1)<=4294967296/\(↑(1:Int)-XP h t*XP g u≠OfNat.ofNat 0->n+n_1+1+(64+(n+n_1)+1)<=1000000000/\K (AV.x true [Zi (Za false),Ze ((XP h t+XP g u)/(↑(1:Int)-XP h t*XP g u)) (n+n_1+1+(64+(n+n_1)+1))]))/\(↑(1:Int)-XP h t*XP g u=OfNat.ofNat 0->True/\K (AV.x true [Zi (Za true),Ze (OfNat.ofNat 0) 64]))else bif h then n_1<=900000000/\∀(n:Nat),n<=n_1+64->K (AV.x true [Zi (Za (Up (XP g u))),Ze (UN (XP g u)) n])else bif g then n<=900000000/\∀(n_2:Nat),n_2<=n+64->K (AV.x true [Zi (Za (Up (XP h t))),Ze (UN (XP h t)) n_2])else n+n_1+1<=4294967296/\((-9223372036854775808:Int)<=1/\(1:Int)<9223372036854775808)/\n+n_1<=4294967296/\64+(n+n_1)+1<=4294967296/\n+n_1+1+(64+(n+n_1)+1)<=4294967296/\(↑(1:Int)-XP h t*XP g u≠OfNat.ofNat 0->n+n_1+1+(64+(n+n_1)+1)<=1000000000/\K (AV.x true [Zi (Za false),Ze ((XP h t+XP g u)/(↑(1:Int)-XP h t*XP g u)) (n+n_1+1+(64+(n+n_1)+1))]))/\(↑(1:Int)-XP h t*XP g u=OfNat.ofNat 0->True/\K (AV.x true [Zi (Za true),Ze (OfNat.ofNat 0) 64])))) ?_
 try simp only[R0]
 refine⟨by omega,fun n hn=>⟨by omega,fun m hm=> ?_⟩⟩;cases h with
 | true=>
  cases g with
  | true=>exact⟨by omega,by omega,hK 64 (by omega)⟩
  | false=>exact⟨by omega,fun k hk=>hK k (by omega)⟩
 | false=>
  cases g with
  | true=>exact⟨by omega,fun k hk=>hK k (by omega)⟩
  | false=>
   refine⟨by omega,by omega,by omega,by omega,by omega,fun h0=>⟨by omega,?_⟩,fun h0=> ?_⟩
   ·have e:decide (1-t*u=0)=false:=decide_eq_false h0;have:=hK (n+m+1+(64+(n+m)+1)) (by omega);simp only[thH,thT,Bool.and_self,R8,e]at this;exact this
   ·have e:decide (1-t*u=0)=true:=decide_eq_true h0;have:=hK 64 (by omega);simp only[thH,thT,Bool.and_self,R8,e,R7]at this;exact this
def QDu:Ctr
 | [.x true [.v (.bool h),.r t a],.x true [.v (.bool g),.r u b]]=>some fun K=>((a+b<=400000000))/\(∀n,n<=2*a+2*b+400->K (.x true [.v (.bool (thH h t g u)),.r (thT h t g u) n]))
 | _=>none
theorem QOH:QI 148 QDu:=by
 refine okL Tryz.func148 fun l T hT K hK=> ?_
 unfold QDu at hT;split at hT<;>cases hT
 obtain⟨hc,hK⟩:=hK;exact spL (QS QUs Xe Qm) QM Tryz.func148 (QSb _ _ _ _ _ _ hc K hK)
def L84:LC:=(148,QDu)::L83
theorem QUt:QF L84:= .cons QOH QUs
theorem QWQ (h:Bool)(t:Rat)(a:Nat)(hc:(a<=500000000))(K:AV->Prop)(hK: ∀n,n<=4*a+400->K (rA (Qz h t) n)):QK (QP (mkT L84 M79 X4) (oF Tryz.f149) noL Tryz.f149 [.x true [.v (.bool h),.r t a]] K):=by
 refine HV ((a<=1000000000/\∀(n:Nat),n<=a+64->bif h then((-9223372036854775808:Int)<= -1/\(-1:Int)<9223372036854775808)/\K (AV.x true [Ze (↑(-1:Int)) 64])else n+n<=4294967296/\((-9223372036854775808:Int)<=1/\(1:Int)<9223372036854775808)/\64+(n+n)+1<=4294967296/\((-9223372036854775808:Int)<=1/\(1:Int)<9223372036854775808)/\64+(n+n)+1<=4294967296/\64+(n+n)+1+(64+(n+n)+1)<=4294967296/\(↑(1:Int)+XP h t*XP h t≠OfNat.ofNat 0->K (AV.x true [Ze ((↑(1:Int)-XP h t*XP h t)/(↑(1:Int)+XP h t*XP h t)) (64+(n+n)+1+(64+(n+n)+1))]))/\(↑(1:Int)+XP h t*XP h t=OfNat.ofNat 0->K (AV.x true [Zi (Za false),Zi (Zj (ByteArray.mk (Array.mk []))),Zi (Zj (ByteArray.mk (Array.mk [])))])))) ?_
 try simp only[Zb,R0,R1,Zg,Zf,R4,R2,R3]
 refine⟨by omega,fun n hn=> ?_⟩;cases h with
 | true=>exact⟨by omega,hK 64 (by omega)⟩
 | false=>exact⟨by omega,by omega,by omega,by omega,by omega,by omega,fun _=>hK _ (by omega),fun h0=>absurd h0 (sq1 t)⟩
def QH1:Ctr
 | [.x true [.v (.bool h),.r t a]]=>some fun K=>((a<=500000000))/\(∀n,n<=4*a+400->K (rA (Qz h t) n))
 | _=>none
theorem QSc:QI 149 QH1:=by
 refine okL Tryz.func149 fun l T hT K hK=> ?_
 unfold QH1 at hT;split at hT<;>cases hT
 obtain⟨hc,hK⟩:=hK;exact spL (QS QUt Xe Qm) QM Tryz.func149 (QWQ _ _ _ hc K hK)
def L85:LC:=(149,QH1)::L84
theorem QUu:QF L85:= .cons QSc QUt
theorem QWR (h:Bool)(t:Rat)(a:Nat)(hc:(a<=500000000))(K:AV->Prop)(hK: ∀n,n<=4*a+400->K (rA (Qv h t) n)):QK (QP (mkT L85 M79 X4) (oF Tryz.f150) noL Tryz.f150 [.x true [.v (.bool h),.r t a]] K):=by
 refine HV ((a<=1000000000/\∀(n:Nat),n<=a+64->n+n+1<=4294967296/\((-9223372036854775808:Int)<=1/\(1:Int)<9223372036854775808)/\n+n<=4294967296/\64+(n+n)+1<=4294967296/\n+n+1+(64+(n+n)+1)<=4294967296/\(↑(1:Int)+XP h t*XP h t≠OfNat.ofNat 0->K (AV.x true [Ze ((XP h t+XP h t)/(↑(1:Int)+XP h t*XP h t)) (n+n+1+(64+(n+n)+1))]))/\(↑(1:Int)+XP h t*XP h t=OfNat.ofNat 0->K (AV.x true [Zi (Za false),Zi (Zj (ByteArray.mk (Array.mk []))),Zi (Zj (ByteArray.mk (Array.mk [])))])))) ?_
 try simp only[Zb,R0,R1,Zg,Zf,R4,R2,R3]
 refine⟨by omega,fun n hn=>⟨by omega,by omega,by omega,by omega,by omega,fun h0=> ?_,fun h0=>absurd h0 (sq1 _)⟩⟩;have e:(XP h t+XP h t)/(((1:Int):Rat)+XP h t*XP h t)=Qv h t:=by
  cases h with
  | true=>show((0:Rat)+0)/_=0;rw[Rat.add_zero,Rat.div_def,Rat.zero_mul]
  | false=>rfl
 rw[e];exact hK _ (by omega)
def QH2:Ctr
 | [.x true [.v (.bool h),.r t a]]=>some fun K=>((a<=500000000))/\(∀n,n<=4*a+400->K (rA (Qv h t) n))
 | _=>none
theorem QSd:QI 150 QH2:=by
 refine okL Tryz.func150 fun l T hT K hK=> ?_
 unfold QH2 at hT;split at hT<;>cases hT
 obtain⟨hc,hK⟩:=hK;exact spL (QS QUu Xe Qm) QM Tryz.func150 (QWR _ _ _ hc K hK)
def L86:LC:=(150,QH2)::L85
theorem QUv:QF L86:= .cons QSd QUu
theorem QWS (px:Rat)(a:Nat)(py:Rat)(b:Nat)(qx:Rat)(c:Nat)(qy:Rat)(d:Nat)(hc:(a+c<=4294967290)/\(b+d<=4294967290))(K:AV->Prop)(hK:K (.x true [.r (px+qx) (a+c+1),.r (py+qy) (b+d+1)])):QK (QP (mkT L86 M79 X4) (oF Tryz.f108) noL Tryz.f108 [.x true [.r px a,.r py b],.x true [.r qx c,.r qy d]] K):=by
 refine HV ((a+c+1<=4294967296/\b+d+1<=4294967296/\K (AV.x true [Ze (px+qx) (a+c+1),Ze (py+qy) (b+d+1)]))) ?_
 try simp only[Zb,R0,R1,Zg,Zf,R4,R2,R3]
 exact⟨by omega,by omega,hK⟩
def QH3:Ctr
 | [.x true [.r px a,.r py b],.x true [.r qx c,.r qy d]]=>some fun K=>((a+c<=4294967290)/\(b+d<=4294967290))/\(K (.x true [.r (px+qx) (a+c+1),.r (py+qy) (b+d+1)]))
 | _=>none
theorem QSe:QI 108 QH3:=by
 refine okL Tryz.func108 fun l T hT K hK=> ?_
 unfold QH3 at hT;split at hT<;>cases hT
 obtain⟨hc,hK⟩:=hK;exact spL (QS QUv Xe Qm) QM Tryz.func108 (QWS _ _ _ _ _ _ _ _ hc K hK)
def L87:LC:=(108,QH3)::L86
theorem QUw:QF L87:= .cons QSe QUv
theorem QWT (px:Rat)(a:Nat)(py:Rat)(b:Nat)(qx:Rat)(c:Nat)(qy:Rat)(d:Nat)(hc:(a+b+c+d<=4294967290))(K:AV->Prop)(hK:K (rA (px*qx+py*qy) (a+c+(b+d)+1))):QK (QP (mkT L87 M79 X4) (oF Tryz.f222) noL Tryz.f222 [.x true [.r px a,.r py b],.x true [.r qx c,.r qy d]] K):=by
 refine HV ((a+c<=4294967296/\b+d<=4294967296/\a+c+(b+d)+1<=4294967296/\K (AV.x true [Ze (px*qx+py*qy) (a+c+(b+d)+1)]))) ?_
 try simp only[Zb,R0,R1,Zg,Zf,R4,R2,R3]
 exact⟨by omega,by omega,by omega,hK⟩
def QH4:Ctr
 | [.x true [.r px a,.r py b],.x true [.r qx c,.r qy d]]=>some fun K=>((a+b+c+d<=4294967290))/\(K (rA (px*qx+py*qy) (a+c+(b+d)+1)))
 | _=>none
theorem QSf:QI 222 QH4:=by
 refine okL Tryz.func222 fun l T hT K hK=> ?_
 unfold QH4 at hT;split at hT<;>cases hT
 obtain⟨hc,hK⟩:=hK;exact spL (QS QUw Xe Qm) QM Tryz.func222 (QWT _ _ _ _ _ _ _ _ hc K hK)
def L88:LC:=(222,QH4)::L87
theorem QZM:QF L88:= .cons QSf QUw
def L89:LC:=L88
theorem QUx:QF L89:=QZM
abbrev QJS (px:Rat)(a:Nat)(py:Rat)(b:Nat)(h:Bool)(t:Rat)(c:Nat)(K:AV->Prop):Prop:=((a+b+c<=400000000))/\(∀n m,n<=a+b+8*c+1000->m<=a+b+8*c+1000->K (.x true [.r (px*Qz h t-py*Qv h t) n,.r (px*Qv h t+py*Qz h t) m]))
theorem QSg (px:Rat)(a:Nat)(py:Rat)(b:Nat)(h:Bool)(t:Rat)(c:Nat)(K:AV->Prop)(hK:QJS px a py b h t c K):QK (QP (mkT L89 M79 X4) (oF Tryz.f93) noL Tryz.f93 [.x true [.r px a,.r py b],.x true [.v (.bool h),.r t c]] K):=by
 obtain⟨hc,hK⟩:=hK;refine HV ((c<=500000000/\∀(n:Nat),n<=4*c+400->c<=500000000/\∀(n_1:Nat),n_1<=4*c+400->a+n<=4294967296/\b+n_1<=4294967296/\a+n+(b+n_1)+1<=4294967296/\a+n_1<=4294967296/\b+n<=4294967296/\a+n_1+(b+n)+1<=4294967296/\K (AV.x true [Ze (px*Qz h t-py*Qv h t) (a+n+(b+n_1)+1),Ze (px*Qv h t+py*Qz h t) (a+n_1+(b+n)+1)]))) ?_
 try simp only[Zb,R0,R1,Zg,Zf,R4,R2,R3]
 exact⟨by omega,fun n hn=>⟨by omega,fun m hm=>⟨by omega,by omega,by omega,by omega,by omega,by omega,hK _ _ (by omega) (by omega)⟩⟩⟩
def QDv:Ctr
 | [.x true [.r px a,.r py b],.x true [.v (.bool h),.r t c]]=>some fun K=>QJS px a py b h t c K
 | _=>none
theorem QOI:QI 93 QDv:=by
 refine okL Tryz.func93 fun l T hT K hK=> ?_
 unfold QDv at hT;split at hT<;>cases hT
 exact spL (QS QUx Xe Qm) QM Tryz.func93 (QSg _ _ _ _ _ _ _ K hK)
def L90:LC:=(93,QDv)::L89
theorem QUy:QF L90:= .cons QOI QUx
abbrev QOJ (x:Rat)(i:Nat)(y:Rat)(j:Nat)(h:Bool)(t:Rat)(k:Nat)(px:Rat)(a:Nat)(py:Rat)(b:Nat)(K:AV->Prop):Prop:=((i+j+k+a+b<=400000000))/\(∀n m,n<=i+a+b+8*k+1100->m<=j+a+b+8*k+1100->K (.x true [.r (QDr ⟨x,y,h,t⟩ px py) n,.r (QDs ⟨x,y,h,t⟩ px py) m]))
theorem QWU (x:Rat)(i:Nat)(y:Rat)(j:Nat)(h:Bool)(t:Rat)(k:Nat)(px:Rat)(a:Nat)(py:Rat)(b:Nat)(K:AV->Prop)(hK:QOJ x i y j h t k px a py b K):QK (QP (mkT L90 M79 X4) (oF Tryz.f82) noL Tryz.f82 [.x true [.r x i,.r y j,.v (.bool h),.r t k],.x true [.r px a,.r py b]] K):=by
 obtain⟨hc,hK⟩:=hK;refine HV ((a+b+k<=400000000/\∀(n m:Nat),n<=a+b+8*k+1000->m<=a+b+8*k+1000->(i+n<=4294967290/\j+m<=4294967290)/\K (AV.x true [Ze (x+(px*Qz h t-py*Qv h t)) (i+n+1),Ze (y+(px*Qv h t+py*Qz h t)) (j+m+1)]))) ?_
 try simp only[Zb,R0,R1,Zg,Zf,R4,R2,R3]
 exact⟨by omega,fun n m hn hm=>⟨by omega,hK _ _ (by omega) (by omega)⟩⟩
def QH5:Ctr
 | [.x true [.r x i,.r y j,.v (.bool h),.r t k],.x true [.r px a,.r py b]]=>some fun K=>QOJ x i y j h t k px a py b K
 | _=>none
theorem QSh:QI 82 QH5:=by
 refine okL Tryz.func82 fun l T hT K hK=> ?_
 unfold QH5 at hT;split at hT<;>cases hT
 exact spL (QS QUy Xe Qm) QM Tryz.func82 (QWU _ _ _ _ _ _ _ _ _ _ _ K hK)
def L91:LC:=(82,QH5)::L90
theorem QUz:QF L91:= .cons QSh QUy
abbrev QJT (x:Rat)(i:Nat)(y:Rat)(j:Nat)(h:Bool)(t:Rat)(k:Nat)(px:Rat)(a:Nat)(py:Rat)(b:Nat)(g:Bool)(u:Rat)(l:Nat)(K:AV->Prop):Prop:=((i+j+k+a+b+l<=400000000))/\(∀f n m o,f=Xn ⟨x,y,h,t⟩ ⟨px,py,g,u⟩->n<=i+a+b+8*k+1100->m<=j+a+b+8*k+1100->o<=2*k+2*l+400->K (.x true [.r f.x n,.r f.y m,.v (.bool f.h),.r f.t o]))
theorem QSi (x:Rat)(i:Nat)(y:Rat)(j:Nat)(h:Bool)(t:Rat)(k:Nat)(px:Rat)(a:Nat)(py:Rat)(b:Nat)(g:Bool)(u:Rat)(l:Nat)(K:AV->Prop)(hK:QJT x i y j h t k px a py b g u l K):QK (QP (mkT L91 M79 X4) (oF Tryz.f91) noL Tryz.f91 [.x true [.r x i,.r y j,.v (.bool h),.r t k],.x true [.r px a,.r py b,.v (.bool g),.r u l]] K):=by
 obtain⟨hc,hK⟩:=hK;refine HV ((i+j+k+a+b<=400000000/\∀(n m:Nat),n<=i+a+b+8*k+1100->m<=j+a+b+8*k+1100->k+l<=400000000/\∀(n_1:Nat),n_1<=2*k+2*l+400->K (AV.x true [Ze (QDr (FrV.mk x y h t) px py) n,Ze (QDs (FrV.mk x y h t) px py) m,Zi (Za (thH h t g u)),Ze (thT h t g u) n_1]))) ?_
 try simp only[Zb,R0,R1,Zg,Zf,R4,R2,R3]
 exact⟨by omega,fun n m hn hm=>⟨by omega,fun o ho=>hK _ _ _ _ rfl (by omega) (by omega) (by omega)⟩⟩
def QDw:Ctr
 | [.x true [.r x i,.r y j,.v (.bool h),.r t k],.x true [.r px a,.r py b,.v (.bool g),.r u l]]=>some fun K=>QJT x i y j h t k px a py b g u l K
 | _=>none
theorem QOK:QI 91 QDw:=by
 refine okL Tryz.func91 fun l T hT K hK=> ?_
 unfold QDw at hT;split at hT<;>cases hT
 exact spL (QS QUz Xe Qm) QM Tryz.func91 (QSi _ _ _ _ _ _ _ _ _ _ _ _ _ _ K hK)
def L92:LC:=(91,QDw)::L91
noncomputable def T92:Qb:=mkT L92 M79 X4
theorem QU0:QF L92:= .cons QOK QUz
theorem QZN:XI T92:=QS QU0 Xe Qm
end Go.Proofs
namespace Go.Proofs
open Go Go.Eng
def Ql:FrV->List QY->List Rat->List FrV
 | b,L::ls,q::qs=>Xn b ⟨0,0,false,q⟩::Ql (Xn (Xn b ⟨0,0,false,q⟩) ⟨L.len,0,false,0⟩) ls qs
 | b,_,_=>[b]
def XF (a:ArmV):FrV:=⟨a.x,a.y,a.half,a.t⟩
def bnd:Nat->Nat
 | 0=>63
 | i+1=>81*bnd i+12279
def frN (n:Nat)(f:FrV):List Ch:=[.r f.x n,.r f.y n,.v (.bool f.h),.r f.t n]
abbrev XL (f:FrV):List Ch:=[.r f.x 12800000,.r f.y 12800000,.v (.bool f.h),.r f.t 12800000]
theorem QA8 {xs:List (List Ch)}{a b:List Ch}(hx:QE xs xs)(h:MC (fun _=>none) a b/\Qi b=[]):QE (xs++[a]) (xs++[b]):=by
 refine⟨by simp,fun i x y hx' hy'=> ?_⟩;by_cases hi:i<xs.length
 ·rw[Zl hi]at hx' hy';exact hx.2 i x y hx' hy'
 ·rw[Zk (by omega)]at hx' hy';have:i-xs.length=0:=by
   have:=(List.getElem?_eq_some_iff.1 hx').1;simp at this;omega
  rw[this]at hx' hy';cases hx';cases hy';exact h
theorem QU1 {n m o N:Nat}{f:FrV}(h1:n<=N)(h2:m<=N)(h3:o<=N):MC (fun _=>none) [.r f.x n,.r f.y m,.v (.bool f.h),.r f.t o] (frN N f)/\Qi (frN N f)=[]:=⟨.r h1 (.r h2 (.v (.r h3 .nil))),rfl⟩
theorem QH6 {n:Nat}(h:n<=3):bnd n<=120000000:=by
 have:n=0∨n=1∨n=2∨n=3:=by omega
 rcases this with e | e | e | e<;>rw[e]<;>decide
theorem QWV (fs:List FrV):QE (fs.map XL) (fs.map XL):=by
 refine⟨rfl,fun i x y hx hy=> ?_⟩;rw[hx]at hy;cases hy
 rw[List.getElem?_map]at hx;cases hf:fs[i]? with
 | none=>rw[hf]at hx;cases hx
 | some f=>rw[hf]at hx;cases hx;exact QU1 (Zf _) (Zf _) (Zf _)
theorem QOL {fs:List FrV}{f:FrV}{m i:Nat}{g:FrV}(hm:m<=120000000)(h:(fs++[f])[i]? =some g): ∃n,n<=120000000/\(fs.map XL++[frN m f])[i]? =some (frN n g):=by
 by_cases hi:i<fs.length
 ·rw[Zl hi]at h;exact⟨12800000,by omega,by rw[Zl (by simpa using hi),List.getElem?_map,h];rfl⟩
 ·rw[Zk (by omega)]at h;have:i-fs.length=0:=by
   have:=(List.getElem?_eq_some_iff.1 h).1;simp at this;omega
  rw[this]at h;cases h
  exact⟨m,hm,by rw[Zk (by simp;omega),Zn,this];rfl⟩
structure FmX where
 fs:List FrV
 b:FrV
 i:Nat
structure FmI (a:ArmV)(qs:List Rat)(x:FmX):Prop where
 n:x.fs.length=x.i
 le:x.i<=a.links.length
 eq:x.fs++Ql x.b (a.links.drop x.i) (qs.drop x.i)=Ql (XF a) a.links qs
def QH7 (a:ArmV)(b:Nat)(qs:List Rat):LI:=fun _=> .inv ⟨FmX,fun x=>⟨[(1,sR b qs),(2,.x false [.p 2 0]),(7,.x false [.p 7 0]),(8,.x false [.p 8 0]),(9,.x false [.p 9 0]),(10,.x false [.w 500 0 x.fs.length]),(29,.x false [.s 16 (a.links.map QG)]),(30,iA .i64 a.links.length),(31,iA .i64 x.i)],
 [(2,.box 34 (Xd a)),(7,.box 31 (frN (bnd x.i) x.b)),(8,.box 27 [.r ((0:Int):Rat) 64,.r ((0:Int):Rat) 64]),(9,.box 29 [.v (.bool false),.r ((0:Int):Rat) 64]),(500,.row 31 10 (x.fs.map XL))]⟩,FmI a qs,fun x=>a.links.length-x.i,fun _=>0⟩
abbrev QCY (a:ArmV)(b:Nat)(qs:List Rat)(K:AV->Prop):Prop:=((QU a)/\(b<=400/\qs.length=a.links.length))/\(∀(fs:List FrV) (f:FrV),fs++[f]=Ql (XF a) a.links qs->fs.length=a.links.length->K (.t [(false,[.s 10 (fs.map XL++[frN (bnd a.links.length) f])]),(false,[.v (.int .i64 0)])]))
set_option maxHeartbeats 1000000 in
theorem QLW (a:ArmV)(b:Nat)(qs:List Rat)(K:AV->Prop)(hK:QCY a b qs K):QK (QP T92 (oF Tryz.f80) (QH7 a b qs) Tryz.f80 [Jq a,sR b qs] K):=by
 obtain⟨hc,hK⟩:=hK;refine HV ((∃(a_1:ArmV),[Zi (Zj a.name),Ze a.x 63,Ze a.y 63,Zi (Za a.half),Ze a.t 63,Ch.s 16 (Zc QG a.links)]=[Zi (Zj a_1.name),Ze a_1.x 63,Ze a_1.y 63,Zi (Za a_1.half),Ze a_1.t 63,Ch.s 16 (Zc QG a_1.links)]/\(QU a_1/\Zd (lR b qs).length=Zd a_1.links.length)/\((-9223372036854775808:Int)<=0/\(0:Int)<9223372036854775808)/\((-9223372036854775808:Int)<=0/\(0:Int)<9223372036854775808)/\((-9223372036854775808:Int)<=0/\(0:Int)<9223372036854775808)/\64<=1000000000/\(∃(x:FmX),(FmI a qs x/\OfNat.ofNat 0=0)/\3=3/\lR b qs=lR b qs/\0=0/\0=0/\0=0/\0=0/\Value.slice none 0 0=Value.slice none 0 0/\0=0/\x.fs.length=0/\16=16/\Zc QG a.links=Zc QG a.links/\Zd (Zc QG a.links).length=Zd a.links.length/\0=Zd x.i/\34=34/\a.name=a.name/\a.x=a.x/\63<=63/\a.y=a.y/\63<=63/\a.half=a.half/\a.t=a.t/\63<=63/\16=16/\Zc QG a.links=Zc QG a.links/\31=31/\a.x=x.b.x/\63<=bnd x.i/\a.y=x.b.y/\63<=bnd x.i/\a.half=x.b.h/\a.t=x.b.t/\63<=bnd x.i/\27=27/\(↑(0:Int):Rat)=(↑(0:Int):Rat)/\64<=64/\(↑(0:Int):Rat)=(↑(0:Int):Rat)/\64<=64/\29=29/\false=false/\(↑(0:Int):Rat)=(↑(0:Int):Rat)/\64<=64/\Zc XL x.fs=[]/\True)/\∀(x:FmX),FmI a qs x->OfNat.ofNat 0=0->bif decide (Zd x.i<Zd a.links.length)then(0<=Zd x.i/\Zd x.i<Zd (Zc QG a.links).length)/\∃(q:Rat),∃(n:Nat),∃(q_1:Rat),∃(n_1:Nat),∃(q_2:Rat),∃(n_2:Nat),∃(q_3:Rat),∃(n_3:Nat),∃(q_4:Rat),∃(n_4:Nat),∃(ys:List (List Ch)),ldE (Zc QG a.links) (Zd x.i).toNat 0 16=some [Ze q n,Ze q_1 n_1,Ze q_2 n_2,Ze q_3 n_3,Ze q_4 n_4,Ch.s 6 ys]/\(0<=Zd x.i/\Zd x.i<Zd (lR b qs).length)/\∃(q_5:Rat),∃(n_5:Nat),ldE (lR b qs) (Zd x.i).toNat 0 3=some [Ze q_5 n_5]/\n_5<=1000000000/\bnd x.i+bnd x.i+bnd x.i+64+64+n_5<=400000000/\∀(f:FrV) (n_6 m o:Nat),f=Xn (FrV.mk x.b.x x.b.y x.b.h x.b.t) (FrV.mk (↑(0:Int)) (↑(0:Int)) false q_5)->n_6<=bnd x.i+64+64+8*bnd x.i+1100->m<=bnd x.i+64+64+8*bnd x.i+1100->o<=2*bnd x.i+2*n_5+400->((x.fs.length+1)*128<=140737488355328/\x.fs.length+1<=9223372036854775807)/\((-9223372036854775808:Int)<=0/\(0:Int)<9223372036854775808)/\n_6+m+o+n+64+64<=400000000/\∀(f_1:FrV) (n_7 m_1 o_1:Nat),f_1=Xn (FrV.mk f.x f.y f.h f.t) (FrV.mk q (↑(0:Int)) false ↑(0:Int))->n_7<=n_6+n+64+8*o+1100->m_1<=m+n+64+8*o+1100->o_1<=2*o+128+400->∃(x':FmX),(FmI a qs x'/\OfNat.ofNat 0=0/\a.links.length-x'.i<a.links.length-x.i)/\3=3/\lR b qs=lR b qs/\0=0/\0=0/\0=0/\0=0/\0=0/\x.fs.length+1=x'.fs.length/\16=16/\Zc QG a.links=Zc QG a.links/\Zd a.links.length=Zd a.links.length/\IntKind.i64.wrap (Zd x.i+1)=Zd x'.i/\34=34/\a.name=a.name/\a.x=a.x/\63<=63/\a.y=a.y/\63<=63/\a.half=a.half/\a.t=a.t/\63<=63/\16=16/\Zc QG a.links=Zc QG a.links/\31=31/\f_1.x=x'.b.x/\n_7<=bnd x'.i/\f_1.y=x'.b.y/\m_1<=bnd x'.i/\f_1.h=x'.b.h/\f_1.t=x'.b.t/\o_1<=bnd x'.i/\27=27/\(↑(0:Int):Rat)=(↑(0:Int):Rat)/\64<=64/\(↑(0:Int):Rat)=(↑(0:Int):Rat)/\64<=64/\29=29/\false=false/\(↑(0:Int):Rat)=(↑(0:Int):Rat)/\64<=64/\31=31/\10=10/\(Zo x.fs.length (Zc XL x.fs)++[[Ze f.x n_6,Ze f.y m,Zi (Za f.h),Ze f.t o]]=Zc XL x'.fs∨QE (Zo x.fs.length (Zc XL x.fs)++[[Ze f.x n_6,Ze f.y m,Zi (Za f.h),Ze f.t o]]) (Zc XL x'.fs))/\True else((x.fs.length+1)*128<=140737488355328/\x.fs.length+1<=9223372036854775807)/\K (AV.t [(false,[Ch.s 10 (Zo (x.fs.length+1) (List.drop 0 (Zo x.fs.length (Zc XL x.fs)++[[Ze x.b.x (bnd x.i),Ze x.b.y (bnd x.i),Zi (Za x.b.h),Ze x.b.t (bnd x.i)]])))]),(false,[Zi (Value.int IntKind.i64 0)])]))) ?_
 try simp only[Zb,R0,R1,Zf,R4]
 obtain⟨ha,hb,hq⟩:=hc;have hn:=ha.n;refine⟨a,rfl,⟨ha,by rw[XH,hq]⟩,by omega,by omega,by omega,by omega,⟨⟨[],XF a,0⟩,⟨rfl,by simp,rfl⟩,rfl,by simp,rfl,rfl,Zf _,rfl,Zf _,rfl,rfl,Zf _,rfl⟩,fun x ⟨h1,h2,h3⟩=>QC (fun hp=> ?_) (fun hp=> ?_)⟩
 ·have hp:x.i<a.links.length:=by have:=R5 hp;omega
  obtain⟨L,hL⟩: ∃L,a.links[x.i]? =some L:=⟨_,Zh hp⟩
  obtain⟨q,hqi⟩: ∃q,qs[x.i]? =some q:=⟨_,Zh (by omega)⟩
  have hbn:bnd x.i<=1420221:=by
   have:x.i=0∨x.i=1∨x.i=2:=by omega
   rcases this with e | e | e<;>rw[e]<;>decide
  refine⟨by rw[Zn];omega,_,_,_,_,_,_,_,_,_,_,_,Wt (by simpa using hL),by rw[XH];omega,q,b,Xk (by simpa using hqi),by omega,by omega,fun f n m o hf hn1 hm ho=> ?_⟩;subst hf;have e1:x.fs.map XL=Zo x.fs.length (x.fs.map XL):=by rw[Zm (by simp)]
  rw[<-e1];refine⟨⟨by omega,by omega⟩,by omega,by omega,fun g n' m' o' hg hn' hm' ho'=> ?_⟩;subst hg;have eb:bnd (x.i+1)=81*bnd x.i+12279:=rfl;refine⟨⟨x.fs++[Xn x.b ⟨0,0,false,q⟩],Xn (Xn x.b ⟨0,0,false,q⟩) ⟨L.len,0,false,0⟩,x.i+1⟩,⟨⟨by simp[h1],hp,?_⟩,by simp only;omega⟩,by simp,by rw[w64 (by omega)];simp,rfl,by simp only[eb];omega,rfl,by simp only[eb];omega,rfl,rfl,by simp only[eb];omega,.inr ?_⟩
  ·simp only;rw[List.append_assoc,<-h3];congr 1;rw[List.drop_eq_getElem_cons hp,List.drop_eq_getElem_cons (by omega:x.i<qs.length)];rw[Zh hp]at hL;rw[Zh (by omega)]at hqi;rw[Option.some.inj hL,Option.some.inj hqi];rfl
  ·rw[List.map_append];exact QA8 (QWV _) (QU1 (by omega) (by omega) (by omega))
 ·have hp:x.i=a.links.length:=by have:=R6 hp;omega
  refine⟨by omega,?_⟩;have e:a.links.drop x.i=[]:=by rw[hp,List.drop_length]
  rw[e,show Ql x.b [] (qs.drop x.i)=[x.b]by cases qs.drop x.i<;>rfl]at h3;have:=hK x.fs x.b h3 (by omega);rw[Zm (by simp),List.drop_zero,Zm (by simp),hp];exact this
def Hp:Ctr
 | [.x true xs,.x false [.s 3 ys]]=>some fun K=> ∃(a:ArmV) (b:Nat) (qs:List Rat),xs=Xd a/\ys=lR b qs/\QCY a b qs K
 | _=>none
theorem QH8:QI 80 Hp:=by
 refine okL Tryz.func80 fun l T hT K hK=> ?_
 unfold Hp at hT;split at hT<;>cases hT
 obtain⟨a,b,qs,rfl,rfl,hK⟩:=hK;exact spL QZN QM Tryz.func80 (QLW _ _ _ K hK)
def L93:LC:=(80,Hp)::L92
theorem QU2:QF L93:= .cons QH8 QU0
theorem QWW (a:ArmV)(b:Nat)(qs:List Rat)(hc:(QU a)/\(b<=400/\qs.length=a.links.length))(K:AV->Prop)(hK: ∀n f,n<=120000000->(Ql (XF a) a.links qs)[a.links.length]? =some f->K (.t [(true,frN n f),(false,[.v (.int .i64 0)])])):QK (QP (mkT L93 M79 X4) (oF Tryz.f26) noL Tryz.f26 [Jq a,sR b qs] K):=by
 refine HV ((∃(a_1:ArmV),∃(b_1:Nat),∃(qs_1:List Rat),[Zi (Zj a.name),Ze a.x 63,Ze a.y 63,Zi (Za a.half),Ze a.t 63,Ch.s 16 (Zc QG a.links)]=[Zi (Zj a_1.name),Ze a_1.x 63,Ze a_1.y 63,Zi (Za a_1.half),Ze a_1.t 63,Ch.s 16 (Zc QG a_1.links)]/\lR b qs=lR b_1 qs_1/\(QU a_1/\b_1<=400/\qs_1.length=a_1.links.length)/\∀(fs:List FrV) (f:FrV),fs++[f]=Ql (XF a_1) a_1.links qs_1->fs.length=a_1.links.length->(0<=IntKind.i64.wrap (Zd (Zc XL fs++[[Ze f.x (bnd a_1.links.length),Ze f.y (bnd a_1.links.length),Zi (Za f.h),Ze f.t (bnd a_1.links.length)]]).length-1)/\IntKind.i64.wrap (Zd (Zc XL fs++[[Ze f.x (bnd a_1.links.length),Ze f.y (bnd a_1.links.length),Zi (Za f.h),Ze f.t (bnd a_1.links.length)]]).length-1)<Zd (Zc XL fs++[[Ze f.x (bnd a_1.links.length),Ze f.y (bnd a_1.links.length),Zi (Za f.h),Ze f.t (bnd a_1.links.length)]]).length)/\∃(q:Rat),∃(n:Nat),∃(q_1:Rat),∃(n_1:Nat),∃(b:Bool),∃(q_2:Rat),∃(n_2:Nat),ldE (Zc XL fs++[[Ze f.x (bnd a_1.links.length),Ze f.y (bnd a_1.links.length),Zi (Za f.h),Ze f.t (bnd a_1.links.length)]]) (IntKind.i64.wrap (Zd (Zc XL fs++[[Ze f.x (bnd a_1.links.length),Ze f.y (bnd a_1.links.length),Zi (Za f.h),Ze f.t (bnd a_1.links.length)]]).length-1)).toNat 0 10=some [Ze q n,Ze q_1 n_1,Zi (Za b),Ze q_2 n_2]/\K (AV.t [(true,[Ze q n,Ze q_1 n_1,Zi (Za b),Ze q_2 n_2]),(false,[Zi (Value.int IntKind.i64 0)])]))) ?_
 try simp only[Zb]
 obtain⟨ha,hb,hq⟩:=hc;have hn:=ha.n;refine⟨a,b,qs,rfl,rfl,⟨ha,hb,hq⟩,fun fs f hf hl=> ?_⟩;have hbn:bnd a.links.length<=120000000:=QH6 hn.2;simp only[List.length_append,Zn,List.length_cons,List.length_nil];rw[w64 (by omega)];have e:((((fs.length+(0+1):Nat):Int)-1).toNat)=a.links.length:=by omega
 rw[e];have hg:(fs++[f])[a.links.length]? =some f:=by rw[<-hl];simp
 obtain⟨n,hn',hld⟩:=QOL hbn hg;have:=hK n f hn' (by rw[<-hf];exact hg);refine⟨by omega,f.x,n,f.y,n,f.h,f.t,n,?_,this⟩;have hld':(Zc XL fs++[[Ze f.x (bnd a.links.length),Ze f.y (bnd a.links.length),Zi (Za f.h),Ze f.t (bnd a.links.length)]])[a.links.length]? =some (frN n f):=hld
 simp only[ldE,hld'];rfl
def QA9:Ctr
 | [.x true xs,.x false [.s 3 ys]]=>some fun K=> ∃(a:ArmV) (b:Nat) (qs:List Rat),xs=Xd a/\ys=lR b qs/\((QU a)/\(b<=400/\qs.length=a.links.length))/\(∀n f,n<=120000000->(Ql (XF a) a.links qs)[a.links.length]? =some f->K (.t [(true,frN n f),(false,[.v (.int .i64 0)])]))
 | _=>none
theorem QDx:QI 26 QA9:=by
 refine okL Tryz.func26 fun l T hT K hK=> ?_
 unfold QA9 at hT;split at hT<;>cases hT
 obtain⟨a,b,qs,rfl,rfl,hc,hK⟩:=hK;exact spL (QS QU2 Xe Qm) QM Tryz.func26 (QWW _ _ _ hc K hK)
def L94:LC:=(26,QA9)::L93
noncomputable def T94:Qb:=mkT L94 M79 X4
theorem QZO:QF L94:= .cons QDx QU2
end Go.Proofs
