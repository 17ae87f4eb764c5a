/- Turns, vectors, frames. -/
import Derived.Test.YtjdhppdpbkoihaaGreatDoorAJ
open Go.Value renaming bool → Za, string → Zj
open Int renaming ofNat_eq_natCast → Zb, ofNat → Zd
open List renaming map → Zc, getElem?_eq_getElem → Zh, getElem?_append_right → Zk, getElem?_append_left → Zl, take_of_length_le → Zm, length_map → Zn, take → Zo
open Go.Eng.Ch renaming r → Ze, v → Zi
open Nat renaming le_refl → Zf, zero_add → Zg
namespace Go.Proofs
open Go Go.Eng
def XX (h:Bool)(t:Rat):Rat:=bif h then 0 else t
def HC (t:Rat):Bool:=decide (t=0)
def UM (t:Rat):Rat:=bif HC t then 0 else((-1:Int):Rat)/t
def thH (h1:Bool)(t1:Rat)(h2:Bool)(t2:Rat):Bool:=bif h1&&h2 then false else bif h1 then HC (XX h2 t2)else bif h2 then HC (XX h1 t1)else decide (1-t1*t2=0)
def thT (h1:Bool)(t1:Rat)(h2:Bool)(t2:Rat):Rat:=bif h1&&h2 then 0 else bif h1 then UM (XX h2 t2)else bif h2 then UM (XX h1 t1)else bif decide (1-t1*t2=0)then 0 else(t1+t2)/(1-t1*t2)
def QK (h:Bool)(t:Rat):Rat:=bif h then-1 else(1-t*t)/(1+t*t)
def QO (h:Bool)(t:Rat):Rat:=bif h then 0 else(t+t)/(1+t*t)
structure FrV where
  x:Rat
  y:Rat
  h:Bool
  t:Rat
def H9 (f:FrV)(x y:Rat):Rat:=f.x+(x*QK f.h f.t-y*QO f.h f.t)
def GA (f:FrV)(x y:Rat):Rat:=f.y+(x*QO f.h f.t+y*QK f.h f.t)
def Qt (f g:FrV):FrV:=⟨H9 f g.x g.y,GA f g.x g.y,thH f.h f.t g.h g.t,thT f.h f.t g.h g.t⟩
theorem Jc (p:Rat):Q9 p p=p:=by unfold Q9;split<;>rfl
theorem QUk (t:Rat):0<=t*t:=by
 rcases @Rat.le_total 0 t with h | h
 ·exact Rat.mul_nonneg h h
 ·have:=Rat.mul_nonneg (show 0<= -t by grind) (show 0<= -t by grind);grind
theorem sq1 (t:Rat):1+t*t≠0:=by have:=QUk t;grind
def L79:LC:=L52
def M79:List (Nat×Xl):=M48
theorem QUl:QG L79:=QYr
theorem X0:XU M79:=QJ2
theorem QYs (t:Rat)(a:Nat)(hc:(a<=1000000000))(K:AV->Prop)(hK:K (.x true [.v (.bool false),.r t a])):QM (QU (mkT L79 M79 X4) (oF Tryz.f6) noL Tryz.f6 [rA t a] K):=by
 refine HV ((a+a<=4294967296/\K (AV.x true [Zi (Za false),Ze (Q9 t t) (max a a)]))) ?_
 try simp only[Zb,R0,R1,Zg,Zf,R4,R2,R3]
 rw[Jc,Nat.max_self];exact⟨by omega,hK⟩
def QJ5:Ctr
 | [.x true [.r t a]]=>some fun K=>((a<=1000000000))/\(K (.x true [.v (.bool false),.r t a]))
 | _=>none
theorem QOd:QI 6 QJ5:=by
 refine okL Tryz.func6 fun l T hT K hK=> ?_
 unfold QJ5 at hT;split at hT<;>cases hT
 obtain⟨hc,hK⟩:=hK;exact spL (QV QUl X0 Qo) QN Tryz.func6 (QYs _ _ hc K hK)
def L80:LC:=(6,QJ5)::L79
theorem QUm:QG L80:= .cons QOd QUl
theorem QSe (_hc:True)(K:AV->Prop)(hK:K (.x true [.v (.bool true),.r 0 64])):QM (QU (mkT L80 M79 X4) (oF Tryz.f79) noL Tryz.f79 [] K):=by
 refine HV ((((-9223372036854775808:Int)<=0/\(0:Int)<9223372036854775808)/\K (AV.x true [Zi (Za true),Ze (↑(0:Int)) 64]))) ?_
 try simp only[Zb,R0,R1,Zg,Zf,R4,R2,R3]
 exact⟨by omega,hK⟩
def QEJ:Ctr
 | []=>some fun K=>(True)/\(K (.x true [.v (.bool true),.r 0 64]))
 | _=>none
theorem QOe:QI 79 QEJ:=by
 refine okL Tryz.func79 fun l T hT K hK=> ?_
 unfold QEJ at hT;split at hT<;>cases hT
 obtain⟨hc,hK⟩:=hK;exact spL (QV QUm X0 Qo) QN Tryz.func79 (QSe  hc K hK)
def L81:LC:=(79,QEJ)::L80
theorem QUn:QG L81:= .cons QOe QUm
theorem QWG (h:Bool)(t:Rat)(a:Nat)(hc:(a<=1000000000))(K:AV->Prop)(hK: ∀n,n<=a+64->K (.x true [.v (.bool h),.r (XX h t) n])):QM (QU (mkT L81 M79 X4) (oF Tryz.f75) noL Tryz.f75 [.x true [.v (.bool h),.r t a]] K):=by
 refine HV ((bif h then True/\K (AV.x true [Zi (Za true),Ze (OfNat.ofNat 0) 64])else a<=1000000000/\K (AV.x true [Zi (Za false),Ze t a]))) ?_
 try simp only[R0]
 cases h with
 | true=>exact hK 64 (by omega)
 | false=>exact⟨hc,hK a (by omega)⟩
def QIS:Ctr
 | [.x true [.v (.bool h),.r t a]]=>some fun K=>((a<=1000000000))/\(∀n,n<=a+64->K (.x true [.v (.bool h),.r (XX h t) n]))
 | _=>none
theorem QSf:QI 75 QIS:=by
 refine okL Tryz.func75 fun l T hT K hK=> ?_
 unfold QIS at hT;split at hT<;>cases hT
 obtain⟨hc,hK⟩:=hK;exact spL (QV QUn X0 Qo) QN Tryz.func75 (QWG _ _ _ hc K hK)
def L82:LC:=(75,QIS)::L81
theorem QUo:QG L82:= .cons QSf QUn
theorem QWH (h:Bool)(t:Rat)(a:Nat)(hc:(a<=900000000))(K:AV->Prop)(hK: ∀n,n<=a+64->K (.x true [.v (.bool (HC t)),.r (UM t) n])):QM (QU (mkT L82 M79 X4) (oF Tryz.f76) noL Tryz.f76 [.x true [.v (.bool h),.r t a]] K):=by
 refine HV ((((-9223372036854775808:Int)<= -1/\(-1:Int)<9223372036854775808)/\64+a<=4294967296/\(t≠OfNat.ofNat 0->64+a<=1000000000/\K (AV.x true [Zi (Za false),Ze (↑(-1:Int)/t) (64+a)]))/\(t=OfNat.ofNat 0->True/\K (AV.x true [Zi (Za true),Ze (OfNat.ofNat 0) 64])))) ?_
 try simp only[R0]
 refine⟨by omega,by omega,fun h0=>⟨by omega,?_⟩,fun h0=> ?_⟩
 ·have e:HC t=false:=decide_eq_false h0;have:=hK (64+a) (by omega);unfold UM at this;rw[e]at this;exact this
 ·have e:HC t=true:=decide_eq_true h0;have:=hK 64 (by omega);unfold UM at this;rw[e]at this;exact this
def QIT:Ctr
 | [.x true [.v (.bool _h),.r t a]]=>some fun K=>((a<=900000000))/\(∀n,n<=a+64->K (.x true [.v (.bool (HC t)),.r (UM t) n]))
 | _=>none
theorem QSg:QI 76 QIT:=by
 refine okL Tryz.func76 fun l T hT K hK=> ?_
 unfold QIT at hT;split at hT<;>cases hT
 obtain⟨hc,hK⟩:=hK;exact spL (QV QUo X0 Qo) QN Tryz.func76 (QWH _ _ _ hc K hK)
def L83:LC:=(76,QIT)::L82
theorem QUp:QG L83:= .cons QSg QUo
theorem QSh (h:Bool)(t:Rat)(a:Nat)(g:Bool)(u:Rat)(b:Nat)(hc:(a+b<=400000000))(K:AV->Prop)(hK: ∀n,n<=2*a+2*b+400->K (.x true [.v (.bool (thH h t g u)),.r (thT h t g u) n])):QM (QU (mkT L83 M79 X4) (oF Tryz.f36) noL Tryz.f36 [.x true [.v (.bool h),.r t a],.x true [.v (.bool g),.r u b]] K):=by
 refine HV ((a<=1000000000/\∀(n:Nat),n<=a+64->b<=1000000000/\∀(n_1:Nat),n_1<=b+64->bif h then bif g then((-9223372036854775808:Int)<=0/\(0:Int)<9223372036854775808)/\64<=1000000000/\K (AV.x true [Zi (Za false),Ze (↑(0:Int)) 64])else bif h then n_1<=900000000/\∀(n:Nat),n<=n_1+64->K (AV.x true [Zi (Za (HC (XX g u))),Ze (UM (XX g u)) n])else bif g then n<=900000000/\∀(n_2:Nat),n_2<=n+64->K (AV.x true [Zi (Za (HC (XX h t))),Ze (UM (XX h t)) n_2])else n+n_1+1<=4294967296/\((-9223372036854775808:Int)<=1/\(1:Int)<9223372036854775808)/\n+n_1<=4294967296/\64+(n+n_1)+1<=4294967296/\n+n_1+1+(64+(n+n_1)+1)<=4294967296/\(↑(1:Int)-XX h t*XX g u≠OfNat.ofNat 0->n+n_1+1+(64+(n+n_1)+1)<=1000000000/\K (AV.x true [Zi (Za false),Ze ((XX h t+XX g u)/(↑(1:Int)-XX h t*XX g u)) (n+n_1+1+(64+(n+n_1)+1))]))/\(↑(1:Int)-XX h t*XX g u=OfNat.ofNat 0->True/\K (AV.x true [Zi (Za true),Ze (OfNat.ofNat 0) 64]))else bif h then n_1<=900000000/\∀(n:Nat),n<=n_1+64->K (AV.x true [Zi (Za (HC (XX g u))),Ze (UM (XX g u)) n])else bif g then n<=900000000/\∀(n_2:Nat),n_2<=n+64->K (AV.x true [Zi (Za (HC (XX h t))),Ze (UM (XX h t)) n_2])else n+n_1+1<=4294967296/\((-9223372036854775808:Int)<=1/\(1:Int)<9223372036854775808)/\n+n_1<=4294967296/\64+(n+n_1)+1<=4294967296/\n+n_1+1+(64+(n+n_1)+1)<=4294967296/\(↑(1:Int)-XX h t*XX g u≠OfNat.ofNat 0->n+n_1+1+(64+(n+n_1)+1)<=1000000000/\K (AV.x true [Zi (Za false),Ze ((XX h t+XX g u)/(↑(1:Int)-XX h t*XX g u)) (n+n_1+1+(64+(n+n_1)+1))]))/\(↑(1:Int)-XX h t*XX g u=OfNat.ofNat 0->True/\K (AV.x true [Zi (Za true),Ze (OfNat.ofNat 0) 64])))) ?_
 try simp only[R0]
 refine⟨by omega,fun n hn=>⟨by omega,fun m hm=> ?_⟩⟩;cases h with
 | true=>
  cases g with
  | true=>exact⟨by omega,by omega,hK 64 (by omega)⟩
  | false=>exact⟨by omega,fun k hk=>hK k (by omega)⟩
 | false=>
  cases g with
  | true=>exact⟨by omega,fun k hk=>hK k (by omega)⟩
  | false=>
   refine⟨by omega,by omega,by omega,by omega,by omega,fun h0=>⟨by omega,?_⟩,fun h0=> ?_⟩
   ·have e:decide (1-t*u=0)=false:=decide_eq_false h0;have:=hK (n+m+1+(64+(n+m)+1)) (by omega);simp only[thH,thT,Bool.and_self,R8,e]at this;exact this
   ·have e:decide (1-t*u=0)=true:=decide_eq_true h0;have:=hK 64 (by omega);simp only[thH,thT,Bool.and_self,R8,e,R7]at this;exact this
def QEK:Ctr
 | [.x true [.v (.bool h),.r t a],.x true [.v (.bool g),.r u b]]=>some fun K=>((a+b<=400000000))/\(∀n,n<=2*a+2*b+400->K (.x true [.v (.bool (thH h t g u)),.r (thT h t g u) n]))
 | _=>none
theorem QOf:QI 36 QEK:=by
 refine okL Tryz.func36 fun l T hT K hK=> ?_
 unfold QEK at hT;split at hT<;>cases hT
 obtain⟨hc,hK⟩:=hK;exact spL (QV QUp X0 Qo) QN Tryz.func36 (QSh _ _ _ _ _ _ hc K hK)
def L84:LC:=(36,QEK)::L83
theorem QUq:QG L84:= .cons QOf QUp
theorem QWI (h:Bool)(t:Rat)(a:Nat)(hc:(a<=500000000))(K:AV->Prop)(hK: ∀n,n<=4*a+400->K (rA (QK h t) n)):QM (QU (mkT L84 M79 X4) (oF Tryz.f80) noL Tryz.f80 [.x true [.v (.bool h),.r t a]] K):=by
 refine HV ((a<=1000000000/\∀(n:Nat),n<=a+64->bif h then((-9223372036854775808:Int)<= -1/\(-1:Int)<9223372036854775808)/\K (AV.x true [Ze (↑(-1:Int)) 64])else n+n<=4294967296/\((-9223372036854775808:Int)<=1/\(1:Int)<9223372036854775808)/\64+(n+n)+1<=4294967296/\((-9223372036854775808:Int)<=1/\(1:Int)<9223372036854775808)/\64+(n+n)+1<=4294967296/\64+(n+n)+1+(64+(n+n)+1)<=4294967296/\(↑(1:Int)+XX h t*XX h t≠OfNat.ofNat 0->K (AV.x true [Ze ((↑(1:Int)-XX h t*XX h t)/(↑(1:Int)+XX h t*XX h t)) (64+(n+n)+1+(64+(n+n)+1))]))/\(↑(1:Int)+XX h t*XX h t=OfNat.ofNat 0->K (AV.x true [Zi (Za false),Zi (Zj (ByteArray.mk (Array.mk []))),Zi (Zj (ByteArray.mk (Array.mk [])))])))) ?_
 try simp only[Zb,R0,R1,Zg,Zf,R4,R2,R3]
 refine⟨by omega,fun n hn=> ?_⟩;cases h with
 | true=>exact⟨by omega,hK 64 (by omega)⟩
 | false=>exact⟨by omega,by omega,by omega,by omega,by omega,by omega,fun _=>hK _ (by omega),fun h0=>absurd h0 (sq1 t)⟩
def QIU:Ctr
 | [.x true [.v (.bool h),.r t a]]=>some fun K=>((a<=500000000))/\(∀n,n<=4*a+400->K (rA (QK h t) n))
 | _=>none
theorem QSi:QI 80 QIU:=by
 refine okL Tryz.func80 fun l T hT K hK=> ?_
 unfold QIU at hT;split at hT<;>cases hT
 obtain⟨hc,hK⟩:=hK;exact spL (QV QUq X0 Qo) QN Tryz.func80 (QWI _ _ _ hc K hK)
def L85:LC:=(80,QIU)::L84
theorem QUr:QG L85:= .cons QSi QUq
theorem QWJ (h:Bool)(t:Rat)(a:Nat)(hc:(a<=500000000))(K:AV->Prop)(hK: ∀n,n<=4*a+400->K (rA (QO h t) n)):QM (QU (mkT L85 M79 X4) (oF Tryz.f81) noL Tryz.f81 [.x true [.v (.bool h),.r t a]] K):=by
 refine HV ((a<=1000000000/\∀(n:Nat),n<=a+64->n+n+1<=4294967296/\((-9223372036854775808:Int)<=1/\(1:Int)<9223372036854775808)/\n+n<=4294967296/\64+(n+n)+1<=4294967296/\n+n+1+(64+(n+n)+1)<=4294967296/\(↑(1:Int)+XX h t*XX h t≠OfNat.ofNat 0->K (AV.x true [Ze ((XX h t+XX h t)/(↑(1:Int)+XX h t*XX h t)) (n+n+1+(64+(n+n)+1))]))/\(↑(1:Int)+XX h t*XX h t=OfNat.ofNat 0->K (AV.x true [Zi (Za false),Zi (Zj (ByteArray.mk (Array.mk []))),Zi (Zj (ByteArray.mk (Array.mk [])))])))) ?_
 try simp only[Zb,R0,R1,Zg,Zf,R4,R2,R3]
 refine⟨by omega,fun n hn=>⟨by omega,by omega,by omega,by omega,by omega,fun h0=> ?_,fun h0=>absurd h0 (sq1 _)⟩⟩;have e:(XX h t+XX h t)/(((1:Int):Rat)+XX h t*XX h t)=QO h t:=by
  cases h with
  | true=>show((0:Rat)+0)/_=0;rw[Rat.add_zero,Rat.div_def,Rat.zero_mul]
  | false=>rfl
 rw[e];exact hK _ (by omega)
def QIV:Ctr
 | [.x true [.v (.bool h),.r t a]]=>some fun K=>((a<=500000000))/\(∀n,n<=4*a+400->K (rA (QO h t) n))
 | _=>none
theorem QSj:QI 81 QIV:=by
 refine okL Tryz.func81 fun l T hT K hK=> ?_
 unfold QIV at hT;split at hT<;>cases hT
 obtain⟨hc,hK⟩:=hK;exact spL (QV QUr X0 Qo) QN Tryz.func81 (QWJ _ _ _ hc K hK)
def L86:LC:=(81,QIV)::L85
theorem QUs:QG L86:= .cons QSj QUr
theorem QWK (px:Rat)(a:Nat)(py:Rat)(b:Nat)(qx:Rat)(c:Nat)(qy:Rat)(d:Nat)(hc:(a+c<=4294967290)/\(b+d<=4294967290))(K:AV->Prop)(hK:K (.x true [.r (px+qx) (a+c+1),.r (py+qy) (b+d+1)])):QM (QU (mkT L86 M79 X4) (oF Tryz.f37) noL Tryz.f37 [.x true [.r px a,.r py b],.x true [.r qx c,.r qy d]] K):=by
 refine HV ((a+c+1<=4294967296/\b+d+1<=4294967296/\K (AV.x true [Ze (px+qx) (a+c+1),Ze (py+qy) (b+d+1)]))) ?_
 try simp only[Zb,R0,R1,Zg,Zf,R4,R2,R3]
 exact⟨by omega,by omega,hK⟩
def QIW:Ctr
 | [.x true [.r px a,.r py b],.x true [.r qx c,.r qy d]]=>some fun K=>((a+c<=4294967290)/\(b+d<=4294967290))/\(K (.x true [.r (px+qx) (a+c+1),.r (py+qy) (b+d+1)]))
 | _=>none
theorem QSk:QI 37 QIW:=by
 refine okL Tryz.func37 fun l T hT K hK=> ?_
 unfold QIW at hT;split at hT<;>cases hT
 obtain⟨hc,hK⟩:=hK;exact spL (QV QUs X0 Qo) QN Tryz.func37 (QWK _ _ _ _ _ _ _ _ hc K hK)
def L87:LC:=(37,QIW)::L86
theorem QUt:QG L87:= .cons QSk QUs
theorem QWL (px:Rat)(a:Nat)(py:Rat)(b:Nat)(qx:Rat)(c:Nat)(qy:Rat)(d:Nat)(hc:(a+b+c+d<=4294967290))(K:AV->Prop)(hK:K (rA (px*qx+py*qy) (a+c+(b+d)+1))):QM (QU (mkT L87 M79 X4) (oF Tryz.f147) noL Tryz.f147 [.x true [.r px a,.r py b],.x true [.r qx c,.r qy d]] K):=by
 refine HV ((a+c<=4294967296/\b+d<=4294967296/\a+c+(b+d)+1<=4294967296/\K (AV.x true [Ze (px*qx+py*qy) (a+c+(b+d)+1)]))) ?_
 try simp only[Zb,R0,R1,Zg,Zf,R4,R2,R3]
 exact⟨by omega,by omega,by omega,hK⟩
def QIX:Ctr
 | [.x true [.r px a,.r py b],.x true [.r qx c,.r qy d]]=>some fun K=>((a+b+c+d<=4294967290))/\(K (rA (px*qx+py*qy) (a+c+(b+d)+1)))
 | _=>none
theorem QSl:QI 147 QIX:=by
 refine okL Tryz.func147 fun l T hT K hK=> ?_
 unfold QIX at hT;split at hT<;>cases hT
 obtain⟨hc,hK⟩:=hK;exact spL (QV QUt X0 Qo) QN Tryz.func147 (QWL _ _ _ _ _ _ _ _ hc K hK)
def L88:LC:=(147,QIX)::L87
theorem QYt:QG L88:= .cons QSl QUt
def L89:LC:=L88
theorem QUu:QG L89:=QYt
abbrev QJ6 (px:Rat)(a:Nat)(py:Rat)(b:Nat)(h:Bool)(t:Rat)(c:Nat)(K:AV->Prop):Prop:=((a+b+c<=400000000))/\(∀n m,n<=a+b+8*c+1000->m<=a+b+8*c+1000->K (.x true [.r (px*QK h t-py*QO h t) n,.r (px*QO h t+py*QK h t) m]))
theorem QSm (px:Rat)(a:Nat)(py:Rat)(b:Nat)(h:Bool)(t:Rat)(c:Nat)(K:AV->Prop)(hK:QJ6 px a py b h t c K):QM (QU (mkT L89 M79 X4) (oF Tryz.f38) noL Tryz.f38 [.x true [.r px a,.r py b],.x true [.v (.bool h),.r t c]] K):=by
 obtain⟨hc,hK⟩:=hK;refine HV ((c<=500000000/\∀(n:Nat),n<=4*c+400->c<=500000000/\∀(n_1:Nat),n_1<=4*c+400->a+n<=4294967296/\b+n_1<=4294967296/\a+n+(b+n_1)+1<=4294967296/\a+n_1<=4294967296/\b+n<=4294967296/\a+n_1+(b+n)+1<=4294967296/\K (AV.x true [Ze (px*QK h t-py*QO h t) (a+n+(b+n_1)+1),Ze (px*QO h t+py*QK h t) (a+n_1+(b+n)+1)]))) ?_
 try simp only[Zb,R0,R1,Zg,Zf,R4,R2,R3]
 exact⟨by omega,fun n hn=>⟨by omega,fun m hm=>⟨by omega,by omega,by omega,by omega,by omega,by omega,hK _ _ (by omega) (by omega)⟩⟩⟩
def QEL:Ctr
 | [.x true [.r px a,.r py b],.x true [.v (.bool h),.r t c]]=>some fun K=>QJ6 px a py b h t c K
 | _=>none
theorem QOg:QI 38 QEL:=by
 refine okL Tryz.func38 fun l T hT K hK=> ?_
 unfold QEL at hT;split at hT<;>cases hT
 exact spL (QV QUu X0 Qo) QN Tryz.func38 (QSm _ _ _ _ _ _ _ K hK)
def L90:LC:=(38,QEL)::L89
theorem QUv:QG L90:= .cons QOg QUu
abbrev QOh (x:Rat)(i:Nat)(y:Rat)(j:Nat)(h:Bool)(t:Rat)(k:Nat)(px:Rat)(a:Nat)(py:Rat)(b:Nat)(K:AV->Prop):Prop:=((i+j+k+a+b<=400000000))/\(∀n m,n<=i+a+b+8*k+1100->m<=j+a+b+8*k+1100->K (.x true [.r (H9 ⟨x,y,h,t⟩ px py) n,.r (GA ⟨x,y,h,t⟩ px py) m]))
theorem QWM (x:Rat)(i:Nat)(y:Rat)(j:Nat)(h:Bool)(t:Rat)(k:Nat)(px:Rat)(a:Nat)(py:Rat)(b:Nat)(K:AV->Prop)(hK:QOh x i y j h t k px a py b K):QM (QU (mkT L90 M79 X4) (oF Tryz.f13) noL Tryz.f13 [.x true [.r x i,.r y j,.v (.bool h),.r t k],.x true [.r px a,.r py b]] K):=by
 obtain⟨hc,hK⟩:=hK;refine HV ((a+b+k<=400000000/\∀(n m:Nat),n<=a+b+8*k+1000->m<=a+b+8*k+1000->(i+n<=4294967290/\j+m<=4294967290)/\K (AV.x true [Ze (x+(px*QK h t-py*QO h t)) (i+n+1),Ze (y+(px*QO h t+py*QK h t)) (j+m+1)]))) ?_
 try simp only[Zb,R0,R1,Zg,Zf,R4,R2,R3]
 exact⟨by omega,fun n m hn hm=>⟨by omega,hK _ _ (by omega) (by omega)⟩⟩
def QIY:Ctr
 | [.x true [.r x i,.r y j,.v (.bool h),.r t k],.x true [.r px a,.r py b]]=>some fun K=>QOh x i y j h t k px a py b K
 | _=>none
theorem QSn:QI 13 QIY:=by
 refine okL Tryz.func13 fun l T hT K hK=> ?_
 unfold QIY at hT;split at hT<;>cases hT
 exact spL (QV QUv X0 Qo) QN Tryz.func13 (QWM _ _ _ _ _ _ _ _ _ _ _ K hK)
def L91:LC:=(13,QIY)::L90
theorem QUw:QG L91:= .cons QSn QUv
abbrev QJ7 (x:Rat)(i:Nat)(y:Rat)(j:Nat)(h:Bool)(t:Rat)(k:Nat)(px:Rat)(a:Nat)(py:Rat)(b:Nat)(g:Bool)(u:Rat)(l:Nat)(K:AV->Prop):Prop:=((i+j+k+a+b+l<=400000000))/\(∀f n m o,f=Qt ⟨x,y,h,t⟩ ⟨px,py,g,u⟩->n<=i+a+b+8*k+1100->m<=j+a+b+8*k+1100->o<=2*k+2*l+400->K (.x true [.r f.x n,.r f.y m,.v (.bool f.h),.r f.t o]))
theorem QSo (x:Rat)(i:Nat)(y:Rat)(j:Nat)(h:Bool)(t:Rat)(k:Nat)(px:Rat)(a:Nat)(py:Rat)(b:Nat)(g:Bool)(u:Rat)(l:Nat)(K:AV->Prop)(hK:QJ7 x i y j h t k px a py b g u l K):QM (QU (mkT L91 M79 X4) (oF Tryz.f12) noL Tryz.f12 [.x true [.r x i,.r y j,.v (.bool h),.r t k],.x true [.r px a,.r py b,.v (.bool g),.r u l]] K):=by
 obtain⟨hc,hK⟩:=hK;refine HV ((i+j+k+a+b<=400000000/\∀(n m:Nat),n<=i+a+b+8*k+1100->m<=j+a+b+8*k+1100->k+l<=400000000/\∀(n_1:Nat),n_1<=2*k+2*l+400->K (AV.x true [Ze (H9 (FrV.mk x y h t) px py) n,Ze (GA (FrV.mk x y h t) px py) m,Zi (Za (thH h t g u)),Ze (thT h t g u) n_1]))) ?_
 try simp only[Zb,R0,R1,Zg,Zf,R4,R2,R3]
 exact⟨by omega,fun n m hn hm=>⟨by omega,fun o ho=>hK _ _ _ _ rfl (by omega) (by omega) (by omega)⟩⟩
def QEM:Ctr
 | [.x true [.r x i,.r y j,.v (.bool h),.r t k],.x true [.r px a,.r py b,.v (.bool g),.r u l]]=>some fun K=>QJ7 x i y j h t k px a py b g u l K
 | _=>none
theorem QOi:QI 12 QEM:=by
 refine okL Tryz.func12 fun l T hT K hK=> ?_
 unfold QEM at hT;split at hT<;>cases hT
 exact spL (QV QUw X0 Qo) QN Tryz.func12 (QSo _ _ _ _ _ _ _ _ _ _ _ _ _ _ K hK)
def L92:LC:=(12,QEM)::L91
noncomputable def T92:Qc:=mkT L92 M79 X4
theorem QUx:QG L92:= .cons QOi QUw
theorem QYu:XP T92:=QV QUx X0 Qo
end Go.Proofs
namespace Go.Proofs
open Go Go.Eng
def JW:FrV->List QZ->List Rat->List FrV
 | b,L::ls,q::qs=>Qt b ⟨0,0,false,q⟩::JW (Qt (Qt b ⟨0,0,false,q⟩) ⟨L.len,0,false,0⟩) ls qs
 | b,_,_=>[b]
def Vq (a:Qx):FrV:=⟨a.x,a.y,a.half,a.t⟩
def bnd:Nat->Nat
 | 0=>63
 | i+1=>81*bnd i+12279
def frN (n:Nat)(f:FrV):List Ch:=[.r f.x n,.r f.y n,.v (.bool f.h),.r f.t n]
abbrev K3 (f:FrV):List Ch:=[.r f.x 12800000,.r f.y 12800000,.v (.bool f.h),.r f.t 12800000]
theorem QOj {xs:List (List Ch)}{a b:List Ch}(hx:QC xs xs)(h:MC (fun _=>none) a b/\Qj b=[]):QC (xs++[a]) (xs++[b]):=by
 refine⟨by simp,fun i x y hx' hy'=> ?_⟩;by_cases hi:i<xs.length
 ·rw[Zl hi]at hx' hy';exact hx.2 i x y hx' hy'
 ·rw[Zk (by omega)]at hx' hy';have:i-xs.length=0:=by
   have:=(List.getElem?_eq_some_iff.1 hx').1;simp at this;omega
  rw[this]at hx' hy';cases hx';cases hy';exact h
theorem QUy {n m o N:Nat}{f:FrV}(h1:n<=N)(h2:m<=N)(h3:o<=N):MC (fun _=>none) [.r f.x n,.r f.y m,.v (.bool f.h),.r f.t o] (frN N f)/\Qj (frN N f)=[]:=⟨.r h1 (.r h2 (.v (.r h3 .nil))),rfl⟩
theorem QWN {n:Nat}(h:n<=3):bnd n<=120000000:=by
 have:n=0∨n=1∨n=2∨n=3:=by omega
 rcases this with e | e | e | e<;>rw[e]<;>decide
theorem QWO (fs:List FrV):QC (fs.map K3) (fs.map K3):=by
 refine⟨rfl,fun i x y hx hy=> ?_⟩;rw[hx]at hy;cases hy
 rw[List.getElem?_map]at hx;cases hf:fs[i]? with
 | none=>rw[hf]at hx;cases hx
 | some f=>rw[hf]at hx;cases hx;exact QUy (Zf _) (Zf _) (Zf _)
theorem QWP {fs:List FrV}{f:FrV}{m i:Nat}{g:FrV}(hm:m<=120000000)(h:(fs++[f])[i]? =some g): ∃n,n<=120000000/\(fs.map K3++[frN m f])[i]? =some (frN n g):=by
 by_cases hi:i<fs.length
 ·rw[Zl hi]at h;exact⟨12800000,by omega,by rw[Zl (by simpa using hi),List.getElem?_map,h];rfl⟩
 ·rw[Zk (by omega)]at h;have:i-fs.length=0:=by
   have:=(List.getElem?_eq_some_iff.1 h).1;simp at this;omega
  rw[this]at h;cases h
  exact⟨m,hm,by rw[Zk (by simp;omega),Zn,this];rfl⟩
structure FmX where
 fs:List FrV
 b:FrV
 i:Nat
structure FmI (a:Qx)(qs:List Rat)(x:FmX):Prop where
 n:x.fs.length=x.i
 le:x.i<=a.links.length
 eq:x.fs++JW x.b (a.links.drop x.i) (qs.drop x.i)=JW (Vq a) a.links qs
def QIZ (a:Qx)(b:Nat)(qs:List Rat):LI:=fun _=> .inv ⟨FmX,fun x=>⟨[(1,sR b qs),(2,.x false [.p 2 0]),(7,.x false [.p 7 0]),(8,.x false [.p 8 0]),(9,.x false [.p 9 0]),(10,.x false [.w 500 0 x.fs.length]),(29,.x false [.s 16 (a.links.map QH)]),(30,iA .i64 a.links.length),(31,iA .i64 x.i)],
 [(2,.box 48 (JU a)),(7,.box 34 (frN (bnd x.i) x.b)),(8,.box 32 [.r ((0:Int):Rat) 64,.r ((0:Int):Rat) 64]),(9,.box 28 [.v (.bool false),.r ((0:Int):Rat) 64]),(500,.row 34 10 (x.fs.map K3))]⟩,FmI a qs,fun x=>a.links.length-x.i,fun _=>0⟩
abbrev QC3 (a:Qx)(b:Nat)(qs:List Rat)(K:AV->Prop):Prop:=((Qy a)/\(b<=400/\qs.length=a.links.length))/\(∀(fs:List FrV) (f:FrV),fs++[f]=JW (Vq a) a.links qs->fs.length=a.links.length->K (.t [(false,[.s 10 (fs.map K3++[frN (bnd a.links.length) f])]),(false,[.v (.int .i64 0)])]))
set_option maxHeartbeats 1000000 in
theorem QL6 (a:Qx)(b:Nat)(qs:List Rat)(K:AV->Prop)(hK:QC3 a b qs K):QM (QU T92 (oF Tryz.f47) (QIZ a b qs) Tryz.f47 [Ka a,sR b qs] K):=by
 obtain⟨hc,hK⟩:=hK;refine HV ((∃(a_1:Qx),[Zi (Zj a.name),Ze a.x 63,Ze a.y 63,Zi (Za a.half),Ze a.t 63,Ch.s 16 (Zc QH a.links)]=[Zi (Zj a_1.name),Ze a_1.x 63,Ze a_1.y 63,Zi (Za a_1.half),Ze a_1.t 63,Ch.s 16 (Zc QH a_1.links)]/\(Qy a_1/\Zd (lR b qs).length=Zd a_1.links.length)/\((-9223372036854775808:Int)<=0/\(0:Int)<9223372036854775808)/\((-9223372036854775808:Int)<=0/\(0:Int)<9223372036854775808)/\((-9223372036854775808:Int)<=0/\(0:Int)<9223372036854775808)/\64<=1000000000/\(∃(x:FmX),(FmI a qs x/\OfNat.ofNat 0=0)/\3=3/\lR b qs=lR b qs/\0=0/\0=0/\0=0/\0=0/\Value.slice none 0 0=Value.slice none 0 0/\0=0/\x.fs.length=0/\16=16/\Zc QH a.links=Zc QH a.links/\Zd (Zc QH a.links).length=Zd a.links.length/\0=Zd x.i/\48=48/\a.name=a.name/\a.x=a.x/\63<=63/\a.y=a.y/\63<=63/\a.half=a.half/\a.t=a.t/\63<=63/\16=16/\Zc QH a.links=Zc QH a.links/\34=34/\a.x=x.b.x/\63<=bnd x.i/\a.y=x.b.y/\63<=bnd x.i/\a.half=x.b.h/\a.t=x.b.t/\63<=bnd x.i/\32=32/\(↑(0:Int):Rat)=(↑(0:Int):Rat)/\64<=64/\(↑(0:Int):Rat)=(↑(0:Int):Rat)/\64<=64/\28=28/\false=false/\(↑(0:Int):Rat)=(↑(0:Int):Rat)/\64<=64/\Zc K3 x.fs=[]/\True)/\∀(x:FmX),FmI a qs x->OfNat.ofNat 0=0->bif decide (Zd x.i<Zd a.links.length)then(0<=Zd x.i/\Zd x.i<Zd (Zc QH a.links).length)/\∃(q:Rat),∃(n:Nat),∃(q_1:Rat),∃(n_1:Nat),∃(q_2:Rat),∃(n_2:Nat),∃(q_3:Rat),∃(n_3:Nat),∃(q_4:Rat),∃(n_4:Nat),∃(ys:List (List Ch)),ldE (Zc QH a.links) (Zd x.i).toNat 0 16=some [Ze q n,Ze q_1 n_1,Ze q_2 n_2,Ze q_3 n_3,Ze q_4 n_4,Ch.s 6 ys]/\(0<=Zd x.i/\Zd x.i<Zd (lR b qs).length)/\∃(q_5:Rat),∃(n_5:Nat),ldE (lR b qs) (Zd x.i).toNat 0 3=some [Ze q_5 n_5]/\n_5<=1000000000/\bnd x.i+bnd x.i+bnd x.i+64+64+n_5<=400000000/\∀(f:FrV) (n_6 m o:Nat),f=Qt (FrV.mk x.b.x x.b.y x.b.h x.b.t) (FrV.mk (↑(0:Int)) (↑(0:Int)) false q_5)->n_6<=bnd x.i+64+64+8*bnd x.i+1100->m<=bnd x.i+64+64+8*bnd x.i+1100->o<=2*bnd x.i+2*n_5+400->((x.fs.length+1)*128<=140737488355328/\x.fs.length+1<=9223372036854775807)/\((-9223372036854775808:Int)<=0/\(0:Int)<9223372036854775808)/\n_6+m+o+n+64+64<=400000000/\∀(f_1:FrV) (n_7 m_1 o_1:Nat),f_1=Qt (FrV.mk f.x f.y f.h f.t) (FrV.mk q (↑(0:Int)) false ↑(0:Int))->n_7<=n_6+n+64+8*o+1100->m_1<=m+n+64+8*o+1100->o_1<=2*o+128+400->∃(x':FmX),(FmI a qs x'/\OfNat.ofNat 0=0/\a.links.length-x'.i<a.links.length-x.i)/\3=3/\lR b qs=lR b qs/\0=0/\0=0/\0=0/\0=0/\0=0/\x.fs.length+1=x'.fs.length/\16=16/\Zc QH a.links=Zc QH a.links/\Zd a.links.length=Zd a.links.length/\IntKind.i64.wrap (Zd x.i+1)=Zd x'.i/\48=48/\a.name=a.name/\a.x=a.x/\63<=63/\a.y=a.y/\63<=63/\a.half=a.half/\a.t=a.t/\63<=63/\16=16/\Zc QH a.links=Zc QH a.links/\34=34/\f_1.x=x'.b.x/\n_7<=bnd x'.i/\f_1.y=x'.b.y/\m_1<=bnd x'.i/\f_1.h=x'.b.h/\f_1.t=x'.b.t/\o_1<=bnd x'.i/\32=32/\(↑(0:Int):Rat)=(↑(0:Int):Rat)/\64<=64/\(↑(0:Int):Rat)=(↑(0:Int):Rat)/\64<=64/\28=28/\false=false/\(↑(0:Int):Rat)=(↑(0:Int):Rat)/\64<=64/\34=34/\10=10/\(Zo x.fs.length (Zc K3 x.fs)++[[Ze f.x n_6,Ze f.y m,Zi (Za f.h),Ze f.t o]]=Zc K3 x'.fs∨QC (Zo x.fs.length (Zc K3 x.fs)++[[Ze f.x n_6,Ze f.y m,Zi (Za f.h),Ze f.t o]]) (Zc K3 x'.fs))/\True else((x.fs.length+1)*128<=140737488355328/\x.fs.length+1<=9223372036854775807)/\K (AV.t [(false,[Ch.s 10 (Zo (x.fs.length+1) (List.drop 0 (Zo x.fs.length (Zc K3 x.fs)++[[Ze x.b.x (bnd x.i),Ze x.b.y (bnd x.i),Zi (Za x.b.h),Ze x.b.t (bnd x.i)]])))]),(false,[Zi (Value.int IntKind.i64 0)])]))) ?_
 try simp only[Zb,R0,R1,Zf,R4]
 obtain⟨ha,hb,hq⟩:=hc;have hn:=ha.n;refine⟨a,rfl,⟨ha,by rw[X5,hq]⟩,by omega,by omega,by omega,by omega,⟨⟨[],Vq a,0⟩,⟨rfl,by simp,rfl⟩,rfl,by simp,rfl,rfl,Zf _,rfl,Zf _,rfl,rfl,Zf _,rfl⟩,fun x ⟨h1,h2,h3⟩=>QF (fun hp=> ?_) (fun hp=> ?_)⟩
 ·have hp:x.i<a.links.length:=by have:=R5 hp;omega
  obtain⟨L,hL⟩: ∃L,a.links[x.i]? =some L:=⟨_,Zh hp⟩
  obtain⟨q,hqi⟩: ∃q,qs[x.i]? =some q:=⟨_,Zh (by omega)⟩
  have hbn:bnd x.i<=1420221:=by
   have:x.i=0∨x.i=1∨x.i=2:=by omega
   rcases this with e | e | e<;>rw[e]<;>decide
  refine⟨by rw[Zn];omega,_,_,_,_,_,_,_,_,_,_,_,UA (by simpa using hL),by rw[X5];omega,q,b,JJ (by simpa using hqi),by omega,by omega,fun f n m o hf hn1 hm ho=> ?_⟩;subst hf;have e1:x.fs.map K3=Zo x.fs.length (x.fs.map K3):=by rw[Zm (by simp)]
  rw[<-e1];refine⟨⟨by omega,by omega⟩,by omega,by omega,fun g n' m' o' hg hn' hm' ho'=> ?_⟩;subst hg;have eb:bnd (x.i+1)=81*bnd x.i+12279:=rfl;refine⟨⟨x.fs++[Qt x.b ⟨0,0,false,q⟩],Qt (Qt x.b ⟨0,0,false,q⟩) ⟨L.len,0,false,0⟩,x.i+1⟩,⟨⟨by simp[h1],hp,?_⟩,by simp only;omega⟩,by simp,by rw[w64 (by omega)];simp,rfl,by simp only[eb];omega,rfl,by simp only[eb];omega,rfl,rfl,by simp only[eb];omega,.inr ?_⟩
  ·simp only;rw[List.append_assoc,<-h3];congr 1;rw[List.drop_eq_getElem_cons hp,List.drop_eq_getElem_cons (by omega:x.i<qs.length)];rw[Zh hp]at hL;rw[Zh (by omega)]at hqi;rw[Option.some.inj hL,Option.some.inj hqi];rfl
  ·rw[List.map_append];exact QOj (QWO _) (QUy (by omega) (by omega) (by omega))
 ·have hp:x.i=a.links.length:=by have:=R6 hp;omega
  refine⟨by omega,?_⟩;have e:a.links.drop x.i=[]:=by rw[hp,List.drop_length]
  rw[e,show JW x.b [] (qs.drop x.i)=[x.b]by cases qs.drop x.i<;>rfl]at h3;have:=hK x.fs x.b h3 (by omega);rw[Zm (by simp),List.drop_zero,Zm (by simp),hp];exact this
def GB:Ctr
 | [.x true xs,.x false [.s 3 ys]]=>some fun K=> ∃(a:Qx) (b:Nat) (qs:List Rat),xs=JU a/\ys=lR b qs/\QC3 a b qs K
 | _=>none
theorem QIa:QI 47 GB:=by
 refine okL Tryz.func47 fun l T hT K hK=> ?_
 unfold GB at hT;split at hT<;>cases hT
 obtain⟨a,b,qs,rfl,rfl,hK⟩:=hK;exact spL QYu QN Tryz.func47 (QL6 _ _ _ K hK)
def L93:LC:=(47,GB)::L92
theorem QUz:QG L93:= .cons QIa QUx
theorem QWQ (a:Qx)(b:Nat)(qs:List Rat)(hc:(Qy a)/\(b<=400/\qs.length=a.links.length))(K:AV->Prop)(hK: ∀n f,n<=120000000->(JW (Vq a) a.links qs)[a.links.length]? =some f->K (.t [(true,frN n f),(false,[.v (.int .i64 0)])])):QM (QU (mkT L93 M79 X4) (oF Tryz.f21) noL Tryz.f21 [Ka a,sR b qs] K):=by
 refine HV ((∃(a_1:Qx),∃(b_1:Nat),∃(qs_1:List Rat),[Zi (Zj a.name),Ze a.x 63,Ze a.y 63,Zi (Za a.half),Ze a.t 63,Ch.s 16 (Zc QH a.links)]=[Zi (Zj a_1.name),Ze a_1.x 63,Ze a_1.y 63,Zi (Za a_1.half),Ze a_1.t 63,Ch.s 16 (Zc QH a_1.links)]/\lR b qs=lR b_1 qs_1/\(Qy a_1/\b_1<=400/\qs_1.length=a_1.links.length)/\∀(fs:List FrV) (f:FrV),fs++[f]=JW (Vq a_1) a_1.links qs_1->fs.length=a_1.links.length->(0<=IntKind.i64.wrap (Zd (Zc K3 fs++[[Ze f.x (bnd a_1.links.length),Ze f.y (bnd a_1.links.length),Zi (Za f.h),Ze f.t (bnd a_1.links.length)]]).length-1)/\IntKind.i64.wrap (Zd (Zc K3 fs++[[Ze f.x (bnd a_1.links.length),Ze f.y (bnd a_1.links.length),Zi (Za f.h),Ze f.t (bnd a_1.links.length)]]).length-1)<Zd (Zc K3 fs++[[Ze f.x (bnd a_1.links.length),Ze f.y (bnd a_1.links.length),Zi (Za f.h),Ze f.t (bnd a_1.links.length)]]).length)/\∃(q:Rat),∃(n:Nat),∃(q_1:Rat),∃(n_1:Nat),∃(b:Bool),∃(q_2:Rat),∃(n_2:Nat),ldE (Zc K3 fs++[[Ze f.x (bnd a_1.links.length),Ze f.y (bnd a_1.links.length),Zi (Za f.h),Ze f.t (bnd a_1.links.length)]]) (IntKind.i64.wrap (Zd (Zc K3 fs++[[Ze f.x (bnd a_1.links.length),Ze f.y (bnd a_1.links.length),Zi (Za f.h),Ze f.t (bnd a_1.links.length)]]).length-1)).toNat 0 10=some [Ze q n,Ze q_1 n_1,Zi (Za b),Ze q_2 n_2]/\K (AV.t [(true,[Ze q n,Ze q_1 n_1,Zi (Za b),Ze q_2 n_2]),(false,[Zi (Value.int IntKind.i64 0)])]))) ?_
 try simp only[Zb]
 obtain⟨ha,hb,hq⟩:=hc;have hn:=ha.n;refine⟨a,b,qs,rfl,rfl,⟨ha,hb,hq⟩,fun fs f hf hl=> ?_⟩;have hbn:bnd a.links.length<=120000000:=QWN hn.2;simp only[List.length_append,Zn,List.length_cons,List.length_nil];rw[w64 (by omega)];have e:((((fs.length+(0+1):Nat):Int)-1).toNat)=a.links.length:=by omega
 rw[e];have hg:(fs++[f])[a.links.length]? =some f:=by rw[<-hl];simp
 obtain⟨n,hn',hld⟩:=QWP hbn hg;have:=hK n f hn' (by rw[<-hf];exact hg);refine⟨by omega,f.x,n,f.y,n,f.h,f.t,n,?_,this⟩;have hld':(Zc K3 fs++[[Ze f.x (bnd a.links.length),Ze f.y (bnd a.links.length),Zi (Za f.h),Ze f.t (bnd a.links.length)]])[a.links.length]? =some (frN n f):=hld
 simp only[ldE,hld'];rfl
def QEN:Ctr
 | [.x true xs,.x false [.s 3 ys]]=>some fun K=> ∃(a:Qx) (b:Nat) (qs:List Rat),xs=JU a/\ys=lR b qs/\((Qy a)/\(b<=400/\qs.length=a.links.length))/\(∀n f,n<=120000000->(JW (Vq a) a.links qs)[a.links.length]? =some f->K (.t [(true,frN n f),(false,[.v (.int .i64 0)])]))
 | _=>none
theorem QJ8:QI 21 QEN:=by
 refine okL Tryz.func21 fun l T hT K hK=> ?_
 unfold QEN at hT;split at hT<;>cases hT
 obtain⟨a,b,qs,rfl,rfl,hc,hK⟩:=hK;exact spL (QV QUz X0 Qo) QN Tryz.func21 (QWQ _ _ _ hc K hK)
def L94:LC:=(21,QEN)::L93
noncomputable def T94:Qc:=mkT L94 M79 X4
theorem QYv:QG L94:= .cons QJ8 QUz
end Go.Proofs
