/- Turns, vectors, frames. -/
import Derived.Test.YtjdhppdpbkoihaaGreatDoorAJ
open Go.Value renaming bool → Za, string → Ze
open Int renaming ofNat_eq_natCast → Zb
open Nat renaming zero_add → Zc, le_refl → Zd
namespace Go.Proofs
open Go Go.Eng
def XD (h:Bool)(t:Rat):Rat:=bif h then 0 else t
def Vi (t:Rat):Bool:=decide (t=0)
def Kv (t:Rat):Rat:=bif Vi t then 0 else((-1:Int):Rat)/t
def thH (h1:Bool)(t1:Rat)(h2:Bool)(t2:Rat):Bool:=bif h1&&h2 then false else bif h1 then Vi (XD h2 t2)else bif h2 then Vi (XD h1 t1)else decide (1-t1*t2=0)
def thT (h1:Bool)(t1:Rat)(h2:Bool)(t2:Rat):Rat:=bif h1&&h2 then 0 else bif h1 then Kv (XD h2 t2)else bif h2 then Kv (XD h1 t1)else bif decide (1-t1*t2=0)then 0 else(t1+t2)/(1-t1*t2)
def Q7 (h:Bool)(t:Rat):Rat:=bif h then-1 else(1-t*t)/(1+t*t)
def XA (h:Bool)(t:Rat):Rat:=bif h then 0 else(t+t)/(1+t*t)
structure FrV where
  x:Rat
  y:Rat
  h:Bool
  t:Rat
def YE (f:FrV)(x y:Rat):Rat:=f.x+(x*Q7 f.h f.t-y*XA f.h f.t)
def YF (f:FrV)(x y:Rat):Rat:=f.y+(x*XA f.h f.t+y*Q7 f.h f.t)
def Qw (f g:FrV):FrV:=⟨YE f g.x g.y,YF f g.x g.y,thH f.h f.t g.h g.t,thT f.h f.t g.h g.t⟩
theorem YN (p:Rat):Y4 p p=p:=by unfold Y4;split<;>rfl
theorem QTp (t:Rat):0<=t*t:=by
 rcases @Rat.le_total 0 t with h | h
 ·exact Rat.mul_nonneg h h
 ·have:=Rat.mul_nonneg (show 0<= -t by grind) (show 0<= -t by grind);grind
theorem sq1 (t:Rat):1+t*t≠0:=by have:=QTp t;grind
def L79:LC:=L52
def M79:List (Nat×Xi):=M48
theorem QKV:QC L79:=QTo
theorem XC:Xx M79:=QGU
theorem QTq (t:Rat)(a:Nat)(hc:(a<=1000000000))(K:AV->Prop)(hK:K (.x true [.v (.bool false),.r t a])):QN (QU (mkT L79 M79 X4) (oF Tryz.f6) noL Tryz.f6 [rA t a] K):=by
 refine HV ((a+a<=4294967296/\K (AV.x true [Ch.v (Za false),Ch.r (Y4 t t) (max a a)]))) ?_
 try simp only[Zb,R0,R1,Zc,Zd,R4,R2,R3]
 rw[YN,Nat.max_self];exact⟨by omega,hK⟩
def QKW:Ctr
 | [.x true [.r t a]]=>some fun K=>((a<=1000000000))/\(K (.x true [.v (.bool false),.r t a]))
 | _=>none
theorem QQ9:QH 6 QKW:=by
 refine okL Tryz.func6 fun l T hT K hK=> ?_
 unfold QKW at hT;split at hT<;>cases hT
 obtain⟨hc,hK⟩:=hK;exact spL (QW QKV XC Q0) QO Tryz.func6 (QTq _ _ hc K hK)
def L80:LC:=(6,QKW)::L79
theorem QPb:QC L80:= .cons QQ9 QKV
theorem QNt (_hc:True)(K:AV->Prop)(hK:K (.x true [.v (.bool true),.r 0 64])):QN (QU (mkT L80 M79 X4) (oF Tryz.f79) noL Tryz.f79 [] K):=by
 refine HV ((((-9223372036854775808:Int)<=0/\(0:Int)<9223372036854775808)/\K (AV.x true [Ch.v (Za true),Ch.r (↑(0:Int)) 64]))) ?_
 try simp only[Zb,R0,R1,Zc,Zd,R4,R2,R3]
 exact⟨by omega,hK⟩
def QBq:Ctr
 | []=>some fun K=>(True)/\(K (.x true [.v (.bool true),.r 0 64]))
 | _=>none
theorem QKX:QH 79 QBq:=by
 refine okL Tryz.func79 fun l T hT K hK=> ?_
 unfold QBq at hT;split at hT<;>cases hT
 obtain⟨hc,hK⟩:=hK;exact spL (QW QPb XC Q0) QO Tryz.func79 (QNt  hc K hK)
def L81:LC:=(79,QBq)::L80
theorem QPc:QC L81:= .cons QKX QPb
theorem QRA (h:Bool)(t:Rat)(a:Nat)(hc:(a<=1000000000))(K:AV->Prop)(hK: ∀n,n<=a+64->K (.x true [.v (.bool h),.r (XD h t) n])):QN (QU (mkT L81 M79 X4) (oF Tryz.f75) noL Tryz.f75 [.x true [.v (.bool h),.r t a]] K):=by
 refine HV ((bif h then True/\K (AV.x true [Ch.v (Za true),Ch.r (OfNat.ofNat 0) 64])else a<=1000000000/\K (AV.x true [Ch.v (Za false),Ch.r t a]))) ?_
 try simp only[R0]
 cases h with
 | true=>exact hK 64 (by omega)
 | false=>exact⟨hc,hK a (by omega)⟩
def QFO:Ctr
 | [.x true [.v (.bool h),.r t a]]=>some fun K=>((a<=1000000000))/\(∀n,n<=a+64->K (.x true [.v (.bool h),.r (XD h t) n]))
 | _=>none
theorem QNu:QH 75 QFO:=by
 refine okL Tryz.func75 fun l T hT K hK=> ?_
 unfold QFO at hT;split at hT<;>cases hT
 obtain⟨hc,hK⟩:=hK;exact spL (QW QPc XC Q0) QO Tryz.func75 (QRA _ _ _ hc K hK)
def L82:LC:=(75,QFO)::L81
theorem QPd:QC L82:= .cons QNu QPc
theorem QRB (h:Bool)(t:Rat)(a:Nat)(hc:(a<=900000000))(K:AV->Prop)(hK: ∀n,n<=a+64->K (.x true [.v (.bool (Vi t)),.r (Kv t) n])):QN (QU (mkT L82 M79 X4) (oF Tryz.f76) noL Tryz.f76 [.x true [.v (.bool h),.r t a]] K):=by
 refine HV ((((-9223372036854775808:Int)<= -1/\(-1:Int)<9223372036854775808)/\64+a<=4294967296/\(t≠OfNat.ofNat 0->64+a<=1000000000/\K (AV.x true [Ch.v (Za false),Ch.r (↑(-1:Int)/t) (64+a)]))/\(t=OfNat.ofNat 0->True/\K (AV.x true [Ch.v (Za true),Ch.r (OfNat.ofNat 0) 64])))) ?_
 try simp only[R0]
 refine⟨by omega,by omega,fun h0=>⟨by omega,?_⟩,fun h0=> ?_⟩
 ·have e:Vi t=false:=decide_eq_false h0;have:=hK (64+a) (by omega);unfold Kv at this;rw[e]at this;exact this
 ·have e:Vi t=true:=decide_eq_true h0;have:=hK 64 (by omega);unfold Kv at this;rw[e]at this;exact this
def QFP:Ctr
 | [.x true [.v (.bool _h),.r t a]]=>some fun K=>((a<=900000000))/\(∀n,n<=a+64->K (.x true [.v (.bool (Vi t)),.r (Kv t) n]))
 | _=>none
theorem QNv:QH 76 QFP:=by
 refine okL Tryz.func76 fun l T hT K hK=> ?_
 unfold QFP at hT;split at hT<;>cases hT
 obtain⟨hc,hK⟩:=hK;exact spL (QW QPd XC Q0) QO Tryz.func76 (QRB _ _ _ hc K hK)
def L83:LC:=(76,QFP)::L82
theorem QPe:QC L83:= .cons QNv QPd
theorem QNw (h:Bool)(t:Rat)(a:Nat)(g:Bool)(u:Rat)(b:Nat)(hc:(a+b<=400000000))(K:AV->Prop)(hK: ∀n,n<=2*a+2*b+400->K (.x true [.v (.bool (thH h t g u)),.r (thT h t g u) n])):QN (QU (mkT L83 M79 X4) (oF Tryz.f36) noL Tryz.f36 [.x true [.v (.bool h),.r t a],.x true [.v (.bool g),.r u b]] K):=by
 refine HV ((a<=1000000000/\∀(n:Nat),n<=a+64->b<=1000000000/\∀(n_1:Nat),n_1<=b+64->bif h then bif g then((-9223372036854775808:Int)<=0/\(0:Int)<9223372036854775808)/\64<=1000000000/\K (AV.x true [Ch.v (Za false),Ch.r (↑(0:Int)) 64])else bif h then n_1<=900000000/\∀(n:Nat),n<=n_1+64->K (AV.x true [Ch.v (Za (Vi (XD g u))),Ch.r (Kv (XD g u)) n])else bif g then n<=900000000/\∀(n_2:Nat),n_2<=n+64->K (AV.x true [Ch.v (Za (Vi (XD h t))),Ch.r (Kv (XD h t)) n_2])else n+n_1+1<=4294967296/\((-9223372036854775808:Int)<=1/\(1:Int)<9223372036854775808)/\n+n_1<=4294967296/\64+(n+n_1)+1<=4294967296/\n+n_1+1+(64+(n+n_1)+1)<=4294967296/\(↑(1:Int)-XD h t*XD g u≠OfNat.ofNat 0->n+n_1+1+(64+(n+n_1)+1)<=1000000000/\K (AV.x true [Ch.v (Za false),Ch.r ((XD h t+XD g u)/(↑(1:Int)-XD h t*XD g u)) (n+n_1+1+(64+(n+n_1)+1))]))/\(↑(1:Int)-XD h t*XD g u=OfNat.ofNat 0->True/\K (AV.x true [Ch.v (Za true),Ch.r (OfNat.ofNat 0) 64]))else bif h then n_1<=900000000/\∀(n:Nat),n<=n_1+64->K (AV.x true [Ch.v (Za (Vi (XD g u))),Ch.r (Kv (XD g u)) n])else bif g then n<=900000000/\∀(n_2:Nat),n_2<=n+64->K (AV.x true [Ch.v (Za (Vi (XD h t))),Ch.r (Kv (XD h t)) n_2])else n+n_1+1<=4294967296/\((-9223372036854775808:Int)<=1/\(1:Int)<9223372036854775808)/\n+n_1<=4294967296/\64+(n+n_1)+1<=4294967296/\n+n_1+1+(64+(n+n_1)+1)<=4294967296/\(↑(1:Int)-XD h t*XD g u≠OfNat.ofNat 0->n+n_1+1+(64+(n+n_1)+1)<=1000000000/\K (AV.x true [Ch.v (Za false),Ch.r ((XD h t+XD g u)/(↑(1:Int)-XD h t*XD g u)) (n+n_1+1+(64+(n+n_1)+1))]))/\(↑(1:Int)-XD h t*XD g u=OfNat.ofNat 0->True/\K (AV.x true [Ch.v (Za true),Ch.r (OfNat.ofNat 0) 64])))) ?_
 try simp only[R0]
 refine⟨by omega,fun n hn=>⟨by omega,fun m hm=> ?_⟩⟩;cases h with
 | true=>
  cases g with
  | true=>exact⟨by omega,by omega,hK 64 (by omega)⟩
  | false=>exact⟨by omega,fun k hk=>hK k (by omega)⟩
 | false=>
  cases g with
  | true=>exact⟨by omega,fun k hk=>hK k (by omega)⟩
  | false=>
   refine⟨by omega,by omega,by omega,by omega,by omega,fun h0=>⟨by omega,?_⟩,fun h0=> ?_⟩
   ·have e:decide (1-t*u=0)=false:=decide_eq_false h0;have:=hK (n+m+1+(64+(n+m)+1)) (by omega);simp only[thH,thT,Bool.and_self,R8,e]at this;exact this
   ·have e:decide (1-t*u=0)=true:=decide_eq_true h0;have:=hK 64 (by omega);simp only[thH,thT,Bool.and_self,R8,e,R7]at this;exact this
def QBr:Ctr
 | [.x true [.v (.bool h),.r t a],.x true [.v (.bool g),.r u b]]=>some fun K=>((a+b<=400000000))/\(∀n,n<=2*a+2*b+400->K (.x true [.v (.bool (thH h t g u)),.r (thT h t g u) n]))
 | _=>none
theorem QKY:QH 36 QBr:=by
 refine okL Tryz.func36 fun l T hT K hK=> ?_
 unfold QBr at hT;split at hT<;>cases hT
 obtain⟨hc,hK⟩:=hK;exact spL (QW QPe XC Q0) QO Tryz.func36 (QNw _ _ _ _ _ _ hc K hK)
def L84:LC:=(36,QBr)::L83
theorem QPf:QC L84:= .cons QKY QPe
theorem QRC (h:Bool)(t:Rat)(a:Nat)(hc:(a<=500000000))(K:AV->Prop)(hK: ∀n,n<=4*a+400->K (rA (Q7 h t) n)):QN (QU (mkT L84 M79 X4) (oF Tryz.f80) noL Tryz.f80 [.x true [.v (.bool h),.r t a]] K):=by
 refine HV ((a<=1000000000/\∀(n:Nat),n<=a+64->bif h then((-9223372036854775808:Int)<= -1/\(-1:Int)<9223372036854775808)/\K (AV.x true [Ch.r (↑(-1:Int)) 64])else n+n<=4294967296/\((-9223372036854775808:Int)<=1/\(1:Int)<9223372036854775808)/\64+(n+n)+1<=4294967296/\((-9223372036854775808:Int)<=1/\(1:Int)<9223372036854775808)/\64+(n+n)+1<=4294967296/\64+(n+n)+1+(64+(n+n)+1)<=4294967296/\(↑(1:Int)+XD h t*XD h t≠OfNat.ofNat 0->K (AV.x true [Ch.r ((↑(1:Int)-XD h t*XD h t)/(↑(1:Int)+XD h t*XD h t)) (64+(n+n)+1+(64+(n+n)+1))]))/\(↑(1:Int)+XD h t*XD h t=OfNat.ofNat 0->K (AV.x true [Ch.v (Za false),Ch.v (Ze (ByteArray.mk (Array.mk []))),Ch.v (Ze (ByteArray.mk (Array.mk [])))])))) ?_
 try simp only[Zb,R0,R1,Zc,Zd,R4,R2,R3]
 refine⟨by omega,fun n hn=> ?_⟩;cases h with
 | true=>exact⟨by omega,hK 64 (by omega)⟩
 | false=>exact⟨by omega,by omega,by omega,by omega,by omega,by omega,fun _=>hK _ (by omega),fun h0=>absurd h0 (sq1 t)⟩
def QFQ:Ctr
 | [.x true [.v (.bool h),.r t a]]=>some fun K=>((a<=500000000))/\(∀n,n<=4*a+400->K (rA (Q7 h t) n))
 | _=>none
theorem QNx:QH 80 QFQ:=by
 refine okL Tryz.func80 fun l T hT K hK=> ?_
 unfold QFQ at hT;split at hT<;>cases hT
 obtain⟨hc,hK⟩:=hK;exact spL (QW QPf XC Q0) QO Tryz.func80 (QRC _ _ _ hc K hK)
def L85:LC:=(80,QFQ)::L84
theorem QPg:QC L85:= .cons QNx QPf
theorem QRD (h:Bool)(t:Rat)(a:Nat)(hc:(a<=500000000))(K:AV->Prop)(hK: ∀n,n<=4*a+400->K (rA (XA h t) n)):QN (QU (mkT L85 M79 X4) (oF Tryz.f81) noL Tryz.f81 [.x true [.v (.bool h),.r t a]] K):=by
 refine HV ((a<=1000000000/\∀(n:Nat),n<=a+64->n+n+1<=4294967296/\((-9223372036854775808:Int)<=1/\(1:Int)<9223372036854775808)/\n+n<=4294967296/\64+(n+n)+1<=4294967296/\n+n+1+(64+(n+n)+1)<=4294967296/\(↑(1:Int)+XD h t*XD h t≠OfNat.ofNat 0->K (AV.x true [Ch.r ((XD h t+XD h t)/(↑(1:Int)+XD h t*XD h t)) (n+n+1+(64+(n+n)+1))]))/\(↑(1:Int)+XD h t*XD h t=OfNat.ofNat 0->K (AV.x true [Ch.v (Za false),Ch.v (Ze (ByteArray.mk (Array.mk []))),Ch.v (Ze (ByteArray.mk (Array.mk [])))])))) ?_
 try simp only[Zb,R0,R1,Zc,Zd,R4,R2,R3]
 refine⟨by omega,fun n hn=>⟨by omega,by omega,by omega,by omega,by omega,fun h0=> ?_,fun h0=>absurd h0 (sq1 _)⟩⟩;have e:(XD h t+XD h t)/(((1:Int):Rat)+XD h t*XD h t)=XA h t:=by
  cases h with
  | true=>show((0:Rat)+0)/_=0;rw[Rat.add_zero,Rat.div_def,Rat.zero_mul]
  | false=>rfl
 rw[e];exact hK _ (by omega)
def QFR:Ctr
 | [.x true [.v (.bool h),.r t a]]=>some fun K=>((a<=500000000))/\(∀n,n<=4*a+400->K (rA (XA h t) n))
 | _=>none
theorem QNy:QH 81 QFR:=by
 refine okL Tryz.func81 fun l T hT K hK=> ?_
 unfold QFR at hT;split at hT<;>cases hT
 obtain⟨hc,hK⟩:=hK;exact spL (QW QPg XC Q0) QO Tryz.func81 (QRD _ _ _ hc K hK)
def L86:LC:=(81,QFR)::L85
theorem QPh:QC L86:= .cons QNy QPg
theorem QRE (px:Rat)(a:Nat)(py:Rat)(b:Nat)(qx:Rat)(c:Nat)(qy:Rat)(d:Nat)(hc:(a+c<=4294967290)/\(b+d<=4294967290))(K:AV->Prop)(hK:K (.x true [.r (px+qx) (a+c+1),.r (py+qy) (b+d+1)])):QN (QU (mkT L86 M79 X4) (oF Tryz.f37) noL Tryz.f37 [.x true [.r px a,.r py b],.x true [.r qx c,.r qy d]] K):=by
 refine HV ((a+c+1<=4294967296/\b+d+1<=4294967296/\K (AV.x true [Ch.r (px+qx) (a+c+1),Ch.r (py+qy) (b+d+1)]))) ?_
 try simp only[Zb,R0,R1,Zc,Zd,R4,R2,R3]
 exact⟨by omega,by omega,hK⟩
def QBs:Ctr
 | [.x true [.r px a,.r py b],.x true [.r qx c,.r qy d]]=>some fun K=>((a+c<=4294967290)/\(b+d<=4294967290))/\(K (.x true [.r (px+qx) (a+c+1),.r (py+qy) (b+d+1)]))
 | _=>none
theorem QGV:QH 37 QBs:=by
 refine okL Tryz.func37 fun l T hT K hK=> ?_
 unfold QBs at hT;split at hT<;>cases hT
 obtain⟨hc,hK⟩:=hK;exact spL (QW QPh XC Q0) QO Tryz.func37 (QRE _ _ _ _ _ _ _ _ hc K hK)
def L87:LC:=(37,QBs)::L86
theorem QTr:QC L87:= .cons QGV QPh
def L88:LC:=L87
theorem QTs:QC L88:=QTr
def L89:LC:=L88
theorem QPi:QC L89:=QTs
abbrev QGW (px:Rat)(a:Nat)(py:Rat)(b:Nat)(h:Bool)(t:Rat)(c:Nat)(K:AV->Prop):Prop:=((a+b+c<=400000000))/\(∀n m,n<=a+b+8*c+1000->m<=a+b+8*c+1000->K (.x true [.r (px*Q7 h t-py*XA h t) n,.r (px*XA h t+py*Q7 h t) m]))
theorem QNz (px:Rat)(a:Nat)(py:Rat)(b:Nat)(h:Bool)(t:Rat)(c:Nat)(K:AV->Prop)(hK:QGW px a py b h t c K):QN (QU (mkT L89 M79 X4) (oF Tryz.f38) noL Tryz.f38 [.x true [.r px a,.r py b],.x true [.v (.bool h),.r t c]] K):=by
 obtain⟨hc,hK⟩:=hK;refine HV ((c<=500000000/\∀(n:Nat),n<=4*c+400->c<=500000000/\∀(n_1:Nat),n_1<=4*c+400->a+n<=4294967296/\b+n_1<=4294967296/\a+n+(b+n_1)+1<=4294967296/\a+n_1<=4294967296/\b+n<=4294967296/\a+n_1+(b+n)+1<=4294967296/\K (AV.x true [Ch.r (px*Q7 h t-py*XA h t) (a+n+(b+n_1)+1),Ch.r (px*XA h t+py*Q7 h t) (a+n_1+(b+n)+1)]))) ?_
 try simp only[Zb,R0,R1,Zc,Zd,R4,R2,R3]
 exact⟨by omega,fun n hn=>⟨by omega,fun m hm=>⟨by omega,by omega,by omega,by omega,by omega,by omega,hK _ _ (by omega) (by omega)⟩⟩⟩
def QBt:Ctr
 | [.x true [.r px a,.r py b],.x true [.v (.bool h),.r t c]]=>some fun K=>QGW px a py b h t c K
 | _=>none
theorem QKZ:QH 38 QBt:=by
 refine okL Tryz.func38 fun l T hT K hK=> ?_
 unfold QBt at hT;split at hT<;>cases hT
 exact spL (QW QPi XC Q0) QO Tryz.func38 (QNz _ _ _ _ _ _ _ K hK)
def L90:LC:=(38,QBt)::L89
theorem QPj:QC L90:= .cons QKZ QPi
abbrev QKa (x:Rat)(i:Nat)(y:Rat)(j:Nat)(h:Bool)(t:Rat)(k:Nat)(px:Rat)(a:Nat)(py:Rat)(b:Nat)(K:AV->Prop):Prop:=((i+j+k+a+b<=400000000))/\(∀n m,n<=i+a+b+8*k+1100->m<=j+a+b+8*k+1100->K (.x true [.r (YE ⟨x,y,h,t⟩ px py) n,.r (YF ⟨x,y,h,t⟩ px py) m]))
theorem QRF (x:Rat)(i:Nat)(y:Rat)(j:Nat)(h:Bool)(t:Rat)(k:Nat)(px:Rat)(a:Nat)(py:Rat)(b:Nat)(K:AV->Prop)(hK:QKa x i y j h t k px a py b K):QN (QU (mkT L90 M79 X4) (oF Tryz.f13) noL Tryz.f13 [.x true [.r x i,.r y j,.v (.bool h),.r t k],.x true [.r px a,.r py b]] K):=by
 obtain⟨hc,hK⟩:=hK;refine HV ((a+b+k<=400000000/\∀(n m:Nat),n<=a+b+8*k+1000->m<=a+b+8*k+1000->(i+n<=4294967290/\j+m<=4294967290)/\K (AV.x true [Ch.r (x+(px*Q7 h t-py*XA h t)) (i+n+1),Ch.r (y+(px*XA h t+py*Q7 h t)) (j+m+1)]))) ?_
 try simp only[Zb,R0,R1,Zc,Zd,R4,R2,R3]
 exact⟨by omega,fun n m hn hm=>⟨by omega,hK _ _ (by omega) (by omega)⟩⟩
def QFS:Ctr
 | [.x true [.r x i,.r y j,.v (.bool h),.r t k],.x true [.r px a,.r py b]]=>some fun K=>QKa x i y j h t k px a py b K
 | _=>none
theorem QN0:QH 13 QFS:=by
 refine okL Tryz.func13 fun l T hT K hK=> ?_
 unfold QFS at hT;split at hT<;>cases hT
 exact spL (QW QPj XC Q0) QO Tryz.func13 (QRF _ _ _ _ _ _ _ _ _ _ _ K hK)
def L91:LC:=(13,QFS)::L90
theorem QPk:QC L91:= .cons QN0 QPj
abbrev QGX (x:Rat)(i:Nat)(y:Rat)(j:Nat)(h:Bool)(t:Rat)(k:Nat)(px:Rat)(a:Nat)(py:Rat)(b:Nat)(g:Bool)(u:Rat)(l:Nat)(K:AV->Prop):Prop:=((i+j+k+a+b+l<=400000000))/\(∀f n m o,f=Qw ⟨x,y,h,t⟩ ⟨px,py,g,u⟩->n<=i+a+b+8*k+1100->m<=j+a+b+8*k+1100->o<=2*k+2*l+400->K (.x true [.r f.x n,.r f.y m,.v (.bool f.h),.r f.t o]))
theorem QN1 (x:Rat)(i:Nat)(y:Rat)(j:Nat)(h:Bool)(t:Rat)(k:Nat)(px:Rat)(a:Nat)(py:Rat)(b:Nat)(g:Bool)(u:Rat)(l:Nat)(K:AV->Prop)(hK:QGX x i y j h t k px a py b g u l K):QN (QU (mkT L91 M79 X4) (oF Tryz.f12) noL Tryz.f12 [.x true [.r x i,.r y j,.v (.bool h),.r t k],.x true [.r px a,.r py b,.v (.bool g),.r u l]] K):=by
 obtain⟨hc,hK⟩:=hK;refine HV ((i+j+k+a+b<=400000000/\∀(n m:Nat),n<=i+a+b+8*k+1100->m<=j+a+b+8*k+1100->k+l<=400000000/\∀(n_1:Nat),n_1<=2*k+2*l+400->K (AV.x true [Ch.r (YE (FrV.mk x y h t) px py) n,Ch.r (YF (FrV.mk x y h t) px py) m,Ch.v (Za (thH h t g u)),Ch.r (thT h t g u) n_1]))) ?_
 try simp only[Zb,R0,R1,Zc,Zd,R4,R2,R3]
 exact⟨by omega,fun n m hn hm=>⟨by omega,fun o ho=>hK _ _ _ _ rfl (by omega) (by omega) (by omega)⟩⟩
def QBu:Ctr
 | [.x true [.r x i,.r y j,.v (.bool h),.r t k],.x true [.r px a,.r py b,.v (.bool g),.r u l]]=>some fun K=>QGX x i y j h t k px a py b g u l K
 | _=>none
theorem QKb:QH 12 QBu:=by
 refine okL Tryz.func12 fun l T hT K hK=> ?_
 unfold QBu at hT;split at hT<;>cases hT
 exact spL (QW QPk XC Q0) QO Tryz.func12 (QN1 _ _ _ _ _ _ _ _ _ _ _ _ _ _ K hK)
def L92:LC:=(12,QBu)::L91
noncomputable def T92:QY:=mkT L92 M79 X4
theorem QPl:QC L92:= .cons QKb QPk
end Go.Proofs
namespace Go.Proofs
open Go Go.Eng
def bnd:Nat->Nat
 | 0=>63
 | i+1=>81*bnd i+12279
def frN (n:Nat)(f:FrV):List Ch:=[.r f.x n,.r f.y n,.v (.bool f.h),.r f.t n]
theorem QKc {xs:List (List Ch)}{a b:List Ch}(hx:QE xs xs)(h:MC (fun _=>none) a b/\Qd b=[]):QE (xs++[a]) (xs++[b]):=by
 refine⟨by simp,fun i x y hx' hy'=> ?_⟩;by_cases hi:i<xs.length
 ·rw[List.getElem?_append_left hi]at hx' hy';exact hx.2 i x y hx' hy'
 ·rw[List.getElem?_append_right (by omega)]at hx' hy';have:i-xs.length=0:=by
   have:=(List.getElem?_eq_some_iff.1 hx').1;simp at this;omega
  rw[this]at hx' hy';cases hx';cases hy';exact h
theorem QPm {n m o N:Nat}{f:FrV}(h1:n<=N)(h2:m<=N)(h3:o<=N):MC (fun _=>none) [.r f.x n,.r f.y m,.v (.bool f.h),.r f.t o] (frN N f)/\Qd (frN N f)=[]:=⟨.r h1 (.r h2 (.v (.r h3 .nil))),rfl⟩
def L93:LC:=L92
theorem QTt:QC L93:=QPl
def L94:LC:=L93
noncomputable def T94:QY:=mkT L94 M79 X4
theorem QTu:QC L94:=QTt
end Go.Proofs
