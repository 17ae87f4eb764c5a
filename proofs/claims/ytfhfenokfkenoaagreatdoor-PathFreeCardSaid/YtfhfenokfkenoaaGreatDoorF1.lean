/- Turns, vectors, frames. -/
import Derived.Test.YtfhfenokfkenoaaGreatDoorAJ
open Int renaming ofNat_eq_natCast → Za
open Nat renaming zero_add → Zb, le_refl → Zc
namespace Go.Proofs
open Go Go.Eng
def Jl (h:Bool)(t:Rat):Rat:=bif h then 0 else t
def QMH (t:Rat):Bool:=decide (t=0)
def QIm (t:Rat):Rat:=bif QMH t then 0 else((-1:Int):Rat)/t
def thH (h1:Bool)(t1:Rat)(h2:Bool)(t2:Rat):Bool:=bif h1&&h2 then false else bif h1 then QMH (Jl h2 t2)else bif h2 then QMH (Jl h1 t1)else decide (1-t1*t2=0)
def thT (h1:Bool)(t1:Rat)(h2:Bool)(t2:Rat):Rat:=bif h1&&h2 then 0 else bif h1 then QIm (Jl h2 t2)else bif h2 then QIm (Jl h1 t1)else bif decide (1-t1*t2=0)then 0 else(t1+t2)/(1-t1*t2)
def Xw (h:Bool)(t:Rat):Rat:=bif h then-1 else(1-t*t)/(1+t*t)
def Q4 (h:Bool)(t:Rat):Rat:=bif h then 0 else(t+t)/(1+t*t)
structure FrV where
  x:Rat
  y:Rat
  h:Bool
  t:Rat
def Gj (f:FrV)(x y:Rat):Rat:=f.x+(x*Xw f.h f.t-y*Q4 f.h f.t)
def Gk (f:FrV)(x y:Rat):Rat:=f.y+(x*Q4 f.h f.t+y*Xw f.h f.t)
def Jt (f g:FrV):FrV:=⟨Gj f g.x g.y,Gk f g.x g.y,thH f.h f.t g.h g.t,thT f.h f.t g.h g.t⟩
theorem KP (p:Rat):XA p p=p:=by unfold XA;split<;>rfl
theorem UC (t:Rat):0<=t*t:=by
 rcases @Rat.le_total 0 t with h | h
 ·exact Rat.mul_nonneg h h
 ·have:=Rat.mul_nonneg (show 0<= -t by grind) (show 0<= -t by grind);grind
theorem sq1 (t:Rat):1+t*t≠0:=by have:=UC t;grind
def L79:LC:=L52
def M79:List (Nat×XJ):=M48
theorem QV5:QG L79:=QPD
theorem Q8:XB M79:=GX
theorem QaQ (t:Rat)(a:Nat)(hc:(a<=1000000000))(K:AV->Prop)(hK:K (.x true [.v (.bool false),.r t a])):QM (QR (mkT L79 M79 X4) (oF Tryz.f141) noL Tryz.f141 [rA t a] K):=by
 refine HV ((a+a<=4294967296/\K (AV.x true [Ch.v (Value.bool false),Ch.r (XA t t) (max a a)]))) ?_
 try simp only[Za,R0,R1,Zb,Zc,R4,R2,R3]
 rw[KP,Nat.max_self];exact⟨by omega,hK⟩
def QPG:Ctr
 | [.x true [.r t a]]=>some fun K=>((a<=1000000000))/\(K (.x true [.v (.bool false),.r t a]))
 | _=>none
theorem QXX:QI 141 QPG:=by
 refine okL Tryz.func141 fun l T hT K hK=> ?_
 unfold QPG at hT;split at hT<;>cases hT
 obtain⟨hc,hK⟩:=hK;exact spL (QW QV5 Q8 Qg) QK Tryz.func141 (QaQ _ _ hc K hK)
def L80:LC:=(141,QPG)::L79
theorem QV6:QG L80:= .cons QXX QV5
theorem QTz (_hc:True)(K:AV->Prop)(hK:K (.x true [.v (.bool true),.r 0 64])):QM (QR (mkT L80 M79 X4) (oF Tryz.f195) noL Tryz.f195 [] K):=by
 refine HV ((((-9223372036854775808:Int)<=0/\(0:Int)<9223372036854775808)/\K (AV.x true [Ch.v (Value.bool true),Ch.r (↑(0:Int)) 64]))) ?_
 try simp only[Za,R0,R1,Zb,Zc,R4,R2,R3]
 exact⟨by omega,hK⟩
def QEK:Ctr
 | []=>some fun K=>(True)/\(K (.x true [.v (.bool true),.r 0 64]))
 | _=>none
theorem QPH:QI 195 QEK:=by
 refine okL Tryz.func195 fun l T hT K hK=> ?_
 unfold QEK at hT;split at hT<;>cases hT
 obtain⟨hc,hK⟩:=hK;exact spL (QW QV6 Q8 Qg) QK Tryz.func195 (QTz  hc K hK)
def L81:LC:=(195,QEK)::L80
theorem QV7:QG L81:= .cons QPH QV6
theorem QXY (h:Bool)(t:Rat)(a:Nat)(hc:(a<=1000000000))(K:AV->Prop)(hK: ∀n,n<=a+64->K (.x true [.v (.bool h),.r (Jl h t) n])):QM (QR (mkT L81 M79 X4) (oF Tryz.f190) noL Tryz.f190 [.x true [.v (.bool h),.r t a]] K):=by
 refine HV ((bif h then True/\K (AV.x true [Ch.v (Value.bool true),Ch.r (OfNat.ofNat 0) 64])else a<=1000000000/\K (AV.x true [Ch.v (Value.bool false),Ch.r t a]))) ?_
 try simp only[R0]
 cases h with
 | true=>exact hK 64 (by omega)
 | false=>exact⟨hc,hK a (by omega)⟩
def QIn:Ctr
 | [.x true [.v (.bool h),.r t a]]=>some fun K=>((a<=1000000000))/\(∀n,n<=a+64->K (.x true [.v (.bool h),.r (Jl h t) n]))
 | _=>none
theorem QT0:QI 190 QIn:=by
 refine okL Tryz.func190 fun l T hT K hK=> ?_
 unfold QIn at hT;split at hT<;>cases hT
 obtain⟨hc,hK⟩:=hK;exact spL (QW QV7 Q8 Qg) QK Tryz.func190 (QXY _ _ _ hc K hK)
def L82:LC:=(190,QIn)::L81
theorem QaR:QG L82:= .cons QT0 QV7
def L83:LC:=L82
theorem QaS:QG L83:=QaR
def L84:LC:=L83
theorem QV8:QG L84:=QaS
theorem QXZ (h:Bool)(t:Rat)(a:Nat)(hc:(a<=500000000))(K:AV->Prop)(hK: ∀n,n<=4*a+400->K (rA (Xw h t) n)):QM (QR (mkT L84 M79 X4) (oF Tryz.f149) noL Tryz.f149 [.x true [.v (.bool h),.r t a]] K):=by
 refine HV ((a<=1000000000/\∀(n:Nat),n<=a+64->bif h then((-9223372036854775808:Int)<= -1/\(-1:Int)<9223372036854775808)/\K (AV.x true [Ch.r (↑(-1:Int)) 64])else n+n<=4294967296/\((-9223372036854775808:Int)<=1/\(1:Int)<9223372036854775808)/\64+(n+n)+1<=4294967296/\((-9223372036854775808:Int)<=1/\(1:Int)<9223372036854775808)/\64+(n+n)+1<=4294967296/\64+(n+n)+1+(64+(n+n)+1)<=4294967296/\(↑(1:Int)+Jl h t*Jl h t≠OfNat.ofNat 0->K (AV.x true [Ch.r ((↑(1:Int)-Jl h t*Jl h t)/(↑(1:Int)+Jl h t*Jl h t)) (64+(n+n)+1+(64+(n+n)+1))]))/\(↑(1:Int)+Jl h t*Jl h t=OfNat.ofNat 0->K (AV.x true [Ch.v (Value.bool false),Ch.v (Value.string (ByteArray.mk (Array.mk []))),Ch.v (Value.string (ByteArray.mk (Array.mk [])))])))) ?_
 try simp only[Za,R0,R1,Zb,Zc,R4,R2,R3]
 refine⟨by omega,fun n hn=> ?_⟩;cases h with
 | true=>exact⟨by omega,hK 64 (by omega)⟩
 | false=>exact⟨by omega,by omega,by omega,by omega,by omega,by omega,fun _=>hK _ (by omega),fun h0=>absurd h0 (sq1 t)⟩
def QIo:Ctr
 | [.x true [.v (.bool h),.r t a]]=>some fun K=>((a<=500000000))/\(∀n,n<=4*a+400->K (rA (Xw h t) n))
 | _=>none
theorem QT1:QI 149 QIo:=by
 refine okL Tryz.func149 fun l T hT K hK=> ?_
 unfold QIo at hT;split at hT<;>cases hT
 obtain⟨hc,hK⟩:=hK;exact spL (QW QV8 Q8 Qg) QK Tryz.func149 (QXZ _ _ _ hc K hK)
def L85:LC:=(149,QIo)::L84
theorem QV9:QG L85:= .cons QT1 QV8
theorem QXa (h:Bool)(t:Rat)(a:Nat)(hc:(a<=500000000))(K:AV->Prop)(hK: ∀n,n<=4*a+400->K (rA (Q4 h t) n)):QM (QR (mkT L85 M79 X4) (oF Tryz.f150) noL Tryz.f150 [.x true [.v (.bool h),.r t a]] K):=by
 refine HV ((a<=1000000000/\∀(n:Nat),n<=a+64->n+n+1<=4294967296/\((-9223372036854775808:Int)<=1/\(1:Int)<9223372036854775808)/\n+n<=4294967296/\64+(n+n)+1<=4294967296/\n+n+1+(64+(n+n)+1)<=4294967296/\(↑(1:Int)+Jl h t*Jl h t≠OfNat.ofNat 0->K (AV.x true [Ch.r ((Jl h t+Jl h t)/(↑(1:Int)+Jl h t*Jl h t)) (n+n+1+(64+(n+n)+1))]))/\(↑(1:Int)+Jl h t*Jl h t=OfNat.ofNat 0->K (AV.x true [Ch.v (Value.bool false),Ch.v (Value.string (ByteArray.mk (Array.mk []))),Ch.v (Value.string (ByteArray.mk (Array.mk [])))])))) ?_
 try simp only[Za,R0,R1,Zb,Zc,R4,R2,R3]
 refine⟨by omega,fun n hn=>⟨by omega,by omega,by omega,by omega,by omega,fun h0=> ?_,fun h0=>absurd h0 (sq1 _)⟩⟩;have e:(Jl h t+Jl h t)/(((1:Int):Rat)+Jl h t*Jl h t)=Q4 h t:=by
  cases h with
  | true=>show((0:Rat)+0)/_=0;rw[Rat.add_zero,Rat.div_def,Rat.zero_mul]
  | false=>rfl
 rw[e];exact hK _ (by omega)
def QIp:Ctr
 | [.x true [.v (.bool h),.r t a]]=>some fun K=>((a<=500000000))/\(∀n,n<=4*a+400->K (rA (Q4 h t) n))
 | _=>none
theorem QT2:QI 150 QIp:=by
 refine okL Tryz.func150 fun l T hT K hK=> ?_
 unfold QIp at hT;split at hT<;>cases hT
 obtain⟨hc,hK⟩:=hK;exact spL (QW QV9 Q8 Qg) QK Tryz.func150 (QXa _ _ _ hc K hK)
def L86:LC:=(150,QIp)::L85
theorem QWA:QG L86:= .cons QT2 QV9
theorem QXb (px:Rat)(a:Nat)(py:Rat)(b:Nat)(qx:Rat)(c:Nat)(qy:Rat)(d:Nat)(hc:(a+c<=4294967290)/\(b+d<=4294967290))(K:AV->Prop)(hK:K (.x true [.r (px+qx) (a+c+1),.r (py+qy) (b+d+1)])):QM (QR (mkT L86 M79 X4) (oF Tryz.f108) noL Tryz.f108 [.x true [.r px a,.r py b],.x true [.r qx c,.r qy d]] K):=by
 refine HV ((a+c+1<=4294967296/\b+d+1<=4294967296/\K (AV.x true [Ch.r (px+qx) (a+c+1),Ch.r (py+qy) (b+d+1)]))) ?_
 try simp only[Za,R0,R1,Zb,Zc,R4,R2,R3]
 exact⟨by omega,by omega,hK⟩
def QEL:Ctr
 | [.x true [.r px a,.r py b],.x true [.r qx c,.r qy d]]=>some fun K=>((a+c<=4294967290)/\(b+d<=4294967290))/\(K (.x true [.r (px+qx) (a+c+1),.r (py+qy) (b+d+1)]))
 | _=>none
theorem QKK:QI 108 QEL:=by
 refine okL Tryz.func108 fun l T hT K hK=> ?_
 unfold QEL at hT;split at hT<;>cases hT
 obtain⟨hc,hK⟩:=hK;exact spL (QW QWA Q8 Qg) QK Tryz.func108 (QXb _ _ _ _ _ _ _ _ hc K hK)
def L87:LC:=(108,QEL)::L86
theorem QWB:QG L87:= .cons QKK QWA
theorem QXc (px:Rat)(a:Nat)(py:Rat)(b:Nat)(qx:Rat)(c:Nat)(qy:Rat)(d:Nat)(hc:(a+b+c+d<=4294967290))(K:AV->Prop)(hK:K (rA (px*qx+py*qy) (a+c+(b+d)+1))):QM (QR (mkT L87 M79 X4) (oF Tryz.f222) noL Tryz.f222 [.x true [.r px a,.r py b],.x true [.r qx c,.r qy d]] K):=by
 refine HV ((a+c<=4294967296/\b+d<=4294967296/\a+c+(b+d)+1<=4294967296/\K (AV.x true [Ch.r (px*qx+py*qy) (a+c+(b+d)+1)]))) ?_
 try simp only[Za,R0,R1,Zb,Zc,R4,R2,R3]
 exact⟨by omega,by omega,by omega,hK⟩
def QIq:Ctr
 | [.x true [.r px a,.r py b],.x true [.r qx c,.r qy d]]=>some fun K=>((a+b+c+d<=4294967290))/\(K (rA (px*qx+py*qy) (a+c+(b+d)+1)))
 | _=>none
theorem QT3:QI 222 QIq:=by
 refine okL Tryz.func222 fun l T hT K hK=> ?_
 unfold QIq at hT;split at hT<;>cases hT
 obtain⟨hc,hK⟩:=hK;exact spL (QW QWB Q8 Qg) QK Tryz.func222 (QXc _ _ _ _ _ _ _ _ hc K hK)
def L88:LC:=(222,QIq)::L87
theorem QaT:QG L88:= .cons QT3 QWB
def L89:LC:=L88
theorem QaU:QG L89:=QaT
def L90:LC:=L89
theorem QaV:QG L90:=QaU
def L91:LC:=L90
theorem QaW:QG L91:=QaV
def L92:LC:=L91
noncomputable def T92:QZ:=mkT L92 M79 X4
theorem QaX:QG L92:=QaW
end Go.Proofs
namespace Go.Proofs
open Go Go.Eng
def WO:FrV->List Qf->List Rat->List FrV
 | b,L::ls,q::qs=>Jt b ⟨0,0,false,q⟩::WO (Jt (Jt b ⟨0,0,false,q⟩) ⟨L.len,0,false,0⟩) ls qs
 | b,_,_=>[b]
def Wx (a:ArmV):FrV:=⟨a.x,a.y,a.half,a.t⟩
def bnd:Nat->Nat
 | 0=>63
 | i+1=>81*bnd i+12279
theorem QPI {xs:List (List Ch)}{a b:List Ch}(hx:QC xs xs)(h:MC (fun _=>none) a b/\Qj b=[]):QC (xs++[a]) (xs++[b]):=by
 refine⟨by simp,fun i x y hx' hy'=> ?_⟩;by_cases hi:i<xs.length
 ·rw[List.getElem?_append_left hi]at hx' hy';exact hx.2 i x y hx' hy'
 ·rw[List.getElem?_append_right (by omega)]at hx' hy';have:i-xs.length=0:=by
   have:=(List.getElem?_eq_some_iff.1 hx').1;simp at this;omega
  rw[this]at hx' hy';cases hx';cases hy';exact h
def L93:LC:=L92
theorem QaY:QG L93:=QaX
def L94:LC:=L93
noncomputable def T94:QZ:=mkT L94 M79 X4
theorem QaZ:QG L94:=QaY
end Go.Proofs
