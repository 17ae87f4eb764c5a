/- Turns, vectors, frames. -/
import Derived.Test.YtnbkdgmgbaangaaGreatDoorAJ
open Int renaming ofNat_eq_natCast → Za
open Nat renaming zero_add → Zb, le_refl → Zc
namespace Go.Proofs
open Go Go.Eng
def JY (h:Bool)(t:Rat):Rat:=bif h then 0 else t
def QPg (t:Rat):Bool:=decide (t=0)
def QL4 (t:Rat):Rat:=bif QPg t then 0 else((-1:Int):Rat)/t
def thH (h1:Bool)(t1:Rat)(h2:Bool)(t2:Rat):Bool:=bif h1&&h2 then false else bif h1 then QPg (JY h2 t2)else bif h2 then QPg (JY h1 t1)else decide (1-t1*t2=0)
def thT (h1:Bool)(t1:Rat)(h2:Bool)(t2:Rat):Rat:=bif h1&&h2 then 0 else bif h1 then QL4 (JY h2 t2)else bif h2 then QL4 (JY h1 t1)else bif decide (1-t1*t2=0)then 0 else(t1+t2)/(1-t1*t2)
def Xq (h:Bool)(t:Rat):Rat:=bif h then-1 else(1-t*t)/(1+t*t)
def Q3 (h:Bool)(t:Rat):Rat:=bif h then 0 else(t+t)/(1+t*t)
structure FrV where
  x:Rat
  y:Rat
  h:Bool
  t:Rat
def QAG (f:FrV)(x y:Rat):Rat:=f.x+(x*Xq f.h f.t-y*Q3 f.h f.t)
def QAH (f:FrV)(x y:Rat):Rat:=f.y+(x*Q3 f.h f.t+y*Xq f.h f.t)
def Jg (f g:FrV):FrV:=⟨QAG f g.x g.y,QAH f g.x g.y,thH f.h f.t g.h g.t,thT f.h f.t g.h g.t⟩
theorem W7 (p:Rat):XC p p=p:=by unfold XC;split<;>rfl
theorem Vq (t:Rat):0<=t*t:=by
 rcases @Rat.le_total 0 t with h | h
 ·exact Rat.mul_nonneg h h
 ·have:=Rat.mul_nonneg (show 0<= -t by grind) (show 0<= -t by grind);grind
theorem sq1 (t:Rat):1+t*t≠0:=by have:=Vq t;grind
def L79:List (Nat×Ctr):=L52
def M79:List (Nat×XL):=M48
noncomputable def T79:QU:=mkT L79 M79 X4
theorem QaX:CtrsOK Tryz.prog QH QG L79:=QSx
theorem Q6:CtrMsOK Tryz.prog QH QG M79:=Gg
theorem Qf8:QM Tryz.prog QH QG T79:=Qc QaX Q6 Qk
def QcL:OT:=fun _=>([],[])
def QJZ (t:Rat)(a:Nat)(K:AV->Prop):Prop:=QX T79 QcL noL Tryz.f145 [rA t a] K
theorem QJa (t:Rat)(a:Nat)(K:AV->Prop):QJZ t a K=(a+a<=4294967296/\K (AV.x true [Ch.v (Value.bool false),Ch.r (XC t t) (max a a)])):=by kernel_rfl
theorem Qf9 (t:Rat)(a:Nat)(hc:(a<=1000000000))(K:AV->Prop)(hK:K (.x true [.v (.bool false),.r t a])):QR (QJZ t a K):=by
 refine⟨?_⟩;rw[QJa];try simp only[Za,R0,R1,Zb,Zc,R4,R2,R3]
 rw[W7,Nat.max_self];exact⟨by omega,hK⟩
def QS0:Ctr:=fun as0=>match as0 with
 | [.x true [.r t a]]=>some fun K=>((a<=1000000000))/\(K (.x true [.v (.bool false),.r t a]))
 | _=>none
theorem QcM:CtrOK Tryz.prog QH QG 145 QS0:=by
 refine⟨QK Tryz.func145 (by kernel_rfl),fun l T hT K hK=> ?_⟩;unfold QS0 at hT;split at hT
 ·cases hT
  obtain⟨hc,hK⟩:=hK;exact QJ Qf8 QP Tryz.func145 (by kernel_rfl) (by kernel_rfl) (by rfl) (Qf9 _ _ hc K hK)
 ·cases hT
def L80:List (Nat×Ctr):=(145,QS0)::L79
noncomputable def T80:QU:=mkT L80 M79 X4
theorem QaY:CtrsOK Tryz.prog QH QG L80:= .cons QcM QaX
theorem QgA:QM Tryz.prog QH QG T80:=Qc QaY Q6 Qk
def QS1:OT:=fun _=>([],[])
def QCP  (K:AV->Prop):Prop:=QX T80 QS1 noL Tryz.f199 [] K
theorem QDy (K:AV->Prop):QCP K=(((-9223372036854775808:Int)<=0/\(0:Int)<9223372036854775808)/\K (AV.x true [Ch.v (Value.bool true),Ch.r (↑(0:Int)) 64])):=by kernel_rfl
theorem QXv  (_hc:True)(K:AV->Prop)(hK:K (.x true [.v (.bool true),.r 0 64])):QR (QCP  K):=by
 refine⟨?_⟩;rw[QDy];try simp only[Za,R0,R1,Zb,Zc,R4,R2,R3]
 exact⟨by omega,hK⟩
def QGz:Ctr:=fun as0=>match as0 with
 | []=>some fun K=>(True)/\(K (.x true [.v (.bool true),.r 0 64]))
 | _=>none
theorem QS2:CtrOK Tryz.prog QH QG 199 QGz:=by
 refine⟨QK Tryz.func199 (by kernel_rfl),fun l T hT K hK=> ?_⟩;unfold QGz at hT;split at hT
 ·cases hT
  obtain⟨hc,hK⟩:=hK;exact QJ QgA QP Tryz.func199 (by kernel_rfl) (by kernel_rfl) (by rfl) (QXv  hc K hK)
 ·cases hT
def L81:List (Nat×Ctr):=(199,QGz)::L80
noncomputable def T81:QU:=mkT L81 M79 X4
theorem QaZ:CtrsOK Tryz.prog QH QG L81:= .cons QS2 QaY
theorem QgB:QM Tryz.prog QH QG T81:=Qc QaZ Q6 Qk
def QXw:OT:=fun _=>([],[])
def QE6 (h:Bool)(t:Rat)(a:Nat)(K:AV->Prop):Prop:=QX T81 QXw noL Tryz.f194 [.x true [.v (.bool h),.r t a]] K
theorem QG0 (h:Bool)(t:Rat)(a:Nat)(K:AV->Prop):QE6 h t a K=(bif h then True/\K (AV.x true [Ch.v (Value.bool true),Ch.r (OfNat.ofNat 0) 64])else a<=1000000000/\K (AV.x true [Ch.v (Value.bool false),Ch.r t a])):=by kernel_rfl
theorem QcN (h:Bool)(t:Rat)(a:Nat)(hc:(a<=1000000000))(K:AV->Prop)(hK: ∀n,n<=a+64->K (.x true [.v (.bool h),.r (JY h t) n])):QR (QE6 h t a K):=by
 refine⟨?_⟩;rw[QG0];try simp only[R0]
 cases h with
 | true=>exact hK 64 (by omega)
 | false=>exact⟨hc,hK a (by omega)⟩
def QL5:Ctr:=fun as0=>match as0 with
 | [.x true [.v (.bool h),.r t a]]=>some fun K=>((a<=1000000000))/\(∀n,n<=a+64->K (.x true [.v (.bool h),.r (JY h t) n]))
 | _=>none
theorem QXx:CtrOK Tryz.prog QH QG 194 QL5:=by
 refine⟨QK Tryz.func194 (by kernel_rfl),fun l T hT K hK=> ?_⟩;unfold QL5 at hT;split at hT
 ·cases hT
  obtain⟨hc,hK⟩:=hK;exact QJ QgB QP Tryz.func194 (by kernel_rfl) (by kernel_rfl) (by rfl) (QcN _ _ _ hc K hK)
 ·cases hT
def L82:List (Nat×Ctr):=(194,QL5)::L81
theorem QgC:CtrsOK Tryz.prog QH QG L82:= .cons QXx QaZ
def L83:List (Nat×Ctr):=L82
theorem QgD:CtrsOK Tryz.prog QH QG L83:=QgC
def L84:List (Nat×Ctr):=L83
noncomputable def T84:QU:=mkT L84 M79 X4
theorem Qaa:CtrsOK Tryz.prog QH QG L84:=QgD
theorem QgE:QM Tryz.prog QH QG T84:=Qc Qaa Q6 Qk
def QXy:OT:=fun id=>bif id.beq 5 then([1,4,10,0,2,3,5,6,7,8,9,11,12],[[],[],[0,1],[2,0,1],[],[3,2,0,1,4],[2,0,1,5,3,4],[6,2,0,1,5,3,4],[7,6,2,0,1,5,3,4],[7,6,2,0,1,5,3,4],[],[10,8,7,6,2,0,1,5,3,4],[9,7,6,2,0,1,5,3,4,11,10,8]])else([],[])
def QE7 (h:Bool)(t:Rat)(a:Nat)(K:AV->Prop):Prop:=QX T84 QXy noL Tryz.f155 [.x true [.v (.bool h),.r t a]] K
theorem QG1 (h:Bool)(t:Rat)(a:Nat)(K:AV->Prop):QE7 h t a K=(a<=1000000000/\∀(n:Nat),n<=a+64->bif h then((-9223372036854775808:Int)<= -1/\(-1:Int)<9223372036854775808)/\K (AV.x true [Ch.r (↑(-1:Int)) 64])else n+n<=4294967296/\((-9223372036854775808:Int)<=1/\(1:Int)<9223372036854775808)/\64+(n+n)+1<=4294967296/\((-9223372036854775808:Int)<=1/\(1:Int)<9223372036854775808)/\64+(n+n)+1<=4294967296/\64+(n+n)+1+(64+(n+n)+1)<=4294967296/\(↑(1:Int)+JY h t*JY h t≠OfNat.ofNat 0->K (AV.x true [Ch.r ((↑(1:Int)-JY h t*JY h t)/(↑(1:Int)+JY h t*JY h t)) (64+(n+n)+1+(64+(n+n)+1))]))/\(↑(1:Int)+JY h t*JY h t=OfNat.ofNat 0->K (AV.x true [Ch.v (Value.bool false),Ch.v (Value.string (ByteArray.mk (Array.mk []))),Ch.v (Value.string (ByteArray.mk (Array.mk [])))]))):=by kernel_rfl
theorem QcO (h:Bool)(t:Rat)(a:Nat)(hc:(a<=500000000))(K:AV->Prop)(hK: ∀n,n<=4*a+400->K (rA (Xq h t) n)):QR (QE7 h t a K):=by
 refine⟨?_⟩;rw[QG1];try simp only[Za,R0,R1,Zb,Zc,R4,R2,R3]
 refine⟨by omega,fun n hn=> ?_⟩;cases h with
 | true=>exact⟨by omega,hK 64 (by omega)⟩
 | false=>exact⟨by omega,by omega,by omega,by omega,by omega,by omega,fun _=>hK _ (by omega),fun h0=>absurd h0 (sq1 t)⟩
def QL6:Ctr:=fun as0=>match as0 with
 | [.x true [.v (.bool h),.r t a]]=>some fun K=>((a<=500000000))/\(∀n,n<=4*a+400->K (rA (Xq h t) n))
 | _=>none
theorem QXz:CtrOK Tryz.prog QH QG 155 QL6:=by
 refine⟨QK Tryz.func155 (by kernel_rfl),fun l T hT K hK=> ?_⟩;unfold QL6 at hT;split at hT
 ·cases hT
  obtain⟨hc,hK⟩:=hK;exact QJ QgE QP Tryz.func155 (by kernel_rfl) (by kernel_rfl) (by rfl) (QcO _ _ _ hc K hK)
 ·cases hT
def L85:List (Nat×Ctr):=(155,QL6)::L84
noncomputable def T85:QU:=mkT L85 M79 X4
theorem Qab:CtrsOK Tryz.prog QH QG L85:= .cons QXz Qaa
theorem QgF:QM Tryz.prog QH QG T85:=Qc Qab Q6 Qk
def QX0:OT:=fun id=>bif id.beq 2 then([0,1,2,3,6,7,8,9,16,4,5,10,11,12,13,14,15,17,18],[[],[0],[],[2],[1,0,3,2],[4,1,0,3,2],[],[6],[],[8],[7,6,9,8,5,4,1,0,3,2],[5,4,1,0,3,2,10,7,6,9,8],[4,1,0,3,2,11,5,10,7,6,9,8],[12,4,1,0,3,2,11,5,10,7,6,9,8],[13,12,4,1,0,3,2,11,5,10,7,6,9,8],[13,12,4,1,0,3,2,11,5,10,7,6,9,8],[],[16,14,13,12,4,1,0,3,2,11,5,10,7,6,9,8],[15,13,12,4,1,0,3,2,11,5,10,7,6,9,8,17,16,14]])else([],[])
def QE8 (h:Bool)(t:Rat)(a:Nat)(K:AV->Prop):Prop:=QX T85 QX0 noL Tryz.f156 [.x true [.v (.bool h),.r t a]] K
theorem QG2 (h:Bool)(t:Rat)(a:Nat)(K:AV->Prop):QE8 h t a K=(a<=1000000000/\∀(n:Nat),n<=a+64->n+n+1<=4294967296/\((-9223372036854775808:Int)<=1/\(1:Int)<9223372036854775808)/\n+n<=4294967296/\64+(n+n)+1<=4294967296/\n+n+1+(64+(n+n)+1)<=4294967296/\(↑(1:Int)+JY h t*JY h t≠OfNat.ofNat 0->K (AV.x true [Ch.r ((JY h t+JY h t)/(↑(1:Int)+JY h t*JY h t)) (n+n+1+(64+(n+n)+1))]))/\(↑(1:Int)+JY h t*JY h t=OfNat.ofNat 0->K (AV.x true [Ch.v (Value.bool false),Ch.v (Value.string (ByteArray.mk (Array.mk []))),Ch.v (Value.string (ByteArray.mk (Array.mk [])))]))):=by kernel_rfl
theorem QcP (h:Bool)(t:Rat)(a:Nat)(hc:(a<=500000000))(K:AV->Prop)(hK: ∀n,n<=4*a+400->K (rA (Q3 h t) n)):QR (QE8 h t a K):=by
 refine⟨?_⟩;rw[QG2];try simp only[Za,R0,R1,Zb,Zc,R4,R2,R3]
 refine⟨by omega,fun n hn=>⟨by omega,by omega,by omega,by omega,by omega,fun h0=> ?_,fun h0=>absurd h0 (sq1 _)⟩⟩;have e:(JY h t+JY h t)/(((1:Int):Rat)+JY h t*JY h t)=Q3 h t:=by
  cases h with
  | true=>show((0:Rat)+0)/_=0;rw[Rat.add_zero,Rat.div_def,Rat.zero_mul]
  | false=>rfl
 rw[e];exact hK _ (by omega)
def QL7:Ctr:=fun as0=>match as0 with
 | [.x true [.v (.bool h),.r t a]]=>some fun K=>((a<=500000000))/\(∀n,n<=4*a+400->K (rA (Q3 h t) n))
 | _=>none
theorem QX1:CtrOK Tryz.prog QH QG 156 QL7:=by
 refine⟨QK Tryz.func156 (by kernel_rfl),fun l T hT K hK=> ?_⟩;unfold QL7 at hT;split at hT
 ·cases hT
  obtain⟨hc,hK⟩:=hK;exact QJ QgF QP Tryz.func156 (by kernel_rfl) (by kernel_rfl) (by rfl) (QcP _ _ _ hc K hK)
 ·cases hT
def L86:List (Nat×Ctr):=(156,QL7)::L85
noncomputable def T86:QU:=mkT L86 M79 X4
theorem Qac:CtrsOK Tryz.prog QH QG L86:= .cons QX1 Qab
theorem QgG:QM Tryz.prog QH QG T86:=Qc Qac Q6 Qk
def QX2:OT:=fun id=>bif id.beq 1 then([0,1,2,3,5,6,7,8,4,9,10,11],[[],[0],[],[2],[1,0,3,2],[],[5],[],[7],[6,5,8,7,4,1,0,3,2],[4,1,0,3,2,9,6,5,8,7],[10,4,1,0,3,2,9,6,5,8,7]])else([],[])
def QE9 (px:Rat)(a:Nat)(py:Rat)(b:Nat)(qx:Rat)(c:Nat)(qy:Rat)(d:Nat)(K:AV->Prop):Prop:=QX T86 QX2 noL Tryz.f112 [.x true [.r px a,.r py b],.x true [.r qx c,.r qy d]] K
theorem QG3 (px:Rat)(a:Nat)(py:Rat)(b:Nat)(qx:Rat)(c:Nat)(qy:Rat)(d:Nat)(K:AV->Prop):QE9 px a py b qx c qy d K=(a+c+1<=4294967296/\b+d+1<=4294967296/\K (AV.x true [Ch.r (px+qx) (a+c+1),Ch.r (py+qy) (b+d+1)])):=by kernel_rfl
theorem QcQ (px:Rat)(a:Nat)(py:Rat)(b:Nat)(qx:Rat)(c:Nat)(qy:Rat)(d:Nat)(hc:(a+c<=4294967290)/\(b+d<=4294967290))(K:AV->Prop)(hK:K (.x true [.r (px+qx) (a+c+1),.r (py+qy) (b+d+1)])):QR (QE9 px a py b qx c qy d K):=by
 refine⟨?_⟩;rw[QG3];try simp only[Za,R0,R1,Zb,Zc,R4,R2,R3]
 exact⟨by omega,by omega,hK⟩
def QG4:Ctr:=fun as0=>match as0 with
 | [.x true [.r px a,.r py b],.x true [.r qx c,.r qy d]]=>some fun K=>((a+c<=4294967290)/\(b+d<=4294967290))/\(K (.x true [.r (px+qx) (a+c+1),.r (py+qy) (b+d+1)]))
 | _=>none
theorem QNd:CtrOK Tryz.prog QH QG 112 QG4:=by
 refine⟨QK Tryz.func112 (by kernel_rfl),fun l T hT K hK=> ?_⟩;unfold QG4 at hT;split at hT
 ·cases hT
  obtain⟨hc,hK⟩:=hK;exact QJ QgG QP Tryz.func112 (by kernel_rfl) (by kernel_rfl) (by rfl) (QcQ _ _ _ _ _ _ _ _ hc K hK)
 ·cases hT
def L87:List (Nat×Ctr):=(112,QG4)::L86
noncomputable def T87:QU:=mkT L87 M79 X4
theorem Qad:CtrsOK Tryz.prog QH QG L87:= .cons QNd Qac
theorem QgH:QM Tryz.prog QH QG T87:=Qc Qad Q6 Qk
def QX3:OT:=fun id=>bif id.beq 1 then([0,1,2,3,5,6,7,8,4,9,10,11],[[],[0],[],[2],[1,0,3,2],[],[5],[],[7],[6,5,8,7,4,1,0,3,2],[4,1,0,3,2,9,6,5,8,7],[10,4,1,0,3,2,9,6,5,8,7]])else([],[])
def QFA (px:Rat)(a:Nat)(py:Rat)(b:Nat)(qx:Rat)(c:Nat)(qy:Rat)(d:Nat)(K:AV->Prop):Prop:=QX T87 QX3 noL Tryz.f226 [.x true [.r px a,.r py b],.x true [.r qx c,.r qy d]] K
theorem QG5 (px:Rat)(a:Nat)(py:Rat)(b:Nat)(qx:Rat)(c:Nat)(qy:Rat)(d:Nat)(K:AV->Prop):QFA px a py b qx c qy d K=(a+c<=4294967296/\b+d<=4294967296/\a+c+(b+d)+1<=4294967296/\K (AV.x true [Ch.r (px*qx+py*qy) (a+c+(b+d)+1)])):=by kernel_rfl
theorem QcR (px:Rat)(a:Nat)(py:Rat)(b:Nat)(qx:Rat)(c:Nat)(qy:Rat)(d:Nat)(hc:(a+b+c+d<=4294967290))(K:AV->Prop)(hK:K (rA (px*qx+py*qy) (a+c+(b+d)+1))):QR (QFA px a py b qx c qy d K):=by
 refine⟨?_⟩;rw[QG5];try simp only[Za,R0,R1,Zb,Zc,R4,R2,R3]
 exact⟨by omega,by omega,by omega,hK⟩
def QL8:Ctr:=fun as0=>match as0 with
 | [.x true [.r px a,.r py b],.x true [.r qx c,.r qy d]]=>some fun K=>((a+b+c+d<=4294967290))/\(K (rA (px*qx+py*qy) (a+c+(b+d)+1)))
 | _=>none
theorem QX4:CtrOK Tryz.prog QH QG 226 QL8:=by
 refine⟨QK Tryz.func226 (by kernel_rfl),fun l T hT K hK=> ?_⟩;unfold QL8 at hT;split at hT
 ·cases hT
  obtain⟨hc,hK⟩:=hK;exact QJ QgH QP Tryz.func226 (by kernel_rfl) (by kernel_rfl) (by rfl) (QcR _ _ _ _ _ _ _ _ hc K hK)
 ·cases hT
def L88:List (Nat×Ctr):=(226,QL8)::L87
theorem QgI:CtrsOK Tryz.prog QH QG L88:= .cons QX4 Qad
def L89:List (Nat×Ctr):=L88
theorem QgJ:CtrsOK Tryz.prog QH QG L89:=QgI
def L90:List (Nat×Ctr):=L89
theorem QgK:CtrsOK Tryz.prog QH QG L90:=QgJ
def L91:List (Nat×Ctr):=L90
theorem QgL:CtrsOK Tryz.prog QH QG L91:=QgK
def L92:List (Nat×Ctr):=L91
noncomputable def T92:QU:=mkT L92 M79 X4
theorem QgM:CtrsOK Tryz.prog QH QG L92:=QgL
end Go.Proofs
namespace Go.Proofs
open Go Go.Eng
def Wh:FrV->List Qi->List Rat->List FrV
 | b,L::ls,q::qs=>Jg b ⟨0,0,false,q⟩::Wh (Jg (Jg b ⟨0,0,false,q⟩) ⟨L.len,0,false,0⟩) ls qs
 | b,_,_=>[b]
def Vr (a:QN):FrV:=⟨a.x,a.y,a.half,a.t⟩
def bnd:Nat->Nat
 | 0=>63
 | i+1=>81*bnd i+12279
theorem QS3 {xs:List (List Ch)}{a b:List Ch}(hx:QC xs xs)(h:MC (fun _=>none) a b/\Qm b=[]):QC (xs++[a]) (xs++[b]):=by
 refine⟨by simp,fun i x y hx' hy'=> ?_⟩;by_cases hi:i<xs.length
 ·rw[List.getElem?_append_left hi]at hx' hy';exact hx.2 i x y hx' hy'
 ·rw[List.getElem?_append_right (by omega)]at hx' hy';have:i-xs.length=0:=by
   have:=(List.getElem?_eq_some_iff.1 hx').1;simp at this;omega
  rw[this]at hx' hy';cases hx';cases hy';exact h
def L93:List (Nat×Ctr):=L92
theorem QgN:CtrsOK Tryz.prog QH QG L93:=QgM
def L94:List (Nat×Ctr):=L93
noncomputable def T94:QU:=mkT L94 M79 X4
theorem QgO:CtrsOK Tryz.prog QH QG L94:=QgN
end Go.Proofs
