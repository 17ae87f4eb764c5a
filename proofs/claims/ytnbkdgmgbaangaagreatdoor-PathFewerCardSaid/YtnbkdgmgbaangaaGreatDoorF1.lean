/- Turns, vectors, frames. -/
import Derived.Test.YtnbkdgmgbaangaaGreatDoorAJ
open Int renaming ofNat_eq_natCast → Za
open Nat renaming zero_add → Zb, le_refl → Zc
namespace Go.Proofs
open Go Go.Eng
def JY (h:Bool)(t:Rat):Rat:=bif h then 0 else t
def QPa (t:Rat):Bool:=decide (t=0)
def QL6 (t:Rat):Rat:=bif QPa t then 0 else((-1:Int):Rat)/t
def thH (h1:Bool)(t1:Rat)(h2:Bool)(t2:Rat):Bool:=bif h1&&h2 then false else bif h1 then QPa (JY h2 t2)else bif h2 then QPa (JY h1 t1)else decide (1-t1*t2=0)
def thT (h1:Bool)(t1:Rat)(h2:Bool)(t2:Rat):Rat:=bif h1&&h2 then 0 else bif h1 then QL6 (JY h2 t2)else bif h2 then QL6 (JY h1 t1)else bif decide (1-t1*t2=0)then 0 else(t1+t2)/(1-t1*t2)
def Xr (h:Bool)(t:Rat):Rat:=bif h then-1 else(1-t*t)/(1+t*t)
def Q4 (h:Bool)(t:Rat):Rat:=bif h then 0 else(t+t)/(1+t*t)
structure FrV where
  x:Rat
  y:Rat
  h:Bool
  t:Rat
def QAL (f:FrV)(x y:Rat):Rat:=f.x+(x*Xr f.h f.t-y*Q4 f.h f.t)
def QAM (f:FrV)(x y:Rat):Rat:=f.y+(x*Q4 f.h f.t+y*Xr f.h f.t)
def Jg (f g:FrV):FrV:=⟨QAL f g.x g.y,QAM f g.x g.y,thH f.h f.t g.h g.t,thT f.h f.t g.h g.t⟩
theorem W8 (p:Rat):XF p p=p:=by unfold XF;split<;>rfl
theorem Vs (t:Rat):0<=t*t:=by
 rcases @Rat.le_total 0 t with h | h
 ·exact Rat.mul_nonneg h h
 ·have:=Rat.mul_nonneg (show 0<= -t by grind) (show 0<= -t by grind);grind
theorem sq1 (t:Rat):1+t*t≠0:=by have:=Vs t;grind
def L79:List (Nat×Ctr):=L52
def M79:List (Nat×XM):=M48
noncomputable def T79:QU:=mkT L79 M79 X4
theorem QaW:CtrsOK Tryz.prog QH QG L79:=QSr
theorem Q7:CtrMsOK Tryz.prog QH QG M79:=Gk
theorem Qf7:QM Tryz.prog QH QG T79:=Qc QaW Q7 Ql
def QcK:OT:=fun _=>([],[])
def QJd (t:Rat)(a:Nat)(K:AV->Prop):Prop:=QX T79 QcK noL Tryz.f145 [rA t a] K
theorem QJe (t:Rat)(a:Nat)(K:AV->Prop):QJd t a K=(a+a<=4294967296/\K (AV.x true [Ch.v (Value.bool false),Ch.r (XF t t) (max a a)])):=by kernel_rfl
theorem Qf8 (t:Rat)(a:Nat)(hc:(a<=1000000000))(K:AV->Prop)(hK:K (.x true [.v (.bool false),.r t a])):QR (QJd t a K):=by
 refine⟨?_⟩;rw[QJe];try simp only[Za,R0,R1,Zb,Zc,R4,R2,R3]
 rw[W8,Nat.max_self];exact⟨by omega,hK⟩
def QSu:Ctr:=fun as0=>match as0 with
 | [.x true [.r t a]]=>some fun K=>((a<=1000000000))/\(K (.x true [.v (.bool false),.r t a]))
 | _=>none
theorem QcL:CtrOK Tryz.prog QH QG 145 QSu:=by
 refine⟨QK Tryz.func145 (by kernel_rfl),fun l T hT K hK=> ?_⟩;unfold QSu at hT;split at hT
 ·cases hT
  obtain⟨hc,hK⟩:=hK;exact QJ Qf7 QP Tryz.func145 (by kernel_rfl) (by kernel_rfl) (by rfl) (Qf8 _ _ hc K hK)
 ·cases hT
def L80:List (Nat×Ctr):=(145,QSu)::L79
noncomputable def T80:QU:=mkT L80 M79 X4
theorem QaX:CtrsOK Tryz.prog QH QG L80:= .cons QcL QaW
theorem Qf9:QM Tryz.prog QH QG T80:=Qc QaX Q7 Ql
def QSv:OT:=fun _=>([],[])
def QCV  (K:AV->Prop):Prop:=QX T80 QSv noL Tryz.f199 [] K
theorem QD5 (K:AV->Prop):QCV K=(((-9223372036854775808:Int)<=0/\(0:Int)<9223372036854775808)/\K (AV.x true [Ch.v (Value.bool true),Ch.r (↑(0:Int)) 64])):=by kernel_rfl
theorem QXr  (_hc:True)(K:AV->Prop)(hK:K (.x true [.v (.bool true),.r 0 64])):QR (QCV  K):=by
 refine⟨?_⟩;rw[QD5];try simp only[Za,R0,R1,Zb,Zc,R4,R2,R3]
 exact⟨by omega,hK⟩
def QG4:Ctr:=fun as0=>match as0 with
 | []=>some fun K=>(True)/\(K (.x true [.v (.bool true),.r 0 64]))
 | _=>none
theorem QSw:CtrOK Tryz.prog QH QG 199 QG4:=by
 refine⟨QK Tryz.func199 (by kernel_rfl),fun l T hT K hK=> ?_⟩;unfold QG4 at hT;split at hT
 ·cases hT
  obtain⟨hc,hK⟩:=hK;exact QJ Qf9 QP Tryz.func199 (by kernel_rfl) (by kernel_rfl) (by rfl) (QXr  hc K hK)
 ·cases hT
def L81:List (Nat×Ctr):=(199,QG4)::L80
noncomputable def T81:QU:=mkT L81 M79 X4
theorem QaY:CtrsOK Tryz.prog QH QG L81:= .cons QSw QaX
theorem QgA:QM Tryz.prog QH QG T81:=Qc QaY Q7 Ql
def QXs:OT:=fun _=>([],[])
def QFD (h:Bool)(t:Rat)(a:Nat)(K:AV->Prop):Prop:=QX T81 QXs noL Tryz.f194 [.x true [.v (.bool h),.r t a]] K
theorem QG5 (h:Bool)(t:Rat)(a:Nat)(K:AV->Prop):QFD h t a K=(bif h then True/\K (AV.x true [Ch.v (Value.bool true),Ch.r (OfNat.ofNat 0) 64])else a<=1000000000/\K (AV.x true [Ch.v (Value.bool false),Ch.r t a])):=by kernel_rfl
theorem QcM (h:Bool)(t:Rat)(a:Nat)(hc:(a<=1000000000))(K:AV->Prop)(hK: ∀n,n<=a+64->K (.x true [.v (.bool h),.r (JY h t) n])):QR (QFD h t a K):=by
 refine⟨?_⟩;rw[QG5];try simp only[R0]
 cases h with
 | true=>exact hK 64 (by omega)
 | false=>exact⟨hc,hK a (by omega)⟩
def QL7:Ctr:=fun as0=>match as0 with
 | [.x true [.v (.bool h),.r t a]]=>some fun K=>((a<=1000000000))/\(∀n,n<=a+64->K (.x true [.v (.bool h),.r (JY h t) n]))
 | _=>none
theorem QXt:CtrOK Tryz.prog QH QG 194 QL7:=by
 refine⟨QK Tryz.func194 (by kernel_rfl),fun l T hT K hK=> ?_⟩;unfold QL7 at hT;split at hT
 ·cases hT
  obtain⟨hc,hK⟩:=hK;exact QJ QgA QP Tryz.func194 (by kernel_rfl) (by kernel_rfl) (by rfl) (QcM _ _ _ hc K hK)
 ·cases hT
def L82:List (Nat×Ctr):=(194,QL7)::L81
theorem QgB:CtrsOK Tryz.prog QH QG L82:= .cons QXt QaY
def L83:List (Nat×Ctr):=L82
theorem QgC:CtrsOK Tryz.prog QH QG L83:=QgB
def L84:List (Nat×Ctr):=L83
noncomputable def T84:QU:=mkT L84 M79 X4
theorem QaZ:CtrsOK Tryz.prog QH QG L84:=QgC
theorem QgD:QM Tryz.prog QH QG T84:=Qc QaZ Q7 Ql
def QXu:OT:=fun id=>bif id.beq 5 then([1,4,10,0,2,3,5,6,7,8,9,11,12],[[],[],[0,1],[2,0,1],[],[3,2,0,1,4],[2,0,1,5,3,4],[6,2,0,1,5,3,4],[7,6,2,0,1,5,3,4],[7,6,2,0,1,5,3,4],[],[10,8,7,6,2,0,1,5,3,4],[9,7,6,2,0,1,5,3,4,11,10,8]])else([],[])
def QFE (h:Bool)(t:Rat)(a:Nat)(K:AV->Prop):Prop:=QX T84 QXu noL Tryz.f155 [.x true [.v (.bool h),.r t a]] K
theorem QG6 (h:Bool)(t:Rat)(a:Nat)(K:AV->Prop):QFE h t a K=(a<=1000000000/\∀(n:Nat),n<=a+64->bif h then((-9223372036854775808:Int)<= -1/\(-1:Int)<9223372036854775808)/\K (AV.x true [Ch.r (↑(-1:Int)) 64])else n+n<=4294967296/\((-9223372036854775808:Int)<=1/\(1:Int)<9223372036854775808)/\64+(n+n)+1<=4294967296/\((-9223372036854775808:Int)<=1/\(1:Int)<9223372036854775808)/\64+(n+n)+1<=4294967296/\64+(n+n)+1+(64+(n+n)+1)<=4294967296/\(↑(1:Int)+JY h t*JY h t≠OfNat.ofNat 0->K (AV.x true [Ch.r ((↑(1:Int)-JY h t*JY h t)/(↑(1:Int)+JY h t*JY h t)) (64+(n+n)+1+(64+(n+n)+1))]))/\(↑(1:Int)+JY h t*JY h t=OfNat.ofNat 0->K (AV.x true [Ch.v (Value.bool false),Ch.v (Value.string (ByteArray.mk (Array.mk []))),Ch.v (Value.string (ByteArray.mk (Array.mk [])))]))):=by kernel_rfl
theorem QcN (h:Bool)(t:Rat)(a:Nat)(hc:(a<=500000000))(K:AV->Prop)(hK: ∀n,n<=4*a+400->K (rA (Xr h t) n)):QR (QFE h t a K):=by
 refine⟨?_⟩;rw[QG6];try simp only[Za,R0,R1,Zb,Zc,R4,R2,R3]
 refine⟨by omega,fun n hn=> ?_⟩;cases h with
 | true=>exact⟨by omega,hK 64 (by omega)⟩
 | false=>exact⟨by omega,by omega,by omega,by omega,by omega,by omega,fun _=>hK _ (by omega),fun h0=>absurd h0 (sq1 t)⟩
def QL8:Ctr:=fun as0=>match as0 with
 | [.x true [.v (.bool h),.r t a]]=>some fun K=>((a<=500000000))/\(∀n,n<=4*a+400->K (rA (Xr h t) n))
 | _=>none
theorem QXv:CtrOK Tryz.prog QH QG 155 QL8:=by
 refine⟨QK Tryz.func155 (by kernel_rfl),fun l T hT K hK=> ?_⟩;unfold QL8 at hT;split at hT
 ·cases hT
  obtain⟨hc,hK⟩:=hK;exact QJ QgD QP Tryz.func155 (by kernel_rfl) (by kernel_rfl) (by rfl) (QcN _ _ _ hc K hK)
 ·cases hT
def L85:List (Nat×Ctr):=(155,QL8)::L84
noncomputable def T85:QU:=mkT L85 M79 X4
theorem Qaa:CtrsOK Tryz.prog QH QG L85:= .cons QXv QaZ
theorem QgE:QM Tryz.prog QH QG T85:=Qc Qaa Q7 Ql
def QXw:OT:=fun id=>bif id.beq 2 then([0,1,2,3,6,7,8,9,16,4,5,10,11,12,13,14,15,17,18],[[],[0],[],[2],[1,0,3,2],[4,1,0,3,2],[],[6],[],[8],[7,6,9,8,5,4,1,0,3,2],[5,4,1,0,3,2,10,7,6,9,8],[4,1,0,3,2,11,5,10,7,6,9,8],[12,4,1,0,3,2,11,5,10,7,6,9,8],[13,12,4,1,0,3,2,11,5,10,7,6,9,8],[13,12,4,1,0,3,2,11,5,10,7,6,9,8],[],[16,14,13,12,4,1,0,3,2,11,5,10,7,6,9,8],[15,13,12,4,1,0,3,2,11,5,10,7,6,9,8,17,16,14]])else([],[])
def QFF (h:Bool)(t:Rat)(a:Nat)(K:AV->Prop):Prop:=QX T85 QXw noL Tryz.f156 [.x true [.v (.bool h),.r t a]] K
theorem QG7 (h:Bool)(t:Rat)(a:Nat)(K:AV->Prop):QFF h t a K=(a<=1000000000/\∀(n:Nat),n<=a+64->n+n+1<=4294967296/\((-9223372036854775808:Int)<=1/\(1:Int)<9223372036854775808)/\n+n<=4294967296/\64+(n+n)+1<=4294967296/\n+n+1+(64+(n+n)+1)<=4294967296/\(↑(1:Int)+JY h t*JY h t≠OfNat.ofNat 0->K (AV.x true [Ch.r ((JY h t+JY h t)/(↑(1:Int)+JY h t*JY h t)) (n+n+1+(64+(n+n)+1))]))/\(↑(1:Int)+JY h t*JY h t=OfNat.ofNat 0->K (AV.x true [Ch.v (Value.bool false),Ch.v (Value.string (ByteArray.mk (Array.mk []))),Ch.v (Value.string (ByteArray.mk (Array.mk [])))]))):=by kernel_rfl
theorem QcO (h:Bool)(t:Rat)(a:Nat)(hc:(a<=500000000))(K:AV->Prop)(hK: ∀n,n<=4*a+400->K (rA (Q4 h t) n)):QR (QFF h t a K):=by
 refine⟨?_⟩;rw[QG7];try simp only[Za,R0,R1,Zb,Zc,R4,R2,R3]
 refine⟨by omega,fun n hn=>⟨by omega,by omega,by omega,by omega,by omega,fun h0=> ?_,fun h0=>absurd h0 (sq1 _)⟩⟩;have e:(JY h t+JY h t)/(((1:Int):Rat)+JY h t*JY h t)=Q4 h t:=by
  cases h with
  | true=>show((0:Rat)+0)/_=0;rw[Rat.add_zero,Rat.div_def,Rat.zero_mul]
  | false=>rfl
 rw[e];exact hK _ (by omega)
def QL9:Ctr:=fun as0=>match as0 with
 | [.x true [.v (.bool h),.r t a]]=>some fun K=>((a<=500000000))/\(∀n,n<=4*a+400->K (rA (Q4 h t) n))
 | _=>none
theorem QXx:CtrOK Tryz.prog QH QG 156 QL9:=by
 refine⟨QK Tryz.func156 (by kernel_rfl),fun l T hT K hK=> ?_⟩;unfold QL9 at hT;split at hT
 ·cases hT
  obtain⟨hc,hK⟩:=hK;exact QJ QgE QP Tryz.func156 (by kernel_rfl) (by kernel_rfl) (by rfl) (QcO _ _ _ hc K hK)
 ·cases hT
def L86:List (Nat×Ctr):=(156,QL9)::L85
noncomputable def T86:QU:=mkT L86 M79 X4
theorem Qab:CtrsOK Tryz.prog QH QG L86:= .cons QXx Qaa
theorem QgF:QM Tryz.prog QH QG T86:=Qc Qab Q7 Ql
def QXy:OT:=fun id=>bif id.beq 1 then([0,1,2,3,5,6,7,8,4,9,10,11],[[],[0],[],[2],[1,0,3,2],[],[5],[],[7],[6,5,8,7,4,1,0,3,2],[4,1,0,3,2,9,6,5,8,7],[10,4,1,0,3,2,9,6,5,8,7]])else([],[])
def QFG (px:Rat)(a:Nat)(py:Rat)(b:Nat)(qx:Rat)(c:Nat)(qy:Rat)(d:Nat)(K:AV->Prop):Prop:=QX T86 QXy noL Tryz.f112 [.x true [.r px a,.r py b],.x true [.r qx c,.r qy d]] K
theorem QG8 (px:Rat)(a:Nat)(py:Rat)(b:Nat)(qx:Rat)(c:Nat)(qy:Rat)(d:Nat)(K:AV->Prop):QFG px a py b qx c qy d K=(a+c+1<=4294967296/\b+d+1<=4294967296/\K (AV.x true [Ch.r (px+qx) (a+c+1),Ch.r (py+qy) (b+d+1)])):=by kernel_rfl
theorem QcP (px:Rat)(a:Nat)(py:Rat)(b:Nat)(qx:Rat)(c:Nat)(qy:Rat)(d:Nat)(hc:(a+c<=4294967290)/\(b+d<=4294967290))(K:AV->Prop)(hK:K (.x true [.r (px+qx) (a+c+1),.r (py+qy) (b+d+1)])):QR (QFG px a py b qx c qy d K):=by
 refine⟨?_⟩;rw[QG8];try simp only[Za,R0,R1,Zb,Zc,R4,R2,R3]
 exact⟨by omega,by omega,hK⟩
def QG9:Ctr:=fun as0=>match as0 with
 | [.x true [.r px a,.r py b],.x true [.r qx c,.r qy d]]=>some fun K=>((a+c<=4294967290)/\(b+d<=4294967290))/\(K (.x true [.r (px+qx) (a+c+1),.r (py+qy) (b+d+1)]))
 | _=>none
theorem QNa:CtrOK Tryz.prog QH QG 112 QG9:=by
 refine⟨QK Tryz.func112 (by kernel_rfl),fun l T hT K hK=> ?_⟩;unfold QG9 at hT;split at hT
 ·cases hT
  obtain⟨hc,hK⟩:=hK;exact QJ QgF QP Tryz.func112 (by kernel_rfl) (by kernel_rfl) (by rfl) (QcP _ _ _ _ _ _ _ _ hc K hK)
 ·cases hT
def L87:List (Nat×Ctr):=(112,QG9)::L86
noncomputable def T87:QU:=mkT L87 M79 X4
theorem Qac:CtrsOK Tryz.prog QH QG L87:= .cons QNa Qab
theorem QgG:QM Tryz.prog QH QG T87:=Qc Qac Q7 Ql
def QXz:OT:=fun id=>bif id.beq 1 then([0,1,2,3,5,6,7,8,4,9,10,11],[[],[0],[],[2],[1,0,3,2],[],[5],[],[7],[6,5,8,7,4,1,0,3,2],[4,1,0,3,2,9,6,5,8,7],[10,4,1,0,3,2,9,6,5,8,7]])else([],[])
def QFH (px:Rat)(a:Nat)(py:Rat)(b:Nat)(qx:Rat)(c:Nat)(qy:Rat)(d:Nat)(K:AV->Prop):Prop:=QX T87 QXz noL Tryz.f226 [.x true [.r px a,.r py b],.x true [.r qx c,.r qy d]] K
theorem QHA (px:Rat)(a:Nat)(py:Rat)(b:Nat)(qx:Rat)(c:Nat)(qy:Rat)(d:Nat)(K:AV->Prop):QFH px a py b qx c qy d K=(a+c<=4294967296/\b+d<=4294967296/\a+c+(b+d)+1<=4294967296/\K (AV.x true [Ch.r (px*qx+py*qy) (a+c+(b+d)+1)])):=by kernel_rfl
theorem QcQ (px:Rat)(a:Nat)(py:Rat)(b:Nat)(qx:Rat)(c:Nat)(qy:Rat)(d:Nat)(hc:(a+b+c+d<=4294967290))(K:AV->Prop)(hK:K (rA (px*qx+py*qy) (a+c+(b+d)+1))):QR (QFH px a py b qx c qy d K):=by
 refine⟨?_⟩;rw[QHA];try simp only[Za,R0,R1,Zb,Zc,R4,R2,R3]
 exact⟨by omega,by omega,by omega,hK⟩
def QMA:Ctr:=fun as0=>match as0 with
 | [.x true [.r px a,.r py b],.x true [.r qx c,.r qy d]]=>some fun K=>((a+b+c+d<=4294967290))/\(K (rA (px*qx+py*qy) (a+c+(b+d)+1)))
 | _=>none
theorem QX0:CtrOK Tryz.prog QH QG 226 QMA:=by
 refine⟨QK Tryz.func226 (by kernel_rfl),fun l T hT K hK=> ?_⟩;unfold QMA at hT;split at hT
 ·cases hT
  obtain⟨hc,hK⟩:=hK;exact QJ QgG QP Tryz.func226 (by kernel_rfl) (by kernel_rfl) (by rfl) (QcQ _ _ _ _ _ _ _ _ hc K hK)
 ·cases hT
def L88:List (Nat×Ctr):=(226,QMA)::L87
theorem QgH:CtrsOK Tryz.prog QH QG L88:= .cons QX0 Qac
def L89:List (Nat×Ctr):=L88
theorem QgI:CtrsOK Tryz.prog QH QG L89:=QgH
def L90:List (Nat×Ctr):=L89
theorem QgJ:CtrsOK Tryz.prog QH QG L90:=QgI
def L91:List (Nat×Ctr):=L90
theorem QgK:CtrsOK Tryz.prog QH QG L91:=QgJ
def L92:List (Nat×Ctr):=L91
noncomputable def T92:QU:=mkT L92 M79 X4
theorem QgL:CtrsOK Tryz.prog QH QG L92:=QgK
end Go.Proofs
namespace Go.Proofs
open Go Go.Eng
def Wg:FrV->List Qg->List Rat->List FrV
 | b,L::ls,q::qs=>Jg b ⟨0,0,false,q⟩::Wg (Jg (Jg b ⟨0,0,false,q⟩) ⟨L.len,0,false,0⟩) ls qs
 | b,_,_=>[b]
def Vt (a:QN):FrV:=⟨a.x,a.y,a.half,a.t⟩
def bnd:Nat->Nat
 | 0=>63
 | i+1=>81*bnd i+12279
theorem QSx {xs:List (List Ch)}{a b:List Ch}(hx:QC xs xs)(h:MC (fun _=>none) a b/\Qn b=[]):QC (xs++[a]) (xs++[b]):=by
 refine⟨by simp,fun i x y hx' hy'=> ?_⟩;by_cases hi:i<xs.length
 ·rw[List.getElem?_append_left hi]at hx' hy';exact hx.2 i x y hx' hy'
 ·rw[List.getElem?_append_right (by omega)]at hx' hy';have:i-xs.length=0:=by
   have:=(List.getElem?_eq_some_iff.1 hx').1;simp at this;omega
  rw[this]at hx' hy';cases hx';cases hy';exact h
def L93:List (Nat×Ctr):=L92
theorem QgM:CtrsOK Tryz.prog QH QG L93:=QgL
def L94:List (Nat×Ctr):=L93
noncomputable def T94:QU:=mkT L94 M79 X4
theorem QgN:CtrsOK Tryz.prog QH QG L94:=QgM
end Go.Proofs
