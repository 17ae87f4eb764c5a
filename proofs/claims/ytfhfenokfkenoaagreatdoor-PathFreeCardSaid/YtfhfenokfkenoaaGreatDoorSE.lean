/- Placed shapes: List, Place, Convex, Area, Around. -/
import Derived.Test.YtfhfenokfkenoaaGreatDoorFA
namespace Go.Proofs
open Go Go.Eng
def shN (n:Nat)(l:List (List (Rat×Rat))):List (List Ch):=l.map fun s=>[Ch.s 6 (s.map (QT n))]
structure Xn where
 x1:Rat
 y1:Rat
 x2:Rat
 y2:Rat
def Qp (b:Xn)(v:Rat×Rat):Xn:=⟨XA b.x1 v.1,XA b.y1 v.2,XH b.x2 v.1,XH b.y2 v.2⟩
def bxN (n:Nat)(b:Xn):List Ch:=[.r b.x1 n,.r b.y1 n,.r b.x2 n,.r b.y2 n]
theorem QPL {n:Nat}{ps:List (List (Rat×Rat))}{i:Nat}{s:List (Rat×Rat)}(h:ps[i]? =some s):ldE (shN n ps) i 0 1=some [.s 6 (s.map (QT n))]:=by
 simp only[ldE,shN,List.getElem?_map,h];rfl
theorem U0 {α:Type}{l:List α}{i:Nat}{d a:α}(h:l[i]? =some a):l.getD i d=a:=by
 rw[List.getD_eq_getElem?_getD,h];rfl
def QWF:LC:=QXm
theorem QT8:QG QWF:=QXn
def Qao:LC:=QWF
theorem QXo:QG Qao:=QT8
def QXp:LC:=Qao
theorem QPM:QG QXp:=QXo
theorem QMI (n:Nat)(l:List (Rat×Rat))(hc:(n<=500000000)/\(QX l))(K:AV->Prop)(hK:K (iA .i64 0)):QM (QR (mkT QXp M79 X4) (oF Tryz.f235) noL Tryz.f235 [sVv n l] K):=by
 refine HV ((∃(n_1:Nat),∃(l_1:List (Rat×Rat)),List.map (QT n) l=List.map (QT n_1) l_1/\(n_1<=500000000/\QX l_1/\(8:Int)<=64)/\K (AV.x false [Ch.v (Value.int IntKind.i64 0)]))) ?_
 try simp only[Int.ofNat_eq_natCast,R0,R1,Nat.zero_add,Nat.le_refl,R4,R2,R3]
 exact⟨n,l,rfl,⟨hc.1,hc.2,by omega⟩,hK⟩
def Vu:Ctr
 | [.x false [.s 6 xs]]=>some fun K=> ∃(n:Nat) (l:List (Rat×Rat)),xs=l.map (QT n)/\((n<=500000000)/\(QX l))/\(K (iA .i64 0))
 | _=>none
theorem QBS:QI 235 Vu:=by
 refine okL Tryz.func235 fun l T hT K hK=> ?_
 unfold Vu at hT;split at hT<;>cases hT
 obtain⟨n,l,rfl,hc,hK⟩:=hK;exact spL (QW QPM Q8 Qg) QK Tryz.func235 (QMI _ _ hc K hK)
def QXq:LC:=(235,Vu)::QXp
theorem QXr:QG QXq:= .cons QBS QPM
theorem QPN (n:Int)(d:Int)(hc:(-9223372036854775808<=n/\n<9223372036854775808)/\(0<d/\d<9223372036854775808))(K:AV->Prop)(hK:K (.t [(true,[.r ((n:Rat)/(d:Rat)) 128]),(false,[.v (.int .i64 0)])])):QM (QR (mkT QXq M79 X4) (oF Tryz.f146) noL Tryz.f146 [iA .i64 n,iA .i64 d] K):=by
 refine HV (((-9223372036854775808<=n/\n<9223372036854775808)/\(-9223372036854775808<=d/\d<9223372036854775808)/\128<=4294967296/\((↑d:Rat)≠OfNat.ofNat 0->K (AV.t [(true,[Ch.r ((↑n:Rat)/(↑d:Rat)) 128]),(false,[Ch.v (Value.int IntKind.i64 0)])]))/\((↑d:Rat)=OfNat.ofNat 0->K (AV.t [(true,[Ch.v (Value.bool false),Ch.v (Value.string (ByteArray.mk (Array.mk []))),Ch.v (Value.string (ByteArray.mk (Array.mk [])))]),(false,[Ch.v (Value.int IntKind.i64 12)])])))) ?_
 try simp only[Int.ofNat_eq_natCast,R0,R1,Nat.zero_add,Nat.le_refl,R4,R2,R3]
 exact⟨by omega,by omega,by omega,fun _=>hK,fun h=>absurd (Rat.intCast_eq_zero_iff.1 h) (by omega)⟩
def U1:Ctr
 | [.x false [.v (.int .i64 n)],.x false [.v (.int .i64 d)]]=>some fun K=>((-9223372036854775808<=n/\n<9223372036854775808)/\(0<d/\d<9223372036854775808))/\(K (.t [(true,[.r ((n:Rat)/(d:Rat)) 128]),(false,[.v (.int .i64 0)])]))
 | _=>none
theorem QMJ:QI 146 U1:=by
 refine okL Tryz.func146 fun l T hT K hK=> ?_
 unfold U1 at hT;split at hT<;>cases hT
 obtain⟨hc,hK⟩:=hK;exact spL (QW QXr Q8 Qg) QK Tryz.func146 (QPN _ _ hc K hK)
def Qbj:LC:=(146,U1)::QXq
def Qbk:LC:=Qbj
def Qbl:LC:=Qbk
noncomputable def Qb4:QZ:=mkT Qbl M79 X4
end Go.Proofs
