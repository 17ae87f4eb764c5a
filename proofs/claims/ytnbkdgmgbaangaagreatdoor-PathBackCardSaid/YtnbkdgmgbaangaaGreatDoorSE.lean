/- Placed shapes: List, Place, Convex, Area, Around. -/
import Derived.Test.YtnbkdgmgbaangaaGreatDoorFA
namespace Go.Proofs
open Go Go.Eng
def shN (n:Nat)(l:List (List (Rat×Rat))):List (List Ch):=l.map fun s=>[Ch.s 6 (s.map (QY n))]
structure X2 where
 x1:Rat
 y1:Rat
 x2:Rat
 y2:Rat
def KU (b:X2)(v:Rat×Rat):X2:=⟨XC b.x1 v.1,XC b.y1 v.2,XF b.x2 v.1,XF b.y2 v.2⟩
def bxN (n:Nat)(b:X2):List Ch:=[.r b.x1 n,.r b.y1 n,.r b.x2 n,.r b.y2 n]
theorem QS6 {n:Nat}{ps:List (List (Rat×Rat))}{i:Nat}{s:List (Rat×Rat)}(h:ps[i]? =some s):ldE (shN n ps) i 0 1=some [.s 6 (s.map (QY n))]:=by
 simp only[ldE,shN,List.getElem?_map,h];rfl
theorem Up {α:Type}{l:List α}{i:Nat}{d a:α}(h:l[i]? =some a):l.getD i d=a:=by
 rw[List.getD_eq_getElem?_getD,h];rfl
def Qag:List (Nat×Ctr):=Qca
theorem QX9:CtrsOK Tryz.prog QH QG Qag:=Qcb
def Qgd:List (Nat×Ctr):=Qag
theorem Qcc:CtrsOK Tryz.prog QH QG Qgd:=QX9
def Qcd:List (Nat×Ctr):=Qgd
noncomputable def Qge:QU:=mkT Qcd M79 X4
theorem QS7:CtrsOK Tryz.prog QH QG Qcd:=Qcc
theorem Qce:QM Tryz.prog QH QG Qge:=Qc QS7 Q6 Qk
def QL9:OT:=fun _=>([],[])
def Uq (n:Nat)(l:List (Rat×Rat))(K:AV->Prop):Prop:=QX Qge QL9 noL Tryz.f239 [sVv n l] K
theorem QAI (n:Nat)(l:List (Rat×Rat))(K:AV->Prop):Uq n l K=(∃(n_1:Nat)(l_1:List (Rat×Rat)),List.map (QY n) l=List.map (QY n_1) l_1/\(n_1<=500000000/\Qb l_1/\(8:Int)<=64)/\K (AV.x false [Ch.v (Value.int IntKind.i64 0)])):=by kernel_rfl
theorem QPh (n:Nat)(l:List (Rat×Rat))(hc:(n<=500000000)/\(Qb l))(K:AV->Prop)(hK:K (iA .i64 0)):QR (Uq n l K):=by
 refine⟨?_⟩;rw[QAI];try simp only[Int.ofNat_eq_natCast,R0,R1,Nat.zero_add,Nat.le_refl,R4,R2,R3]
 exact⟨n,l,rfl,⟨hc.1,hc.2,by omega⟩,hK⟩
def VZ:Ctr:=fun as0=>match as0 with
 | [.x false [.s 6 xs]]=>some fun K=> ∃(n:Nat) (l:List (Rat×Rat)),xs=l.map (QY n)/\((n<=500000000)/\(Qb l))/\(K (iA .i64 0))
 | _=>none
theorem QCQ:CtrOK Tryz.prog QH QG 239 VZ:=by
 refine⟨QK Tryz.func239 (by kernel_rfl),fun l T hT K hK=> ?_⟩;unfold VZ at hT;split at hT
 ·cases hT
  obtain⟨n,l,rfl,hc,hK⟩:=hK;exact QJ Qce QP Tryz.func239 (by kernel_rfl) (by kernel_rfl) (by rfl) (QPh _ _ hc K hK)
 ·cases hT
def Qcf:List (Nat×Ctr):=(239,VZ)::Qcd
noncomputable def Qgf:QU:=mkT Qcf M79 X4
theorem Qcg:CtrsOK Tryz.prog QH QG Qcf:= .cons QCQ QS7
theorem Qch:QM Tryz.prog QH QG Qgf:=Qc Qcg Q6 Qk
def QPi:OT:=fun _=>([],[])
def Gi (n:Int)(d:Int)(K:AV->Prop):Prop:=QX Qgf QPi noL Tryz.f150 [iA .i64 n,iA .i64 d] K
theorem QCR (n:Int)(d:Int)(K:AV->Prop):Gi n d K=((-9223372036854775808<=n/\n<9223372036854775808)/\(-9223372036854775808<=d/\d<9223372036854775808)/\128<=4294967296/\((↑d:Rat)≠OfNat.ofNat 0->K (AV.t [(true,[Ch.r ((↑n:Rat)/(↑d:Rat)) 128]),(false,[Ch.v (Value.int IntKind.i64 0)])]))/\((↑d:Rat)=OfNat.ofNat 0->K (AV.t [(true,[Ch.v (Value.bool false),Ch.v (Value.string (ByteArray.mk (Array.mk []))),Ch.v (Value.string (ByteArray.mk (Array.mk [])))]),(false,[Ch.v (Value.int IntKind.i64 12)])]))):=by kernel_rfl
theorem QS8 (n:Int)(d:Int)(hc:(-9223372036854775808<=n/\n<9223372036854775808)/\(0<d/\d<9223372036854775808))(K:AV->Prop)(hK:K (.t [(true,[.r ((n:Rat)/(d:Rat)) 128]),(false,[.v (.int .i64 0)])])):QR (Gi n d K):=by
 refine⟨?_⟩;rw[QCR];try simp only[Int.ofNat_eq_natCast,R0,R1,Nat.zero_add,Nat.le_refl,R4,R2,R3]
 exact⟨by omega,by omega,by omega,fun _=>hK,fun h=>absurd (Rat.intCast_eq_zero_iff.1 h) (by omega)⟩
def Ur:Ctr:=fun as0=>match as0 with
 | [.x false [.v (.int .i64 n)],.x false [.v (.int .i64 d)]]=>some fun K=>((-9223372036854775808<=n/\n<9223372036854775808)/\(0<d/\d<9223372036854775808))/\(K (.t [(true,[.r ((n:Rat)/(d:Rat)) 128]),(false,[.v (.int .i64 0)])]))
 | _=>none
theorem QPj:CtrOK Tryz.prog QH QG 150 Ur:=by
 refine⟨QK Tryz.func150 (by kernel_rfl),fun l T hT K hK=> ?_⟩;unfold Ur at hT;split at hT
 ·cases hT
  obtain⟨hc,hK⟩:=hK;exact QJ Qch QP Tryz.func150 (by kernel_rfl) (by kernel_rfl) (by rfl) (QS8 _ _ hc K hK)
 ·cases hT
def QiB:List (Nat×Ctr):=(150,Ur)::Qcf
def QiC:List (Nat×Ctr):=QiB
def QiD:List (Nat×Ctr):=QiC
noncomputable def QiW:QU:=mkT QiD M79 X4
end Go.Proofs
