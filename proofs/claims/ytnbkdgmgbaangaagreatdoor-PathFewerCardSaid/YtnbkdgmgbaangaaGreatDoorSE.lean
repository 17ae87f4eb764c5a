/- Placed shapes: List, Place, Convex, Area, Around. -/
import Derived.Test.YtnbkdgmgbaangaaGreatDoorFA
namespace Go.Proofs
open Go Go.Eng
def shN (n:Nat)(l:List (List (Rat×Rat))):List (List Ch):=l.map fun s=>[Ch.s 6 (s.map (QY n))]
structure X5 where
 x1:Rat
 y1:Rat
 x2:Rat
 y2:Rat
def KV (b:X5)(v:Rat×Rat):X5:=⟨XF b.x1 v.1,XF b.y1 v.2,XJ b.x2 v.1,XJ b.y2 v.2⟩
def bxN (n:Nat)(b:X5):List Ch:=[.r b.x1 n,.r b.y1 n,.r b.x2 n,.r b.y2 n]
theorem QS0 {n:Nat}{ps:List (List (Rat×Rat))}{i:Nat}{s:List (Rat×Rat)}(h:ps[i]? =some s):ldE (shN n ps) i 0 1=some [.s 6 (s.map (QY n))]:=by
 simp only[ldE,shN,List.getElem?_map,h];rfl
theorem Ur {α:Type}{l:List α}{i:Nat}{d a:α}(h:l[i]? =some a):l.getD i d=a:=by
 rw[List.getD_eq_getElem?_getD,h];rfl
def Qaf:List (Nat×Ctr):=QcZ
theorem QX5:CtrsOK Tryz.prog QH QG Qaf:=Qca
def Qgc:List (Nat×Ctr):=Qaf
theorem Qcb:CtrsOK Tryz.prog QH QG Qgc:=QX5
def Qcc:List (Nat×Ctr):=Qgc
noncomputable def Qgd:QU:=mkT Qcc M79 X4
theorem QS1:CtrsOK Tryz.prog QH QG Qcc:=Qcb
theorem Qcd:QM Tryz.prog QH QG Qgd:=Qc QS1 Q7 Ql
def QMB:OT:=fun _=>([],[])
def Us (n:Nat)(l:List (Rat×Rat))(K:AV->Prop):Prop:=QX Qgd QMB noL Tryz.f239 [sVv n l] K
theorem QAN (n:Nat)(l:List (Rat×Rat))(K:AV->Prop):Us n l K=(∃(n_1:Nat)(l_1:List (Rat×Rat)),List.map (QY n) l=List.map (QY n_1) l_1/\(n_1<=500000000/\QZ l_1/\(8:Int)<=64)/\K (AV.x false [Ch.v (Value.int IntKind.i64 0)])):=by kernel_rfl
theorem QPb (n:Nat)(l:List (Rat×Rat))(hc:(n<=500000000)/\(QZ l))(K:AV->Prop)(hK:K (iA .i64 0)):QR (Us n l K):=by
 refine⟨?_⟩;rw[QAN];try simp only[Int.ofNat_eq_natCast,R0,R1,Nat.zero_add,Nat.le_refl,R4,R2,R3]
 exact⟨n,l,rfl,⟨hc.1,hc.2,by omega⟩,hK⟩
def Vb:Ctr:=fun as0=>match as0 with
 | [.x false [.s 6 xs]]=>some fun K=> ∃(n:Nat) (l:List (Rat×Rat)),xs=l.map (QY n)/\((n<=500000000)/\(QZ l))/\(K (iA .i64 0))
 | _=>none
theorem QCW:CtrOK Tryz.prog QH QG 239 Vb:=by
 refine⟨QK Tryz.func239 (by kernel_rfl),fun l T hT K hK=> ?_⟩;unfold Vb at hT;split at hT
 ·cases hT
  obtain⟨n,l,rfl,hc,hK⟩:=hK;exact QJ Qcd QP Tryz.func239 (by kernel_rfl) (by kernel_rfl) (by rfl) (QPb _ _ hc K hK)
 ·cases hT
def Qce:List (Nat×Ctr):=(239,Vb)::Qcc
noncomputable def Qge:QU:=mkT Qce M79 X4
theorem Qcf:CtrsOK Tryz.prog QH QG Qce:= .cons QCW QS1
theorem Qcg:QM Tryz.prog QH QG Qge:=Qc Qcf Q7 Ql
def QPc:OT:=fun _=>([],[])
def Gm (n:Int)(d:Int)(K:AV->Prop):Prop:=QX Qge QPc noL Tryz.f150 [iA .i64 n,iA .i64 d] K
theorem QCX (n:Int)(d:Int)(K:AV->Prop):Gm n d K=((-9223372036854775808<=n/\n<9223372036854775808)/\(-9223372036854775808<=d/\d<9223372036854775808)/\128<=4294967296/\((↑d:Rat)≠OfNat.ofNat 0->K (AV.t [(true,[Ch.r ((↑n:Rat)/(↑d:Rat)) 128]),(false,[Ch.v (Value.int IntKind.i64 0)])]))/\((↑d:Rat)=OfNat.ofNat 0->K (AV.t [(true,[Ch.v (Value.bool false),Ch.v (Value.string (ByteArray.mk (Array.mk []))),Ch.v (Value.string (ByteArray.mk (Array.mk [])))]),(false,[Ch.v (Value.int IntKind.i64 12)])]))):=by kernel_rfl
theorem QS2 (n:Int)(d:Int)(hc:(-9223372036854775808<=n/\n<9223372036854775808)/\(0<d/\d<9223372036854775808))(K:AV->Prop)(hK:K (.t [(true,[.r ((n:Rat)/(d:Rat)) 128]),(false,[.v (.int .i64 0)])])):QR (Gm n d K):=by
 refine⟨?_⟩;rw[QCX];try simp only[Int.ofNat_eq_natCast,R0,R1,Nat.zero_add,Nat.le_refl,R4,R2,R3]
 exact⟨by omega,by omega,by omega,fun _=>hK,fun h=>absurd (Rat.intCast_eq_zero_iff.1 h) (by omega)⟩
def Ut:Ctr:=fun as0=>match as0 with
 | [.x false [.v (.int .i64 n)],.x false [.v (.int .i64 d)]]=>some fun K=>((-9223372036854775808<=n/\n<9223372036854775808)/\(0<d/\d<9223372036854775808))/\(K (.t [(true,[.r ((n:Rat)/(d:Rat)) 128]),(false,[.v (.int .i64 0)])]))
 | _=>none
theorem QPd:CtrOK Tryz.prog QH QG 150 Ut:=by
 refine⟨QK Tryz.func150 (by kernel_rfl),fun l T hT K hK=> ?_⟩;unfold Ut at hT;split at hT
 ·cases hT
  obtain⟨hc,hK⟩:=hK;exact QJ Qcg QP Tryz.func150 (by kernel_rfl) (by kernel_rfl) (by rfl) (QS2 _ _ hc K hK)
 ·cases hT
def QiA:List (Nat×Ctr):=(150,Ut)::Qce
def QiB:List (Nat×Ctr):=QiA
def QiC:List (Nat×Ctr):=QiB
noncomputable def QiV:QU:=mkT QiC M79 X4
end Go.Proofs
