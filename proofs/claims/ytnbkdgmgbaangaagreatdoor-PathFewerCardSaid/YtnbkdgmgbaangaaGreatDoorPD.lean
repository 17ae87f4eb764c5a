/- Box, Boxes, within; ForeContains, ForeNarrow. -/
import Derived.Test.YtnbkdgmgbaangaaGreatDoorPC
namespace Go.Proofs
open Go Go.Eng
def bxL (n:Nat)(l:LoV):List Ch:=[.r l.x.lo n,.r l.y.lo n,.r l.x.hi n,.r l.y.hi n]
def Kg (a:QN)(ls:List LoV)(l:LoV):List (List Ch):=ls.map (loN 240000)++[loN (lb a.links.length) l]
theorem QJx (a:QN)(ls:List LoV)(l:LoV):(Kg a ls l).length=ls.length+1:=by simp[Kg]
theorem QTl {a:QN}{ls:List LoV}{l y:LoV}{i:Nat}(ha:a.links.length<=3)(h:(ls++[l])[i]? =some y): ∃m,m<=240000/\ldE (Kg a ls l) i 0 24=some (loN m y):=by
 have key: ∃m,m<=240000/\(Kg a ls l)[i]? =some (loN m y):=by
  unfold Kg;by_cases hi:i<ls.length
  ·rw[List.getElem?_append_left hi]at h;exact⟨240000,Nat.le_refl _,by rw[List.getElem?_append_left (by simpa using hi),List.getElem?_map,h];rfl⟩
  ·rw[List.getElem?_append_right (by omega)]at h;have:i-ls.length=0:=by
    have:=(List.getElem?_eq_some_iff.1 h).1;simp at this;omega
   rw[this]at h;cases h
   exact⟨lb a.links.length,QdZ ha,by rw[List.getElem?_append_right (by simp;omega),List.length_map,this];rfl⟩
 obtain⟨m,hm,hk⟩:=key;exact⟨m,hm,by simp only[ldE,hk];rfl⟩
def QYY:OT:=fun _=>([],[])
def QFV (l:LoV)(n:Nat)(K:AV->Prop):Prop:=QX Qg8 QYY noL Tryz.f102 [.x true (loN n l)] K
theorem QHW (l:LoV)(n:Nat)(K:AV->Prop):QFV l n K=(K (AV.x true [Ch.r l.x.lo n,Ch.r l.y.lo n,Ch.r l.x.hi n,Ch.r l.y.hi n])):=by kernel_rfl
theorem Qdn (l:LoV)(n:Nat)(hc:True)(K:AV->Prop)(hK:K (.x true (bxL n l))):QR (QFV l n K):=by
 refine⟨?_⟩;rw[QHW];try simp only[Int.ofNat_eq_natCast,R0,R1,Nat.zero_add,Nat.le_refl,R4,R2,R3]
 exact hK
def QMU:Ctr:=fun as0=>match as0 with
 | [.x true xs]=>some fun K=> ∃(l:LoV) (n:Nat),xs=loN n l/\(True)/\(K (.x true (bxL n l)))
 | _=>none
theorem QYZ:CtrOK Tryz.prog QH QG 102 QMU:=by
 refine⟨QK Tryz.func102 (by kernel_rfl),fun l T hT K hK=> ?_⟩;unfold QMU at hT;split at hT
 ·cases hT
  obtain⟨l,n,rfl,hc,hK⟩:=hK;exact QJ Qdm QP Tryz.func102 (by kernel_rfl) (by kernel_rfl) (by rfl) (Qdn _ _ hc K hK)
 ·cases hT
def Qg9:List (Nat×Ctr):=(102,QMU)::Qdl
theorem Qdo:CtrsOK Tryz.prog QH QG Qg9:= .cons QYZ QTk
def QhA:List (Nat×Ctr):=Qg9
theorem Qdp:CtrsOK Tryz.prog QH QG QhA:=Qdo
def QhB:List (Nat×Ctr):=QhA
theorem Qdq:CtrsOK Tryz.prog QH QG QhB:=Qdp
def Qdr:List (Nat×Ctr):=QhB
noncomputable def QiX:QU:=mkT Qdr M79 X4
theorem Qds:CtrsOK Tryz.prog QH QG Qdr:=Qdq
end Go.Proofs
