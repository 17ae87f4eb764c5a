/- SinSpan, cut, Spread, Boxes, spans, between. -/
import Derived.Test.YtnbkdgmgbaangaaGreatDoorPB
namespace Go.Proofs
open Go Go.Eng
def spN (n:Nat)(s:Sp):List Ch:=[.r s.lo n,.r s.hi n]
theorem QIM {n:Nat}{ts:List Sp}{i:Nat}{t:Sp}(h:ts[i]? =some t):ldE (ts.map (spN n)) i 0 6=some [.r t.lo n,.r t.hi n]:=by
 simp only[ldE,List.getElem?_map,h];rfl
def Qct:List (Nat×Ctr):=QZj
theorem QZl:CtrsOK Tryz.prog QH QG Qct:=QZk
def Qcu:List (Nat×Ctr):=Qct
theorem QZm:CtrsOK Tryz.prog QH QG Qcu:=QZl
def Qcv:List (Nat×Ctr):=Qcu
theorem QZn:CtrsOK Tryz.prog QH QG Qcv:=QZm
def Qcw:List (Nat×Ctr):=Qcv
theorem QZo:CtrsOK Tryz.prog QH QG Qcw:=QZn
def Qcx:List (Nat×Ctr):=Qcw
theorem QZp:CtrsOK Tryz.prog QH QG Qcx:=QZo
def QZq:List (Nat×Ctr):=Qcx
noncomputable def QeF:QU:=mkT QZq M79 X4
theorem QZr:CtrsOK Tryz.prog QH QG QZq:=QZp
end Go.Proofs
