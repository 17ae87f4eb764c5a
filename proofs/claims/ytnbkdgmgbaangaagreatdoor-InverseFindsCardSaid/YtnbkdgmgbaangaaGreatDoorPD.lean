/- Box, Boxes, within; ForeContains, ForeNarrow. -/
import Derived.Test.YtnbkdgmgbaangaaGreatDoorPC
namespace Go.Proofs
open Go Go.Eng
def Qcy:List (Nat×Ctr):=QZq
theorem QZs:CtrsOK Tryz.prog QH QG Qcy:=QZr
def Qcz:List (Nat×Ctr):=Qcy
theorem QZt:CtrsOK Tryz.prog QH QG Qcz:=QZs
def Qc0:List (Nat×Ctr):=Qcz
theorem QZu:CtrsOK Tryz.prog QH QG Qc0:=QZt
def QU2:List (Nat×Ctr):=Qc0
noncomputable def Qc1:QU:=mkT QU2 M79 X4
theorem QKj:CtrsOK Tryz.prog QH QG QU2:=QZu
theorem QZv:QM Tryz.prog QH QG Qc1:=QY QKj YF Qp
end Go.Proofs
