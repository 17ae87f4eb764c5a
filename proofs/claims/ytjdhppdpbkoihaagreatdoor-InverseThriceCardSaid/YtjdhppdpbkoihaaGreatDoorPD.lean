/- Box, Boxes, within; ForeContains, ForeNarrow. -/
import Derived.Test.YtjdhppdpbkoihaaGreatDoorPC
namespace Go.Proofs
open Go Go.Eng
def QZD:LC:=QWu
theorem QWw:QG QZD:=QWv
def QZE:LC:=QZD
theorem QWx:QG QZE:=QWw
def QZF:LC:=QZE
theorem QWy:QG QZF:=QWx
def QO1:LC:=QZF
noncomputable def QWz:Qc:=mkT QO1 M79 X4
theorem QEW:QG QO1:=QWy
theorem QO2:XP QWz:=QV QEW X0 Qo
end Go.Proofs
