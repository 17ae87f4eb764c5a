/- Box, Boxes, within; ForeContains, ForeNarrow. -/
import Derived.Test.YtfhfenokfkenoaaGreatDoorPC
namespace Go.Proofs
open Go Go.Eng
def QZ1:LC:=QXU
theorem QXW:QF QZ1:=QXV
def QZ2:LC:=QZ1
theorem QXX:QF QZ2:=QXW
def QZ3:LC:=QZ2
theorem QXY:QF QZ3:=QXX
def QSy:LC:=QZ3
noncomputable def QZ4:Qb:=mkT QSy M79 X4
theorem QIH:QF QSy:=QXY
theorem QXZ:XI QZ4:=QS QIH Xe Qm
end Go.Proofs
