/- Box, Boxes, within; ForeContains, ForeNarrow. -/
import Derived.Test.YtfhfenokfkenoaaGreatDoorPC
namespace Go.Proofs
open Go Go.Eng
def QZ0:LC:=QXS
theorem QXU:QF QZ0:=QXT
def QZ1:LC:=QZ0
theorem QXV:QF QZ1:=QXU
def QZ2:LC:=QZ1
theorem QXW:QF QZ2:=QXV
def QSv:LC:=QZ2
noncomputable def QZ3:Qb:=mkT QSv M79 X4
theorem QIH:QF QSv:=QXW
theorem QXX:XI QZ3:=QS QIH Xe Qm
end Go.Proofs
