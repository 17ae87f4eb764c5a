/- Ways: leaving out what lies between changes no length, and nothing more the second time. -/
import Derived.Test.YtfhfenokfkenoaaGreatDoorS1
namespace Go.Proofs
open Go Go.Eng
end Go.Proofs
namespace Go.Proofs
open Go Go.Eng
def QZU:LC:=QWc
theorem QWe:QF QZU:=QWd
def QZV:LC:=QZU
theorem QWf:QF QZV:=QWe
def QWg:LC:=QZV
noncomputable def QbM:Qb:=mkT QWg M99 X4
theorem QWh:QF QWg:=QWf
end Go.Proofs
