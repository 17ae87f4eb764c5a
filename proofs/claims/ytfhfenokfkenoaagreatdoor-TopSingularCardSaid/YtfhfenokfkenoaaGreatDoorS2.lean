/- Ways: leaving out what lies between changes no length, and nothing more the second time. -/
import Derived.Test.YtfhfenokfkenoaaGreatDoorS1
namespace Go.Proofs
open Go Go.Eng
end Go.Proofs
namespace Go.Proofs
open Go Go.Eng
def QZT:LC:=QWa
theorem QWc:QF QZT:=QWb
def QZU:LC:=QZT
theorem QWd:QF QZU:=QWc
def QWe:LC:=QZU
noncomputable def QbM:Qb:=mkT QWe M99 X4
theorem QWf:QF QWe:=QWd
end Go.Proofs
