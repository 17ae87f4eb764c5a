/- Ways: leaving out what lies between changes no length, and nothing more the second time. -/
import Derived.Test.YtfhfenokfkenoaaGreatDoorS1
namespace Go.Proofs
open Go Go.Eng
end Go.Proofs
namespace Go.Proofs
open Go Go.Eng
def QbR:LC:=QYG
theorem QYI:QG QbR:=QYH
def QbS:LC:=QbR
theorem QYJ:QG QbS:=QYI
def QYK:LC:=QbS
noncomputable def QdO:QZ:=mkT QYK M99 X4
theorem QYL:QG QYK:=QYJ
end Go.Proofs
