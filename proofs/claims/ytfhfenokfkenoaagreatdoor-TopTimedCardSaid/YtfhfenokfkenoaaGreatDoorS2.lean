/- Ways: leaving out what lies between changes no length, and nothing more the second time. -/
import Derived.Test.YtfhfenokfkenoaaGreatDoorS1
namespace Go.Proofs
open Go Go.Eng
end Go.Proofs
namespace Go.Proofs
open Go Go.Eng
def QXQ:LC:=QU1
theorem QU3:QG QXQ:=QU2
def QXR:LC:=QXQ
theorem QU4:QG QXR:=QU3
def QU5:LC:=QXR
noncomputable def QYw:Qa:=mkT QU5 M99 X4
theorem QU6:QG QU5:=QU4
end Go.Proofs
