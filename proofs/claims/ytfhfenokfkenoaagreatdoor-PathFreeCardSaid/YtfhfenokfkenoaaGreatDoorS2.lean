/- Ways: leaving out what lies between changes no length, and nothing more the second time. -/
import Derived.Test.YtfhfenokfkenoaaGreatDoorS1
namespace Go.Proofs
open Go Go.Eng
end Go.Proofs
namespace Go.Proofs
open Go Go.Eng
def Qbg:LC:=Qac
def Qbh:LC:=Qbg
def Qbi:LC:=Qbh
noncomputable def Qb2:QZ:=mkT Qbi M99 X4
end Go.Proofs
