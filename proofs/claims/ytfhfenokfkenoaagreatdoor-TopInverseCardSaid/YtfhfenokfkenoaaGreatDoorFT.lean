/- Torques, power. -/
import Derived.Test.YtfhfenokfkenoaaGreatDoorFA
namespace Go.Proofs
open Go Go.Eng
def Qbe:LC:=QUG
def Qcn:LC:=Qbe
def Qco:LC:=Qcn
noncomputable def QdQ:QZ:=mkT Qco M79 X4
end Go.Proofs
