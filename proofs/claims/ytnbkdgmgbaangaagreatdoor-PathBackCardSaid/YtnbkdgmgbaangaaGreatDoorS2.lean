/- Ways: leaving out what lies between changes no length, and nothing more the second time. -/
import Derived.Test.YtnbkdgmgbaangaaGreatDoorS1
namespace Go.Proofs
open Go Go.Eng
end Go.Proofs
namespace Go.Proofs
open Go Go.Eng
def Qh8:List (Nat×Ctr):=QgR
def Qh9:List (Nat×Ctr):=Qh8
def QiA:List (Nat×Ctr):=Qh9
noncomputable def QiU:QU:=mkT QiA M99 X4
end Go.Proofs
