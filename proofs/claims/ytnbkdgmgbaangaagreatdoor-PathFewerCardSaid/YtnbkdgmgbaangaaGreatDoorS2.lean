/- Ways: leaving out what lies between changes no length, and nothing more the second time. -/
import Derived.Test.YtnbkdgmgbaangaaGreatDoorS1
namespace Go.Proofs
open Go Go.Eng
end Go.Proofs
namespace Go.Proofs
open Go Go.Eng
def Qh7:List (Nat×Ctr):=QgQ
def Qh8:List (Nat×Ctr):=Qh7
def Qh9:List (Nat×Ctr):=Qh8
noncomputable def QiT:QU:=mkT Qh9 M99 X4
end Go.Proofs
