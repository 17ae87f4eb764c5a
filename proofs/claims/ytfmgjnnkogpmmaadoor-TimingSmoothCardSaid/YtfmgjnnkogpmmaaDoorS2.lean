/- Ways: leaving out what lies between changes no length, and nothing more the second time. -/
import Derived.Test.YtfmgjnnkogpmmaaDoorS1
namespace Go.Proofs
open Go Go.Eng
end Go.Proofs
namespace Go.Proofs
open Go Go.Eng
def QRJ:LC:=QPr
theorem QPt:QN QRJ:=QPs
def QRK:LC:=QRJ
theorem QPu:QN QRK:=QPt
def QPv:LC:=QRK
noncomputable def QRl:Qh:=mkT QPv M99 X4
theorem QPw:QN QPv:=QPu
end Go.Proofs
