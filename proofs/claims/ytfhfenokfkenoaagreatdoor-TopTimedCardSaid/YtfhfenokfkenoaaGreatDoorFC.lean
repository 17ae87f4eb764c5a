/- reaches; plain laws of frames. -/
import Derived.Test.YtfhfenokfkenoaaGreatDoorF1
namespace Go.Proofs
open Go Go.Eng
def L95:LC:=L94
noncomputable def T95:Qa:=mkT L95 M79 X4
theorem QXM:QG L95:=QXL
end Go.Proofs
