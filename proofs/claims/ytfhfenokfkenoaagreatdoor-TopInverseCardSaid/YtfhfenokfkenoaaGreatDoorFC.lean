/- reaches; plain laws of frames. -/
import Derived.Test.YtfhfenokfkenoaaGreatDoorF1
namespace Go.Proofs
open Go Go.Eng
def L95:LC:=L94
noncomputable def T95:QZ:=mkT L95 M79 X4
theorem QWe:QG L95:=QbJ
theorem QbK (b:FrV):VM b 0 0=b.x:=by unfold VM;grind
theorem QbL (b:FrV):VN b 0 0=b.y:=by unfold VN;grind
theorem cs1 (h:Bool)(t:Rat):Qn h t*Qn h t+Qa h t*Qa h t=1:=by
 unfold Qn Qa;cases h with
 | true=>simp only[R7];grind
 | false=>
  simp only[R8];have:=sq1 t;grind
end Go.Proofs
