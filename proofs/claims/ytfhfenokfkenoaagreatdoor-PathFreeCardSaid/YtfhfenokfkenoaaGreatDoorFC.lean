/- reaches; plain laws of frames. -/
import Derived.Test.YtfhfenokfkenoaaGreatDoorF1
namespace Go.Proofs
open Go Go.Eng
def L95:LC:=L94
noncomputable def T95:QZ:=mkT L95 M79 X4
theorem QWC:QG L95:=QaZ
theorem Qaa (b:FrV):Gj b 0 0=b.x:=by unfold Gj;grind
theorem Qab (b:FrV):Gk b 0 0=b.y:=by unfold Gk;grind
theorem cs1 (h:Bool)(t:Rat):Xw h t*Xw h t+Q4 h t*Q4 h t=1:=by
 unfold Xw Q4;cases h with
 | true=>simp only[R7];grind
 | false=>
  simp only[R8];have:=sq1 t;grind
end Go.Proofs
