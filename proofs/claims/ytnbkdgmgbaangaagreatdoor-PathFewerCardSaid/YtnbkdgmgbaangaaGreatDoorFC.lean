/- reaches; plain laws of frames. -/
import Derived.Test.YtnbkdgmgbaangaaGreatDoorF1
namespace Go.Proofs
open Go Go.Eng
def L95:List (Nat×Ctr):=L94
noncomputable def T95:QU:=mkT L95 M79 X4
theorem Qad:CtrsOK Tryz.prog QH QG L95:=QgN
theorem QgO (b:FrV):QAL b 0 0=b.x:=by unfold QAL;grind
theorem QgP (b:FrV):QAM b 0 0=b.y:=by unfold QAM;grind
theorem cs1 (h:Bool)(t:Rat):Xr h t*Xr h t+Q4 h t*Q4 h t=1:=by
 unfold Xr Q4;cases h with
 | true=>simp only[R7];grind
 | false=>
  simp only[R8];have:=sq1 t;grind
end Go.Proofs
