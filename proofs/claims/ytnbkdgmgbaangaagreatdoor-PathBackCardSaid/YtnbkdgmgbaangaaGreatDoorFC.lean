/- reaches; plain laws of frames. -/
import Derived.Test.YtnbkdgmgbaangaaGreatDoorF1
namespace Go.Proofs
open Go Go.Eng
def L95:List (Nat×Ctr):=L94
noncomputable def T95:QU:=mkT L95 M79 X4
theorem Qae:CtrsOK Tryz.prog QH QG L95:=QgO
theorem QgP (b:FrV):QAG b 0 0=b.x:=by unfold QAG;grind
theorem QgQ (b:FrV):QAH b 0 0=b.y:=by unfold QAH;grind
theorem cs1 (h:Bool)(t:Rat):Xq h t*Xq h t+Q3 h t*Q3 h t=1:=by
 unfold Xq Q3;cases h with
 | true=>simp only[R7];grind
 | false=>
  simp only[R8];have:=sq1 t;grind
end Go.Proofs
