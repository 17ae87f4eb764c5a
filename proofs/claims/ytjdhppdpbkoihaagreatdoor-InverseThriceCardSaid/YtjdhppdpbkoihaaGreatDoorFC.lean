/- reaches; plain laws of frames. -/
import Derived.Test.YtjdhppdpbkoihaaGreatDoorF1
namespace Go.Proofs
open Go Go.Eng
def L95:LC:=L94
noncomputable def T95:Qc:=mkT L95 M79 X4
theorem QYw:QG L95:=QYv
theorem cs1 (h:Bool)(t:Rat):QK h t*QK h t+QO h t*QO h t=1:=by
 unfold QK QO;cases h with
 | true=>simp only[R7];grind
 | false=>
  simp only[R8];have:=sq1 t;grind
theorem QEO (h:Bool)(t:Rat)(g:Bool)(u:Rat):thH h t g u=true->thT h t g u=0:=by
 unfold thH thT UM;cases h<;>cases g<;>simp only[Bool.and_self,Bool.and_false,Bool.and_true,R7,R8]<;>intro e<;>first | (rw[e];rfl) | cases e
end Go.Proofs
