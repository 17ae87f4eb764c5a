/- The sample arm; the length of an arm. -/
import Derived.Test.YtagcmnmbgogljaaDoorA1
/- The sample arm; the length of an arm. -/
namespace Go.Proofs
open Go Go.Eng
def L50 : List (Nat × Ctr) := L49
theorem L50ok : CtrsOK Tryd.prog tabG debT L50 := L49ok
def L51 : List (Nat × Ctr) := L50
theorem L51ok : CtrsOK Tryd.prog tabG debT L51 := L50ok
def L52 : List (Nat × Ctr) := L51
noncomputable def T52 : Tabs := mkT L52 M48 X4
theorem L52ok : CtrsOK Tryd.prog tabG debT L52 := L51ok
theorem T52ok : TabsOK Tryd.prog tabG debT T52 := mkTok L52ok M48ok X4ok
end Go.Proofs
