/- rat.whole, nat.Int, rat.Floor. -/
import Derived.Test.YtagcmnmbgogljaaDoorA1
/- rat.whole, nat.Int, rat.Floor. -/
namespace Go.Proofs
open Go Go.Eng
def L50f : List (Nat × Ctr) := L49
def L51f : List (Nat × Ctr) := L50f
def L52f : List (Nat × Ctr) := L51f
noncomputable def T52f : Tabs := mkT L52f M48 X4
end Go.Proofs
