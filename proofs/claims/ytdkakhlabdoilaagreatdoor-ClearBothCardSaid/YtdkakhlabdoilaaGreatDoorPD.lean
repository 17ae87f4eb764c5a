/- Box, Boxes, within; ForeContains, ForeNarrow. -/
import Derived.Test.YtdkakhlabdoilaaGreatDoorPC
/- Box, Boxes, within; ForeContains, ForeNarrow. -/
namespace Go.Proofs
open Go Go.Eng
def L153 : List (Nat × Ctr) := L152
theorem L153ok : CtrsOK Tryz.prog tabG debT L153 := L152ok
def L154 : List (Nat × Ctr) := L153
theorem L154ok : CtrsOK Tryz.prog tabG debT L154 := L153ok
def L155 : List (Nat × Ctr) := L154
theorem L155ok : CtrsOK Tryz.prog tabG debT L155 := L154ok
def L156 : List (Nat × Ctr) := L155
def T156 : Tabs := mkT L156 M79 X4
theorem L156ok : CtrsOK Tryz.prog tabG debT L156 := L155ok
end Go.Proofs
