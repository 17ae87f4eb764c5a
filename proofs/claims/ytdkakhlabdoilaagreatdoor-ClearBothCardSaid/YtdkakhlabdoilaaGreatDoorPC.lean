/- SinSpan, cut, Spread, Boxes, spans, between. -/
import Derived.Test.YtdkakhlabdoilaaGreatDoorPB
/- SinSpan, cut, Spread, Boxes, spans, between. -/
namespace Go.Proofs
open Go Go.Eng
def L147 : List (Nat × Ctr) := L146
theorem L147ok : CtrsOK Tryz.prog tabG debT L147 := L146ok
def L148 : List (Nat × Ctr) := L147
theorem L148ok : CtrsOK Tryz.prog tabG debT L148 := L147ok
def L149 : List (Nat × Ctr) := L148
theorem L149ok : CtrsOK Tryz.prog tabG debT L149 := L148ok
def L150 : List (Nat × Ctr) := L149
theorem L150ok : CtrsOK Tryz.prog tabG debT L150 := L149ok
def L151 : List (Nat × Ctr) := L150
theorem L151ok : CtrsOK Tryz.prog tabG debT L151 := L150ok
def L152 : List (Nat × Ctr) := L151
def T152 : Tabs := mkT L152 M79 X4
theorem L152ok : CtrsOK Tryz.prog tabG debT L152 := L151ok
end Go.Proofs
