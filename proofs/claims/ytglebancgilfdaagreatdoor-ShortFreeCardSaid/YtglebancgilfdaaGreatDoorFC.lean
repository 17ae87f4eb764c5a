/- reaches; plain laws of frames. -/
import Derived.Test.YtglebancgilfdaaGreatDoorF1
/- reaches; plain laws of frames. -/
namespace Go.Proofs
open Go Go.Eng
def L95 : List (Nat × Ctr) := L94
def T95 : Tabs := mkT L95 M79 X4
theorem L95ok : CtrsOK Tryz.prog tabG debT L95 := L94ok
theorem put0x (b : FrV) : putX b 0 0 = b.x := by unfold putX; grind
theorem put0y (b : FrV) : putY b 0 0 = b.y := by unfold putY; grind
theorem cs1 (h : Bool) (t : Rat) : cosT h t * cosT h t + sinT h t * sinT h t = 1 := by
 unfold cosT sinT
 cases h with
 | true => simp only [cond_true]; grind
 | false =>
  simp only [cond_false]
  have := sq1 t
  grind
end Go.Proofs
