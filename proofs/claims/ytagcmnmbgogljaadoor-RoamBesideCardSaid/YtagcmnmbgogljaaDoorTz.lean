/- What all rows of laws lean on: the table, the types of the arguments. -/
import Derived.Test.YtagcmnmbgogljaaDoorTo
import Derived.Test.YtagcmnmbgogljaaDoorN3
import Derived.Test.YtagcmnmbgogljaaDoorCards
import Derived.Test.YtagcmnmbgogljaaDoorTie
/- What all rows of laws lean on: the table, the types of the arguments. -/
namespace Go.Proofs.YtagcmnmbgogljaaDoor
open Go Go.Eng Go.ChangeShapes Go.WideShapes Go.ChangeAt Go.WideElems Go.RowKit
theorem own : ownKnob Tryd.prog.godebug = none := by kernel_rfl
theorem laidOut : laidOutB Tryd.prog = true := by kernel_rfl
theorem gTab : Tryd.prog.globalNamed "math/bits.deBruijn64tab" = some 1 := by kernel_rfl
abbrev laidD {H : Type} : List (String × DataW H) := [("math/bits.deBruijn64tab", Rows.laid_math_bits_deBruijn64tab)]
theorem door_met (os : Os) (args : Array Value) : laidMetH Tryd.prog laidD ((World.doorLaid Tryd.prog 400 os).forCall (fun _ _ => 0) ⟨#[], args, []⟩).memory :=
 laidMetH_of_parts3 (fuel := 8) (laidMet_of_run' 8 (by kernel_rfl) (by kernel_rfl)) (by kernel_rfl) (by kernel_rfl)
theorem intT : IntTypes Tryd.prog 3 22 := ⟨Tryd.underlying3, Tryd.underlying22, by kernel_rfl⟩
def debZ : List Int := debL.map Int.ofNat
theorem debZ_tab : (debZ.map fun z => Value.int .u8 z) = debT := by kernel_rfl
theorem tab_met {W : World} (h : laidMetH Tryd.prog laidD W) : Glob W tabG debT := by
 rw [← debZ_tab]
 exact glob_of_laid (n := 64) gTab (t := 122) (by kernel_rfl) (e := 5) (by kernel_rfl) (by kernel_rfl) (by kernel_rfl) (by kernel_rfl) (by kernel_rfl) h
theorem readI : Tryd.prog.readableRec 3 = true ∧ 3 < Tryd.prog.types.size := ⟨by kernel_rfl, of_decide_eq_true (by kernel_rfl)⟩
theorem readL : Tryd.prog.readableRec 22 = true ∧ 22 < Tryd.prog.types.size := ⟨by kernel_rfl, of_decide_eq_true (by kernel_rfl)⟩
end Go.Proofs.YtagcmnmbgogljaaDoor
