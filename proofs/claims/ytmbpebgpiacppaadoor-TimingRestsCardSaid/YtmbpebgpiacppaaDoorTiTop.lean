/- The laws' rows and cards. -/
import Derived.Test.YtmbpebgpiacppaaDoorTo
import Derived.Test.YtmbpebgpiacppaaDoorTi
import Derived.Test.YtmbpebgpiacppaaDoorCards
import Derived.Test.YtmbpebgpiacppaaDoorTie
/- The laws' rows and cards. -/
namespace Go.Proofs.YtmbpebgpiacppaaDoor
open Go Go.Eng Go.ChangeShapes Go.WideShapes Go.ChangeAt Go.WideElems Go.RowKit

theorem own : ownKnob Tryd.prog.godebug = none := by kernel_rfl
theorem laidOut : laidOutB Tryd.prog = true := by kernel_rfl
theorem gTab : Tryd.prog.globalNamed "math/bits.deBruijn64tab" = some 1 := by kernel_rfl
abbrev laidD {H : Type} : List (String × DataW H) := [("math/bits.deBruijn64tab", Rows.laid_math_bits_deBruijn64tab)]
theorem door_met (os : Os) (args : Array Value) : laidMetH Tryd.prog laidD ((World.doorLaid Tryd.prog 400 os).forCall (fun _ _ => 0) ⟨#[], args, []⟩).memory :=
  laidMetH_of_parts3 (fuel := 8) (laidMet_of_run' 8 (by kernel_rfl) (by kernel_rfl)) (by kernel_rfl) (by kernel_rfl)
theorem intT : IntTypes Tryd.prog 3 22 := ⟨Tryd.underlying3, Tryd.underlying22, by kernel_rfl⟩
def debZ : List Int := debL.map Int.ofNat
theorem debZ_tab : (debZ.map fun z => Value.int .u8 z) = debT := by kernel_rfl
theorem tab_met {W : World} (h : laidMetH Tryd.prog laidD W) : Glob W tabG debT := by
  rw [← debZ_tab]
  exact glob_of_laid (n := 64) gTab (t := 176) (by kernel_rfl) (e := 5) (by kernel_rfl) (by kernel_rfl) (by kernel_rfl) (by kernel_rfl) (by kernel_rfl) h
theorem readI : Tryd.prog.readableRec 3 = true ∧ 3 < Tryd.prog.types.size := ⟨by kernel_rfl, of_decide_eq_true (by kernel_rfl)⟩
theorem readL : Tryd.prog.readableRec 22 = true ∧ 22 < Tryd.prog.types.size := ⟨by kernel_rfl, of_decide_eq_true (by kernel_rfl)⟩

set_option maxRecDepth 100000 in
theorem rests_lifted (os : Os) (started : os.Started) (H : Type) (enc : TypeId × Value → H) :
    ReturnsInHanded {} Tryd.checked os 4 .any (fun w args => (Rows.timingRestsSpec.pre enc Tryd.prog Tryd.f4 [] false w args ∧ laidMetH Tryd.prog laidD w) ∧ sizedMet enc Tryd.prog Tryd.f4 (OpenSpec.ofChange Rows.timingRestsSpec) false w args)
      (Rows.timingRestsSpec.post enc Tryd.prog Tryd.f4 false true false false) := by
  refine returnsInHanded_of_change_and (C := Tryd.checked) (X := fun w _ => laidMetH Tryd.prog laidD w) (fun _ _ _ hh h => h.of_heap hh) own started (by kernel_rfl) Tryd.func4
    (ChangeSpec.witness_shaped (enc := enc) (C := Tryd.checked) (os := os) (X := fun w _ => laidMetH Tryd.prog laidD w) false (World.doorLaid Tryd.prog 400 os) #[.int .i64 0, .int .i64 0, .int .i64 0, .int .i64 0] 8 rfl (World.shaped_of_RefB (by kernel_rfl) (by kernel_rfl)) (by kernel_rfl) (by kernel_rfl) (by kernel_rfl) (door_met os _)) ?_
  intro W base args ds gs before hval hW _ _ hL _
  refine law_post (ks := [true, true, true, true]) (tB := 4) intT Tryd.underlying4 laidOut readI readL (by kernel_rfl) (by kernel_rfl) rfl (fun ds hd => ?_) (fun l ha _ => ?_) (tab_met hL) hval hW
  · match ds, hd with
    | [_, _, _, _], _ => rfl
  · match l, ha with
    | [.int x, .int y, .int z, .int t], _ => exact spec_rests x y z t
theorem rests_row : Rows.TimingRestsSaid :=
  OpenClaim.holds_of_wide 4 Tryd.f4 rfl rfl rfl rfl rfl rfl rfl ⟨rfl, rfl, rfl, rfl, rfl⟩ rfl rfl rfl rfl rfl (by kernel_rfl) Tryd.func4 (by kernel_rfl)
    (of_decide_eq_true (by kernel_rfl)) (by unfold Func.isWrapper; first | (rw [if_pos (by decide +kernel)]; kernel_rfl) | (rw [if_neg (by decide +kernel)]; exact ⟨rfl, rfl⟩))
    (fun os started H enc _ => rests_lifted os started H enc)
theorem rests_holds : Rows.TimingRestsCardSaid :=
  Claim7.holds_tied_plain_at .later [] [.data] true (true, "8060fc44d956318feb80bdaaf55e392457289c0ddd97d4100298f6790fbeee8e") false
    rests_row (fun _ h => by cases h) (by kernel_rfl) (fun _ h => by cases h) timingRests_row_tie rfl ⟨rfl, rfl⟩ (by kernel_rfl) rfl
    (fun f fn hf hfn => by
      obtain rfl : f = 4 := Option.some.inj ((show Tryd.prog.funcNamed "gantry/gantkeep3.TimingRests" = some 4 by kernel_rfl).symm.trans hf) |>.symm
      obtain rfl : fn = Tryd.f4 := (Option.some.inj (Tryd.func4.symm.trans hfn)).symm
      exact ⟨by kernel_rfl, fun j t ht => by
        rw [Tryd.params4] at ht
        have hm : t ∈ [3, 3, 3, 3] := by simpa using Array.mem_of_getElem? ht
        have hall : ([3, 3, 3, 3].all fun u => !Tryd.prog.wantsStandIn u) = true := by kernel_rfl
        exact (show Tryd.prog.wantsStandIn t = false by simpa using List.all_eq_true.1 hall t hm)⟩)
    (by kernel_rfl)
#print axioms rests_holds
end Go.Proofs.YtmbpebgpiacppaaDoor
