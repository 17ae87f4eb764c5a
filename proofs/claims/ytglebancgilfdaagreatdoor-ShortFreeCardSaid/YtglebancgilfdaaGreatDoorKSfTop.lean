/- ShortFree: its row and its card. -/
import Derived.Test.YtglebancgilfdaaGreatDoorTz
import Derived.Test.YtglebancgilfdaaGreatDoorSH
/- ShortFree: its row and its card. -/
namespace Go.Proofs.YtglebancgilfdaaGreatDoor
open Go Go.Eng Go.ChangeShapes Go.WideShapes Go.ChangeAt Go.WideElems Go.RowKit
set_option maxRecDepth 100000 in
theorem shortFree_lifted (os : Os) (started : os.Started) (H : Type) (enc : TypeId × Value → H) :
  ReturnsInHanded {} Tryz.checked os 3 .any (fun w args => (Rows.shortFreeSpec.pre enc Tryz.prog Tryz.f3 [] false w args ∧ laidMetH Tryz.prog laidD w) ∧ sizedMet enc Tryz.prog Tryz.f3 (OpenSpec.ofChange Rows.shortFreeSpec) false w args)
   (Rows.shortFreeSpec.post enc Tryz.prog Tryz.f3 false true false false) := by
 refine returnsInHanded_of_change_and (C := Tryz.checked) (X := fun w _ => laidMetH Tryz.prog laidD w) (fun _ _ _ hh h => h.of_heap hh) own started (by kernel_rfl) Tryz.func3
  (ChangeSpec.witness_shaped (enc := enc) (C := Tryz.checked) (os := os) (X := fun w _ => laidMetH Tryz.prog laidD w) false (World.doorLaid Tryz.prog 400 os) #[.slice none 0 0, .slice none 0 0, .slice none 0 0] 8 rfl (World.shaped_of_RefB (by kernel_rfl) (by kernel_rfl)) (by kernel_rfl) (by kernel_rfl) (by kernel_rfl) (door_met os _)) ?_
 intro W base args ds gs before hval hW _ _ hL _
 refine law_post (ks := [false, false, false]) (tB := 4) intT Tryz.underlying4 laidOut readI readL (by kernel_rfl) (by kernel_rfl) rfl (fun ds hd => ?_) (fun l ha hb => ?_) (tab_met hL) hval hW
 ·match ds, hd with
  | [_, _, _], _ => rfl
 ·match l, ha, hb with
  | [.ints x0, .ints x1, .ints x2], _, hb => exact spec_sfree x0 x1 x2 (show _ from (hb (.ints x0) (by simp)).1) (show _ from (hb (.ints x1) (by simp)).1) (show _ from (hb (.ints x2) (by simp)).1)
theorem shortFree_row : Rows.ShortFreeSaid :=
 OpenClaim.holds_of_wide 3 Tryz.f3 rfl rfl rfl rfl rfl rfl rfl ⟨rfl, rfl, rfl, rfl, rfl⟩ rfl rfl rfl rfl rfl (by kernel_rfl) Tryz.func3 (by kernel_rfl)
  (of_decide_eq_true (by kernel_rfl)) (by unfold Func.isWrapper; first | (rw [if_pos (by decide +kernel)]; kernel_rfl) | (rw [if_neg (by decide +kernel)]; exact ⟨rfl, rfl⟩))
  (fun os started H enc _ => shortFree_lifted os started H enc)
theorem shortFree_holds : Rows.ShortFreeCardSaid :=
 Claim7.holds_tied_plain_at .later [] [.data] true (true, "7149b46118198d4c451f8b72d1d67474b0089e38019fb53b3687e2d669830eb4") false
  shortFree_row (fun _ h => by cases h) (by kernel_rfl) (fun _ h => by cases h) shortFree_row_tie rfl ⟨rfl, rfl⟩ (by kernel_rfl) rfl
  (fun f fn hf hfn => by
   obtain rfl : f = 3 := Option.some.inj ((show Tryz.prog.funcNamed "gantry/gantkeep3.ShortFree" = some 3 by kernel_rfl).symm.trans hf) |>.symm
   obtain rfl : fn = Tryz.f3 := (Option.some.inj (Tryz.func3.symm.trans hfn)).symm
   exact ⟨by kernel_rfl, fun j t ht => by
    rw [Tryz.params3] at ht
    have hm : t ∈ [22, 22, 22] := by simpa using Array.mem_of_getElem? ht
    have hall : ([22, 22, 22].all fun u => !Tryz.prog.wantsStandIn u) = true := by kernel_rfl
    exact (show Tryz.prog.wantsStandIn t = false by simpa using List.all_eq_true.1 hall t hm)⟩)
  (by kernel_rfl)
#print axioms shortFree_holds
end Go.Proofs.YtglebancgilfdaaGreatDoor
