/- RoamBack: its row and its card. -/
import Derived.Test.YtglebancgilfdaaDoorTz
import Derived.Test.YtglebancgilfdaaDoorRB
/- RoamBack: its row and its card. -/
namespace Go.Proofs.YtglebancgilfdaaDoor
open Go Go.Eng Go.ChangeShapes Go.WideShapes Go.ChangeAt Go.WideElems Go.RowKit
set_option maxRecDepth 100000 in
theorem roamBack_lifted (os : Os) (started : os.Started) (H : Type) (enc : TypeId × Value → H) :
  ReturnsInHanded {} Tryd.checked os 6 .any (fun w args => (Rows.roamBackSpec.pre enc Tryd.prog Tryd.f6 [] false w args ∧ laidMetH Tryd.prog laidD w) ∧ sizedMet enc Tryd.prog Tryd.f6 (OpenSpec.ofChange Rows.roamBackSpec) false w args)
   (Rows.roamBackSpec.post enc Tryd.prog Tryd.f6 false true false false) := by
 refine returnsInHanded_of_change_and (C := Tryd.checked) (X := fun w _ => laidMetH Tryd.prog laidD w) (fun _ _ _ hh h => h.of_heap hh) own started (by kernel_rfl) Tryd.func6
  (ChangeSpec.witness_shaped (enc := enc) (C := Tryd.checked) (os := os) (X := fun w _ => laidMetH Tryd.prog laidD w) false (World.doorLaid Tryd.prog 400 os) #[.slice none 0 0, .int .i64 0, .int .i64 0] 8 rfl (World.shaped_of_RefB (by kernel_rfl) (by kernel_rfl)) (by kernel_rfl) (by kernel_rfl) (by kernel_rfl) (door_met os _)) ?_
 intro W base args ds gs before hval hW _ _ hL _
 refine law_post (ks := [false, true, true]) (tB := 4) intT Tryd.underlying4 laidOut readI readL (by kernel_rfl) (by kernel_rfl) rfl (fun ds hd => ?_) (fun l ha hb => ?_) (tab_met hL) hval hW
 ·match ds, hd with
  | [_, _, _], _ => rfl
 ·match l, ha, hb with
  | [.ints x0, .int x1, .int x2], _, hb => exact spec_back x0 x1 x2 (show _ from (hb (.ints x0) (by simp)).1)
theorem roamBack_row : Rows.RoamBackSaid :=
 OpenClaim.holds_of_wide 6 Tryd.f6 rfl rfl rfl rfl rfl rfl rfl ⟨rfl, rfl, rfl, rfl, rfl⟩ rfl rfl rfl rfl rfl (by kernel_rfl) Tryd.func6 (by kernel_rfl)
  (of_decide_eq_true (by kernel_rfl)) (by unfold Func.isWrapper; first | (rw [if_pos (by decide +kernel)]; kernel_rfl) | (rw [if_neg (by decide +kernel)]; exact ⟨rfl, rfl⟩))
  (fun os started H enc _ => roamBack_lifted os started H enc)
theorem roamBack_holds : Rows.RoamBackCardSaid :=
 Claim7.holds_tied_plain_at .later [] [.data] true (true, "d125a4fa7c85b26fbb45c178b4092fa1081acb02bbdb775fcae08f31ecc51209") false
  roamBack_row (fun _ h => by cases h) (by kernel_rfl) (fun _ h => by cases h) roamBack_row_tie rfl ⟨rfl, rfl⟩ (by kernel_rfl) rfl
  (fun f fn hf hfn => by
   obtain rfl : f = 6 := Option.some.inj ((show Tryd.prog.funcNamed "gantry/gantkeep3.RoamBack" = some 6 by kernel_rfl).symm.trans hf) |>.symm
   obtain rfl : fn = Tryd.f6 := (Option.some.inj (Tryd.func6.symm.trans hfn)).symm
   exact ⟨by kernel_rfl, fun j t ht => by
    rw [Tryd.params6] at ht
    have hm : t ∈ [22, 3, 3] := by simpa using Array.mem_of_getElem? ht
    have hall : ([22, 3, 3].all fun u => !Tryd.prog.wantsStandIn u) = true := by kernel_rfl
    exact (show Tryd.prog.wantsStandIn t = false by simpa using List.all_eq_true.1 hall t hm)⟩)
  (by kernel_rfl)
#print axioms roamBack_holds
end Go.Proofs.YtglebancgilfdaaDoor
