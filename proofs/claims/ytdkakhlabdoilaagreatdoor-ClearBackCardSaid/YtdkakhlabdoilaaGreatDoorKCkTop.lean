/- ClearBack: its row and its card. -/
import Derived.Test.YtdkakhlabdoilaaGreatDoorTz
import Derived.Test.YtdkakhlabdoilaaGreatDoorCC
/- ClearBack: its row and its card. -/
namespace Go.Proofs.YtdkakhlabdoilaaGreatDoor
open Go Go.Eng Go.ChangeShapes Go.WideShapes Go.ChangeAt Go.WideElems Go.RowKit
set_option maxRecDepth 100000 in
theorem clearBack_lifted (os : Os) (started : os.Started) (H : Type) (enc : TypeId × Value → H) :
  ReturnsInHanded {} Tryz.checked os 6 .any (fun w args => (Rows.clearBackSpec.pre enc Tryz.prog Tryz.f6 [] false w args ∧ laidMetH Tryz.prog laidD w) ∧ sizedMet enc Tryz.prog Tryz.f6 (OpenSpec.ofChange Rows.clearBackSpec) false w args)
   (Rows.clearBackSpec.post enc Tryz.prog Tryz.f6 false true false false) := by
 refine returnsInHanded_of_change_and (C := Tryz.checked) (X := fun w _ => laidMetH Tryz.prog laidD w) (fun _ _ _ hh h => h.of_heap hh) own started (by kernel_rfl) Tryz.func6
  (ChangeSpec.witness_shaped (enc := enc) (C := Tryz.checked) (os := os) (X := fun w _ => laidMetH Tryz.prog laidD w) false (World.doorLaid Tryz.prog 400 os) #[.slice none 0 0, .slice none 0 0, .slice none 0 0, .slice none 0 0, .int .i64 0] 8 rfl (World.shaped_of_RefB (by kernel_rfl) (by kernel_rfl)) (by kernel_rfl) (by kernel_rfl) (by kernel_rfl) (door_met os _)) ?_
 intro W base args ds gs before hval hW _ _ hL _
 refine law_post (ks := [false, false, false, false, true]) (tB := 4) intT Tryz.underlying4 laidOut readI readL (by kernel_rfl) (by kernel_rfl) rfl (fun ds hd => ?_) (fun l ha hb => ?_) (tab_met hL) hval hW
 ·match ds, hd with
  | [_, _, _, _, _], _ => rfl
 ·match l, ha, hb with
  | [.ints x0, .ints x1, .ints x2, .ints x3, .int x4], _, hb => exact spec_cbck x0 x1 x2 x3 x4 (show _ from (hb (.ints x0) (by simp)).1) (show _ from (hb (.ints x1) (by simp)).1) (show _ from (hb (.ints x2) (by simp)).1) (show _ from (hb (.ints x3) (by simp)).1)
theorem clearBack_row : Rows.ClearBackSaid :=
 OpenClaim.holds_of_wide 6 Tryz.f6 rfl rfl rfl rfl rfl rfl rfl ⟨rfl, rfl, rfl, rfl, rfl⟩ rfl rfl rfl rfl rfl (by kernel_rfl) Tryz.func6 (by kernel_rfl)
  (of_decide_eq_true (by kernel_rfl)) (by unfold Func.isWrapper; first | (rw [if_pos (by decide +kernel)]; kernel_rfl) | (rw [if_neg (by decide +kernel)]; exact ⟨rfl, rfl⟩))
  (fun os started H enc _ => clearBack_lifted os started H enc)
theorem clearBack_holds : Rows.ClearBackCardSaid :=
 Claim7.holds_tied_plain_at .later [] [.data] true (true, "55535865e4ea5bb742d81db460dc4ae1ab53261b490465189d11bbd565848af4") false
  clearBack_row (fun _ h => by cases h) (by kernel_rfl) (fun _ h => by cases h) clearBack_row_tie rfl ⟨rfl, rfl⟩ (by kernel_rfl) rfl
  (fun f fn hf hfn => by
   obtain rfl : f = 6 := Option.some.inj ((show Tryz.prog.funcNamed "gantry/gantkeep3.ClearBack" = some 6 by kernel_rfl).symm.trans hf) |>.symm
   obtain rfl : fn = Tryz.f6 := (Option.some.inj (Tryz.func6.symm.trans hfn)).symm
   exact ⟨by kernel_rfl, fun j t ht => by
    rw [Tryz.params6] at ht
    have hm : t ∈ [22, 22, 22, 22, 3] := by simpa using Array.mem_of_getElem? ht
    have hall : ([22, 22, 22, 22, 3].all fun u => !Tryz.prog.wantsStandIn u) = true := by kernel_rfl
    exact (show Tryz.prog.wantsStandIn t = false by simpa using List.all_eq_true.1 hall t hm)⟩)
  (by kernel_rfl)
#print axioms clearBack_holds
end Go.Proofs.YtdkakhlabdoilaaGreatDoor
