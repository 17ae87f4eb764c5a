/- TopTimed: its row and its card. -/
import Derived.Test.YtfhfenokfkenoaaGreatDoorTz
import Derived.Test.YtfhfenokfkenoaaGreatDoorKD
/- TopTimed: its row and its card. -/
namespace Go.Proofs.YtfhfenokfkenoaaGreatDoor
open Go Go.Eng Go.ChangeShapes Go.WideShapes Go.ChangeAt Go.WideElems Go.RowKit
set_option maxRecDepth 100000 in
theorem topTimed_lifted (os : Os) (started : os.Started) (H : Type) (enc : TypeId × Value → H) :
  ReturnsInHanded {} Tryz.checked os 3 .any (fun w args => (Rows.topTimedSpec.pre enc Tryz.prog Tryz.f3 [] false w args ∧ laidMetH Tryz.prog QFC w) ∧ sizedMet enc Tryz.prog Tryz.f3 (OpenSpec.ofChange Rows.topTimedSpec) false w args)
   (Rows.topTimedSpec.post enc Tryz.prog Tryz.f3 false true false false) := by
 refine returnsInHanded_of_change_and (C := Tryz.checked) (X := fun w _ => laidMetH Tryz.prog QFC w) (fun _ _ _ hh h => h.of_heap hh) own started (by kernel_rfl) Tryz.func3
  (ChangeSpec.witness_shaped (enc := enc) (C := Tryz.checked) (os := os) (X := fun w _ => laidMetH Tryz.prog QFC w) false (World.doorLaid Tryz.prog 400 os) #[.slice none 0 0, .slice none 0 0] 8 rfl (World.shaped_of_RefB (by kernel_rfl) (by kernel_rfl)) (by kernel_rfl) (by kernel_rfl) (by kernel_rfl) (QNL os _)) ?_
 intro W base args ds gs before hval hW _ _ hL _
 refine QNK (ks := [false, false]) (tB := 4) QYW Tryz.underlying4 QQ8 QXD QXE (by kernel_rfl) (by kernel_rfl) rfl (fun ds hd => ?_) (fun l ha hb => ?_) (QQ9 hL) hval hW
 ·match ds, hd with
  | [_, _], _ => rfl
 ·match l, ha, hb with
  | [.ints x0, .ints x1], _, hb => exact QK7 x0 x1 (show _ from (hb (.ints x0) (by simp)).1) (show _ from (hb (.ints x1) (by simp)).1)
theorem topTimed_row : Rows.TopTimedSaid :=
 OpenClaim.holds_of_wide 3 Tryz.f3 rfl rfl rfl rfl rfl rfl rfl ⟨rfl, rfl, rfl, rfl, rfl⟩ rfl rfl rfl rfl rfl (by kernel_rfl) Tryz.func3 (by kernel_rfl)
  (R5 (by kernel_rfl)) (by unfold Func.isWrapper; first | (rw [if_pos (by decide +kernel)]; kernel_rfl) | (rw [if_neg (by decide +kernel)]; exact ⟨rfl, rfl⟩))
  (fun os started H enc _ => topTimed_lifted os started H enc)
theorem topTimed_holds : Rows.TopTimedCardSaid :=
 Claim7.holds_tied_plain_at .later [] [.data] true (true, "aa3d4cece5758a1b3f3fda73f432c7faaf2c7c5be07884b2ef04a33733b039bf") false
  topTimed_row (fun _ h => by cases h) (by kernel_rfl) (fun _ h => by cases h) topTimed_row_tie rfl ⟨rfl, rfl⟩ (by kernel_rfl) rfl
  (fun f fn hf hfn => by
   obtain rfl : f = 3 := Option.some.inj ((show Tryz.prog.funcNamed "gantry/ganttop.TopTimed" = some 3 by kernel_rfl).symm.trans hf) |>.symm
   obtain rfl : fn = Tryz.f3 := (Option.some.inj (Tryz.func3.symm.trans hfn)).symm
   exact ⟨by kernel_rfl, fun j t ht => by
    rw [Tryz.params3] at ht
    have hm : t ∈ [22, 22] := by simpa using Array.mem_of_getElem? ht
    have hall : ([22, 22].all fun u => !Tryz.prog.wantsStandIn u) = true := by kernel_rfl
    exact (show Tryz.prog.wantsStandIn t = false by simpa using List.all_eq_true.1 hall t hm)⟩)
  (by kernel_rfl)
#print axioms topTimed_holds
end Go.Proofs.YtfhfenokfkenoaaGreatDoor
