/- PathFree: its row and its card. -/
import Derived.Test.YtfhfenokfkenoaaGreatDoorTz
import Derived.Test.YtfhfenokfkenoaaGreatDoorPH6
/- PathFree: its row and its card. -/
namespace Go.Proofs.YtfhfenokfkenoaaGreatDoor
open Go Go.Eng Go.ChangeShapes Go.WideShapes Go.ChangeAt Go.WideElems Go.RowKit
set_option maxRecDepth 100000 in
theorem pathFree_lifted (os : Os) (started : os.Started) (H : Type) (enc : TypeId × Value → H) :
  ReturnsInHanded {} Tryz.checked os 7 .any (fun w args => (Rows.pathFreeSpec.pre enc Tryz.prog Tryz.f7 [] false w args ∧ laidMetH Tryz.prog QGR w) ∧ sizedMet enc Tryz.prog Tryz.f7 (OpenSpec.ofChange Rows.pathFreeSpec) false w args)
   (Rows.pathFreeSpec.post enc Tryz.prog Tryz.f7 false true false false) := by
 refine returnsInHanded_of_change_and (C := Tryz.checked) (X := fun w _ => laidMetH Tryz.prog QGR w) (fun _ _ _ hh h => h.of_heap hh) own started (by kernel_rfl) Tryz.func7
  (ChangeSpec.witness_shaped (enc := enc) (C := Tryz.checked) (os := os) (X := fun w _ => laidMetH Tryz.prog QGR w) false (World.doorLaid Tryz.prog 400 os) #[.slice none 0 0, .slice none 0 0, .slice none 0 0, .slice none 0 0, .int .i64 0] 8 rfl (World.shaped_of_RefB (by kernel_rfl) (by kernel_rfl)) (by kernel_rfl) (by kernel_rfl) (by kernel_rfl) (QO9 os _)) ?_
 intro W base args ds gs before hval hW _ _ hL _
 refine QO8 (ks := [false, false, false, false, true]) (tB := 4) Qbb Tryz.underlying4 QTx QaL QaM (by kernel_rfl) (by kernel_rfl) rfl (fun ds hd => ?_) (fun l ha hb => ?_) (QTy hL) hval hW
 ·match ds, hd with
  | [_, _, _, _, _], _ => rfl
 ·match l, ha, hb with
  | [.ints x0, .ints x1, .ints x2, .ints x3, .int x4], _, hb => exact QJk x0 x1 x2 x3 x4 (show _ from (hb (.ints x0) (by simp)).1) (show _ from (hb (.ints x1) (by simp)).1) (show _ from (hb (.ints x2) (by simp)).1) (show _ from (hb (.ints x3) (by simp)).1)
theorem pathFree_row : Rows.PathFreeSaid :=
 OpenClaim.holds_of_wide 7 Tryz.f7 rfl rfl rfl rfl rfl rfl rfl ⟨rfl, rfl, rfl, rfl, rfl⟩ rfl rfl rfl rfl rfl (by kernel_rfl) Tryz.func7 (by kernel_rfl)
  (R5 (by kernel_rfl)) (by unfold Func.isWrapper; first | (rw [if_pos (by decide +kernel)]; kernel_rfl) | (rw [if_neg (by decide +kernel)]; exact ⟨rfl, rfl⟩))
  (fun os started H enc _ => pathFree_lifted os started H enc)
theorem pathFree_holds : Rows.PathFreeCardSaid :=
 Claim7.holds_tied_plain_at .later [] [.data] true (true, "aa3d4cece5758a1b3f3fda73f432c7faaf2c7c5be07884b2ef04a33733b039bf") false
  pathFree_row (fun _ h => by cases h) (by kernel_rfl) (fun _ h => by cases h) pathFree_row_tie rfl ⟨rfl, rfl⟩ (by kernel_rfl) rfl
  (fun f fn hf hfn => by
   obtain rfl : f = 7 := Option.some.inj ((show Tryz.prog.funcNamed "gantry/gantkeep3.PathFree" = some 7 by kernel_rfl).symm.trans hf) |>.symm
   obtain rfl : fn = Tryz.f7 := (Option.some.inj (Tryz.func7.symm.trans hfn)).symm
   exact ⟨by kernel_rfl, fun j t ht => by
    rw [Tryz.params7] at ht
    have hm : t ∈ [22, 22, 22, 22, 3] := by simpa using Array.mem_of_getElem? ht
    have hall : ([22, 22, 22, 22, 3].all fun u => !Tryz.prog.wantsStandIn u) = true := by kernel_rfl
    exact (show Tryz.prog.wantsStandIn t = false by simpa using List.all_eq_true.1 hall t hm)⟩)
  (by kernel_rfl)
#print axioms pathFree_holds
end Go.Proofs.YtfhfenokfkenoaaGreatDoor
