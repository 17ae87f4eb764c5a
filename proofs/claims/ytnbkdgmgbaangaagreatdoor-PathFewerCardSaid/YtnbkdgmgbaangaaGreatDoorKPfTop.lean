/- PathFewer: its row and its card. -/
import Derived.Test.YtnbkdgmgbaangaaGreatDoorTz
import Derived.Test.YtnbkdgmgbaangaaGreatDoorPH5
/- PathFewer: its row and its card. -/
namespace Go.Proofs.YtnbkdgmgbaangaaGreatDoor
open Go Go.Eng Go.ChangeShapes Go.WideShapes Go.ChangeAt Go.WideElems Go.RowKit
set_option maxRecDepth 100000 in
theorem pathFewer_lifted (os : Os) (started : os.Started) (H : Type) (enc : TypeId × Value → H) :
  ReturnsInHanded {} Tryz.checked os 9 .any (fun w args => (Rows.pathFewerSpec.pre enc Tryz.prog Tryz.f9 [] false w args ∧ laidMetH Tryz.prog QJZ w) ∧ sizedMet enc Tryz.prog Tryz.f9 (OpenSpec.ofChange Rows.pathFewerSpec) false w args)
   (Rows.pathFewerSpec.post enc Tryz.prog Tryz.f9 false true false false) := by
 refine returnsInHanded_of_change_and (C := Tryz.checked) (X := fun w _ => laidMetH Tryz.prog QJZ w) (fun _ _ _ hh h => h.of_heap hh) own started (by kernel_rfl) Tryz.func9
  (ChangeSpec.witness_shaped (enc := enc) (C := Tryz.checked) (os := os) (X := fun w _ => laidMetH Tryz.prog QJZ w) false (World.doorLaid Tryz.prog 400 os) #[.slice none 0 0, .slice none 0 0, .slice none 0 0, .slice none 0 0, .int .i64 0, .int .i64 0] 8 rfl (World.shaped_of_RefB (by kernel_rfl) (by kernel_rfl)) (by kernel_rfl) (by kernel_rfl) (by kernel_rfl) (QSn os _)) ?_
 intro W base args ds gs before hval hW _ _ hL _
 refine QSm (ks := [false, false, false, false, true, true]) (tB := 4) Qh2 Tryz.underlying4 QXp Qf1 Qf2 (by kernel_rfl) (by kernel_rfl) rfl (fun ds hd => ?_) (fun l ha hb => ?_) (QXq hL) hval hW
 ·match ds, hd with
  | [_, _, _, _, _, _], _ => rfl
 ·match l, ha, hb with
  | [.ints x0, .ints x1, .ints x2, .ints x3, .int x4, .int x5], _, hb => exact QKJ x0 x1 x2 x3 x4 x5 (show _ from (hb (.ints x0) (by simp)).1) (show _ from (hb (.ints x1) (by simp)).1) (show _ from (hb (.ints x2) (by simp)).1) (show _ from (hb (.ints x3) (by simp)).1)
theorem pathFewer_row : Rows.PathFewerSaid :=
 OpenClaim.holds_of_wide 9 Tryz.f9 rfl rfl rfl rfl rfl rfl rfl ⟨rfl, rfl, rfl, rfl, rfl⟩ rfl rfl rfl rfl rfl (by kernel_rfl) Tryz.func9 (by kernel_rfl)
  (R5 (by kernel_rfl)) (by unfold Func.isWrapper; first | (rw [if_pos (by decide +kernel)]; kernel_rfl) | (rw [if_neg (by decide +kernel)]; exact ⟨rfl, rfl⟩))
  (fun os started H enc _ => pathFewer_lifted os started H enc)
theorem pathFewer_holds : Rows.PathFewerCardSaid :=
 Claim7.holds_tied_plain_at .later [] [.data] true (true, "1be2423f369d394370d183e49f0c4d7ffd3dae3ada67916ad483af8b90ce124d") false
  pathFewer_row (fun _ h => by cases h) (by kernel_rfl) (fun _ h => by cases h) pathFewer_row_tie rfl ⟨rfl, rfl⟩ (by kernel_rfl) rfl
  (fun f fn hf hfn => by
   obtain rfl : f = 9 := Option.some.inj ((show Tryz.prog.funcNamed "gantry/gantkeep3.PathFewer" = some 9 by kernel_rfl).symm.trans hf) |>.symm
   obtain rfl : fn = Tryz.f9 := (Option.some.inj (Tryz.func9.symm.trans hfn)).symm
   exact ⟨by kernel_rfl, fun j t ht => by
    rw [Tryz.params9] at ht
    have hm : t ∈ [22, 22, 22, 22, 3, 3] := by simpa using Array.mem_of_getElem? ht
    have hall : ([22, 22, 22, 22, 3, 3].all fun u => !Tryz.prog.wantsStandIn u) = true := by kernel_rfl
    exact (show Tryz.prog.wantsStandIn t = false by simpa using List.all_eq_true.1 hall t hm)⟩)
  (by kernel_rfl)
#print axioms pathFewer_holds
end Go.Proofs.YtnbkdgmgbaangaaGreatDoor
