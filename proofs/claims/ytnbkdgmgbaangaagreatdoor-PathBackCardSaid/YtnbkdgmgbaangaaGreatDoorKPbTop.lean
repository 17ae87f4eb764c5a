/- PathBack: its row and its card. -/
import Derived.Test.YtnbkdgmgbaangaaGreatDoorTz
import Derived.Test.YtnbkdgmgbaangaaGreatDoorPH5
/- PathBack: its row and its card. -/
namespace Go.Proofs.YtnbkdgmgbaangaaGreatDoor
open Go Go.Eng Go.ChangeShapes Go.WideShapes Go.ChangeAt Go.WideElems Go.RowKit
set_option maxRecDepth 100000 in
theorem pathBack_lifted (os : Os) (started : os.Started) (H : Type) (enc : TypeId × Value → H) :
  ReturnsInHanded {} Tryz.checked os 8 .any (fun w args => (Rows.pathBackSpec.pre enc Tryz.prog Tryz.f8 [] false w args ∧ laidMetH Tryz.prog QJV w) ∧ sizedMet enc Tryz.prog Tryz.f8 (OpenSpec.ofChange Rows.pathBackSpec) false w args)
   (Rows.pathBackSpec.post enc Tryz.prog Tryz.f8 false true false false) := by
 refine returnsInHanded_of_change_and (C := Tryz.checked) (X := fun w _ => laidMetH Tryz.prog QJV w) (fun _ _ _ hh h => h.of_heap hh) own started (by kernel_rfl) Tryz.func8
  (ChangeSpec.witness_shaped (enc := enc) (C := Tryz.checked) (os := os) (X := fun w _ => laidMetH Tryz.prog QJV w) false (World.doorLaid Tryz.prog 400 os) #[.slice none 0 0, .slice none 0 0, .slice none 0 0, .slice none 0 0, .int .i64 0] 8 rfl (World.shaped_of_RefB (by kernel_rfl) (by kernel_rfl)) (by kernel_rfl) (by kernel_rfl) (by kernel_rfl) (QSt os _)) ?_
 intro W base args ds gs before hval hW _ _ hL _
 refine QSs (ks := [false, false, false, false, true]) (tB := 4) Qh3 Tryz.underlying4 QXt Qf2 Qf3 (by kernel_rfl) (by kernel_rfl) rfl (fun ds hd => ?_) (fun l ha hb => ?_) (QXu hL) hval hW
 ·match ds, hd with
  | [_, _, _, _, _], _ => rfl
 ·match l, ha, hb with
  | [.ints x0, .ints x1, .ints x2, .ints x3, .int x4], _, hb => exact QM8 x0 x1 x2 x3 x4 (show _ from (hb (.ints x0) (by simp)).1) (show _ from (hb (.ints x1) (by simp)).1) (show _ from (hb (.ints x2) (by simp)).1) (show _ from (hb (.ints x3) (by simp)).1)
theorem pathBack_row : Rows.PathBackSaid :=
 OpenClaim.holds_of_wide 8 Tryz.f8 rfl rfl rfl rfl rfl rfl rfl ⟨rfl, rfl, rfl, rfl, rfl⟩ rfl rfl rfl rfl rfl (by kernel_rfl) Tryz.func8 (by kernel_rfl)
  (R5 (by kernel_rfl)) (by unfold Func.isWrapper; first | (rw [if_pos (by decide +kernel)]; kernel_rfl) | (rw [if_neg (by decide +kernel)]; exact ⟨rfl, rfl⟩))
  (fun os started H enc _ => pathBack_lifted os started H enc)
theorem pathBack_holds : Rows.PathBackCardSaid :=
 Claim7.holds_tied_plain_at .later [] [.data] true (true, "1be2423f369d394370d183e49f0c4d7ffd3dae3ada67916ad483af8b90ce124d") false
  pathBack_row (fun _ h => by cases h) (by kernel_rfl) (fun _ h => by cases h) pathBack_row_tie rfl ⟨rfl, rfl⟩ (by kernel_rfl) rfl
  (fun f fn hf hfn => by
   obtain rfl : f = 8 := Option.some.inj ((show Tryz.prog.funcNamed "gantry/gantkeep3.PathBack" = some 8 by kernel_rfl).symm.trans hf) |>.symm
   obtain rfl : fn = Tryz.f8 := (Option.some.inj (Tryz.func8.symm.trans hfn)).symm
   exact ⟨by kernel_rfl, fun j t ht => by
    rw [Tryz.params8] at ht
    have hm : t ∈ [22, 22, 22, 22, 3] := by simpa using Array.mem_of_getElem? ht
    have hall : ([22, 22, 22, 22, 3].all fun u => !Tryz.prog.wantsStandIn u) = true := by kernel_rfl
    exact (show Tryz.prog.wantsStandIn t = false by simpa using List.all_eq_true.1 hall t hm)⟩)
  (by kernel_rfl)
#print axioms pathBack_holds
end Go.Proofs.YtnbkdgmgbaangaaGreatDoor
