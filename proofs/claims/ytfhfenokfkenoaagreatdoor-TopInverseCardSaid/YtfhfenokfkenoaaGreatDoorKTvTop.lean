/- TopInverse: its row and its card. -/
import Derived.Test.YtfhfenokfkenoaaGreatDoorTz
import Derived.Test.YtfhfenokfkenoaaGreatDoorTw
import Derived.Test.YtfhfenokfkenoaaGreatDoorTI
/- TopInverse: its row and its card. -/
namespace Go.Proofs.YtfhfenokfkenoaaGreatDoor
open Go Go.Eng Go.ChangeShapes Go.WideShapes Go.ChangeAt Go.WideElems Go.RowKit
set_option maxRecDepth 100000 in
theorem topInverse_lifted (os : Os) (started : os.Started) (H : Type) (enc : TypeId × Value → H) :
  ReturnsInHanded {} Tryz.checked os 8 .any (fun w args => (Rows.topInverseSpec.pre enc Tryz.prog Tryz.f8 [] false w args ∧ laidMetH Tryz.prog QGl w) ∧ sizedMet enc Tryz.prog Tryz.f8 (OpenSpec.ofChange Rows.topInverseSpec) false w args)
   (Rows.topInverseSpec.post enc Tryz.prog Tryz.f8 false true false false) := by
 refine returnsInHanded_of_change_and (C := Tryz.checked) (X := fun w _ => laidMetH Tryz.prog QGl w) (fun _ _ _ hh h => h.of_heap hh) own started (by kernel_rfl) Tryz.func8
  (ChangeSpec.witness_shaped (enc := enc) (C := Tryz.checked) (os := os) (X := fun w _ => laidMetH Tryz.prog QGl w) false (World.doorLaid Tryz.prog 400 os) #[.slice none 0 0, .slice none 0 0] 8 rfl (World.shaped_of_RefB (by kernel_rfl) (by kernel_rfl)) (by kernel_rfl) (by kernel_rfl) (by kernel_rfl) (QPS os _)) ?_
 intro W base args ds gs before hval hW _ hwt hL _
 refine QMo (ks := [false, false]) (tB := 4) Qcm (by kernel_rfl) Tryz.underlying4 QT0 QbC QbD (by kernel_rfl) (by kernel_rfl) rfl rfl (fun ds hd => ?_) (fun l ha hb => ?_) (QT1 hL) hval hW hwt
 ·match ds, hd with
  | [_, _], _ => rfl
 ·match l, ha, hb with
  | [.ints x0, .ints x1], _, hb => exact QNT x0 x1 (show _ from (hb (.ints x0) (by simp)).2) (show _ from (hb (.ints x0) (by simp)).1.2) (show _ from (hb (.ints x1) (by simp)).1.1)
theorem topInverse_row : Rows.TopInverseSaid :=
 OpenClaim.holds_of_wide 8 Tryz.f8 rfl rfl rfl rfl rfl rfl rfl ⟨rfl, rfl, rfl, rfl, rfl⟩ rfl rfl rfl rfl rfl (by kernel_rfl) Tryz.func8 (by kernel_rfl)
  (R5 (by kernel_rfl)) (by unfold Func.isWrapper; first | (rw [if_pos (by decide +kernel)]; kernel_rfl) | (rw [if_neg (by decide +kernel)]; exact ⟨rfl, rfl⟩))
  (fun os started H enc _ => topInverse_lifted os started H enc)
theorem topInverse_holds : Rows.TopInverseCardSaid :=
 Claim7.holds_tied_plain_at .later [] [.data] true (true, "aa3d4cece5758a1b3f3fda73f432c7faaf2c7c5be07884b2ef04a33733b039bf") false
  topInverse_row (fun _ h => by cases h) (by kernel_rfl) (fun _ h => by cases h) topInverse_row_tie rfl ⟨rfl, rfl⟩ (by kernel_rfl) rfl
  (fun f fn hf hfn => by
   obtain rfl : f = 8 := Option.some.inj ((show Tryz.prog.funcNamed "gantry/ganttop.TopInverse" = some 8 by kernel_rfl).symm.trans hf) |>.symm
   obtain rfl : fn = Tryz.f8 := (Option.some.inj (Tryz.func8.symm.trans hfn)).symm
   exact ⟨by kernel_rfl, fun j t ht => by
    rw [Tryz.params8] at ht
    have hm : t ∈ [22, 22] := by simpa using Array.mem_of_getElem? ht
    have hall : ([22, 22].all fun u => !Tryz.prog.wantsStandIn u) = true := by kernel_rfl
    exact (show Tryz.prog.wantsStandIn t = false by simpa using List.all_eq_true.1 hall t hm)⟩)
  (by kernel_rfl)
#print axioms topInverse_holds
end Go.Proofs.YtfhfenokfkenoaaGreatDoor
