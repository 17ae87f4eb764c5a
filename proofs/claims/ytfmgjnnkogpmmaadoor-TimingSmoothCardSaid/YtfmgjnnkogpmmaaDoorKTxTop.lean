/- TimingSmooth: its row and its card. -/
import Derived.Test.YtfmgjnnkogpmmaaDoorTz
import Derived.Test.YtfmgjnnkogpmmaaDoorSMO
/- TimingSmooth: its row and its card. -/
namespace Go.Proofs.YtfmgjnnkogpmmaaDoor
open Go Go.Eng Go.ChangeShapes Go.WideShapes Go.ChangeAt Go.WideElems Go.RowKit
set_option maxRecDepth 100000 in
theorem timingSmooth_lifted (os : Os) (started : os.Started) (H : Type) (enc : TypeId × Value → H) :
  ReturnsInHanded {} Tryd.checked os 5 .any (fun w args => (Rows.timingSmoothSpec.pre enc Tryd.prog Tryd.f5 [] false w args ∧ laidMetH Tryd.prog QDg w) ∧ sizedMet enc Tryd.prog Tryd.f5 (OpenSpec.ofChange Rows.timingSmoothSpec) false w args)
   (Rows.timingSmoothSpec.post enc Tryd.prog Tryd.f5 false true false false) := by
 refine returnsInHanded_of_change_and (C := Tryd.checked) (X := fun w _ => laidMetH Tryd.prog QDg w) (fun _ _ _ hh h => h.of_heap hh) own started (by kernel_rfl) Tryd.func5
  (ChangeSpec.witness_shaped (enc := enc) (C := Tryd.checked) (os := os) (X := fun w _ => laidMetH Tryd.prog QDg w) false (World.doorLaid Tryd.prog 400 os) #[.slice none 0 0, .slice none 0 0, .slice none 0 0, .int .i64 0] 8 rfl (World.shaped_of_RefB (by kernel_rfl) (by kernel_rfl)) (by kernel_rfl) (by kernel_rfl) (by kernel_rfl) (QKm os _)) ?_
 intro W base args ds gs before hval hW _ _ hL _
 refine QKl (ks := [false, false, false, true]) (tB := 4) QRg Tryd.underlying4 QNP QQ9 QRA (by kernel_rfl) (by kernel_rfl) rfl (fun ds hd => ?_) (fun l ha hb => ?_) (QNQ hL) hval hW
 ·match ds, hd with
  | [_, _, _, _], _ => rfl
 ·match l, ha, hb with
  | [.ints x0, .ints x1, .ints x2, .int x3], _, hb => exact QLO x0 x1 x2 x3 (show _ from (hb (.ints x0) (by simp)).1) (show _ from (hb (.ints x1) (by simp)).1) (show _ from (hb (.ints x2) (by simp)).1)
theorem timingSmooth_row : Rows.TimingSmoothSaid :=
 OpenClaim.holds_of_wide 5 Tryd.f5 rfl rfl rfl rfl rfl rfl rfl ⟨rfl, rfl, rfl, rfl, rfl⟩ rfl rfl rfl rfl rfl (by kernel_rfl) Tryd.func5 (by kernel_rfl)
  (R5 (by kernel_rfl)) (by unfold Func.isWrapper; first | (rw [if_pos (by decide +kernel)]; kernel_rfl) | (rw [if_neg (by decide +kernel)]; exact ⟨rfl, rfl⟩))
  (fun os started H enc _ => timingSmooth_lifted os started H enc)
theorem timingSmooth_holds : Rows.TimingSmoothCardSaid :=
 Claim7.holds_tied_plain_at .later [] [.data] true (true, "57a1edc9540510c2c4386685cc28c6cf45604fa52d71edf85b40c3d82f452e0f") false
  timingSmooth_row (fun _ h => by cases h) (by kernel_rfl) (fun _ h => by cases h) timingSmooth_row_tie rfl ⟨rfl, rfl⟩ (by kernel_rfl) rfl
  (fun f fn hf hfn => by
   obtain rfl : f = 5 := Option.some.inj ((show Tryd.prog.funcNamed "gantry/gantkeep3.TimingSmooth" = some 5 by kernel_rfl).symm.trans hf) |>.symm
   obtain rfl : fn = Tryd.f5 := (Option.some.inj (Tryd.func5.symm.trans hfn)).symm
   exact ⟨by kernel_rfl, fun j t ht => by
    rw [Tryd.params5] at ht
    have hm : t ∈ [38, 38, 38, 3] := by simpa using Array.mem_of_getElem? ht
    have hall : ([38, 38, 38, 3].all fun u => !Tryd.prog.wantsStandIn u) = true := by kernel_rfl
    exact (show Tryd.prog.wantsStandIn t = false by simpa using List.all_eq_true.1 hall t hm)⟩)
  (by kernel_rfl)
#print axioms timingSmooth_holds
end Go.Proofs.YtfmgjnnkogpmmaaDoor
