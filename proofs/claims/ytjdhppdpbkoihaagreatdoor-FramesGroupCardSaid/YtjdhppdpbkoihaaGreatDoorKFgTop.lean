/- FramesGroup: its row and its card. -/
import Derived.Test.YtjdhppdpbkoihaaGreatDoorTz
import Derived.Test.YtjdhppdpbkoihaaGreatDoorTw
import Derived.Test.YtjdhppdpbkoihaaGreatDoorFH
/- FramesGroup: its row and its card. -/
namespace Go.Proofs.YtjdhppdpbkoihaaGreatDoor
open Go Go.Eng Go.ChangeShapes Go.WideShapes Go.ChangeAt Go.WideElems Go.RowKit
set_option maxRecDepth 100000 in
theorem framesGroup_lifted (os : Os) (started : os.Started) (H : Type) (enc : TypeId × Value → H) :
  ReturnsInHanded {} Tryz.checked os 3 .any (fun w args => (Rows.framesGroupSpec.pre enc Tryz.prog Tryz.f3 [] false w args ∧ laidMetH Tryz.prog QDW w) ∧ sizedMet enc Tryz.prog Tryz.f3 (OpenSpec.ofChange Rows.framesGroupSpec) false w args)
   (Rows.framesGroupSpec.post enc Tryz.prog Tryz.f3 false true false false) := by
 refine returnsInHanded_of_change_and (C := Tryz.checked) (X := fun w _ => laidMetH Tryz.prog QDW w) (fun _ _ _ hh h => h.of_heap hh) own started (by kernel_rfl) Tryz.func3
  (ChangeSpec.witness_shaped (enc := enc) (C := Tryz.checked) (os := os) (X := fun w _ => laidMetH Tryz.prog QDW w) false (World.doorLaid Tryz.prog 400 os) #[.slice none 0 0, .int .i64 0, .int .i64 0, .int .i64 0] 8 rfl (World.shaped_of_RefB (by kernel_rfl) (by kernel_rfl)) (by kernel_rfl) (by kernel_rfl) (by kernel_rfl) (QKT os _)) ?_
 intro W base args ds gs before hval hW _ hwt hL _
 refine QIH (ks := [false, true, true, true]) (tB := 4) QVB (by kernel_rfl) Tryz.underlying4 QNr QTk QTl (by kernel_rfl) (by kernel_rfl) rfl rfl (fun ds hd => ?_) (fun l ha hb => ?_) (QNs hL) hval hW hwt
 ·match ds, hd with
  | [_, _, _, _], _ => rfl
 ·match l, ha, hb with
  | [.ints x0, .int x1, .int x2, .int x3], _, hb => exact QDq x0 x1 x2 x3 (show _ from (hb (.ints x0) (by simp)).2) (show _ from (hb (.ints x0) (by simp)).1.2) (show _ from (hb (.int x1) (by simp)).1) (show _ from (hb (.int x2) (by simp)).1) (show _ from (hb (.int x3) (by simp)).1)
theorem framesGroup_row : Rows.FramesGroupSaid :=
 OpenClaim.holds_of_wide 3 Tryz.f3 rfl rfl rfl rfl rfl rfl rfl ⟨rfl, rfl, rfl, rfl, rfl⟩ rfl rfl rfl rfl rfl (by kernel_rfl) Tryz.func3 (by kernel_rfl)
  (R5 (by kernel_rfl)) (by unfold Func.isWrapper; first | (rw [if_pos (by decide +kernel)]; kernel_rfl) | (rw [if_neg (by decide +kernel)]; exact ⟨rfl, rfl⟩))
  (fun os started H enc _ => framesGroup_lifted os started H enc)
theorem framesGroup_holds : Rows.FramesGroupCardSaid :=
 Claim7.holds_tied_plain_at .later [] [.data] true (true, "5060fa22539c720d290143786202087af43c6f19e41ccf7116c343835011222c") false
  framesGroup_row (fun _ h => by cases h) (by kernel_rfl) (fun _ h => by cases h) framesGroup_row_tie rfl ⟨rfl, rfl⟩ (by kernel_rfl) rfl
  (fun f fn hf hfn => by
   obtain rfl : f = 3 := Option.some.inj ((show Tryz.prog.funcNamed "gantry/ganttop.FramesGroup" = some 3 by kernel_rfl).symm.trans hf) |>.symm
   obtain rfl : fn = Tryz.f3 := (Option.some.inj (Tryz.func3.symm.trans hfn)).symm
   exact ⟨by kernel_rfl, fun j t ht => by
    rw [Tryz.params3] at ht
    have hm : t ∈ [22, 3, 3, 3] := by simpa using Array.mem_of_getElem? ht
    have hall : ([22, 3, 3, 3].all fun u => !Tryz.prog.wantsStandIn u) = true := by kernel_rfl
    exact (show Tryz.prog.wantsStandIn t = false by simpa using List.all_eq_true.1 hall t hm)⟩)
  (by kernel_rfl)
#print axioms framesGroup_holds
end Go.Proofs.YtjdhppdpbkoihaaGreatDoor
