/- InverseFinds: its row and its card. -/
import Derived.Test.YtnbkdgmgbaangaaGreatDoorTz
import Derived.Test.YtnbkdgmgbaangaaGreatDoorTw
import Derived.Test.YtnbkdgmgbaangaaGreatDoorIH
/- InverseFinds: its row and its card. -/
namespace Go.Proofs.YtnbkdgmgbaangaaGreatDoor
open Go Go.Eng Go.ChangeShapes Go.WideShapes Go.ChangeAt Go.WideElems Go.RowKit
set_option maxRecDepth 100000 in
theorem inverseFinds_lifted (os : Os) (started : os.Started) (H : Type) (enc : TypeId × Value → H) :
  ReturnsInHanded {} Tryz.checked os 5 .any (fun w args => (Rows.inverseFindsSpec.pre enc Tryz.prog Tryz.f5 [] false w args ∧ laidMetH Tryz.prog QIE w) ∧ sizedMet enc Tryz.prog Tryz.f5 (OpenSpec.ofChange Rows.inverseFindsSpec) false w args)
   (Rows.inverseFindsSpec.post enc Tryz.prog Tryz.f5 false true false false) := by
 refine returnsInHanded_of_change_and (C := Tryz.checked) (X := fun w _ => laidMetH Tryz.prog QIE w) (fun _ _ _ hh h => h.of_heap hh) own started (by kernel_rfl) Tryz.func5
  (ChangeSpec.witness_shaped (enc := enc) (C := Tryz.checked) (os := os) (X := fun w _ => laidMetH Tryz.prog QIE w) false (World.doorLaid Tryz.prog 400 os) #[.slice none 0 0, .slice none 0 0] 8 rfl (World.shaped_of_RefB (by kernel_rfl) (by kernel_rfl)) (by kernel_rfl) (by kernel_rfl) (by kernel_rfl) (QQU os _)) ?_
 intro W base args ds gs before hval hW _ hwt hL _
 refine QNs (ks := [false, false]) (tB := 4) Qdu (by kernel_rfl) Tryz.underlying4 QUa QcA QcB (by kernel_rfl) (by kernel_rfl) rfl rfl (fun ds hd => ?_) (fun l ha hb => ?_) (QUb hL) hval hW hwt
 ·match ds, hd with
  | [_, _], _ => rfl
 ·match l, ha, hb with
  | [.ints x0, .ints x1], _, hb => exact QLN x0 x1 (show _ from (hb (.ints x0) (by simp)).2) (show _ from (hb (.ints x0) (by simp)).1.2) (show _ from (hb (.ints x1) (by simp)).1.1)
theorem inverseFinds_row : Rows.InverseFindsSaid :=
 OpenClaim.holds_of_wide 5 Tryz.f5 rfl rfl rfl rfl rfl rfl rfl ⟨rfl, rfl, rfl, rfl, rfl⟩ rfl rfl rfl rfl rfl (by kernel_rfl) Tryz.func5 (by kernel_rfl)
  (R5 (by kernel_rfl)) (by unfold Func.isWrapper; first | (rw [if_pos (by decide +kernel)]; kernel_rfl) | (rw [if_neg (by decide +kernel)]; exact ⟨rfl, rfl⟩))
  (fun os started H enc _ => inverseFinds_lifted os started H enc)
theorem inverseFinds_holds : Rows.InverseFindsCardSaid :=
 Claim7.holds_tied_plain_at .later [] [.data] true (true, "1be2423f369d394370d183e49f0c4d7ffd3dae3ada67916ad483af8b90ce124d") false
  inverseFinds_row (fun _ h => by cases h) (by kernel_rfl) (fun _ h => by cases h) inverseFinds_row_tie rfl ⟨rfl, rfl⟩ (by kernel_rfl) rfl
  (fun f fn hf hfn => by
   obtain rfl : f = 5 := Option.some.inj ((show Tryz.prog.funcNamed "gantry/gantkeep3.InverseFinds" = some 5 by kernel_rfl).symm.trans hf) |>.symm
   obtain rfl : fn = Tryz.f5 := (Option.some.inj (Tryz.func5.symm.trans hfn)).symm
   exact ⟨by kernel_rfl, fun j t ht => by
    rw [Tryz.params5] at ht
    have hm : t ∈ [22, 22] := by simpa using Array.mem_of_getElem? ht
    have hall : ([22, 22].all fun u => !Tryz.prog.wantsStandIn u) = true := by kernel_rfl
    exact (show Tryz.prog.wantsStandIn t = false by simpa using List.all_eq_true.1 hall t hm)⟩)
  (by kernel_rfl)
#print axioms inverseFinds_holds
end Go.Proofs.YtnbkdgmgbaangaaGreatDoor
