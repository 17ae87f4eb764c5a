/- InverseThrice: its row and its card. -/
import Derived.Test.YtjdhppdpbkoihaaGreatDoorTz
import Derived.Test.YtjdhppdpbkoihaaGreatDoorTw
import Derived.Test.YtjdhppdpbkoihaaGreatDoorTG
/- InverseThrice: its row and its card. -/
namespace Go.Proofs.YtjdhppdpbkoihaaGreatDoor
open Go Go.Eng Go.ChangeShapes Go.WideShapes Go.ChangeAt Go.WideElems Go.RowKit
set_option maxRecDepth 100000 in
theorem inverseThrice_lifted (os : Os) (started : os.Started) (H : Type) (enc : TypeId × Value → H) :
  ReturnsInHanded {} Tryz.checked os 4 .any (fun w args => (Rows.inverseThriceSpec.pre enc Tryz.prog Tryz.f4 [] false w args ∧ laidMetH Tryz.prog QGG w) ∧ sizedMet enc Tryz.prog Tryz.f4 (OpenSpec.ofChange Rows.inverseThriceSpec) false w args)
   (Rows.inverseThriceSpec.post enc Tryz.prog Tryz.f4 false true false false) := by
 refine returnsInHanded_of_change_and (C := Tryz.checked) (X := fun w _ => laidMetH Tryz.prog QGG w) (fun _ _ _ hh h => h.of_heap hh) own started (by kernel_rfl) Tryz.func4
  (ChangeSpec.witness_shaped (enc := enc) (C := Tryz.checked) (os := os) (X := fun w _ => laidMetH Tryz.prog QGG w) false (World.doorLaid Tryz.prog 400 os) #[.slice none 0 0, .slice none 0 0] 8 rfl (World.shaped_of_RefB (by kernel_rfl) (by kernel_rfl)) (by kernel_rfl) (by kernel_rfl) (by kernel_rfl) (QOa os _)) ?_
 intro W base args ds gs before hval hW _ hwt hL _
 refine QL9 (ks := [false, false]) (tB := 4) QZy (by kernel_rfl) Tryz.underlying4 QSc QYn QYo (by kernel_rfl) (by kernel_rfl) rfl rfl (fun ds hd => ?_) (fun l ha hb => ?_) (QSd hL) hval hW hwt
 ·match ds, hd with
  | [_, _], _ => rfl
 ·match l, ha, hb with
  | [.ints x0, .ints x1], _, hb => exact QGn x0 x1 (show _ from (hb (.ints x0) (by simp)).2) (show _ from (hb (.ints x0) (by simp)).1.2) (show _ from (hb (.ints x1) (by simp)).1.1)
theorem inverseThrice_row : Rows.InverseThriceSaid :=
 OpenClaim.holds_of_wide 4 Tryz.f4 rfl rfl rfl rfl rfl rfl rfl ⟨rfl, rfl, rfl, rfl, rfl⟩ rfl rfl rfl rfl rfl (by kernel_rfl) Tryz.func4 (by kernel_rfl)
  (R5 (by kernel_rfl)) (by unfold Func.isWrapper; first | (rw [if_pos (by decide +kernel)]; kernel_rfl) | (rw [if_neg (by decide +kernel)]; exact ⟨rfl, rfl⟩))
  (fun os started H enc _ => inverseThrice_lifted os started H enc)
theorem inverseThrice_holds : Rows.InverseThriceCardSaid :=
 Claim7.holds_tied_plain_at .later [] [.data] true (true, "5060fa22539c720d290143786202087af43c6f19e41ccf7116c343835011222c") false
  inverseThrice_row (fun _ h => by cases h) (by kernel_rfl) (fun _ h => by cases h) inverseThrice_row_tie rfl ⟨rfl, rfl⟩ (by kernel_rfl) rfl
  (fun f fn hf hfn => by
   obtain rfl : f = 4 := Option.some.inj ((show Tryz.prog.funcNamed "gantry/gantkeep3.InverseThrice" = some 4 by kernel_rfl).symm.trans hf) |>.symm
   obtain rfl : fn = Tryz.f4 := (Option.some.inj (Tryz.func4.symm.trans hfn)).symm
   exact ⟨by kernel_rfl, fun j t ht => by
    rw [Tryz.params4] at ht
    have hm : t ∈ [22, 22] := by simpa using Array.mem_of_getElem? ht
    have hall : ([22, 22].all fun u => !Tryz.prog.wantsStandIn u) = true := by kernel_rfl
    exact (show Tryz.prog.wantsStandIn t = false by simpa using List.all_eq_true.1 hall t hm)⟩)
  (by kernel_rfl)
#print axioms inverseThrice_holds
end Go.Proofs.YtjdhppdpbkoihaaGreatDoor
