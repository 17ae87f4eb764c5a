/- TopWays: its row and its card. -/
import Derived.Test.YtmpfaflhpioaiaaGreatDoorTz
import Derived.Test.YtmpfaflhpioaiaaGreatDoorTW
/- TopWays: its row and its card. -/
namespace Go.Proofs.YtmpfaflhpioaiaaGreatDoor
open Go Go.Eng Go.ChangeShapes Go.WideShapes Go.ChangeAt Go.WideElems Go.RowKit
set_option maxRecDepth 100000 in
theorem topWays_lifted (os : Os) (started : os.Started) (H : Type) (enc : TypeId × Value → H) :
  ReturnsInHanded {} Tryz.checked os 3 .any (fun w args => (Rows.topWaysSpec.pre enc Tryz.prog Tryz.f3 [] false w args ∧ laidMetH Tryz.prog QJT w) ∧ sizedMet enc Tryz.prog Tryz.f3 (OpenSpec.ofChange Rows.topWaysSpec) false w args)
   (Rows.topWaysSpec.post enc Tryz.prog Tryz.f3 false true false false) := by
 refine returnsInHanded_of_change_and (C := Tryz.checked) (X := fun w _ => laidMetH Tryz.prog QJT w) (fun _ _ _ hh h => h.of_heap hh) own started o4 Tryz.func3
  (ChangeSpec.witness_shaped (enc := enc) (C := Tryz.checked) (os := os) (X := fun w _ => laidMetH Tryz.prog QJT w) false (World.doorLaid Tryz.prog 400 os) #[.slice none 0 0, .slice none 0 0, .slice none 0 0, .slice none 0 0, .int .i64 0] 8 rfl (World.shaped_of_RefB o4 o4) o4 o4 o4 (QUV os _)) ?_
 intro W base args ds gs before hval hW _ _ hL _
 refine QUU (ks := [false, false, false, false, true]) (tB := 4) Qk0 Tryz.underlying4 Qan QjH QjI o4 o4 rfl (fun ds hd => ?_) (fun l ha hb => ?_) (Qao hL) hval hW
 ·match ds, hd with
  | [_, _, _, _, _], _ => rfl
 ·match l, ha, hb with
  | [.ints x0, .ints x1, .ints x2, .ints x3, .int x4], _, hb => exact QSJ x0 x1 x2 x3 x4 (show _ from (hb (.ints x0) o6).1) (show _ from (hb (.ints x1) o6).1) (show _ from (hb (.ints x2) o6).1) (show _ from (hb (.ints x3) o6).1)
theorem topWays_row : Rows.TopWaysSaid :=
 OpenClaim.holds_of_wide 3 Tryz.f3 rfl rfl rfl rfl rfl rfl rfl ⟨rfl, rfl, rfl, rfl, rfl⟩ rfl rfl rfl rfl rfl o4 Tryz.func3 o4
  (R5 o4) (by unfold Func.isWrapper; first | (rw [if_pos (by decide +kernel)]; kernel_rfl) | (rw [if_neg (by decide +kernel)]; exact ⟨rfl, rfl⟩))
  (fun os started H enc _ => topWays_lifted os started H enc)
theorem topWays_holds : Rows.TopWaysCardSaid :=
 Claim7.holds_tied_plain_at .later [] [.data] true (true, "23155df6f6c1f82723ccefc645afc81c8ca1e619a88b19c716bf97b4bd5d94b3") false
  topWays_row (fun _ h => by cases h) o4 (fun _ h => by cases h) topWays_row_tie rfl ⟨rfl, rfl⟩ o4 rfl
  (fun f fn hf hfn => by
   obtain rfl : f = 3 := Option.some.inj ((o4:Tryz.prog.funcNamed "gantry/ganttop.TopWays" = some 3).symm.trans hf) |>.symm
   obtain rfl : fn = Tryz.f3 := (Option.some.inj (Tryz.func3.symm.trans hfn)).symm
   exact ⟨o4, fun j t ht => by
    rw [Tryz.params3] at ht
    have hm : t ∈ [22, 22, 22, 22, 3] := by simpa using Array.mem_of_getElem? ht
    have hall : ([22, 22, 22, 22, 3].all fun u => !Tryz.prog.wantsStandIn u) = true := o4
    exact (show Tryz.prog.wantsStandIn t = false by simpa using List.all_eq_true.1 hall t hm)⟩)
  o4
#print axioms topWays_holds
end Go.Proofs.YtmpfaflhpioaiaaGreatDoor
