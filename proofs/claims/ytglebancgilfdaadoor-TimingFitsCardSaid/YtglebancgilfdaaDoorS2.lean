/- Ways: leaving out what lies between changes no length, and nothing more the second time. -/
import Derived.Test.YtglebancgilfdaaDoorS1
/- Ways: leaving out what lies between changes no length, and nothing more the second time. -/
namespace Go.Proofs
open Go Go.Eng
end Go.Proofs
/- slices.EqualFunc on ways, way, measures. -/
namespace Go.Proofs
open Go Go.Eng
structure WyX where
 w : List (List Rat)
 l : List Int
 n : Nat
structure WyI (a : ArmV) (l : List Int) (x : WyX) : Prop where
 hn : x.w.length ≤ x.n ∧ 1 ≤ x.n ∧ x.n ≤ 5
 len : ∀ q ∈ x.w, q.length = a.links.length
 hl : x.l.length ≤ l.length
def L105 : List (Nat × Ctr) := L104
def T105 : Tabs := mkT L105 M99 X4
theorem L105ok : CtrsOK Tryd.prog tabG debT L105 := L104ok
theorem T105ok : TabsOK Tryd.prog tabG debT T105 := mkTok L105ok M99ok X4ok
def ot_kWay : OT := fun id => bif id.beq 5 then ([0, 1, 2, 4, 6, 3, 5, 7, 8, 9, 10, 11, 12], [[], [], [], [2], [], [4, 3, 2], [], [6, 5, 4, 3, 2], [3, 2, 5, 4, 7, 6], [1, 8, 3, 2, 5, 4, 7, 6], [9, 1, 8, 3, 2, 5, 4, 7, 6], [0, 10, 9, 1, 8, 3, 2, 5, 4, 7, 6], [11, 0, 10, 9, 1, 8, 3, 2, 5, 4, 7, 6]]) else ([], [])
def goal_kWay (a : ArmV) (l : List Int) (K : AV → Prop) : Prop := goalL T105 ot_kWay (fun _ => .inv ⟨WyX, fun x => ⟨[(2, .x false [.p 2 0]), (5, .x false [.w 500 0 x.w.length]), (6, .x false [.p 9 0]), (12, iA .i64 x.n), (13, iA .i64 x.w.length)], [(2, .box 34 (armCh a)), (9, stB x.l), (500, .row 39 1 (wN 63 x.w))]⟩, WyI a l, fun x => x.n - x.w.length, fun _ => 0⟩) Tryd.f31 [armA a, .x false [.s 1 (ints l)]] K
theorem goal_kWay_vc (a : ArmV) (l : List Int) (K : AV → Prop) : goal_kWay a l K = (∃(l_1:List Int),ints l=ints l_1∧((1:Int)≤5∧(5:Int)<9223372036854775808)∧l_1.length≤9223372036854775807∧∀(r:Int) (l':List Int),0≤r∧r<5→l'.length≤l_1.length→(∃(x:WyX),(WyI a l x∧OfNat.ofNat 0=0)∧0=0∧Value.slice none 0 0=Value.slice none 0 0∧0=0∧x.w.length=0∧0=0∧IntKind.i64.wrap (1+r)=Int.ofNat x.n∧0=Int.ofNat x.w.length∧34=34∧a.name=a.name∧a.x=a.x∧63≤63∧a.y=a.y∧63≤63∧a.half=a.half∧a.t=a.t∧63≤63∧16=16∧List.map linkCh a.links=List.map linkCh a.links∧55=55∧1=1∧ints l'=ints x.l∧wN 63 x.w=[]∧True)∧∀(x:WyX),WyI a l x→OfNat.ofNat 0=0→bif decide (Int.ofNat x.w.length<Int.ofNat x.n) then ∃(l_2:List Int),ints x.l=ints l_2∧((1:Int)≤9∧(9:Int)<9223372036854775808)∧l_2.length≤9223372036854775807∧∀(r:Int) (l':List Int),0≤r∧r<9→l'.length≤l_2.length→∃(l_3:List Int),ints l'=ints l_3∧((1:Int)≤9∧(9:Int)<9223372036854775808)∧l_3.length≤9223372036854775807∧∀(r_1:Int) (l':List Int),0≤r_1∧r_1<9→l'.length≤l_3.length→∃(l_4:List Int),ints l'=ints l_4∧((1:Int)≤9∧(9:Int)<9223372036854775808)∧l_4.length≤9223372036854775807∧∀(r_2:Int) (l':List Int),0≤r_2∧r_2<9→l'.length≤l_4.length→∃(a_11:ArmV),∃(l_5:List Int),[Ch.v (Value.string a.name),Ch.r a.x 63,Ch.r a.y 63,Ch.v (Value.bool a.half),Ch.r a.t 63,Ch.s 16 (List.map linkCh a.links)]=[Ch.v (Value.string a_11.name),Ch.r a_11.x 63,Ch.r a_11.y 63,Ch.v (Value.bool a_11.half),Ch.r a_11.t 63,Ch.s 16 (List.map linkCh a_11.links)]∧[[Ch.v (Value.int IntKind.i64 r)],[Ch.v (Value.int IntKind.i64 r_1)],[Ch.v (Value.int IntKind.i64 r_2)]]=ints l_5∧(GoodArm a_11∧l_5.length≤9223372036854775807)∧∀(qs:List Rat),(∀(i:Nat) (L:LinkV) (q:Rat),a_11.links[i]?=some L→qs[i]?=some q→L.lo≤q∧q≤L.hi)→qs.length=a_11.links.length→((x.w.length+1)*24≤140737488355328∧x.w.length+1≤9223372036854775807)∧∃(x':WyX),(WyI a l x'∧OfNat.ofNat 0=0∧x'.n-x'.w.length<x.n-x.w.length)∧0=0∧0=0∧x.w.length+1=x'.w.length∧0=0∧Int.ofNat x.n=Int.ofNat x'.n∧IntKind.i64.wrap (Int.ofNat x.w.length+1)=Int.ofNat x'.w.length∧34=34∧a.name=a.name∧a.x=a.x∧63≤63∧a.y=a.y∧63≤63∧a.half=a.half∧a.t=a.t∧63≤63∧16=16∧List.map linkCh a.links=List.map linkCh a.links∧55=55∧1=1∧ints l'=ints x'.l∧39=39∧1=1∧(List.take x.w.length (wN 63 x.w)++[[Ch.s 3 (lR 63 qs)]]=wN 63 x'.w∨RowLE (List.take x.w.length (wN 63 x.w)++[[Ch.s 3 (lR 63 qs)]]) (wN 63 x'.w))∧True else K (AV.x false [Ch.s 1 (List.take x.w.length (List.drop 0 (wN 63 x.w)))])) := by kernel_rfl
theorem g_kWay (a : ArmV) (l : List Int) (hc : (GoodArm a) ∧ (l.length ≤ 9223372036854775807)) (K : AV → Prop) (hK : ∀ w : List (List Rat), 1 ≤ w.length → w.length ≤ 5 → (∀ q ∈ w, q.length = a.links.length) → K (sW 63 w)) : Holds (goal_kWay a l K) := by
 refine ⟨?_⟩
 rw [goal_kWay_vc]
 try simp only [Int.ofNat_eq_natCast, true_and, and_true, Nat.le_refl, true_implies]
 refine ⟨l, rfl, by omega, hc.2, fun r l1 hr h1 => ?_⟩
 rw [w64 (n := 1 + r) (by omega)]
 refine ⟨⟨⟨[], l1, (1 + r).toNat⟩, ⟨by simp only [List.length_nil]; omega, by simp, h1⟩, rfl, by simp only; omega, rfl, rfl, rfl⟩, fun x hx => bif_mk (fun hp => ?_) (fun hp => ?_)⟩
 ·have hp := of_decide_eq_true hp
  have hn := hx.hn
  have hl := hx.hl
  refine ⟨x.l, rfl, by omega, by omega, fun r l1 hr h1 => ⟨l1, rfl, by omega, by omega, fun r2 l2 hr2 h2 => ⟨l2, rfl, by omega, by omega, fun r3 l3 hr3 h3 => ⟨a, [r, r2, r3], rfl, rfl, ⟨hc.1, by simp⟩, fun qs _ hq => ⟨by omega, ⟨x.w ++ [qs], l3, x.n⟩, ⟨⟨by simp only [List.length_append, List.length_singleton]; omega, fun q hq' => ?_, by simp only; omega⟩, by simp only [List.length_append, List.length_singleton]; omega⟩, by simp, rfl, by rw [w64 (by omega)]; simp, rfl, .inl (wN_snoc _ _ _)⟩⟩⟩⟩⟩
  rcases List.mem_append.1 hq' with h | h
  ·exact hx.len q h
  ·rw [List.mem_singleton.1 h]; exact hq
 ·have hp := of_decide_eq_false hp
  have hn := hx.hn
  rw [List.drop_zero, List.take_of_length_le (by simp [wN])]
  exact hK x.w (by omega) (by omega) hx.len
def c_kWay : Ctr := fun as0 => match as0 with
 | [.x true xs, .x false [.s 1 ys]] => some fun K => ∃ (a : ArmV) (l : List Int), xs = armCh a ∧ ys = ints l ∧ ((GoodArm a) ∧ (l.length ≤ 9223372036854775807)) ∧ (∀ w : List (List Rat), 1 ≤ w.length → w.length ≤ 5 → (∀ q ∈ w, q.length = a.links.length) → K (sW 63 w))
 | _ => none
theorem ok_kWay : CtrOK Tryd.prog tabG debT 31 c_kWay := by
 refine ⟨enters Tryd.func31 (by kernel_rfl), fun l T hT K hK => ?_⟩
 unfold c_kWay at hT
 split at hT
 ·cases hT
  obtain ⟨a, l, rfl, rfl, hc, hK⟩ := hK
  exact spec_ofL T105ok mixed Tryd.func31 (by kernel_rfl) (by kernel_rfl) (by rfl) (g_kWay _ _ hc K hK)
 ·cases hT
def L106 : List (Nat × Ctr) := (31, c_kWay) :: L105
theorem L106ok : CtrsOK Tryd.prog tabG debT L106 := .cons ok_kWay L105ok
def L107 : List (Nat × Ctr) := L106
def T107 : Tabs := mkT L107 M99 X4
theorem L107ok : CtrsOK Tryd.prog tabG debT L107 := L106ok
end Go.Proofs
