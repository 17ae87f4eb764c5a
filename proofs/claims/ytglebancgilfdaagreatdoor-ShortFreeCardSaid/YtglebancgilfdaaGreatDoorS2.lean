/- Ways: leaving out what lies between changes no length, and nothing more the second time. -/
import Derived.Test.YtglebancgilfdaaGreatDoorS1
open Int renaming ofNat → Za
/- Ways: leaving out what lies between changes no length, and nothing more the second time. -/
namespace Go.Proofs
open Go Go.Eng
end Go.Proofs
/- slices.EqualFunc on ways, way, measures. -/
namespace Go.Proofs
open Go Go.Eng
structure WyX where
 w : List (List Rat)
 l : List Int
 n : Nat
structure WyI (a : ArmV) (l : List Int) (x : WyX) : Prop where
 hn : x.w.length ≤ x.n ∧ 1 ≤ x.n ∧ x.n ≤ 5
 len : ∀ q ∈ x.w, q.length = a.links.length
 hl : x.l.length ≤ l.length
def L105 : List (Nat × Ctr) := L104
def T105 : Tabs := mkT L105 M99 X4
theorem L105ok : CtrsOK Tryz.prog tabG debT L105 := L104ok
theorem T105ok : TabsOK Tryz.prog tabG debT T105 := mkTok L105ok M99ok X4ok
def ot_kWay : OT := fun id => bif id.beq 5 then ([0, 1, 2, 4, 6, 3, 5, 7, 8, 9, 10, 11, 12], [[], [], [], [2], [], [4, 3, 2], [], [6, 5, 4, 3, 2], [3, 2, 5, 4, 7, 6], [1, 8, 3, 2, 5, 4, 7, 6], [9, 1, 8, 3, 2, 5, 4, 7, 6], [0, 10, 9, 1, 8, 3, 2, 5, 4, 7, 6], [11, 0, 10, 9, 1, 8, 3, 2, 5, 4, 7, 6]]) else ([], [])
def goal_kWay (a : ArmV) (l : List Int) (K : AV → Prop) : Prop := goalL T105 ot_kWay (fun _ => .inv ⟨WyX, fun x => ⟨[(2, .x false [.p 2 0]), (5, .x false [.w 500 0 x.w.length]), (6, .x false [.p 9 0]), (12, iA .i64 x.n), (13, iA .i64 x.w.length)], [(2, .box 34 (armCh a)), (9, stB x.l), (500, .row 44 1 (wN 63 x.w))]⟩, WyI a l, fun x => x.n - x.w.length, fun _ => 0⟩) Tryz.f13 [armA a, .x false [.s 1 (ints l)]] K
theorem goal_kWay_vc (a : ArmV) (l : List Int) (K : AV → Prop) : goal_kWay a l K = (∃(l_1:List Int),ints l=ints l_1∧((1:Int)≤5∧(5:Int)<9223372036854775808)∧l_1.length≤9223372036854775807∧∀(r:Int) (l':List Int),0≤r∧r<5→l'.length≤l_1.length→(∃(x:WyX),(WyI a l x∧OfNat.ofNat 0=0)∧0=0∧Value.slice none 0 0=Value.slice none 0 0∧0=0∧x.w.length=0∧0=0∧IntKind.i64.wrap (1+r)=Za x.n∧0=Za x.w.length∧34=34∧a.name=a.name∧a.x=a.x∧63≤63∧a.y=a.y∧63≤63∧a.half=a.half∧a.t=a.t∧63≤63∧16=16∧List.map linkCh a.links=List.map linkCh a.links∧89=89∧1=1∧ints l'=ints x.l∧wN 63 x.w=[]∧True)∧∀(x:WyX),WyI a l x→OfNat.ofNat 0=0→bif decide (Za x.w.length<Za x.n) then ∃(l_2:List Int),ints x.l=ints l_2∧((1:Int)≤9∧(9:Int)<9223372036854775808)∧l_2.length≤9223372036854775807∧∀(r:Int) (l':List Int),0≤r∧r<9→l'.length≤l_2.length→∃(l_3:List Int),ints l'=ints l_3∧((1:Int)≤9∧(9:Int)<9223372036854775808)∧l_3.length≤9223372036854775807∧∀(r_1:Int) (l':List Int),0≤r_1∧r_1<9→l'.length≤l_3.length→∃(l_4:List Int),ints l'=ints l_4∧((1:Int)≤9∧(9:Int)<9223372036854775808)∧l_4.length≤9223372036854775807∧∀(r_2:Int) (l':List Int),0≤r_2∧r_2<9→l'.length≤l_4.length→∃(a_11:ArmV),∃(l_5:List Int),[Ch.v (Value.string a.name),Ch.r a.x 63,Ch.r a.y 63,Ch.v (Value.bool a.half),Ch.r a.t 63,Ch.s 16 (List.map linkCh a.links)]=[Ch.v (Value.string a_11.name),Ch.r a_11.x 63,Ch.r a_11.y 63,Ch.v (Value.bool a_11.half),Ch.r a_11.t 63,Ch.s 16 (List.map linkCh a_11.links)]∧[[Ch.v (Value.int IntKind.i64 r)],[Ch.v (Value.int IntKind.i64 r_1)],[Ch.v (Value.int IntKind.i64 r_2)]]=ints l_5∧(GoodArm a_11∧l_5.length≤9223372036854775807)∧∀(qs:List Rat),(∀(i:Nat) (L:LinkV) (q:Rat),a_11.links[i]?=some L→qs[i]?=some q→L.lo≤q∧q≤L.hi)→qs.length=a_11.links.length→((x.w.length+1)*24≤140737488355328∧x.w.length+1≤9223372036854775807)∧∃(x':WyX),(WyI a l x'∧OfNat.ofNat 0=0∧x'.n-x'.w.length<x.n-x.w.length)∧0=0∧0=0∧x.w.length+1=x'.w.length∧0=0∧Za x.n=Za x'.n∧IntKind.i64.wrap (Za x.w.length+1)=Za x'.w.length∧34=34∧a.name=a.name∧a.x=a.x∧63≤63∧a.y=a.y∧63≤63∧a.half=a.half∧a.t=a.t∧63≤63∧16=16∧List.map linkCh a.links=List.map linkCh a.links∧89=89∧1=1∧ints l'=ints x'.l∧44=44∧1=1∧(List.take x.w.length (wN 63 x.w)++[[Ch.s 3 (lR 63 qs)]]=wN 63 x'.w∨RowLE (List.take x.w.length (wN 63 x.w)++[[Ch.s 3 (lR 63 qs)]]) (wN 63 x'.w))∧True else K (AV.x false [Ch.s 1 (List.take x.w.length (List.drop 0 (wN 63 x.w)))])) := by kernel_rfl
theorem g_kWay (a : ArmV) (l : List Int) (hc : (GoodArm a) ∧ (l.length ≤ 9223372036854775807)) (K : AV → Prop) (hK : ∀ w : List (List Rat), 1 ≤ w.length → w.length ≤ 5 → (∀ q ∈ w, q.length = a.links.length) → K (sW 63 w)) : Holds (goal_kWay a l K) := by
 refine ⟨?_⟩
 rw [goal_kWay_vc]
 try simp only [Int.ofNat_eq_natCast, true_and, and_true, Nat.le_refl, true_implies]
 refine ⟨l, rfl, by omega, hc.2, fun r l1 hr h1 => ?_⟩
 rw [w64 (n := 1 + r) (by omega)]
 refine ⟨⟨⟨[], l1, (1 + r).toNat⟩, ⟨by simp only [List.length_nil]; omega, by simp, h1⟩, rfl, by simp only; omega, rfl, rfl, rfl⟩, fun x hx => bif_mk (fun hp => ?_) (fun hp => ?_)⟩
 ·have hp := of_decide_eq_true hp
  have hn := hx.hn
  have hl := hx.hl
  refine ⟨x.l, rfl, by omega, by omega, fun r l1 hr h1 => ⟨l1, rfl, by omega, by omega, fun r2 l2 hr2 h2 => ⟨l2, rfl, by omega, by omega, fun r3 l3 hr3 h3 => ⟨a, [r, r2, r3], rfl, rfl, ⟨hc.1, by simp⟩, fun qs _ hq => ⟨by omega, ⟨x.w ++ [qs], l3, x.n⟩, ⟨⟨by simp only [List.length_append, List.length_singleton]; omega, fun q hq' => ?_, by simp only; omega⟩, by simp only [List.length_append, List.length_singleton]; omega⟩, by simp, rfl, by rw [w64 (by omega)]; simp, rfl, .inl (wN_snoc _ _ _)⟩⟩⟩⟩⟩
  rcases List.mem_append.1 hq' with h | h
  ·exact hx.len q h
  ·rw [List.mem_singleton.1 h]; exact hq
 ·have hp := of_decide_eq_false hp
  have hn := hx.hn
  rw [List.drop_zero, List.take_of_length_le (by simp [wN])]
  exact hK x.w (by omega) (by omega) hx.len
def c_kWay : Ctr := fun as0 => match as0 with
 | [.x true xs, .x false [.s 1 ys]] => some fun K => ∃ (a : ArmV) (l : List Int), xs = armCh a ∧ ys = ints l ∧ ((GoodArm a) ∧ (l.length ≤ 9223372036854775807)) ∧ (∀ w : List (List Rat), 1 ≤ w.length → w.length ≤ 5 → (∀ q ∈ w, q.length = a.links.length) → K (sW 63 w))
 | _ => none
theorem ok_kWay : CtrOK Tryz.prog tabG debT 13 c_kWay := by
 refine ⟨enters Tryz.func13 (by kernel_rfl), fun l T hT K hK => ?_⟩
 unfold c_kWay at hT
 split at hT
 ·cases hT
  obtain ⟨a, l, rfl, rfl, hc, hK⟩ := hK
  exact spec_ofL T105ok mixed Tryz.func13 (by kernel_rfl) (by kernel_rfl) (by rfl) (g_kWay _ _ hc K hK)
 ·cases hT
def L106 : List (Nat × Ctr) := (13, c_kWay) :: L105
def T106 : Tabs := mkT L106 M99 X4
theorem L106ok : CtrsOK Tryz.prog tabG debT L106 := .cons ok_kWay L105ok
theorem T106ok : TabsOK Tryz.prog tabG debT T106 := mkTok L106ok M99ok X4ok
def ot_kMeasures : OT := fun id => bif id.beq 3 then ([0, 1, 2, 3, 4, 5, 6, 7], [[], [0], [1, 0], [2, 1, 0], [2, 1, 0], [3, 2, 1, 0, 4], [2, 1, 0, 5, 3, 4], [6, 2, 1, 0, 5, 3, 4]]) else ([], [])
def goal_kMeasures  (K : AV → Prop) : Prop := goalL T106 ot_kMeasures noL Tryz.f10 [] K
theorem goal_kMeasures_vc (K : AV → Prop) : goal_kMeasures K = ((((-9223372036854775808:Int)<0∧(0:Int)<9223372036854775808)∧(0:Int)<1∧(1:Int)<9223372036854775808)∧(((-9223372036854775808:Int)<1∧(1:Int)<9223372036854775808)∧(0:Int)<1∧(1:Int)<9223372036854775808)∧∃(ns:List Int),[[Ch.v (Value.int IntKind.i64 3)]]=ints ns∧(ns.length≤3∧∀(n:Int),n ∈ ns→1≤n∧n≤1000)∧∃(a:ArmV),∃(n:Nat),∃(w:List (List Rat)),[Ch.v (Value.string (sampleV ns).name),Ch.r (sampleV ns).x 63,Ch.r (sampleV ns).y 63,Ch.v (Value.bool false),Ch.r (sampleV ns).t 63,Ch.s 16 (List.map linkCh (sampleV ns).links)]=[Ch.v (Value.string a.name),Ch.r a.x 63,Ch.r a.y 63,Ch.v (Value.bool a.half),Ch.r a.t 63,Ch.s 16 (List.map linkCh a.links)]∧[[Ch.s 3 [[Ch.r (mkRat 0 1) 63]]],[Ch.s 3 [[Ch.r (mkRat 1 1) 63]]],[Ch.s 3 [[Ch.r (mkRat 0 1) 63]]]]=wN n w∧(GoodArm a∧WayOK w a.links.length∧n≤100000)∧(((-9223372036854775808:Int)<2∧(2:Int)<9223372036854775808)∧(0:Int)<1∧(1:Int)<9223372036854775808)∧K (AV.x false [Ch.v (Value.bool (decide (meas w=mkRat 2 (Int.toNat 1))&&true))])) := by kernel_rfl
theorem g_kMeasures  (_hc : True) (K : AV → Prop) (hK : K (.x false [.v (.bool true)])) : Holds (goal_kMeasures  K) := by
 refine ⟨?_⟩
 rw [goal_kMeasures_vc]
 try simp only [Int.ofNat_eq_natCast, true_and, and_true, Nat.zero_add, Nat.le_refl, true_implies, true_or, or_true]
 have e : meas [[mkRat 0 1], [mkRat 1 1], [mkRat 0 1]] = mkRat 2 1 := by decide +kernel
 refine ⟨by omega, by omega, [3], rfl, ⟨by simp, by simp⟩, sampleV [3], 63, [[mkRat 0 1], [mkRat 1 1], [mkRat 0 1]], rfl, rfl, ⟨sample_good (by simp) (by simp), ⟨by simp, fun q hq => ?_, by simp [sampleV]⟩, by omega⟩, by omega, ?_⟩
 ·simp only [List.mem_cons, List.not_mem_nil, or_false] at hq
  rcases hq with rfl | rfl | rfl <;> rfl
 ·rw [e]
  simpa using hK
def c_kMeasures : Ctr := fun as0 => match as0 with
 | [] => some fun K => (True) ∧ (K (.x false [.v (.bool true)]))
 | _ => none
theorem ok_kMeasures : CtrOK Tryz.prog tabG debT 10 c_kMeasures := by
 refine ⟨enters Tryz.func10 (by kernel_rfl), fun l T hT K hK => ?_⟩
 unfold c_kMeasures at hT
 split at hT
 ·cases hT
  obtain ⟨hc, hK⟩ := hK
  exact spec_ofL T106ok mixed Tryz.func10 (by kernel_rfl) (by kernel_rfl) (by rfl) (g_kMeasures  hc K hK)
 ·cases hT
def L107 : List (Nat × Ctr) := (10, c_kMeasures) :: L106
def T107 : Tabs := mkT L107 M99 X4
end Go.Proofs
