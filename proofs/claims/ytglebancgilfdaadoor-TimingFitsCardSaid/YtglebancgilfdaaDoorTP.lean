/- The least integer that is not less than a rational number: plain laws. -/
import Derived.Test.YtglebancgilfdaaDoorR1
import Derived.Test.YtglebancgilfdaaDoorK1
import Derived.Test.YtglebancgilfdaaDoorPB
import Derived.Test.YtglebancgilfdaaDoorSH
import Derived.Test.YtglebancgilfdaaDoorS2
/- The least integer that is not less than a rational number: plain laws. -/
namespace Go.Proofs
open Go Go.Eng
def ceilR (q : Rat) : Int := -(-q).floor
theorem le_ceil (q : Rat) : q ≤ (ceilR q : Rat) := by
 have h := Rat.floor_le (-q)
 unfold ceilR
 rw [Rat.intCast_neg]
 grind
theorem ceil_lt (q : Rat) : ((ceilR q - 1 : Int) : Rat) < q := by
 have h := Rat.lt_floor (x := -q)
 unfold ceilR
 rw [Rat.intCast_sub, Rat.intCast_neg]
 have e : ((1 : Int) : Rat) = 1 := rfl
 rw [e]
 grind
end Go.Proofs
/- timing: ceil, Ticks, good, Plan; track.Check of a motion that is too fast. -/
namespace Go.Proofs
open Go Go.Eng
def tkG : List LinkV → List Rat → List Rat → Int → Int
 | L :: ls, p :: ps, q :: qs, n => tkG ls ps qs (max n (ceilR (absR (q - p) / L.sp)))
 | _, _, _, n => n
def tkV (a : ArmV) (ps qs : List Rat) : Int := tkG a.links ps qs 1
/-- No joint needs more than 100 ticks. -/
def NearQ (a : ArmV) (ps qs : List Rat) : Prop := ∀ (i : Nat) (L : LinkV) (p q : Rat), a.links[i]? = some L → ps[i]? = some p → qs[i]? = some q → absR (q - p) ≤ L.sp * 100
def inv_ticks (a : ArmV) (n : Nat) (ps : List Rat) (m : Nat) (qs : List Rat) : LI := fun id => bif id.beq 2 then .unroll 3 else .inv ⟨Nat × Int, fun x => ⟨[(1, sR n ps), (2, sR m qs), (3, .x false [.p 3 0]), (11, iA .i64 x.2), (32, .x false [.s 16 (a.links.map linkCh)]), (33, iA .i64 a.links.length), (34, iA .i64 x.1)], [(3, .box 34 (armCh a))]⟩, fun x => (x.1 ≤ a.links.length ∧ 1 ≤ x.2 ∧ x.2 ≤ 100) ∧ tkG (a.links.drop x.1) (ps.drop x.1) (qs.drop x.1) x.2 = tkV a ps qs, fun x => a.links.length - x.1, fun _ => 0⟩
def keysGo (a : ArmV) (N : Nat) : Int → List Rat → List (List Rat) → List KeyV
 | _, _, [] => []
 | t, p, q :: r => ⟨t + tkV a p q, N, q⟩ :: keysGo a N (t + tkV a p q) q r
def planV (a : ArmV) (N : Nat) (t : Int) : List (List Rat) → List KeyV
 | [] => []
 | q :: r => ⟨t, N, q⟩ :: keysGo a N t q r
structure PnX where
 o : List KeyV
 i : Nat
 t : Int
structure PnI (a : ArmV) (N : Nat) (w : List (List Rat)) (f : Int) (x : PnX) : Prop where
 i : 1 ≤ x.i ∧ x.i ≤ w.length
 o : x.o.length = x.i
 last : ∃ q, w[x.i - 1]? = some q ∧ x.o[x.i - 1]? = some ⟨x.t, N, q⟩ ∧ x.o ++ keysGo a N x.t q (w.drop x.i) = planV a N f w
 t : 0 ≤ x.t ∧ x.t ≤ f + 100 * ((x.i : Int) - 1)
def inv_plan (a : ArmV) (n : Nat) (w : List (List Rat)) (f : Int) : LI := fun _ => .inv ⟨PnX, fun x => ⟨[(1, sW n w), (3, .x false [.p 3 0]), (10, .x false [.w 500 0 x.i]), (11, iA .i64 x.i)], [(3, .box 34 (armCh a)), (500, .row 47 2 (x.o.map keyCh))]⟩, PnI a (n + 65) w f, fun x => w.length - x.i, fun _ => 0⟩
def L200 : List (Nat × Ctr) := (54, c_rFloor) :: (12, c_tAt) :: (61, c_tSlow) :: (33, c_tCheck) :: L107
def T200 : Tabs := mkT L200 M99 X4
theorem drop_g {α : Type} {l : List α} {i : Nat} {a : α} (h : l[i]? = some a) : l.drop i = a :: l.drop (i + 1) := by
 have hi := (List.getElem?_eq_some_iff.1 h).1
 rw [List.drop_eq_getElem_cons hi]
 rw [List.getElem?_eq_getElem hi] at h
 rw [Option.some.inj h]
theorem abs_nn (p : Rat) : 0 ≤ absR p := by rw [absR_def]; split <;> grind
theorem ceil_le {q : Rat} {n : Int} (h : q ≤ (n : Rat)) : ceilR q ≤ n := by
 have h1 := ceil_lt q
 have h2 : ((ceilR q - 1 : Int) : Rat) < (n : Rat) := by grind
 have := Rat.intCast_lt_intCast.1 h2
 omega
theorem ceil_nn {q : Rat} (h : 0 ≤ q) : 0 ≤ ceilR q := by
 have h1 := Rat.le_trans h (le_ceil q)
 exact Rat.intCast_le_intCast.1 (show ((0 : Int) : Rat) ≤ _ from h1)
theorem near_div {d s : Rat} (hs : 0 < s) (h0 : 0 ≤ d) (h : d ≤ s * 100) : 0 ≤ d / s ∧ d / s ≤ 100 := by
 have hi : 0 < s⁻¹ := Rat.inv_pos.2 hs
 rw [Rat.div_def]
 refine ⟨Rat.mul_nonneg h0 (Rat.le_of_lt hi), ?_⟩
 have := Rat.mul_le_mul_of_nonneg_right h (Rat.le_of_lt hi)
 have e : s * s⁻¹ = 1 := Rat.mul_inv_cancel _ (by grind)
 grind
theorem tkG_range : ∀ (ls : List LinkV) (ps qs : List Rat) (n : Int), n ≤ tkG ls ps qs n ∧ (n ≤ 100 → (∀ (i : Nat) (L : LinkV) (p q : Rat), ls[i]? = some L → ps[i]? = some p → qs[i]? = some q → ceilR (absR (q - p) / L.sp) ≤ 100) → tkG ls ps qs n ≤ 100) := by
 intro ls
 induction ls with
 | nil => intro ps qs n; exact ⟨Int.le_refl _, fun h _ => h⟩
 | cons L ls ih =>
  intro ps qs n
  cases ps with
  | nil => exact ⟨Int.le_refl _, fun h _ => h⟩
  | cons p ps =>
   cases qs with
   | nil => exact ⟨Int.le_refl _, fun h _ => h⟩
   | cons q qs =>
    obtain ⟨h1, h2⟩ := ih ps qs (max n (ceilR (absR (q - p) / L.sp)))
    refine ⟨Int.le_trans (Int.le_max_left _ _) h1, fun hn h => h2 ?_ fun i => h (i + 1)⟩
    have := h 0 L p q rfl rfl rfl
    omega
theorem near_ceil {a : ArmV} {ps qs : List Rat} (hg : GoodArm a) (h : NearQ a ps qs) {i : Nat} {L : LinkV} {p q : Rat} (hL : a.links[i]? = some L) (hp : ps[i]? = some p) (hq : qs[i]? = some q) : (0 ≤ absR (q - p) / L.sp ∧ absR (q - p) / L.sp ≤ 100) ∧ 0 ≤ ceilR (absR (q - p) / L.sp) ∧ ceilR (absR (q - p) / L.sp) ≤ 100 := by
 have hs := (hg.links L (List.mem_of_getElem? hL)).sp
 have k := near_div hs (abs_nn _) (h i L p q hL hp hq)
 exact ⟨k, ceil_nn k.1, ceil_le k.2⟩
theorem tkV_range {a : ArmV} {ps qs : List Rat} (hg : GoodArm a) (h : NearQ a ps qs) : 1 ≤ tkV a ps qs ∧ tkV a ps qs ≤ 100 := by
 obtain ⟨h1, h2⟩ := tkG_range a.links ps qs 1
 exact ⟨h1, h2 (by omega) fun i L p q hL hp hq => (near_ceil hg h hL hp hq).2.2⟩
theorem L200ok : CtrsOK Tryd.prog tabG debT L200 := .cons ok_rFloor (.cons ok_tAt (.cons ok_tSlow (.cons ok_tCheck L107ok)))
theorem T200ok : TabsOK Tryd.prog tabG debT T200 := mkTok L200ok M99ok X4ok
def ot_tCeil : OT := fun id => bif id.beq 1 then ([0, 1, 2, 3], [[], [], [0, 1], [2, 0, 1]]) else ([], [])
def goal_tCeil (q : Rat) (n : Nat) (K : AV → Prop) : Prop := goalL T200 ot_tCeil noL Tryd.f88 [rA q n] K
theorem goal_tCeil_vc (q : Rat) (n : Nat) (K : AV → Prop) : goal_tCeil q n K = (((-9223372036854775808:Int)≤2000∧(2000:Int)<9223372036854775808)∧n+64≤4294967296∧bif decide (cmpR q ↑(2000:Int)>0) then K (AV.x false [Ch.v (Value.int IntKind.i64 2001)]) else n≤4294967296∧(n≤2000000000∧ -9223372036854775808<(-q).floor∧(-q).floor<9223372036854775808)∧K (AV.x false [Ch.v (Value.int IntKind.i64 (IntKind.i64.wrap (0-(-q).floor)))])) := by kernel_rfl
theorem g_tCeil (q : Rat) (n : Nat) (hc : (n ≤ 1000000) ∧ (0 ≤ q ∧ q ≤ 2000)) (K : AV → Prop) (hK : K (iA .i64 (ceilR q))) : Holds (goal_tCeil q n K) := by
 refine ⟨?_⟩
 rw [goal_tCeil_vc]
 try simp only [Int.ofNat_eq_natCast, true_and, and_true, Nat.zero_add, Nat.le_refl, true_implies, true_or, or_true]
 obtain ⟨hn, h0, h1⟩ := hc
 have c0 := ceil_nn h0
 have c1 := ceil_le (n := 2000) (show q ≤ ((2000 : Int) : Rat) from h1)
 have e : ceilR q = -(-q).floor := rfl
 rw [e] at hK c0 c1
 refine ⟨by omega, by omega, bif_mk (fun h => ?_) (fun _ => ⟨by omega, ⟨by omega, by omega, by omega⟩, ?_⟩)⟩
 ·have := sc_pos.1 (of_decide_eq_true h)
  exact absurd (show q ≤ ((2000 : Int) : Rat) from h1) (Rat.not_le.2 this)
 ·rw [w64 (by omega), Int.zero_sub]
  exact hK
def c_tCeil : Ctr := fun as0 => match as0 with
 | [.x true [.r q n]] => some fun K => ((n ≤ 1000000) ∧ (0 ≤ q ∧ q ≤ 2000)) ∧ (K (iA .i64 (ceilR q)))
 | _ => none
theorem ok_tCeil : CtrOK Tryd.prog tabG debT 88 c_tCeil := by
 refine ⟨enters Tryd.func88 (by kernel_rfl), fun l T hT K hK => ?_⟩
 unfold c_tCeil at hT
 split at hT
 ·cases hT
  obtain ⟨hc, hK⟩ := hK
  exact spec_ofL T200ok mixed Tryd.func88 (by kernel_rfl) (by kernel_rfl) (by rfl) (g_tCeil _ _ hc K hK)
 ·cases hT
def L201m : List (Nat × Ctr) := (88, c_tCeil) :: L200
def T201m : Tabs := mkT L201m M99 X4
theorem L201mok : CtrsOK Tryd.prog tabG debT L201m := .cons ok_tCeil L200ok
theorem T201mok : TabsOK Tryd.prog tabG debT T201m := mkTok L201mok M99ok X4ok
def ot_tTicks : OT := fun id => bif id.beq 12 then ([0, 1, 2, 3, 4, 5, 6, 7, 10, 11, 16, 8, 9, 12, 13, 14, 15, 17, 18], [[], [], [0, 1], [2, 0, 1], [], [], [4, 5], [6, 4, 5], [3, 2, 0, 1, 7, 6, 4, 5], [8, 3, 2, 0, 1, 7, 6, 4, 5], [], [10], [9, 8, 3, 2, 0, 1, 7, 6, 4, 5, 11, 10], [12, 9, 8, 3, 2, 0, 1, 7, 6, 4, 5, 11, 10], [13, 12, 9, 8, 3, 2, 0, 1, 7, 6, 4, 5, 11, 10], [13, 12, 9, 8, 3, 2, 0, 1, 7, 6, 4, 5, 11, 10], [], [16, 14, 13, 12, 9, 8, 3, 2, 0, 1, 7, 6, 4, 5, 11, 10], [15, 13, 12, 9, 8, 3, 2, 0, 1, 7, 6, 4, 5, 11, 10, 17, 16, 14]]) else ([], [])
def goal_tTicks (a : ArmV) (n : Nat) (ps : List Rat) (m : Nat) (qs : List Rat) (K : AV → Prop) : Prop := goalL T201m ot_tTicks (inv_ticks a n ps m qs) Tryd.f60 [armA a, sR n ps, sR m qs] K
theorem goal_tTicks_vc (a : ArmV) (n : Nat) (ps : List Rat) (m : Nat) (qs : List Rat) (K : AV → Prop) : goal_tTicks a n ps m qs K = (((0:Int)≤0∧(0:Int)<2)∧∃(ys:List (List Ch)),some [Ch.s 3 (lR n ps)]=some [Ch.s 3 ys]∧∃(a_1:ArmV),∃(n_1:Nat),∃(qs_1:List Rat),[Ch.v (Value.string a.name),Ch.r a.x 63,Ch.r a.y 63,Ch.v (Value.bool a.half),Ch.r a.t 63,Ch.s 16 (List.map linkCh a.links)]=[Ch.v (Value.string a_1.name),Ch.r a_1.x 63,Ch.r a_1.y 63,Ch.v (Value.bool a_1.half),Ch.r a_1.t 63,Ch.s 16 (List.map linkCh a_1.links)]∧ys=lR n_1 qs_1∧(GoodArm a_1∧n_1≤1000000∧qs_1.length=a_1.links.length)∧((∀(i:Nat) (L:LinkV) (q:Rat),a_1.links[i]?=some L→qs_1[i]?=some q→L.lo≤q∧q≤L.hi)→((0:Int)≤1∧(1:Int)<2)∧∃(ys:List (List Ch)),some [Ch.s 3 (lR m qs)]=some [Ch.s 3 ys]∧∃(a_3:ArmV),∃(n_2:Nat),∃(qs_2:List Rat),[Ch.v (Value.string a.name),Ch.r a.x 63,Ch.r a.y 63,Ch.v (Value.bool a.half),Ch.r a.t 63,Ch.s 16 (List.map linkCh a.links)]=[Ch.v (Value.string a_3.name),Ch.r a_3.x 63,Ch.r a_3.y 63,Ch.v (Value.bool a_3.half),Ch.r a_3.t 63,Ch.s 16 (List.map linkCh a_3.links)]∧ys=lR n_2 qs_2∧(GoodArm a_3∧n_2≤1000000∧qs_2.length=a_3.links.length)∧((∀(i:Nat) (L:LinkV) (q:Rat),a_3.links[i]?=some L→qs_2[i]?=some q→L.lo≤q∧q≤L.hi)→(∃(x:Nat × Int),(((x.fst≤a.links.length∧1≤x.snd∧x.snd≤100)∧tkG (List.drop x.fst a.links) (List.drop x.fst ps) (List.drop x.fst qs) x.snd=tkV a ps qs)∧OfNat.ofNat 0=0)∧3=3∧lR n ps=lR n ps∧3=3∧lR m qs=lR m qs∧0=0∧1=x.snd∧16=16∧List.map linkCh a.links=List.map linkCh a.links∧Int.ofNat (List.map linkCh a.links).length=Int.ofNat a.links.length∧0=Int.ofNat x.fst∧34=34∧a.name=a.name∧a.x=a.x∧63≤63∧a.y=a.y∧63≤63∧a.half=a.half∧a.t=a.t∧63≤63∧16=16∧List.map linkCh a.links=List.map linkCh a.links∧True)∧∀(x:Nat × Int),(x.fst≤a.links.length∧1≤x.snd∧x.snd≤100)∧tkG (List.drop x.fst a.links) (List.drop x.fst ps) (List.drop x.fst qs) x.snd=tkV a ps qs→OfNat.ofNat 0=0→bif decide (Int.ofNat x.fst<Int.ofNat a.links.length) then (0≤Int.ofNat x.fst∧Int.ofNat x.fst<Int.ofNat (List.map linkCh a.links).length)∧∃(q:Rat),∃(n_3:Nat),∃(q_1:Rat),∃(n_4:Nat),∃(q_2:Rat),∃(n_5:Nat),∃(q_3:Rat),∃(n_6:Nat),∃(q_4:Rat),∃(n_7:Nat),∃(ys:List (List Ch)),ldE (List.map linkCh a.links) (Int.ofNat x.fst).toNat 0 16=some [Ch.r q n_3,Ch.r q_1 n_4,Ch.r q_2 n_5,Ch.r q_3 n_6,Ch.r q_4 n_7,Ch.s 6 ys]∧(0≤Int.ofNat x.fst∧Int.ofNat x.fst<Int.ofNat (lR m qs).length)∧∃(q:Rat),∃(n_8:Nat),ldE (lR m qs) (Int.ofNat x.fst).toNat 0 3=some [Ch.r q n_8]∧(0≤Int.ofNat x.fst∧Int.ofNat x.fst<Int.ofNat (lR n ps).length)∧∃(q_5:Rat),∃(n_9:Nat),ldE (lR n ps) (Int.ofNat x.fst).toNat 0 3=some [Ch.r q_5 n_9]∧n_8+n_9+1≤4294967296∧n_8+n_9+1≤4294967296∧n_8+n_9+1+n_6≤4294967296∧(q_3≠OfNat.ofNat 0→(n_8+n_9+1+n_6≤1000000∧OfNat.ofNat 0≤absR (q-q_5)/q_3∧absR (q-q_5)/q_3≤OfNat.ofNat 2000)∧∃(x':Nat × Int),(((x'.fst≤a.links.length∧1≤x'.snd∧x'.snd≤100)∧tkG (List.drop x'.fst a.links) (List.drop x'.fst ps) (List.drop x'.fst qs) x'.snd=tkV a ps qs)∧OfNat.ofNat 0=0∧a.links.length-x'.fst<a.links.length-x.fst)∧3=3∧lR n ps=lR n ps∧3=3∧lR m qs=lR m qs∧0=0∧(bif true then if ceilR (absR (q-q_5)/q_3)>x.snd then ceilR (absR (q-q_5)/q_3) else x.snd else if ceilR (absR (q-q_5)/q_3)<x.snd then ceilR (absR (q-q_5)/q_3) else x.snd)=x'.snd∧16=16∧List.map linkCh a.links=List.map linkCh a.links∧Int.ofNat a.links.length=Int.ofNat a.links.length∧IntKind.i64.wrap (Int.ofNat x.fst+1)=Int.ofNat x'.fst∧34=34∧a.name=a.name∧a.x=a.x∧63≤63∧a.y=a.y∧63≤63∧a.half=a.half∧a.t=a.t∧63≤63∧16=16∧List.map linkCh a.links=List.map linkCh a.links∧True)∧(q_3=OfNat.ofNat 0→False) else bif decide (x.snd>2000) then K (AV.t [(false,[Ch.v (Value.int IntKind.i64 0)]),(false,[Ch.v (Value.int IntKind.i64 19)])]) else K (AV.t [(false,[Ch.v (Value.int IntKind.i64 x.snd)]),(false,[Ch.v (Value.int IntKind.i64 0)])]))∧(¬Fit a_3 qs_2→K (AV.t [(false,[Ch.v (Value.int IntKind.i64 0)]),(false,[Ch.v (Value.int IntKind.i64 17)])])))∧(¬Fit a_1 qs_1→K (AV.t [(false,[Ch.v (Value.int IntKind.i64 0)]),(false,[Ch.v (Value.int IntKind.i64 17)])]))) := by kernel_rfl
theorem g_tTicks (a : ArmV) (n : Nat) (ps : List Rat) (m : Nat) (qs : List Rat) (hc : (GoodArm a) ∧ (n ≤ 10000 ∧ m ≤ 10000) ∧ ((ps.length = a.links.length ∧ qs.length = a.links.length) ∧ Fit a ps ∧ Fit a qs) ∧ (NearQ a ps qs)) (K : AV → Prop) (hK : K (.t [(false, [.v (.int .i64 (tkV a ps qs))]), (false, [.v (.int .i64 0)])])) : Holds (goal_tTicks a n ps m qs K) := by
 refine ⟨?_⟩
 rw [goal_tTicks_vc]
 try simp only [Int.ofNat_eq_natCast, true_and, and_true, Nat.zero_add, Nat.le_refl, true_implies, true_or, or_true]
 obtain ⟨hg, ⟨hn, hm⟩, ⟨⟨hp, hq⟩, fp, fq⟩, hnr⟩ := hc
 have hgn := hg.n
 simp only [List.length_map, lR_len]
 refine ⟨by omega, _, rfl, a, n, ps, rfl, rfl, ⟨hg, by omega, hp⟩, fun _ => ⟨by omega, _, rfl, a, m, qs, rfl, rfl, ⟨hg, by omega, hq⟩, fun _ => ⟨⟨(0, 1), ⟨⟨by omega, by omega, by omega⟩, rfl⟩, rfl, trivial, rfl⟩, fun x ⟨⟨hx1, hx2, hx3⟩, he⟩ => bif_mk (fun hi => ?_) (fun hi => ?_)⟩, fun h => absurd fq h⟩, fun h => absurd fp h⟩
 ·have hi : x.1 < a.links.length := by have := of_decide_eq_true hi; omega
  obtain ⟨L, hL⟩ : ∃ L, a.links[x.1]? = some L := ⟨_, List.getElem?_eq_getElem hi⟩
  obtain ⟨p, hpp⟩ : ∃ p, ps[x.1]? = some p := ⟨_, List.getElem?_eq_getElem (by omega)⟩
  obtain ⟨q, hqq⟩ : ∃ q, qs[x.1]? = some q := ⟨_, List.getElem?_eq_getElem (by omega)⟩
  obtain ⟨⟨d0, d1⟩, c0, c1⟩ := near_ceil hg hnr hL hpp hqq
  have hs := (hg.links L (List.mem_of_getElem? hL)).sp
  rw [drop_g hL, drop_g hpp, drop_g hqq] at he
  have d2 : absR (q - p) / L.sp ≤ 2000 := Rat.le_trans d1 (by decide +kernel)
  refine ⟨by omega, _, _, _, _, _, _, _, _, _, _, _, link_ld (by simpa using hL), by omega, q, m, lR_ld (by simpa using hqq), by omega, p, n, lR_ld (by simpa using hpp), by omega, by omega, by omega, fun _ => ⟨⟨by omega, d0, d2⟩, (x.1 + 1, max x.2 (ceilR (absR (q - p) / L.sp))), ⟨⟨⟨hi, by simp only; omega, by simp only; omega⟩, he⟩, by simp only; omega⟩, ?_, by rw [w64 (by omega)]; simp⟩, fun h0 => ?_⟩
  ·simp only [cond_true]
   split <;> omega
  ·rw [h0] at hs; exact Rat.lt_irrefl hs
 ·have hi : x.1 = a.links.length := by have := of_decide_eq_false hi; omega
  rw [hi, List.drop_length] at he
  have he : x.2 = tkV a ps qs := he
  refine bif_mk (fun h => by have := of_decide_eq_true h; omega) (fun _ => ?_)
  rw [he]
  exact hK
def c_tTicks : Ctr := fun as0 => match as0 with
 | [.x true xs, .x false [.s 3 ys], .x false [.s 3 zs]] => some fun K => ∃ (a : ArmV) (n : Nat) (ps : List Rat) (m : Nat) (qs : List Rat), xs = armCh a ∧ ys = lR n ps ∧ zs = lR m qs ∧ ((GoodArm a) ∧ (n ≤ 10000 ∧ m ≤ 10000) ∧ ((ps.length = a.links.length ∧ qs.length = a.links.length) ∧ Fit a ps ∧ Fit a qs) ∧ (NearQ a ps qs)) ∧ (K (.t [(false, [.v (.int .i64 (tkV a ps qs))]), (false, [.v (.int .i64 0)])]))
 | _ => none
theorem ok_tTicks : CtrOK Tryd.prog tabG debT 60 c_tTicks := by
 refine ⟨enters Tryd.func60 (by kernel_rfl), fun l T hT K hK => ?_⟩
 unfold c_tTicks at hT
 split at hT
 ·cases hT
  obtain ⟨a, n, ps, m, qs, rfl, rfl, rfl, hc, hK⟩ := hK
  exact spec_ofL T201mok mixed Tryd.func60 (by kernel_rfl) (by kernel_rfl) (by rfl) (g_tTicks _ _ _ _ _ hc K hK)
 ·cases hT
def L202m : List (Nat × Ctr) := (60, c_tTicks) :: L201m
def T202m : Tabs := mkT L202m M99 X4
theorem L202mok : CtrsOK Tryd.prog tabG debT L202m := .cons ok_tTicks L201mok
theorem T202mok : TabsOK Tryd.prog tabG debT T202m := mkTok L202mok M99ok X4ok
def ot_tGood : OT := fun id => bif id.beq 5 then ([0, 1, 2, 3, 4, 5, 6], [[], [], [], [1, 2], [3, 1, 2], [0, 4, 3, 1, 2], [5, 0, 4, 3, 1, 2]]) else ([], [])
def goal_tGood (n : Nat) (qs : List Rat) (K : AV → Prop) : Prop := goalL T202m ot_tGood (fun _ => .inv ⟨Nat, fun k => ⟨[(3, .x false [.w 500 0 k]), (6, sR n qs), (7, iA .i64 qs.length), (8, iA .i64 k)], [(500, rowR (n + 65) (qs.take k))]⟩, fun k => k ≤ qs.length, fun k => qs.length - k, fun _ => 0⟩) Tryd.f59 [sR n qs] K
theorem goal_tGood_vc (n : Nat) (qs : List Rat) (K : AV → Prop) : goal_tGood n qs K = ((∃(x:Nat),(x≤qs.length∧OfNat.ofNat 0=0)∧Value.slice none 0 0=Value.slice none 0 0∧0=0∧x=0∧3=3∧lR n qs=lR n qs∧Int.ofNat (lR n qs).length=Int.ofNat qs.length∧0=Int.ofNat x∧List.map (fun(q:Rat)=>[Ch.r q (n+65)]) (List.take x qs)=[]∧True)∧∀(x:Nat),x≤qs.length→OfNat.ofNat 0=0→bif decide (Int.ofNat x<Int.ofNat qs.length) then (0≤Int.ofNat x∧Int.ofNat x<Int.ofNat (lR n qs).length)∧∃(q:Rat),∃(n_1:Nat),ldE (lR n qs) (Int.ofNat x).toNat 0 3=some [Ch.r q n_1]∧((-9223372036854775808:Int)≤0∧(0:Int)<9223372036854775808)∧n_1+64+1≤4294967296∧((x+1)*40≤140737488355328∧x+1≤9223372036854775807)∧∃(x':Nat),(x'≤qs.length∧OfNat.ofNat 0=0∧qs.length-x'<qs.length-x)∧0=0∧x+1=x'∧3=3∧lR n qs=lR n qs∧Int.ofNat qs.length=Int.ofNat qs.length∧IntKind.i64.wrap (Int.ofNat x+1)=Int.ofNat x'∧25=25∧3=3∧(List.take x (List.map (fun(q:Rat)=>[Ch.r q (n+65)]) (List.take x qs))++[[Ch.r (q+↑(0:Int)) (n_1+64+1)]]=List.map (fun(q:Rat)=>[Ch.r q (n+65)]) (List.take x' qs)∨RowLE (List.take x (List.map (fun(q:Rat)=>[Ch.r q (n+65)]) (List.take x qs))++[[Ch.r (q+↑(0:Int)) (n_1+64+1)]]) (List.map (fun(q:Rat)=>[Ch.r q (n+65)]) (List.take x' qs)))∧True else K (AV.x false [Ch.s 3 (List.take x (List.drop 0 (List.map (fun(q:Rat)=>[Ch.r q (n+65)]) (List.take x qs))))])) := by kernel_rfl
theorem g_tGood (n : Nat) (qs : List Rat) (hc : (n ≤ 1000000 ∧ qs.length ≤ 1000000)) (K : AV → Prop) (hK : K (sR (n + 65) qs)) : Holds (goal_tGood n qs K) := by
 refine ⟨?_⟩
 rw [goal_tGood_vc]
 try simp only [Int.ofNat_eq_natCast, true_and, and_true, Nat.zero_add, Nat.le_refl, true_implies, true_or, or_true]
 refine ⟨⟨0, by omega, rfl, by rw [lR_len], rfl, by simp⟩, fun x hx => bif_mk (fun hp => ?_) (fun hp => ?_)⟩
 ·have hp : x < qs.length := by have := of_decide_eq_true hp; omega
  obtain ⟨q, hq⟩ : ∃ q, qs[x]? = some q := ⟨_, List.getElem?_eq_getElem hp⟩
  refine ⟨by rw [lR_len]; omega, _, _, lR_ld (by simpa using hq), by omega, by omega, by omega, x + 1, ⟨by omega, by omega⟩, rfl, by rw [w64 (by omega)]; simp, .inl ?_⟩
  rw [List.take_of_length_le (by rw [List.length_map, List.length_take]; omega), List.take_add_one, hq, List.map_append]
  simp only [Option.toList, List.map_cons, List.map_nil]
  rw [show q + ((0 : Int) : Rat) = q by rw [Rat.intCast_zero, Rat.add_zero]]
 ·have hp : x = qs.length := by have := of_decide_eq_false hp; omega
  subst hp
  rw [List.drop_zero, List.take_length, List.take_of_length_le (by rw [List.length_map]; exact Nat.le_refl _)]
  exact hK
def c_tGood : Ctr := fun as0 => match as0 with
 | [.x false [.s 3 xs]] => some fun K => ∃ (n : Nat) (qs : List Rat), xs = lR n qs ∧ ((n ≤ 1000000 ∧ qs.length ≤ 1000000)) ∧ (K (sR (n + 65) qs))
 | _ => none
theorem ok_tGood : CtrOK Tryd.prog tabG debT 59 c_tGood := by
 refine ⟨enters Tryd.func59 (by kernel_rfl), fun l T hT K hK => ?_⟩
 unfold c_tGood at hT
 split at hT
 ·cases hT
  obtain ⟨n, qs, rfl, hc, hK⟩ := hK
  exact spec_ofL T202mok mixed Tryd.func59 (by kernel_rfl) (by kernel_rfl) (by rfl) (g_tGood _ _ hc K hK)
 ·cases hT
def L203m : List (Nat × Ctr) := (59, c_tGood) :: L202m
def T203m : Tabs := mkT L203m M99 X4
theorem L203mok : CtrsOK Tryd.prog tabG debT L203m := .cons ok_tGood L202mok
theorem T203mok : TabsOK Tryd.prog tabG debT T203m := mkTok L203mok M99ok X4ok
def ot_tPlan : OT := fun id => bif id.beq 10 then ([0, 1, 2, 3, 4, 5], [[], [], [1], [2, 1], [0, 3, 2, 1], [4, 0, 3, 2, 1]]) else bif id.beq 17 then ([0, 1, 2, 3, 4, 5, 6, 7, 8, 9, 10, 11, 12, 13, 14, 15], [[], [], [], [2], [1, 3, 2], [4, 1, 3, 2], [], [], [6, 7], [8, 6, 7], [0, 5, 4, 1, 3, 2, 9, 8, 6, 7], [10, 0, 5, 4, 1, 3, 2, 9, 8, 6, 7], [11, 10, 0, 5, 4, 1, 3, 2, 9, 8, 6, 7], [11, 10, 0, 5, 4, 1, 3, 2, 9, 8, 6, 7], [12, 11, 10, 0, 5, 4, 1, 3, 2, 9, 8, 6, 7], [13, 11, 10, 0, 5, 4, 1, 3, 2, 9, 8, 6, 7, 14, 12]]) else bif id.beq 22 then ([0, 1, 2, 3, 4, 5, 6, 7, 8, 9, 10, 11, 12, 13, 14, 15, 16, 17], [[], [], [], [2], [1, 3, 2], [4, 1, 3, 2], [5, 4, 1, 3, 2], [], [6, 5, 4, 1, 3, 2, 7], [], [], [9, 10], [11, 9, 10], [12, 11, 9, 10], [8, 6, 5, 4, 1, 3, 2, 7, 13, 12, 11, 9, 10], [14, 8, 6, 5, 4, 1, 3, 2, 7, 13, 12, 11, 9, 10], [0, 15, 14, 8, 6, 5, 4, 1, 3, 2, 7, 13, 12, 11, 9, 10], [16, 0, 15, 14, 8, 6, 5, 4, 1, 3, 2, 7, 13, 12, 11, 9, 10]]) else ([], [])
def goal_tPlan (a : ArmV) (n : Nat) (w : List (List Rat)) (f : Int) (K : AV → Prop) : Prop := goalL T203m ot_tPlan (inv_plan a n w f) Tryd.f32 [armA a, sW n w, iA .i64 f] K
theorem goal_tPlan_vc (a : ArmV) (n : Nat) (w : List (List Rat)) (f : Int) (K : AV → Prop) : goal_tPlan a n w f K = (∃(a_1:ArmV),[Ch.v (Value.string a.name),Ch.r a.x 63,Ch.r a.y 63,Ch.v (Value.bool a.half),Ch.r a.t 63,Ch.s 16 (List.map linkCh a.links)]=[Ch.v (Value.string a_1.name),Ch.r a_1.x 63,Ch.r a_1.y 63,Ch.v (Value.bool a_1.half),Ch.r a_1.t 63,Ch.s 16 (List.map linkCh a_1.links)]∧GoodArm a_1∧bif Int.ofNat (wN n w).length==0 then K (AV.t [(false,[Ch.v (Value.slice none 0 0)]),(false,[Ch.v (Value.int IntKind.i64 14)])]) else bif decide (Int.ofNat (wN n w).length>60) then K (AV.t [(false,[Ch.v (Value.slice none 0 0)]),(false,[Ch.v (Value.int IntKind.i64 2)])]) else bif decide (f<0) then K (AV.t [(false,[Ch.v (Value.slice none 0 0)]),(false,[Ch.v (Value.int IntKind.i64 1)])]) else bif decide (f>2000) then K (AV.t [(false,[Ch.v (Value.slice none 0 0)]),(false,[Ch.v (Value.int IntKind.i64 1)])]) else ((0:Int)≤0∧0<Int.ofNat (wN n w).length)∧∃(ys:List (List Ch)),ldE (wN n w) 0 0 1=some [Ch.s 3 ys]∧∃(a_2:ArmV),∃(n_1:Nat),∃(qs:List Rat),[Ch.v (Value.string a.name),Ch.r a.x 63,Ch.r a.y 63,Ch.v (Value.bool a.half),Ch.r a.t 63,Ch.s 16 (List.map linkCh a.links)]=[Ch.v (Value.string a_2.name),Ch.r a_2.x 63,Ch.r a_2.y 63,Ch.v (Value.bool a_2.half),Ch.r a_2.t 63,Ch.s 16 (List.map linkCh a_2.links)]∧ys=lR n_1 qs∧(GoodArm a_2∧n_1≤1000000∧qs.length=a_2.links.length)∧((∀(i:Nat) (L:LinkV) (q:Rat),a_2.links[i]?=some L→qs[i]?=some q→L.lo≤q∧q≤L.hi)→((0:Int)≤0∧0<Int.ofNat (wN n w).length)∧∃(ys:List (List Ch)),ldE (wN n w) 0 0 1=some [Ch.s 3 ys]∧∃(n_2:Nat),∃(qs:List Rat),ys=lR n_2 qs∧(n_2≤1000000∧qs.length≤1000000)∧(∃(x:PnX),(PnI a (n+65) w f x∧OfNat.ofNat 0=0)∧1=1∧wN n w=wN n w∧0=0∧0=0∧1=x.i∧1=Int.ofNat x.i∧34=34∧a.name=a.name∧a.x=a.x∧63≤63∧a.y=a.y∧63≤63∧a.half=a.half∧a.t=a.t∧63≤63∧16=16∧List.map linkCh a.links=List.map linkCh a.links∧47=47∧2=2∧([[Ch.v (Value.int IntKind.i64 f),Ch.s 3 (lR (n_2+65) qs)]]=List.map keyCh x.o∨RowLE [[Ch.v (Value.int IntKind.i64 f),Ch.s 3 (lR (n_2+65) qs)]] (List.map keyCh x.o))∧True)∧∀(x:PnX),PnI a (n+65) w f x→OfNat.ofNat 0=0→bif decide (Int.ofNat x.i<Int.ofNat (wN n w).length) then (0≤IntKind.i64.wrap (Int.ofNat x.i-1)∧IntKind.i64.wrap (Int.ofNat x.i-1)<Int.ofNat (wN n w).length)∧∃(ys:List (List Ch)),ldE (wN n w) (IntKind.i64.wrap (Int.ofNat x.i-1)).toNat 0 1=some [Ch.s 3 ys]∧(0≤Int.ofNat x.i∧Int.ofNat x.i<Int.ofNat (wN n w).length)∧∃(ys_1:List (List Ch)),ldE (wN n w) (Int.ofNat x.i).toNat 0 1=some [Ch.s 3 ys_1]∧∃(a_6:ArmV),∃(n_3:Nat),∃(ps:List Rat),∃(m:Nat),∃(qs:List Rat),[Ch.v (Value.string a.name),Ch.r a.x 63,Ch.r a.y 63,Ch.v (Value.bool a.half),Ch.r a.t 63,Ch.s 16 (List.map linkCh a.links)]=[Ch.v (Value.string a_6.name),Ch.r a_6.x 63,Ch.r a_6.y 63,Ch.v (Value.bool a_6.half),Ch.r a_6.t 63,Ch.s 16 (List.map linkCh a_6.links)]∧ys=lR n_3 ps∧ys_1=lR m qs∧(GoodArm a_6∧(n_3≤10000∧m≤10000)∧((ps.length=a_6.links.length∧qs.length=a_6.links.length)∧(∀(i:Nat) (L:LinkV) (q:Rat),a_6.links[i]?=some L→ps[i]?=some q→L.lo≤q∧q≤L.hi)∧∀(i:Nat) (L:LinkV) (q:Rat),a_6.links[i]?=some L→qs[i]?=some q→L.lo≤q∧q≤L.hi)∧∀(i:Nat) (L:LinkV) (p q:Rat),a_6.links[i]?=some L→ps[i]?=some p→qs[i]?=some q→absR (q-p)≤L.sp*OfNat.ofNat 100)∧(0≤IntKind.i64.wrap (Int.ofNat x.i-1)∧IntKind.i64.wrap (Int.ofNat x.i-1)<Int.ofNat x.i)∧∃(d:Int),ldE (List.map keyCh x.o) (0+(IntKind.i64.wrap (Int.ofNat x.i-1)).toNat) 0 1=some [Ch.v (Value.int IntKind.i64 d)]∧bif decide (IntKind.i64.wrap (d+tkV a_6 ps qs)>2000) then K (AV.t [(false,[Ch.v (Value.slice none 0 0)]),(false,[Ch.v (Value.int IntKind.i64 19)])]) else (0≤IntKind.i64.wrap (Int.ofNat x.i-1)∧IntKind.i64.wrap (Int.ofNat x.i-1)<Int.ofNat x.i)∧∃(d:Int),ldE (List.map keyCh x.o) (0+(IntKind.i64.wrap (Int.ofNat x.i-1)).toNat) 0 1=some [Ch.v (Value.int IntKind.i64 d)]∧(0≤Int.ofNat x.i∧Int.ofNat x.i<Int.ofNat (wN n w).length)∧∃(ys:List (List Ch)),ldE (wN n w) (Int.ofNat x.i).toNat 0 1=some [Ch.s 3 ys]∧∃(n_4:Nat),∃(qs_1:List Rat),ys=lR n_4 qs_1∧(n_4≤1000000∧qs_1.length≤1000000)∧((x.i+1)*32≤140737488355328∧x.i+1≤9223372036854775807)∧∃(x':PnX),(PnI a (n+65) w f x'∧OfNat.ofNat 0=0∧w.length-x'.i<w.length-x.i)∧1=1∧wN n w=wN n w∧0=0∧0=0∧x.i+1=x'.i∧IntKind.i64.wrap (Int.ofNat x.i+1)=Int.ofNat x'.i∧34=34∧a.name=a.name∧a.x=a.x∧63≤63∧a.y=a.y∧63≤63∧a.half=a.half∧a.t=a.t∧63≤63∧16=16∧List.map linkCh a.links=List.map linkCh a.links∧47=47∧2=2∧(List.take x.i (List.map keyCh x.o)++[[Ch.v (Value.int IntKind.i64 (IntKind.i64.wrap (d+tkV a_6 ps qs))),Ch.s 3 (lR (n_4+65) qs_1)]]=List.map keyCh x'.o∨RowLE (List.take x.i (List.map keyCh x.o)++[[Ch.v (Value.int IntKind.i64 (IntKind.i64.wrap (d+tkV a_6 ps qs))),Ch.s 3 (lR (n_4+65) qs_1)]]) (List.map keyCh x'.o))∧True else K (AV.t [(false,[Ch.s 2 (List.take x.i (List.drop 0 (List.map keyCh x.o)))]),(false,[Ch.v (Value.int IntKind.i64 0)])]))∧(¬Fit a_2 qs→K (AV.t [(false,[Ch.v (Value.slice none 0 0)]),(false,[Ch.v (Value.int IntKind.i64 17)])]))) := by kernel_rfl
theorem g_tPlan (a : ArmV) (n : Nat) (w : List (List Rat)) (f : Int) (hc : (GoodArm a) ∧ (WayOK w a.links.length ∧ n ≤ 1000) ∧ ((∀ q ∈ w, Fit a q) ∧ ∀ (i : Nat) (p q : List Rat), w[i]? = some p → w[i + 1]? = some q → NearQ a p q) ∧ (0 ≤ f ∧ f + 100 * (w.length : Int) ≤ 2000)) (K : AV → Prop) (hK : K (.t [(false, [.s 2 ((planV a (n + 65) f w).map keyCh)]), (false, [.v (.int .i64 0)])])) : Holds (goal_tPlan a n w f K) := by
 refine ⟨?_⟩
 rw [goal_tPlan_vc]
 try simp only [Int.ofNat_eq_natCast, true_and, and_true, Nat.zero_add, Nat.le_refl, true_implies, true_or, or_true]
 obtain ⟨hg, ⟨hw, hn⟩, ⟨hf, hnear⟩, f0, f1⟩ := hc
 have hwn := hw.n
 have hgn := hg.n
 have wl : (wN n w).length = w.length := by simp [wN]
 have hlen : ∀ {i : Nat} {q : List Rat}, w[i]? = some q → q.length = a.links.length := fun h => hw.len _ (List.mem_of_getElem? h)
 rw [wl]
 obtain ⟨q0, h0⟩ : ∃ q, w[0]? = some q := ⟨_, List.getElem?_eq_getElem (by omega)⟩
 have l0 := hlen h0
 have ew : w = q0 :: w.drop 1 := by have := drop_g h0; simpa using this
 refine ⟨a, rfl, hg, bif_mk (fun h => by have := eq_of_beq h; omega) (fun _ => bif_mk (fun h => by have := of_decide_eq_true h; omega) (fun _ => bif_mk (fun h => by have := of_decide_eq_true h; omega) (fun _ => bif_mk (fun h => by have := of_decide_eq_true h; omega) (fun _ => ⟨by omega, _, way_ld h0, a, n, q0, rfl, rfl, ⟨hg, by omega, l0⟩, fun _ => ⟨by omega, _, way_ld h0, n, q0, rfl, ⟨by omega, by omega⟩, ⟨⟨[⟨f, n + 65, q0⟩], 1, f⟩, ⟨⟨by simp, by simp only; omega⟩, rfl, ⟨q0, h0, rfl, ?_⟩, f0, by simp only; omega⟩, rfl, rfl, .inl rfl⟩, fun x hx => bif_mk (fun hi => ?_) (fun hi => ?_)⟩, fun h => absurd (hf q0 (List.mem_of_getElem? h0)) h⟩))))⟩
 ·show [⟨f, n + 65, q0⟩] ++ keysGo a (n + 65) f q0 (w.drop 1) = planV a (n + 65) f w
  conv => rhs; rw [ew]
  rfl
 ·have hi : x.i < w.length := by have := of_decide_eq_true hi; omega
  obtain ⟨p, hp, ho, he⟩ := hx.last
  have x1 := hx.i.1
  have xo := hx.o
  have xt := hx.t
  obtain ⟨q, hq⟩ : ∃ q, w[x.i]? = some q := ⟨_, List.getElem?_eq_getElem hi⟩
  have lp := hlen hp
  have lq := hlen hq
  have hnr : NearQ a p q := hnear (x.i - 1) p q hp (by rw [show x.i - 1 + 1 = x.i by omega]; exact hq)
  have hr := tkV_range hg hnr
  have e1 : IntKind.i64.wrap ((x.i : Int) - 1) = ((x.i - 1 : Nat) : Int) := by rw [w64 (by omega)]; omega
  have e2 : IntKind.i64.wrap (x.t + tkV a p q) = x.t + tkV a p q := w64 (by omega)
  rw [e1, Int.toNat_natCast]
  rw [drop_g hq] at he
  refine ⟨by omega, _, way_ld hp, by omega, _, way_ld (by simpa using hq), a, n, p, n, q, rfl, rfl, rfl, ⟨hg, ⟨by omega, by omega⟩, ⟨⟨lp, lq⟩, hf p (List.mem_of_getElem? hp), hf q (List.mem_of_getElem? hq)⟩, hnr⟩, by omega, x.t, key_ld0 ho, bif_mk (fun h => by have := of_decide_eq_true h; rw [e2] at this; omega) (fun _ => ⟨by omega, x.t, key_ld0 ho, by omega, _, way_ld (by simpa using hq), n, q, rfl, ⟨by omega, by omega⟩, ⟨by omega, by omega⟩, ⟨x.o ++ [⟨x.t + tkV a p q, n + 65, q⟩], x.i + 1, x.t + tkV a p q⟩, ⟨⟨⟨by simp, hi⟩, by simp [xo], ⟨q, by simpa using hq, ?_, ?_⟩, by simp only; omega, by simp only; omega⟩, by simp only; omega⟩, rfl, by rw [w64 (by omega)]; simp, .inl ?_⟩)⟩
  ·simp only [Nat.add_sub_cancel]
   rw [List.getElem?_append_right (by omega), xo, Nat.sub_self]; rfl
  ·simp only
   rw [List.append_assoc]
   exact he
  ·simp only
   rw [e2, List.take_of_length_le (by rw [List.length_map]; omega), List.map_append]
   rfl
 ·have hi : x.i = w.length := by have := of_decide_eq_false hi; have := hx.i.2; omega
  obtain ⟨p, hp, ho, he⟩ := hx.last
  rw [hi, List.drop_length] at he
  have he : x.o ++ [] = planV a (n + 65) f w := he
  rw [List.append_nil] at he
  rw [List.drop_zero, List.take_of_length_le (by rw [List.length_map, hx.o]; exact Nat.le_refl _), he]
  exact hK
def c_tPlan : Ctr := fun as0 => match as0 with
 | [.x true xs, .x false [.s 1 ys], .x false [.v (.int .i64 f)]] => some fun K => ∃ (a : ArmV) (n : Nat) (w : List (List Rat)), xs = armCh a ∧ ys = wN n w ∧ ((GoodArm a) ∧ (WayOK w a.links.length ∧ n ≤ 1000) ∧ ((∀ q ∈ w, Fit a q) ∧ ∀ (i : Nat) (p q : List Rat), w[i]? = some p → w[i + 1]? = some q → NearQ a p q) ∧ (0 ≤ f ∧ f + 100 * (w.length : Int) ≤ 2000)) ∧ (K (.t [(false, [.s 2 ((planV a (n + 65) f w).map keyCh)]), (false, [.v (.int .i64 0)])]))
 | _ => none
theorem ok_tPlan : CtrOK Tryd.prog tabG debT 32 c_tPlan := by
 refine ⟨enters Tryd.func32 (by kernel_rfl), fun l T hT K hK => ?_⟩
 unfold c_tPlan at hT
 split at hT
 ·cases hT
  obtain ⟨a, n, w, rfl, rfl, hc, hK⟩ := hK
  exact spec_ofL T203mok mixed Tryd.func32 (by kernel_rfl) (by kernel_rfl) (by rfl) (g_tPlan _ _ _ _ hc K hK)
 ·cases hT
def L204m : List (Nat × Ctr) := (32, c_tPlan) :: L203m
def T204m : Tabs := mkT L204m M99 X4
theorem L204mok : CtrsOK Tryd.prog tabG debT L204m := .cons ok_tPlan L203mok
theorem T204mok : TabsOK Tryd.prog tabG debT T204m := mkTok L204mok M99ok X4ok
end Go.Proofs
/- TimingFits. -/
namespace Go.Proofs
open Go Go.Eng
def inS (l : List Int) : AV := .x false [.s 1 (ints l)]
structure WfI (a : ArmV) (l : List Int) (x : WyX) : Prop where
 hn : x.w.length ≤ x.n ∧ 1 ≤ x.n ∧ x.n ≤ 5
 len : ∀ q ∈ x.w, q.length = a.links.length
 fit : ∀ q ∈ x.w, Fit a q
 hl : x.l.length ≤ l.length
def ot_tCheckL : OT := fun id => bif id.beq 17 then ([0, 1, 2, 3, 4, 5, 6, 7, 8], [[], [0], [], [], [3], [2, 4, 3], [5, 2, 4, 3], [6, 5, 2, 4, 3], [1, 0, 7, 6, 5, 2, 4, 3]]) else bif id.beq 19 then ([0, 1, 2, 3, 4, 5, 6, 7, 8], [[], [], [], [2], [1, 3, 2], [4, 1, 3, 2], [], [0, 5, 4, 1, 3, 2, 6], [7, 0, 5, 4, 1, 3, 2, 6]]) else ([], [])
def goal_tCheckL (a : ArmV) (x : KeyV) (y : KeyV) (K : AV → Prop) : Prop := goalL T204m ot_tCheckL (fun _ => .inv ⟨Nat, fun i => ⟨[(1, .x false [.s 2 [keyCh x, keyCh y]]), (2, .x false [.p 2 0]), (20, .x false [.s 2 [keyCh x, keyCh y]]), (21, iA .i64 2), (22, iA .i64 i)], [(2, .box 34 (armCh a))]⟩, fun i => i ≤ 1, fun i => 1 - i, fun _ => 0⟩) Tryd.f33 [armA a, .x false [.s 2 [keyCh x, keyCh y]]] K
theorem goal_tCheckL_vc (a : ArmV) (x : KeyV) (y : KeyV) (K : AV → Prop) : goal_tCheckL a x y K = (∃(a_1:ArmV),[Ch.v (Value.string a.name),Ch.r a.x 63,Ch.r a.y 63,Ch.v (Value.bool a.half),Ch.r a.t 63,Ch.s 16 (List.map linkCh a.links)]=[Ch.v (Value.string a_1.name),Ch.r a_1.x 63,Ch.r a_1.y 63,Ch.v (Value.bool a_1.half),Ch.r a_1.t 63,Ch.s 16 (List.map linkCh a_1.links)]∧GoodArm a_1∧(∃(x_1:Nat),(x_1≤1∧OfNat.ofNat 0=0)∧2=2∧[[Ch.v (Value.int IntKind.i64 x.tick),Ch.s 3 (lR x.n x.q)],[Ch.v (Value.int IntKind.i64 y.tick),Ch.s 3 (lR y.n y.q)]]=[[Ch.v (Value.int IntKind.i64 x.tick),Ch.s 3 (lR x.n x.q)],[Ch.v (Value.int IntKind.i64 y.tick),Ch.s 3 (lR y.n y.q)]]∧0=0∧2=2∧[[Ch.v (Value.int IntKind.i64 x.tick),Ch.s 3 (lR x.n x.q)],[Ch.v (Value.int IntKind.i64 y.tick),Ch.s 3 (lR y.n y.q)]]=[[Ch.v (Value.int IntKind.i64 x.tick),Ch.s 3 (lR x.n x.q)],[Ch.v (Value.int IntKind.i64 y.tick),Ch.s 3 (lR y.n y.q)]]∧Int.ofNat 2=2∧0=Int.ofNat x_1∧34=34∧a.name=a.name∧a.x=a.x∧63≤63∧a.y=a.y∧63≤63∧a.half=a.half∧a.t=a.t∧63≤63∧16=16∧List.map linkCh a.links=List.map linkCh a.links∧True)∧∀(x_1:Nat),x_1≤1→OfNat.ofNat 0=0→bif decide (Int.ofNat x_1<2) then (0≤Int.ofNat x_1∧Int.ofNat x_1<Int.ofNat 2)∧∃(d:Int),∃(ys:List (List Ch)),ldE [[Ch.v (Value.int IntKind.i64 x.tick),Ch.s 3 (lR x.n x.q)],[Ch.v (Value.int IntKind.i64 y.tick),Ch.s 3 (lR y.n y.q)]] (Int.ofNat x_1).toNat 0 2=some [Ch.v (Value.int IntKind.i64 d),Ch.s 3 ys]∧bif decide (d<0) then K (AV.x false [Ch.v (Value.int IntKind.i64 1)]) else bif decide (d>2000) then K (AV.x false [Ch.v (Value.int IntKind.i64 1)]) else ∃(a_4:ArmV),∃(n:Nat),∃(qs:List Rat),[Ch.v (Value.string a.name),Ch.r a.x 63,Ch.r a.y 63,Ch.v (Value.bool a.half),Ch.r a.t 63,Ch.s 16 (List.map linkCh a.links)]=[Ch.v (Value.string a_4.name),Ch.r a_4.x 63,Ch.r a_4.y 63,Ch.v (Value.bool a_4.half),Ch.r a_4.t 63,Ch.s 16 (List.map linkCh a_4.links)]∧ys=lR n qs∧(GoodArm a_4∧n≤1000000∧qs.length=a_4.links.length)∧((∀(i:Nat) (L:LinkV) (q:Rat),a_4.links[i]?=some L→qs[i]?=some q→L.lo≤q∧q≤L.hi)→bif Int.ofNat x_1==0 then ∃(x':Nat),(x'≤1∧OfNat.ofNat 0=0∧1-x'<1-x_1)∧2=2∧[[Ch.v (Value.int IntKind.i64 x.tick),Ch.s 3 (lR x.n x.q)],[Ch.v (Value.int IntKind.i64 y.tick),Ch.s 3 (lR y.n y.q)]]=[[Ch.v (Value.int IntKind.i64 x.tick),Ch.s 3 (lR x.n x.q)],[Ch.v (Value.int IntKind.i64 y.tick),Ch.s 3 (lR y.n y.q)]]∧0=0∧2=2∧[[Ch.v (Value.int IntKind.i64 x.tick),Ch.s 3 (lR x.n x.q)],[Ch.v (Value.int IntKind.i64 y.tick),Ch.s 3 (lR y.n y.q)]]=[[Ch.v (Value.int IntKind.i64 x.tick),Ch.s 3 (lR x.n x.q)],[Ch.v (Value.int IntKind.i64 y.tick),Ch.s 3 (lR y.n y.q)]]∧(2:Int)=2∧IntKind.i64.wrap (Int.ofNat x_1+1)=Int.ofNat x'∧34=34∧a.name=a.name∧a.x=a.x∧63≤63∧a.y=a.y∧63≤63∧a.half=a.half∧a.t=a.t∧63≤63∧16=16∧List.map linkCh a.links=List.map linkCh a.links∧True else (0≤IntKind.i64.wrap (Int.ofNat x_1-1)∧IntKind.i64.wrap (Int.ofNat x_1-1)<Int.ofNat 2)∧∃(d_1:Int),ldE [[Ch.v (Value.int IntKind.i64 x.tick),Ch.s 3 (lR x.n x.q)],[Ch.v (Value.int IntKind.i64 y.tick),Ch.s 3 (lR y.n y.q)]] (IntKind.i64.wrap (Int.ofNat x_1-1)).toNat 0 1=some [Ch.v (Value.int IntKind.i64 d_1)]∧bif decide (d≤d_1) then K (AV.x false [Ch.v (Value.int IntKind.i64 9)]) else (0≤IntKind.i64.wrap (Int.ofNat x_1-1)∧IntKind.i64.wrap (Int.ofNat x_1-1)<Int.ofNat 2)∧∃(d_2:Int),∃(ys_1:List (List Ch)),ldE [[Ch.v (Value.int IntKind.i64 x.tick),Ch.s 3 (lR x.n x.q)],[Ch.v (Value.int IntKind.i64 y.tick),Ch.s 3 (lR y.n y.q)]] (IntKind.i64.wrap (Int.ofNat x_1-1)).toNat 0 2=some [Ch.v (Value.int IntKind.i64 d_2),Ch.s 3 ys_1]∧∃(a_6:ArmV),∃(x_2:KeyV),∃(y_1:KeyV),[Ch.v (Value.string a.name),Ch.r a.x 63,Ch.r a.y 63,Ch.v (Value.bool a.half),Ch.r a.t 63,Ch.s 16 (List.map linkCh a.links)]=[Ch.v (Value.string a_6.name),Ch.r a_6.x 63,Ch.r a_6.y 63,Ch.v (Value.bool a_6.half),Ch.r a_6.t 63,Ch.s 16 (List.map linkCh a_6.links)]∧[Ch.v (Value.int IntKind.i64 d_2),Ch.s 3 ys_1]=[Ch.v (Value.int IntKind.i64 x_2.tick),Ch.s 3 (lR x_2.n x_2.q)]∧[Ch.v (Value.int IntKind.i64 d),Ch.s 3 ys]=[Ch.v (Value.int IntKind.i64 y_1.tick),Ch.s 3 (lR y_1.n y_1.q)]∧((a_6.links.length≤3∧x_2.q.length=a_6.links.length∧y_1.q.length=a_6.links.length)∧(x_2.n≤100000∧y_1.n≤100000)∧(-1000000≤x_2.tick∧x_2.tick≤1000000)∧ -1000000≤y_1.tick∧y_1.tick≤1000000)∧((∀(i:Nat) (L:LinkV) (p q:Rat),a_6.links[i]?=some L→x_2.q[i]?=some p→y_1.q[i]?=some q→absR (q-p)≤L.sp*↑(y_1.tick-x_2.tick))→∃(x':Nat),(x'≤1∧OfNat.ofNat 0=0∧1-x'<1-x_1)∧2=2∧[[Ch.v (Value.int IntKind.i64 x.tick),Ch.s 3 (lR x.n x.q)],[Ch.v (Value.int IntKind.i64 y.tick),Ch.s 3 (lR y.n y.q)]]=[[Ch.v (Value.int IntKind.i64 x.tick),Ch.s 3 (lR x.n x.q)],[Ch.v (Value.int IntKind.i64 y.tick),Ch.s 3 (lR y.n y.q)]]∧0=0∧2=2∧[[Ch.v (Value.int IntKind.i64 x.tick),Ch.s 3 (lR x.n x.q)],[Ch.v (Value.int IntKind.i64 y.tick),Ch.s 3 (lR y.n y.q)]]=[[Ch.v (Value.int IntKind.i64 x.tick),Ch.s 3 (lR x.n x.q)],[Ch.v (Value.int IntKind.i64 y.tick),Ch.s 3 (lR y.n y.q)]]∧(2:Int)=2∧IntKind.i64.wrap (Int.ofNat x_1+1)=Int.ofNat x'∧34=34∧a.name=a.name∧a.x=a.x∧63≤63∧a.y=a.y∧63≤63∧a.half=a.half∧a.t=a.t∧63≤63∧16=16∧List.map linkCh a.links=List.map linkCh a.links∧True)∧(¬SlowR a_6 x_2 y_1→K (AV.x false [Ch.v (Value.int IntKind.i64 19)])))∧(¬Fit a_4 qs→K (AV.x false [Ch.v (Value.int IntKind.i64 17)])) else K (AV.x false [Ch.v (Value.int IntKind.i64 0)])) := by kernel_rfl
theorem g_tCheckL (a : ArmV) (x : KeyV) (y : KeyV) (hc : (GoodArm a) ∧ ((x.q.length = a.links.length ∧ y.q.length = a.links.length) ∧ x.n ≤ 10000 ∧ y.n ≤ 10000) ∧ ((0 ≤ x.tick ∧ x.tick < y.tick ∧ y.tick ≤ 2000) ∧ Fit a x.q ∧ Fit a y.q) ∧ (¬ SlowR a x y)) (K : AV → Prop) (hK : K (iA .i64 19)) : Holds (goal_tCheckL a x y K) := by
 refine ⟨?_⟩
 rw [goal_tCheckL_vc]
 try simp only [Int.ofNat_eq_natCast, true_and, and_true, Nat.zero_add, Nat.le_refl, true_implies, true_or, or_true]
 obtain ⟨hg, ⟨⟨lx, ly⟩, nx, ny⟩, ⟨⟨t0, t1, t2⟩, fx, fy⟩, hns⟩ := hc
 have hgn := hg.n
 refine ⟨a, rfl, hg, ⟨0, by omega, rfl, rfl⟩, fun i hi => bif_mk (fun hp => ?_) (fun hp => by have := of_decide_eq_false hp; omega)⟩
 have hi2 : i = 0 ∨ i = 1 := by omega
 rcases hi2 with rfl | rfl
 ·refine ⟨by omega, _, _, rfl, bif_mk (fun h => by have := of_decide_eq_true h; omega) (fun _ => bif_mk (fun h => by have := of_decide_eq_true h; omega) (fun _ => ⟨a, x.n, x.q, rfl, rfl, ⟨hg, by omega, lx⟩, fun _ => bif_mk (fun _ => ⟨1, ⟨by omega, by omega⟩, by rw [w64 (by omega)]; simp⟩) (fun h => by simp at h), fun h => absurd fx h⟩))⟩
 ·have e1 : IntKind.i64.wrap (((1 : Nat) : Int) - 1) = 0 := by rw [w64 (by omega)]; rfl
  rw [e1]
  refine ⟨by omega, _, _, rfl, bif_mk (fun h => by have := of_decide_eq_true h; omega) (fun _ => bif_mk (fun h => by have := of_decide_eq_true h; omega) (fun _ => ⟨a, y.n, y.q, rfl, rfl, ⟨hg, by omega, ly⟩, fun _ => bif_mk (fun h => by simp at h) (fun _ => ⟨by omega, _, rfl, bif_mk (fun h => by have := of_decide_eq_true h; omega) (fun _ => ⟨by omega, _, _, rfl, a, x, y, rfl, rfl, rfl, ⟨⟨by omega, lx, ly⟩, ⟨by omega, by omega⟩, by omega, by omega⟩, fun hs => absurd hs hns, fun _ => hK⟩)⟩), fun h => absurd fy h⟩))⟩
def c_tCheckL : Ctr := fun as0 => match as0 with
 | [.x true xs, .x false [.s 2 zs]] => some fun K => ∃ (a : ArmV) (x : KeyV) (y : KeyV), xs = armCh a ∧ zs = [keyCh x, keyCh y] ∧ ((GoodArm a) ∧ ((x.q.length = a.links.length ∧ y.q.length = a.links.length) ∧ x.n ≤ 10000 ∧ y.n ≤ 10000) ∧ ((0 ≤ x.tick ∧ x.tick < y.tick ∧ y.tick ≤ 2000) ∧ Fit a x.q ∧ Fit a y.q) ∧ (¬ SlowR a x y)) ∧ (K (iA .i64 19))
 | _ => none
theorem ok_tCheckL : CtrOK Tryd.prog tabG debT 33 c_tCheckL := by
 refine ⟨enters Tryd.func33 (by kernel_rfl), fun l T hT K hK => ?_⟩
 unfold c_tCheckL at hT
 split at hT
 ·cases hT
  obtain ⟨a, x, y, rfl, rfl, hc, hK⟩ := hK
  exact spec_ofL T204mok mixed Tryd.func33 (by kernel_rfl) (by kernel_rfl) (by rfl) (g_tCheckL _ _ _ hc K hK)
 ·cases hT
def L205m : List (Nat × Ctr) := (33, c_tCheckL) :: L204m
def T205m : Tabs := mkT L205m M99 X4
theorem L205mok : CtrsOK Tryd.prog tabG debT L205m := .cons ok_tCheckL L204mok
theorem T205mok : TabsOK Tryd.prog tabG debT T205m := mkTok L205mok M99ok X4ok
def ot_kWayF : OT := fun id => bif id.beq 5 then ([0, 1, 2, 4, 6, 3, 5, 7, 8, 9, 10, 11, 12], [[], [], [], [2], [], [4, 3, 2], [], [6, 5, 4, 3, 2], [3, 2, 5, 4, 7, 6], [1, 8, 3, 2, 5, 4, 7, 6], [9, 1, 8, 3, 2, 5, 4, 7, 6], [0, 10, 9, 1, 8, 3, 2, 5, 4, 7, 6], [11, 0, 10, 9, 1, 8, 3, 2, 5, 4, 7, 6]]) else ([], [])
def goal_kWayF (a : ArmV) (l : List Int) (K : AV → Prop) : Prop := goalL T205m ot_kWayF (fun _ => .inv ⟨WyX, fun x => ⟨[(2, .x false [.p 2 0]), (5, .x false [.w 500 0 x.w.length]), (6, .x false [.p 9 0]), (12, iA .i64 x.n), (13, iA .i64 x.w.length)], [(2, .box 34 (armCh a)), (9, stB x.l), (500, .row 39 1 (wN 63 x.w))]⟩, WfI a l, fun x => x.n - x.w.length, fun _ => 0⟩) Tryd.f31 [armA a, .x false [.s 1 (ints l)]] K
theorem goal_kWayF_vc (a : ArmV) (l : List Int) (K : AV → Prop) : goal_kWayF a l K = (∃(l_1:List Int),ints l=ints l_1∧((1:Int)≤5∧(5:Int)<9223372036854775808)∧l_1.length≤9223372036854775807∧∀(r:Int) (l':List Int),0≤r∧r<5→l'.length≤l_1.length→(∃(x:WyX),(WfI a l x∧OfNat.ofNat 0=0)∧0=0∧Value.slice none 0 0=Value.slice none 0 0∧0=0∧x.w.length=0∧0=0∧IntKind.i64.wrap (1+r)=Int.ofNat x.n∧0=Int.ofNat x.w.length∧34=34∧a.name=a.name∧a.x=a.x∧63≤63∧a.y=a.y∧63≤63∧a.half=a.half∧a.t=a.t∧63≤63∧16=16∧List.map linkCh a.links=List.map linkCh a.links∧55=55∧1=1∧ints l'=ints x.l∧wN 63 x.w=[]∧True)∧∀(x:WyX),WfI a l x→OfNat.ofNat 0=0→bif decide (Int.ofNat x.w.length<Int.ofNat x.n) then ∃(l_2:List Int),ints x.l=ints l_2∧((1:Int)≤9∧(9:Int)<9223372036854775808)∧l_2.length≤9223372036854775807∧∀(r:Int) (l':List Int),0≤r∧r<9→l'.length≤l_2.length→∃(l_3:List Int),ints l'=ints l_3∧((1:Int)≤9∧(9:Int)<9223372036854775808)∧l_3.length≤9223372036854775807∧∀(r_1:Int) (l':List Int),0≤r_1∧r_1<9→l'.length≤l_3.length→∃(l_4:List Int),ints l'=ints l_4∧((1:Int)≤9∧(9:Int)<9223372036854775808)∧l_4.length≤9223372036854775807∧∀(r_2:Int) (l':List Int),0≤r_2∧r_2<9→l'.length≤l_4.length→∃(a_11:ArmV),∃(l_5:List Int),[Ch.v (Value.string a.name),Ch.r a.x 63,Ch.r a.y 63,Ch.v (Value.bool a.half),Ch.r a.t 63,Ch.s 16 (List.map linkCh a.links)]=[Ch.v (Value.string a_11.name),Ch.r a_11.x 63,Ch.r a_11.y 63,Ch.v (Value.bool a_11.half),Ch.r a_11.t 63,Ch.s 16 (List.map linkCh a_11.links)]∧[[Ch.v (Value.int IntKind.i64 r)],[Ch.v (Value.int IntKind.i64 r_1)],[Ch.v (Value.int IntKind.i64 r_2)]]=ints l_5∧(GoodArm a_11∧l_5.length≤9223372036854775807)∧∀(qs:List Rat),(∀(i:Nat) (L:LinkV) (q:Rat),a_11.links[i]?=some L→qs[i]?=some q→L.lo≤q∧q≤L.hi)→qs.length=a_11.links.length→((x.w.length+1)*24≤140737488355328∧x.w.length+1≤9223372036854775807)∧∃(x':WyX),(WfI a l x'∧OfNat.ofNat 0=0∧x'.n-x'.w.length<x.n-x.w.length)∧0=0∧0=0∧x.w.length+1=x'.w.length∧0=0∧Int.ofNat x.n=Int.ofNat x'.n∧IntKind.i64.wrap (Int.ofNat x.w.length+1)=Int.ofNat x'.w.length∧34=34∧a.name=a.name∧a.x=a.x∧63≤63∧a.y=a.y∧63≤63∧a.half=a.half∧a.t=a.t∧63≤63∧16=16∧List.map linkCh a.links=List.map linkCh a.links∧55=55∧1=1∧ints l'=ints x'.l∧39=39∧1=1∧(List.take x.w.length (wN 63 x.w)++[[Ch.s 3 (lR 63 qs)]]=wN 63 x'.w∨RowLE (List.take x.w.length (wN 63 x.w)++[[Ch.s 3 (lR 63 qs)]]) (wN 63 x'.w))∧True else K (AV.x false [Ch.s 1 (List.take x.w.length (List.drop 0 (wN 63 x.w)))])) := by kernel_rfl
theorem g_kWayF (a : ArmV) (l : List Int) (hc : (GoodArm a) ∧ (l.length ≤ 9223372036854775807)) (K : AV → Prop) (hK : ∀ w : List (List Rat), 1 ≤ w.length → w.length ≤ 5 → (∀ q ∈ w, q.length = a.links.length) → (∀ q ∈ w, Fit a q) → K (sW 63 w)) : Holds (goal_kWayF a l K) := by
 refine ⟨?_⟩
 rw [goal_kWayF_vc]
 try simp only [Int.ofNat_eq_natCast, true_and, and_true, Nat.zero_add, Nat.le_refl, true_implies, true_or, or_true]
 refine ⟨l, rfl, by omega, hc.2, fun r l1 hr h1 => ?_⟩
 rw [w64 (n := 1 + r) (by omega)]
 refine ⟨⟨⟨[], l1, (1 + r).toNat⟩, ⟨by simp only [List.length_nil]; omega, by simp, by simp, h1⟩, rfl, by simp only; omega, rfl, rfl, rfl⟩, fun x hx => bif_mk (fun hp => ?_) (fun hp => ?_)⟩
 ·have hp := of_decide_eq_true hp
  have hn := hx.hn
  have hl := hx.hl
  refine ⟨x.l, rfl, by omega, by omega, fun r l1 hr h1 => ⟨l1, rfl, by omega, by omega, fun r2 l2 hr2 h2 => ⟨l2, rfl, by omega, by omega, fun r3 l3 hr3 h3 => ⟨a, [r, r2, r3], rfl, rfl, ⟨hc.1, by simp⟩, fun qs hf hq => ⟨by omega, ⟨x.w ++ [qs], l3, x.n⟩, ⟨⟨by simp only [List.length_append, List.length_singleton]; omega, fun q hq' => ?_, fun q hq' => ?_, by simp only; omega⟩, by simp only [List.length_append, List.length_singleton]; omega⟩, by simp, rfl, by rw [w64 (by omega)]; simp, rfl, .inl (wN_snoc _ _ _)⟩⟩⟩⟩⟩
  ·rcases List.mem_append.1 hq' with h | h
   ·exact hx.len q h
   ·rw [List.mem_singleton.1 h]; exact hq
  ·rcases List.mem_append.1 hq' with h | h
   ·exact hx.fit q h
   ·rw [List.mem_singleton.1 h]; exact hf
 ·have hp := of_decide_eq_false hp
  have hn := hx.hn
  rw [List.drop_zero, List.take_of_length_le (by simp [wN])]
  exact hK x.w (by omega) (by omega) hx.len hx.fit
def c_kWayF : Ctr := fun as0 => match as0 with
 | [.x true xs, .x false [.s 1 ys]] => some fun K => ∃ (a : ArmV) (l : List Int), xs = armCh a ∧ ys = ints l ∧ ((GoodArm a) ∧ (l.length ≤ 9223372036854775807)) ∧ (∀ w : List (List Rat), 1 ≤ w.length → w.length ≤ 5 → (∀ q ∈ w, q.length = a.links.length) → (∀ q ∈ w, Fit a q) → K (sW 63 w))
 | _ => none
theorem ok_kWayF : CtrOK Tryd.prog tabG debT 31 c_kWayF := by
 refine ⟨enters Tryd.func31 (by kernel_rfl), fun l T hT K hK => ?_⟩
 unfold c_kWayF at hT
 split at hT
 ·cases hT
  obtain ⟨a, l, rfl, rfl, hc, hK⟩ := hK
  exact spec_ofL T205mok mixed Tryd.func31 (by kernel_rfl) (by kernel_rfl) (by rfl) (g_kWayF _ _ hc K hK)
 ·cases hT
def L206m : List (Nat × Ctr) := (31, c_kWayF) :: L205m
def T206m : Tabs := mkT L206m M99 X4
theorem L206mok : CtrsOK Tryd.prog tabG debT L206m := .cons ok_kWayF L205mok
theorem T206mok : TabsOK Tryd.prog tabG debT T206m := mkTok L206mok M99ok X4ok
def ot_kTimed : OT := fun _ => ([], [])
def goal_kTimed  (K : AV → Prop) : Prop := goalL T206m ot_kTimed noL Tryd.f30 [] K
theorem goal_kTimed_vc (K : AV → Prop) : goal_kTimed K = (∃(ns:List Int),[[Ch.v (Value.int IntKind.i64 3)]]=ints ns∧(ns.length≤3∧∀(n:Int),n ∈ ns→1≤n∧n≤1000)∧(((-9223372036854775808:Int)<0∧(0:Int)<9223372036854775808)∧(0:Int)<1∧(1:Int)<9223372036854775808)∧(((-9223372036854775808:Int)<2∧(2:Int)<9223372036854775808)∧(0:Int)<1∧(1:Int)<9223372036854775808)∧∃(a:ArmV),∃(n:Nat),∃(w:List (List Rat)),[Ch.v (Value.string (sampleV ns).name),Ch.r (sampleV ns).x 63,Ch.r (sampleV ns).y 63,Ch.v (Value.bool false),Ch.r (sampleV ns).t 63,Ch.s 16 (List.map linkCh (sampleV ns).links)]=[Ch.v (Value.string a.name),Ch.r a.x 63,Ch.r a.y 63,Ch.v (Value.bool a.half),Ch.r a.t 63,Ch.s 16 (List.map linkCh a.links)]∧[[Ch.s 3 [[Ch.r (mkRat 0 1) 63]]],[Ch.s 3 [[Ch.r (mkRat 2 1) 63]]]]=wN n w∧(GoodArm a∧(WayOK w a.links.length∧n≤1000)∧((∀(q:List Rat),q ∈ w→∀(i:Nat) (L:LinkV) (q_1:Rat),a.links[i]?=some L→q[i]?=some q_1→L.lo≤q_1∧q_1≤L.hi)∧∀(i:Nat) (p q:List Rat),w[i]?=some p→w[i+1]?=some q→∀(i:Nat) (L:LinkV) (p_1 q_1:Rat),a.links[i]?=some L→p[i]?=some p_1→q[i]?=some q_1→absR (q_1-p_1)≤L.sp*OfNat.ofNat 100)∧(0:Int)≤5∧5+100*Int.ofNat w.length≤2000)∧bif Int.ofNat (List.map keyCh (planV a (n+65) 5 w)).length==2 then ((0:Int)≤1∧1<Int.ofNat (List.map keyCh (planV a (n+65) 5 w)).length)∧∃(d:Int),ldE (List.map keyCh (planV a (n+65) 5 w)) 1 0 1=some [Ch.v (Value.int IntKind.i64 d)]∧K (AV.x false [Ch.v (Value.bool (d==13))]) else K (AV.x false [Ch.v (Value.bool false)])) := by kernel_rfl
theorem g_kTimed  (hc : True) (K : AV → Prop) (hK : K (.x false [.v (.bool true)])) : Holds (goal_kTimed  K) := by
 refine ⟨?_⟩
 rw [goal_kTimed_vc]
 try simp only [Int.ofNat_eq_natCast, true_and, and_true, Nat.zero_add, Nat.le_refl, true_implies, true_or, or_true]
 have e : tkV (sampleV [3]) [mkRat 0 1] [mkRat 2 1] = 8 := by decide +kernel
 have hp : planV (sampleV [3]) (63 + 65) 5 [[mkRat 0 1], [mkRat 2 1]] = [⟨5, 128, [mkRat 0 1]⟩, ⟨13, 128, [mkRat 2 1]⟩] := by
  show [(⟨5, 128, [mkRat 0 1]⟩ : KeyV), ⟨5 + tkV (sampleV [3]) [mkRat 0 1] [mkRat 2 1], 128, [mkRat 2 1]⟩] = _
  rw [e]; rfl
 have l3 : ∀ {i : Nat} {L : LinkV}, (sampleV [3]).links[i]? = some L → i = 0 ∧ L = slink 3 := fun {i L} h => by
  match i, h with
  | 0, h => exact ⟨rfl, (Option.some.inj h).symm⟩
 have o1 : ∀ {i : Nat} {x y : Rat}, [x][i]? = some y → y = x := fun {i x y} h => by
  match i, h with
  | 0, h => exact (Option.some.inj h).symm
 refine ⟨[3], rfl, ⟨by simp, by simp⟩, by omega, by omega, sampleV [3], 63, [[mkRat 0 1], [mkRat 2 1]], rfl, rfl, ⟨sample_good (by simp) (by simp), ⟨⟨by simp, fun q hq => ?_, by simp [sampleV]⟩, by omega⟩, ⟨fun q hq => ?_, fun i p q hi hj => ?_⟩, by simp⟩, ?_⟩
 ·simp only [List.mem_cons, List.not_mem_nil, or_false] at hq
  rcases hq with rfl | rfl <;> rfl
 ·intro i L x hL hx
  obtain ⟨rfl, rfl⟩ := l3 hL
  simp only [List.mem_cons, List.not_mem_nil, or_false] at hq
  rcases hq with rfl | rfl
  ·rw [o1 hx]; exact ⟨by decide +kernel, by decide +kernel⟩
  ·rw [o1 hx]; exact ⟨by decide +kernel, by decide +kernel⟩
 ·match i, hi, hj with
  | 0, hi, hj =>
   have e1 : p = [mkRat 0 1] := (Option.some.inj hi).symm
   have e2 : q = [mkRat 2 1] := (Option.some.inj hj).symm
   subst e1 e2
   intro i L x y hL hx hy
   obtain ⟨rfl, rfl⟩ := l3 hL
   rw [o1 hx, o1 hy]
   decide +kernel
  | 1, _, hj => cases hj
 ·rw [hp]
  refine bif_mk (fun _ => ⟨by simp, 13, rfl, hK⟩) (fun h => by simp at h)
def c_kTimed : Ctr := fun as0 => match as0 with
 | [] => some fun K => (True) ∧ (K (.x false [.v (.bool true)]))
 | _ => none
theorem ok_kTimed : CtrOK Tryd.prog tabG debT 30 c_kTimed := by
 refine ⟨enters Tryd.func30 (by kernel_rfl), fun l T hT K hK => ?_⟩
 unfold c_kTimed at hT
 split at hT
 ·cases hT
  obtain ⟨hc, hK⟩ := hK
  exact spec_ofL T206mok mixed Tryd.func30 (by kernel_rfl) (by kernel_rfl) (by rfl) (g_kTimed  hc K hK)
 ·cases hT
def L207m : List (Nat × Ctr) := (30, c_kTimed) :: L206m
theorem L207mok : CtrsOK Tryd.prog tabG debT L207m := .cons ok_kTimed L206mok
def CkR (a : ArmV) (ks : List KeyV) (r : Int) : Prop := (TrackOK a ks ∧ r = 0) ∨ ∃ x y : KeyV, ks = [x, y] ∧ r = 19 ∧ GoodArm a ∧ ((x.q.length = a.links.length ∧ y.q.length = a.links.length) ∧ x.n ≤ 10000 ∧ y.n ≤ 10000) ∧ ((0 ≤ x.tick ∧ x.tick < y.tick ∧ y.tick ≤ 2000) ∧ Fit a x.q ∧ Fit a y.q) ∧ ¬ SlowR a x y
def c_tCk : Ctr := fun a0 => match a0 with
 | [.x true xs, .x false [.s 2 ys]] => some fun K => ∃ (a : ArmV) (ks : List KeyV) (r : Int), xs = armCh a ∧ ys = ks.map keyCh ∧ CkR a ks r ∧ K (iA .i64 r)
 | _ => none
def L210 : List (Nat × Ctr) := (33, c_tCk) :: L207m
def T210 : Tabs := mkT L210 M99 X4
theorem ok_tCk : CtrOK Tryd.prog tabG debT 33 c_tCk := by
 refine ⟨ok_tCheck.enter, fun a0 T hT K hK => ?_⟩
 unfold c_tCk at hT
 split at hT
 ·cases hT
  obtain ⟨a, ks, r, rfl, rfl, h, hK⟩ := hK
  rcases h with ⟨h, rfl⟩ | ⟨x, y, rfl, rfl, h⟩
  ·exact ok_tCheck.sound _ _ rfl K ⟨a, ks, rfl, rfl, h, hK⟩
  ·exact ok_tCheckL.sound _ _ rfl K ⟨a, x, y, rfl, rfl, h, hK⟩
 ·cases hT
theorem L210ok : CtrsOK Tryd.prog tabG debT L210 := .cons ok_tCk L207mok
theorem T210ok : TabsOK Tryd.prog tabG debT T210 := mkTok L210ok M99ok X4ok
structure TfX where
 a : ArmV
 w : List (List Rat)
 f : Int
 i : Nat
def tfK (x : TfX) : List KeyV := planV x.a 128 x.f x.w
structure TfI (x : TfX) : Prop where
 good : GoodArm x.a
 way : WayOK x.w x.a.links.length
 near : ∀ (i : Nat) (p q : List Rat), x.w[i]? = some p → x.w[i + 1]? = some q → NearQ x.a p q
 fit : ∀ q ∈ x.w, Fit x.a q
 f : 0 ≤ x.f ∧ x.f + 100 * (x.w.length : Int) ≤ 2000
 i : x.i ≤ x.w.length
theorem plan_get {a : ArmV} {N : Nat} {w : List (List Rat)} {f : Int} : (planV a N f w).length = w.length ∧ (∀ (i : Nat) (q : List Rat), w[i]? = some q → ∃ t, (planV a N f w)[i]? = some ⟨t, N, q⟩) ∧
  (∀ (i : Nat) (p q : List Rat) (t : Int), w[i]? = some p → w[i + 1]? = some q → (planV a N f w)[i]? = some ⟨t, N, p⟩ → (planV a N f w)[i + 1]? = some ⟨t + tkV a p q, N, q⟩) ∧ ∀ (k : KeyV), (planV a N f w)[0]? = some k → k.tick = f := by
 have go : ∀ (r : List (List Rat)) (t : Int) (p : List Rat), (keysGo a N t p r).length = r.length ∧ (∀ (i : Nat) (q : List Rat), (p :: r)[i]? = some q → ∃ t', (⟨t, N, p⟩ :: keysGo a N t p r)[i]? = some ⟨t', N, q⟩) ∧
   ∀ (i : Nat) (p' q : List Rat) (t' : Int), (p :: r)[i]? = some p' → (p :: r)[i + 1]? = some q → (⟨t, N, p⟩ :: keysGo a N t p r)[i]? = some ⟨t', N, p'⟩ → (⟨t, N, p⟩ :: keysGo a N t p r)[i + 1]? = some ⟨t' + tkV a p' q, N, q⟩ := by
  intro r
  induction r with
  | nil =>
   intro t p
   refine ⟨rfl, fun i q h => ?_, fun i p' q t' _ h => by simp at h⟩
   match i, h with
   | 0, h => simp at h; subst h; exact ⟨t, rfl⟩
  | cons b r ih =>
   intro t p
   obtain ⟨h1, h2, h3⟩ := ih (t + tkV a p b) b
   refine ⟨by simp [keysGo, h1], fun i q h => ?_, fun i p' q t' hp hq ht => ?_⟩
   ·cases i with
    | zero => simp at h; subst h; exact ⟨t, rfl⟩
    | succ i => exact h2 i q (by simpa using h)
   ·cases i with
    | zero =>
     simp at hp hq ht
     obtain ⟨rfl, rfl⟩ := ht
     subst hq
     rfl
    | succ i => exact h3 i p' q t' (by simpa using hp) (by simpa using hq) (by simpa [keysGo] using ht)
 cases w with
 | nil => exact ⟨rfl, by simp, by simp, fun k h => by simp [planV] at h⟩
 | cons q r =>
  obtain ⟨h1, h2, h3⟩ := go r f q
  exact ⟨by simp [planV, h1], h2, h3, fun k h => by simp [planV] at h; subst h; rfl⟩
theorem tkG_ge : ∀ (ls : List LinkV) (ps qs : List Rat) (n : Int) (i : Nat) (L : LinkV) (p q : Rat), ls[i]? = some L → ps[i]? = some p → qs[i]? = some q → ceilR (absR (q - p) / L.sp) ≤ tkG ls ps qs n := by
 intro ls
 induction ls with
 | nil => intro ps qs n i L p q h; simp at h
 | cons M ls ih =>
  intro ps qs n i L p q h hp hq
  cases ps with
  | nil => simp at hp
  | cons p0 ps =>
   cases qs with
   | nil => simp at hq
   | cons q0 qs =>
    cases i with
    | zero =>
     simp at h hp hq; subst h hp hq
     have := (tkG_range ls ps qs (max n (ceilR (absR (q0 - p0) / M.sp)))).1
     simp only [tkG]
     omega
    | succ i => exact ih ps qs _ i L p q (by simpa using h) (by simpa using hp) (by simpa using hq)
theorem tkG_at : ∀ (ls : List LinkV) (ps qs : List Rat) (n : Int), tkG ls ps qs n = n ∨ ∃ (i : Nat) (L : LinkV) (p q : Rat), ls[i]? = some L ∧ ps[i]? = some p ∧ qs[i]? = some q ∧ tkG ls ps qs n = ceilR (absR (q - p) / L.sp) := by
 intro ls
 induction ls with
 | nil => intro ps qs n; exact .inl rfl
 | cons M ls ih =>
  intro ps qs n
  cases ps with
  | nil => exact .inl rfl
  | cons p0 ps =>
   cases qs with
   | nil => exact .inl rfl
   | cons q0 qs =>
    rcases ih ps qs (max n (ceilR (absR (q0 - p0) / M.sp))) with h | ⟨i, L, p, q, h1, h2, h3, h4⟩
    ·by_cases hm : ceilR (absR (q0 - p0) / M.sp) ≤ n
     ·exact .inl (by simp only [tkG]; rw [h]; omega)
     ·exact .inr ⟨0, M, p0, q0, rfl, rfl, rfl, by simp only [tkG]; rw [h]; omega⟩
    ·exact .inr ⟨i + 1, L, p, q, h1, h2, h3, h4⟩
theorem div_le' {d s : Rat} {n : Int} (hs : 0 < s) (h : d / s ≤ (n : Rat)) : d ≤ s * (n : Rat) := by
 have e : d / s * s = d := by rw [Rat.div_def, Rat.mul_assoc, Rat.inv_mul_cancel _ (by grind)]; grind
 have := Rat.mul_le_mul_of_nonneg_right h (Rat.le_of_lt hs)
 grind
theorem div_lt' {d s : Rat} {n : Int} (hs : 0 < s) (h : (n : Rat) < d / s) : ¬ d ≤ s * (n : Rat) := by
 intro hle
 have hi : 0 < s⁻¹ := Rat.inv_pos.2 hs
 have := Rat.mul_le_mul_of_nonneg_right hle (Rat.le_of_lt hi)
 have e : s * s⁻¹ = 1 := Rat.mul_inv_cancel _ (by grind)
 rw [Rat.div_def] at h
 rw [Rat.mul_comm s, Rat.mul_assoc, e, Rat.mul_one] at this
 exact Rat.not_lt.2 this h
theorem slow_plan {a : ArmV} (hg : GoodArm a) {x y : KeyV} (h : y.tick = x.tick + tkV a x.q y.q) : SlowR a x y := by
 intro i L p q hL hp hq
 have hs := (hg.links L (List.mem_of_getElem? hL)).sp
 refine div_le' hs (Rat.le_trans (le_ceil _) ?_)
 have := tkG_ge a.links x.q y.q 1 i L p q hL hp hq
 exact Rat.intCast_le_intCast.2 (show _ ≤ y.tick - x.tick by rw [h]; unfold tkV; omega)
theorem late_plan {a : ArmV} (hg : GoodArm a) {x y : KeyV} (h : y.tick = x.tick + tkV a x.q y.q) (h1 : y.tick ≠ x.tick + 1) (hr : 1 ≤ tkV a x.q y.q) : ¬ SlowR a x ⟨y.tick - 1, y.n, y.q⟩ := by
 intro hs
 rcases tkG_at a.links x.q y.q 1 with h2 | ⟨i, L, p, q, hL, hp, hq, h2⟩
 ·unfold tkV at h; omega
 ·have hsp := (hg.links L (List.mem_of_getElem? hL)).sp
  have h3 := hs i L p q hL hp hq
  refine div_lt' hsp ?_ h3
  have h4 := ceil_lt (absR (q - p) / L.sp)
  have e : (((⟨y.tick - 1, y.n, y.q⟩ : KeyV).tick - x.tick : Int) : Rat) = (ceilR (absR (q - p) / L.sp) : Rat) - 1 := by
   have : (⟨y.tick - 1, y.n, y.q⟩ : KeyV).tick - x.tick = ceilR (absR (q - p) / L.sp) - 1 := by
    show y.tick - 1 - x.tick = _
    rw [h]; unfold tkV; rw [h2]; omega
   rw [this, Rat.intCast_sub]; rfl
  rw [e]
  grind
theorem at_key {ks : List KeyV} {m N : Nat} (h : KeysOK ks m N) {i : Nat} {k : KeyV} (hk : ks[i]? = some k) : (atR ks k.tick).1 = k.q := by
 match ks, h, hk with
 | a :: ks, h, hk =>
  have go : ∀ (ks : List KeyV) (a : KeyV) (i : Nat), KeysOK (a :: ks) m N → (a :: ks)[i]? = some k → (atGo a ks k.tick).1 = k.q := by
   intro ks
   induction ks with
   | nil =>
    intro a i h hk
    match i, hk with
    | 0, hk => simp at hk; subst hk; rfl
   | cons b ks ih =>
    intro a i h hk
    cases i with
    | zero => simp at hk; subst hk; exact go_start h
    | succ i =>
     have h1 := h.tail.mono (i := 0) (j := i) (by omega) rfl (by simpa using hk)
     rw [atGo, if_pos h1]
     exact ih b i h.tail (by simpa using hk)
  rw [atR]
  split
  ·rename_i hle
   have h1 := h.mono (i := 0) (j := i) (by omega) rfl hk
   cases i with
   | zero => simp at hk; subst hk; rfl
   | succ i =>
    exfalso
    cases ks with
    | nil => simp at hk
    | cons b ks =>
     have h2 := h.tail.mono (i := 0) (j := i) (by omega) rfl (by simpa using hk)
     have h3 := h.head
     omega
  ·exact go ks a i h hk
theorem near_made {a : ArmV} (hm : Made a) {ps qs : List Rat} (hp : Fit a ps) (hq : Fit a qs) : NearQ a ps qs := by
 intro i L p q hL h1 h2
 obtain ⟨p1, p2⟩ := hp i L p hL h1
 obtain ⟨q1, q2⟩ := hq i L q hL h2
 obtain ⟨r, i', j, s, b, tri, _, hi, hj, hs, _, rfl⟩ := hm.links L (List.mem_of_getElem? hL)
 have hlo : -2 ≤ mkRat (-1 - i') 3 := by
  have : i' = 0 ∨ i' = 1 ∨ i' = 2 ∨ i' = 3 ∨ i' = 4 ∨ i' = 5 := by omega
  rcases this with rfl | rfl | rfl | rfl | rfl | rfl <;> decide +kernel
 have hhi : mkRat (1 + j) 3 ≤ 2 := by
  have : j = 0 ∨ j = 1 ∨ j = 2 ∨ j = 3 ∨ j = 4 ∨ j = 5 := by omega
  rcases this with rfl | rfl | rfl | rfl | rfl | rfl <;> decide +kernel
 have hsp : 4 ≤ mkRat 1 (4 + s).toNat * 100 := by
  have : s = 0 ∨ s = 1 ∨ s = 2 ∨ s = 3 ∨ s = 4 ∨ s = 5 ∨ s = 6 ∨ s = 7 := by omega
  rcases this with rfl | rfl | rfl | rfl | rfl | rfl | rfl | rfl <;> decide +kernel
 show absR (q - p) ≤ mkRat 1 (4 + s).toNat * 100
 have p1 : mkRat (-1 - i') 3 ≤ p := p1
 have q1 : mkRat (-1 - i') 3 ≤ q := q1
 have p2 : p ≤ mkRat (1 + j) 3 := p2
 have q2 : q ≤ mkRat (1 + j) 3 := q2
 rw [absR_def]
 split <;> grind
theorem plan_ticks {a : ArmV} {w : List (List Rat)} {f : Int} (hg : GoodArm a) (hnr : ∀ (i : Nat) (p q : List Rat), w[i]? = some p → w[i + 1]? = some q → NearQ a p q) {N : Nat} : ∀ (i : Nat) (k : KeyV), (planV a N f w)[i]? = some k → f ≤ k.tick ∧ k.tick ≤ f + 100 * (i : Int) := by
 obtain ⟨g1, g2, g3, g4⟩ := plan_get (a := a) (N := N) (w := w) (f := f)
 intro i
 induction i with
 | zero => intro k hk; have := g4 k hk; omega
 | succ i ih =>
  intro k hk
  have hlt := (List.getElem?_eq_some_iff.1 hk).1
  obtain ⟨p, hp⟩ : ∃ p, w[i]? = some p := ⟨_, List.getElem?_eq_getElem (by omega)⟩
  obtain ⟨q, hq⟩ : ∃ q, w[i + 1]? = some q := ⟨_, List.getElem?_eq_getElem (by omega)⟩
  obtain ⟨t, ht⟩ := g2 i p hp
  have h1 := ih _ ht
  have h2 := g3 i p q t hp hq ht
  rw [hk] at h2
  cases h2
  have := tkV_range hg (hnr i p q hp hq)
  simp only at h1 ⊢
  omega
theorem plan_ok {a : ArmV} {w : List (List Rat)} {f : Int} (hg : GoodArm a) (hw : WayOK w a.links.length) (hnr : ∀ (i : Nat) (p q : List Rat), w[i]? = some p → w[i + 1]? = some q → NearQ a p q) (hfit : ∀ q ∈ w, Fit a q) (hf : 0 ≤ f ∧ f + 100 * (w.length : Int) ≤ 2000) {N : Nat} (hN : N ≤ 10000) :
  KeysOK (planV a N f w) a.links.length N ∧ TrackOK a (planV a N f w) := by
 obtain ⟨g1, g2, g3, g4⟩ := plan_get (a := a) (N := N) (w := w) (f := f)
 have hmem : ∀ k ∈ planV a N f w, ∃ (i : Nat) (q : List Rat) (t : Int), w[i]? = some q ∧ k = ⟨t, N, q⟩ ∧ (planV a N f w)[i]? = some k := by
  intro k hk
  obtain ⟨i, hi, e⟩ := List.mem_iff_getElem.1 hk
  obtain ⟨q, hq⟩ : ∃ q, w[i]? = some q := ⟨_, List.getElem?_eq_getElem (by omega)⟩
  obtain ⟨t, ht⟩ := g2 i q hq
  have hk' : (planV a N f w)[i]? = some k := by rw [List.getElem?_eq_getElem hi, e]
  rw [ht] at hk'
  exact ⟨i, q, t, hq, (Option.some.inj hk').symm, by rw [ht]; exact hk'⟩
 have hstep : ∀ (i : Nat) (x y : KeyV), (planV a N f w)[i]? = some x → (planV a N f w)[i + 1]? = some y → y.tick = x.tick + tkV a x.q y.q ∧ NearQ a x.q y.q := by
  intro i x y hx hy
  have h1 := (List.getElem?_eq_some_iff.1 hy).1
  obtain ⟨p, hp⟩ : ∃ p, w[i]? = some p := ⟨_, List.getElem?_eq_getElem (by omega)⟩
  obtain ⟨q, hq⟩ : ∃ q, w[i + 1]? = some q := ⟨_, List.getElem?_eq_getElem (by omega)⟩
  obtain ⟨t, ht⟩ := g2 i p hp
  have h2 := g3 i p q t hp hq ht
  rw [hx] at ht; cases ht
  rw [hy] at h2; cases h2
  exact ⟨rfl, hnr i p q hp hq⟩
 have hk : KeysOK (planV a N f w) a.links.length N := by
  refine ⟨fun k hk => ?_, fun k hk => ?_, fun k hk => ?_, fun i x y hx hy => ?_⟩
  ·obtain ⟨i, q, t, hq, rfl, _⟩ := hmem k hk; exact hw.len q (List.mem_of_getElem? hq)
  ·obtain ⟨i, q, t, hq, rfl, _⟩ := hmem k hk; exact Nat.le_refl _
  ·obtain ⟨i, q, t, hq, _, hi⟩ := hmem k hk
   have := plan_ticks hg hnr i k hi
   have := (List.getElem?_eq_some_iff.1 hq).1
   omega
  ·obtain ⟨h1, h2⟩ := hstep i x y hx hy
   have := tkV_range hg h2
   omega
 have hwn := hw.n
 refine ⟨hk, hg, by omega, ⟨N, hN, hk⟩, fun k hk' => ?_, fun i x y hx hy => slow_plan hg (hstep i x y hx hy).1⟩
 obtain ⟨i, q, t, hq, rfl, _⟩ := hmem k hk'
 exact hfit q (List.mem_of_getElem? hq)
def inv_tfit (n : Int) : LI := fun _ => .inv ⟨TfX, fun x => ⟨[(3, iA .i64 n), (9, .x false [.p 9 0]), (10, sW 63 x.w), (11, trkA (tfK x)), (46, trkA (tfK x)), (47, iA .i64 x.w.length), (48, iA .i64 x.i)], [(9, .box 34 (armCh x.a))]⟩, TfI, fun x => x.w.length - x.i, fun _ => 0⟩
def ot_tfit : OT := fun id => bif id.beq 5 then ([0, 1, 2, 3, 4, 5, 6, 7, 8, 9], [[], [], [], [2], [0, 1, 3, 2], [4, 0, 1, 3, 2], [5, 4, 0, 1, 3, 2], [5, 4, 0, 1, 3, 2], [6, 5, 4, 0, 1, 3, 2], [7, 5, 4, 0, 1, 3, 2, 8, 6]]) else bif id.beq 11 then ([0, 1, 2, 3, 4, 5, 6, 7, 8, 9, 10, 11, 13, 14, 15, 16, 12, 17, 18, 19], [[], [0], [], [], [2, 3], [4, 2, 3], [1, 0, 5, 4, 2, 3], [6, 1, 0, 5, 4, 2, 3], [7, 6, 1, 0, 5, 4, 2, 3], [8, 7, 6, 1, 0, 5, 4, 2, 3], [8, 7, 6, 1, 0, 5, 4, 2, 3], [10, 8, 7, 6, 1, 0, 5, 4, 2, 3], [9, 8, 7, 6, 1, 0, 5, 4, 2, 3, 11, 10], [8, 7, 6, 1, 0, 5, 4, 2, 3], [8, 7, 6, 1, 0, 5, 4, 2, 3], [13, 8, 7, 6, 1, 0, 5, 4, 2, 3, 14], [15, 13, 8, 7, 6, 1, 0, 5, 4, 2, 3, 14], [12, 9, 8, 7, 6, 1, 0, 5, 4, 2, 3, 11, 10, 16, 15, 13, 14], [17, 12, 9, 8, 7, 6, 1, 0, 5, 4, 2, 3, 11, 10, 16, 15, 13, 14], [8, 7, 6, 1, 0, 5, 4, 2, 3, 18, 17, 12, 9, 11, 10, 16, 15, 13, 14]]) else bif id.beq 15 then ([0, 1, 2, 3, 4, 5, 6, 7, 8, 9, 10, 11, 12, 13, 14, 15, 16], [[], [0], [1, 0], [2, 1, 0], [2, 1, 0], [3, 2, 1, 0, 4], [5, 3, 2, 1, 0, 4], [6, 5, 3, 2, 1, 0, 4], [2, 1, 0], [2, 1, 0], [9, 2, 1, 0], [8, 2, 1, 0, 10, 9], [11, 8, 2, 1, 0, 10, 9], [12, 11, 8, 2, 1, 0, 10, 9], [13, 12, 11, 8, 2, 1, 0, 10, 9], [7, 6, 5, 3, 2, 1, 0, 4, 14, 13, 12, 11, 8, 10, 9], [2, 1, 0, 15, 7, 6, 5, 3, 4, 14, 13, 12, 11, 8, 10, 9]]) else bif id.beq 17 then ([0, 1, 2, 3, 4, 5, 6, 7, 8, 9, 10, 11, 12, 13, 14, 15, 16, 17, 18, 19, 20, 21], [[], [], [], [2], [1, 3, 2], [4, 1, 3, 2], [], [], [6, 7], [8, 6, 7], [9, 8, 6, 7], [10, 9, 8, 6, 7], [], [], [12, 13], [14, 12, 13], [15, 14, 12, 13], [11, 10, 9, 8, 6, 7, 16, 15, 14, 12, 13], [5, 4, 1, 3, 2, 17, 11, 10, 9, 8, 6, 7, 16, 15, 14, 12, 13], [0, 18, 5, 4, 1, 3, 2, 17, 11, 10, 9, 8, 6, 7, 16, 15, 14, 12, 13], [19, 0, 18, 5, 4, 1, 3, 2, 17, 11, 10, 9, 8, 6, 7, 16, 15, 14, 12, 13], [20, 19, 0, 18, 5, 4, 1, 3, 2, 17, 11, 10, 9, 8, 6, 7, 16, 15, 14, 12, 13]]) else ([], [])
def goal_tfit (l m : List Int) (f n : Int) (K : AV → Prop) : Prop := goalL T210 ot_tfit (inv_tfit n) Tryd.f7 [inS l, inS m, iA .i64 f, iA .i64 n] K
theorem goal_tfit_vc (l : List Int) (m : List Int) (f : Int) (n : Int) (K : AV → Prop) : goal_tfit l m f n K = (True∧∃(l_1:List Int),ints l=ints l_1∧l_1.length≤9223372036854775807∧∀(a:ArmV),Made a∧1≤a.links.length→∃(a_2:ArmV),∃(l:List Int),[Ch.v (Value.string a.name),Ch.r a.x 63,Ch.r a.y 63,Ch.v (Value.bool a.half),Ch.r a.t 63,Ch.s 16 (List.map linkCh a.links)]=[Ch.v (Value.string a_2.name),Ch.r a_2.x 63,Ch.r a_2.y 63,Ch.v (Value.bool a_2.half),Ch.r a_2.t 63,Ch.s 16 (List.map linkCh a_2.links)]∧ints m=ints l∧(GoodArm a_2∧l.length≤9223372036854775807)∧∀(w:List (List Rat)),1≤w.length→w.length≤5→(∀(q:List Rat),q ∈ w→q.length=a_2.links.length)→(∀(q:List Rat),q ∈ w→∀(i:Nat) (L:LinkV) (q_1:Rat),a_2.links[i]?=some L→q[i]?=some q_1→L.lo≤q_1∧q_1≤L.hi)→((0:Int)<100∧(100:Int)<9223372036854775808)∧∃(a_7:ArmV),∃(n_1:Nat),∃(w_1:List (List Rat)),[Ch.v (Value.string a.name),Ch.r a.x 63,Ch.r a.y 63,Ch.v (Value.bool a.half),Ch.r a.t 63,Ch.s 16 (List.map linkCh a.links)]=[Ch.v (Value.string a_7.name),Ch.r a_7.x 63,Ch.r a_7.y 63,Ch.v (Value.bool a_7.half),Ch.r a_7.t 63,Ch.s 16 (List.map linkCh a_7.links)]∧wN 63 w=wN n_1 w_1∧(GoodArm a_7∧(WayOK w_1 a_7.links.length∧n_1≤1000)∧((∀(q:List Rat),q ∈ w_1→∀(i:Nat) (L:LinkV) (q_1:Rat),a_7.links[i]?=some L→q[i]?=some q_1→L.lo≤q_1∧q_1≤L.hi)∧∀(i:Nat) (p q:List Rat),w_1[i]?=some p→w_1[i+1]?=some q→∀(i:Nat) (L:LinkV) (p_1 q_1:Rat),a_7.links[i]?=some L→p[i]?=some p_1→q[i]?=some q_1→absR (q_1-p_1)≤L.sp*OfNat.ofNat 100)∧0≤f%100∧f%100+100*Int.ofNat w_1.length≤2000)∧bif Int.ofNat (List.map keyCh (planV a_7 (n_1+65) (f%100) w_1)).length != Int.ofNat (wN 63 w).length then K (AV.x false [Ch.v (Value.bool false)]) else ∃(a_8:ArmV),∃(ks:List KeyV),∃(r:Int),[Ch.v (Value.string a.name),Ch.r a.x 63,Ch.r a.y 63,Ch.v (Value.bool a.half),Ch.r a.t 63,Ch.s 16 (List.map linkCh a.links)]=[Ch.v (Value.string a_8.name),Ch.r a_8.x 63,Ch.r a_8.y 63,Ch.v (Value.bool a_8.half),Ch.r a_8.t 63,Ch.s 16 (List.map linkCh a_8.links)]∧List.map keyCh (planV a_7 (n_1+65) (f%100) w_1)=List.map keyCh ks∧(TrackOK a_8 ks∧r=0∨∃(x:KeyV),∃(y:KeyV),ks=[x,y]∧r=19∧GoodArm a_8∧((x.q.length=a_8.links.length∧y.q.length=a_8.links.length)∧x.n≤10000∧y.n≤10000)∧((0≤x.tick∧x.tick<y.tick∧y.tick≤2000)∧Fit a_8 x.q∧Fit a_8 y.q)∧¬SlowR a_8 x y)∧bif r != 0 then K (AV.x false [Ch.v (Value.bool false)]) else (∃(x:TfX),(TfI x∧OfNat.ofNat 0=0)∧n=n∧0=0∧1=1∧wN 63 w=wN 63 x.w∧2=2∧List.map keyCh (planV a_7 (n_1+65) (f%100) w_1)=List.map keyCh (tfK x)∧2=2∧List.map keyCh (planV a_7 (n_1+65) (f%100) w_1)=List.map keyCh (tfK x)∧Int.ofNat (List.map keyCh (planV a_7 (n_1+65) (f%100) w_1)).length=Int.ofNat x.w.length∧0=Int.ofNat x.i∧34=34∧a.name=x.a.name∧a.x=x.a.x∧63≤63∧a.y=x.a.y∧63≤63∧a.half=x.a.half∧a.t=x.a.t∧63≤63∧16=16∧List.map linkCh a.links=List.map linkCh x.a.links∧True)∧∀(x:TfX),TfI x→OfNat.ofNat 0=0→bif decide (Int.ofNat x.i<Int.ofNat x.w.length) then (0≤Int.ofNat x.i∧Int.ofNat x.i<Int.ofNat (List.map keyCh (tfK x)).length)∧∃(d:Int),∃(ys:List (List Ch)),ldE (List.map keyCh (tfK x)) (Int.ofNat x.i).toNat 0 2=some [Ch.v (Value.int IntKind.i64 d),Ch.s 3 ys]∧(0≤Int.ofNat x.i∧Int.ofNat x.i<Int.ofNat (wN 63 x.w).length)∧∃(ys_1:List (List Ch)),ldE (wN 63 x.w) (Int.ofNat x.i).toNat 0 1=some [Ch.s 3 ys_1]∧∃(a:Nat),∃(ps:List Rat),∃(b:Nat),∃(qs:List Rat),ys=lR a ps∧ys_1=lR b qs∧(ps.length≤1000000000∧qs.length≤1000000000)∧bif !decide (ps=qs) then K (AV.x false [Ch.v (Value.bool false)]) else (0≤Int.ofNat x.i∧Int.ofNat x.i<Int.ofNat (wN 63 x.w).length)∧∃(ys:List (List Ch)),ldE (wN 63 x.w) (Int.ofNat x.i).toNat 0 1=some [Ch.s 3 ys]∧∃(ks:List KeyV),∃(m:Nat),∃(N:Nat),List.map keyCh (tfK x)=List.map keyCh ks∧(KeysOK ks m N∧(N≤10000∧m≤100000∧1≤ks.length∧ks.length≤100000)∧ -4611686018427387904≤d∧d<4611686018427387904)∧∃(a:Nat),∃(ps:List Rat),∃(b:Nat),∃(qs:List Rat),lR (atR ks d).snd (atR ks d).fst=lR a ps∧ys=lR b qs∧(ps.length≤1000000000∧qs.length≤1000000000)∧bif !decide (ps=qs) then K (AV.x false [Ch.v (Value.bool false)]) else ∃(x':TfX),(TfI x'∧OfNat.ofNat 0=0∧x'.w.length-x'.i<x.w.length-x.i)∧n=n∧0=0∧1=1∧wN 63 x.w=wN 63 x'.w∧2=2∧List.map keyCh (tfK x)=List.map keyCh (tfK x')∧2=2∧List.map keyCh (tfK x)=List.map keyCh (tfK x')∧Int.ofNat x.w.length=Int.ofNat x'.w.length∧IntKind.i64.wrap (Int.ofNat x.i+1)=Int.ofNat x'.i∧34=34∧x.a.name=x'.a.name∧x.a.x=x'.a.x∧63≤63∧x.a.y=x'.a.y∧63≤63∧x.a.half=x'.a.half∧x.a.t=x'.a.t∧63≤63∧16=16∧List.map linkCh x.a.links=List.map linkCh x'.a.links∧True else (0<Int.ofNat (List.map keyCh (tfK x)).length∧Int.ofNat (List.map keyCh (tfK x)).length<9223372036854775808)∧bif n%Int.ofNat (List.map keyCh (tfK x)).length==0 then K (AV.x false [Ch.v (Value.bool true)]) else (0≤n%Int.ofNat (List.map keyCh (tfK x)).length∧n%Int.ofNat (List.map keyCh (tfK x)).length<Int.ofNat (List.map keyCh (tfK x)).length)∧∃(d:Int),ldE (List.map keyCh (tfK x)) (n%Int.ofNat (List.map keyCh (tfK x)).length).toNat 0 1=some [Ch.v (Value.int IntKind.i64 d)]∧(0≤IntKind.i64.wrap (n%Int.ofNat (List.map keyCh (tfK x)).length-1)∧IntKind.i64.wrap (n%Int.ofNat (List.map keyCh (tfK x)).length-1)<Int.ofNat (List.map keyCh (tfK x)).length)∧∃(d_1:Int),ldE (List.map keyCh (tfK x)) (IntKind.i64.wrap (n%Int.ofNat (List.map keyCh (tfK x)).length-1)).toNat 0 1=some [Ch.v (Value.int IntKind.i64 d_1)]∧bif d==IntKind.i64.wrap (d_1+1) then K (AV.x false [Ch.v (Value.bool true)]) else (0≤IntKind.i64.wrap (n%Int.ofNat (List.map keyCh (tfK x)).length-1)∧IntKind.i64.wrap (n%Int.ofNat (List.map keyCh (tfK x)).length-1)<Int.ofNat (List.map keyCh (tfK x)).length)∧∃(d:Int),∃(ys:List (List Ch)),ldE (List.map keyCh (tfK x)) (IntKind.i64.wrap (n%Int.ofNat (List.map keyCh (tfK x)).length-1)).toNat 0 2=some [Ch.v (Value.int IntKind.i64 d),Ch.s 3 ys]∧(0≤n%Int.ofNat (List.map keyCh (tfK x)).length∧n%Int.ofNat (List.map keyCh (tfK x)).length<Int.ofNat (List.map keyCh (tfK x)).length)∧∃(d_2:Int),ldE (List.map keyCh (tfK x)) (n%Int.ofNat (List.map keyCh (tfK x)).length).toNat 0 1=some [Ch.v (Value.int IntKind.i64 d_2)]∧(0≤n%Int.ofNat (List.map keyCh (tfK x)).length∧n%Int.ofNat (List.map keyCh (tfK x)).length<Int.ofNat (List.map keyCh (tfK x)).length)∧∃(ys_1:List (List Ch)),ldE (List.map keyCh (tfK x)) (n%Int.ofNat (List.map keyCh (tfK x)).length).toNat 1 1=some [Ch.s 3 ys_1]∧∃(a:ArmV),∃(ks:List KeyV),∃(r:Int),[Ch.v (Value.string x.a.name),Ch.r x.a.x 63,Ch.r x.a.y 63,Ch.v (Value.bool x.a.half),Ch.r x.a.t 63,Ch.s 16 (List.map linkCh x.a.links)]=[Ch.v (Value.string a.name),Ch.r a.x 63,Ch.r a.y 63,Ch.v (Value.bool a.half),Ch.r a.t 63,Ch.s 16 (List.map linkCh a.links)]∧[[Ch.v (Value.int IntKind.i64 d),Ch.s 3 ys],[Ch.v (Value.int IntKind.i64 (IntKind.i64.wrap (d_2-1))),Ch.s 3 ys_1]]=List.map keyCh ks∧(TrackOK a ks∧r=0∨∃(x:KeyV),∃(y:KeyV),ks=[x,y]∧r=19∧GoodArm a∧((x.q.length=a.links.length∧y.q.length=a.links.length)∧x.n≤10000∧y.n≤10000)∧((0≤x.tick∧x.tick<y.tick∧y.tick≤2000)∧Fit a x.q∧Fit a y.q)∧¬SlowR a x y)∧K (AV.x false [Ch.v (Value.bool (r==19))])) := by kernel_rfl
theorem g_tfit (l m : List Int) (f n : Int) (hl : l.length ≤ 9223372036854775807) (hm : m.length ≤ 9223372036854775807) (K : AV → Prop) (hK : K (.x false [.v (.bool true)])) : Holds (goal_tfit l m f n K) := by
 refine ⟨?_⟩
 rw [goal_tfit_vc]
 simp only [Int.ofNat_eq_natCast, true_and, and_true, Nat.zero_add, Nat.le_refl, true_implies, true_or, or_true]
 refine ⟨l, rfl, hl, fun a ha => ?_⟩
 have hg : GoodArm a := MadeA.good ha
 have hgn := hg.n
 refine ⟨a, m, rfl, rfl, ⟨hg, hm⟩, fun w w1 w5 wl wf => ?_⟩
 have hway : WayOK w a.links.length := ⟨by omega, wl, hgn⟩
 have hnr : ∀ (i : Nat) (p q : List Rat), w[i]? = some p → w[i + 1]? = some q → NearQ a p q := fun i p q hp hq => near_made ha.1 (wf p (List.mem_of_getElem? hp)) (wf q (List.mem_of_getElem? hq))
 have hlw : (wN 63 w).length = w.length := by simp [wN]
 have hlp := (plan_get (a := a) (N := 128) (w := w) (f := f % 100)).1
 obtain ⟨hk, htr⟩ := plan_ok hg hway hnr wf (f := f % 100) (by omega) (N := 128) (by omega)
 refine ⟨by omega, a, 63, w, rfl, rfl, ⟨hg, ⟨hway, by omega⟩, ⟨wf, hnr⟩, by omega, by omega⟩, bif_mk (fun h => ?_) (fun _ => ⟨a, planV a 128 (f % 100) w, 0, rfl, rfl, .inl ⟨htr, rfl⟩, bif_mk (fun h => by simp at h) (fun _ => ⟨⟨⟨a, w, f % 100, 0⟩, ⟨hg, hway, hnr, wf, ⟨by simp only; omega, by simp only; omega⟩, by simp⟩, rfl, rfl, rfl, ?_, rfl, rfl, rfl, rfl, rfl, rfl, rfl⟩, fun x hx => ?_⟩)⟩)⟩
 ·rw [List.length_map, hlw] at h
  have h' : (planV a (63 + 65) (f % 100) w).length = w.length := hlp
  rw [h'] at h
  simp at h
 ·rw [List.length_map]
  exact congrArg Int.ofNat hlp
 ·obtain ⟨hk, htr⟩ := plan_ok hx.good hx.way hx.near hx.fit hx.f (N := 128) (by omega)
  obtain ⟨g1, g2, g3, g4⟩ := plan_get (a := x.a) (N := 128) (w := x.w) (f := x.f)
  have hgn := hx.good.n
  have hwn := hx.way.n
  have hxf := hx.f
  have hlw : (wN 63 x.w).length = x.w.length := by simp [wN]
  have hlt : (List.map keyCh (tfK x)).length = x.w.length := by rw [List.length_map]; exact g1
  rw [hlt, hlw]
  refine bif_mk (fun hp => ?_) (fun hp => ⟨by omega, bif_mk (fun _ => hK) (fun h0 => ?_)⟩)
  ·have hp : x.i < x.w.length := by have := of_decide_eq_true hp; omega
   obtain ⟨q, hq⟩ : ∃ q, x.w[x.i]? = some q := ⟨_, List.getElem?_eq_getElem hp⟩
   obtain ⟨t, ht⟩ := g2 x.i q hq
   have hti : x.f ≤ t ∧ t ≤ x.f + 100 * (x.i : Int) := plan_ticks hx.good hx.near x.i _ ht
   have hql := hx.way.len q (List.mem_of_getElem? hq)
   have hat : (atR (tfK x) t).1 = q := at_key hk ht
   have hld := key_ld (show (tfK x)[x.i]? = some ⟨t, 128, q⟩ from ht)
   refine ⟨by omega, t, lR 128 q, by rw [Int.toNat_natCast]; exact hld, by omega, _, way_ld (by simpa using hq), 128, q, 63, q, rfl, rfl, ⟨by omega, by omega⟩, bif_mk (fun h => by simp at h) (fun _ => ⟨by omega, _, way_ld (by simpa using hq), tfK x, x.a.links.length, 128, rfl, ⟨hk, ⟨by omega, by omega, by unfold tfK; omega, by unfold tfK; omega⟩, by omega, by omega⟩, _, _, 63, q, rfl, rfl, ⟨by rw [hat]; omega, by omega⟩, bif_mk (fun h => by rw [hat] at h; simp at h) (fun _ => ⟨⟨x.a, x.w, x.f, x.i + 1⟩, ⟨⟨hx.good, hx.way, hx.near, hx.fit, hx.f, by simp only; omega⟩, by simp only; omega⟩, rfl, rfl, rfl, rfl, by rw [w64 (by omega)]; simp, rfl, rfl, rfl, rfl, rfl, rfl⟩)⟩)⟩
  ·have h0 : n % (x.w.length : Int) ≠ 0 := fun e => by rw [e] at h0; simp at h0
   have hm0 : 0 ≤ n % (x.w.length : Int) := Int.emod_nonneg _ (by omega)
   have hm1 : n % (x.w.length : Int) < x.w.length := Int.emod_lt_of_pos _ (by omega)
   obtain ⟨j, hj⟩ : ∃ j : Nat, n % (x.w.length : Int) = ((j + 1 : Nat) : Int) := ⟨(n % (x.w.length : Int)).toNat - 1, by omega⟩
   rw [hj] at hm1 ⊢
   have hjl : j + 1 < x.w.length := by omega
   obtain ⟨p, hp⟩ : ∃ p, x.w[j]? = some p := ⟨_, List.getElem?_eq_getElem (by omega)⟩
   obtain ⟨q, hq⟩ : ∃ q, x.w[j + 1]? = some q := ⟨_, List.getElem?_eq_getElem hjl⟩
   obtain ⟨t, ht⟩ := g2 j p hp
   have ht2 := g3 j p q t hp hq ht
   have hr := tkV_range hx.good (hx.near j p q hp hq)
   have b1 := plan_ticks hx.good hx.near j _ ht
   have b2 := plan_ticks hx.good hx.near (j + 1) _ ht2
   simp only at b1 b2
   have e1 : IntKind.i64.wrap (((j + 1 : Nat) : Int) - 1) = ((j : Nat) : Int) := by rw [w64 (by omega)]; omega
   have e2 : IntKind.i64.wrap (t + tkV x.a p q - 1) = t + tkV x.a p q - 1 := w64 (by omega)
   rw [e1, Int.toNat_natCast, Int.toNat_natCast]
   refine ⟨by omega, t + tkV x.a p q, key_ld0 (show (tfK x)[_]? = _ from ht2), by omega, t, key_ld0 (show (tfK x)[_]? = _ from ht), bif_mk (fun _ => hK) (fun h1 => ⟨by omega, t, lR 128 p, key_ld (show (tfK x)[_]? = _ from ht), by omega, t + tkV x.a p q, key_ld0 (show (tfK x)[_]? = _ from ht2), by omega, lR 128 q, key_ld1 (show (tfK x)[_]? = _ from ht2), x.a, [⟨t, 128, p⟩, ⟨t + tkV x.a p q - 1, 128, q⟩], 19, rfl, by rw [e2]; rfl, .inr ⟨_, _, rfl, rfl, hx.good, ⟨⟨hx.way.len p (List.mem_of_getElem? hp), hx.way.len q (List.mem_of_getElem? hq)⟩, by simp only; omega, by simp only; omega⟩, ⟨⟨by simp only; omega, ?_, by simp only; omega⟩, hx.fit p (List.mem_of_getElem? hp), hx.fit q (List.mem_of_getElem? hq)⟩, ?_⟩, hK⟩)⟩
   ·have : t + tkV x.a p q ≠ t + 1 := fun e => by
     rw [e, w64 (by omega)] at h1
     simp at h1
    show t < t + tkV x.a p q - 1
    omega
   ·refine late_plan hx.good (x := ⟨t, 128, p⟩) (y := ⟨t + tkV x.a p q, 128, q⟩) rfl (fun e => ?_) hr.1
    simp only at e
    rw [e, w64 (by omega)] at h1
    simp at h1
theorem spec_tfit (l m : List Int) (f n : Int) (hl : l.length ≤ 9223372036854775807) (hm : m.length ≤ 9223372036854775807) : Eng.Spec Tryd.prog tabG debT 7 [.x false [.s 1 (ints l)], .x false [.s 1 (ints m)], iA .i64 f, iA .i64 n] (fun v => v = .x false [.v (.bool true)]) :=
 spec_ofL T210ok mixed Tryd.func7 (by kernel_rfl) (by kernel_rfl) (by rfl) (g_tfit l m f n hl hm _ rfl)
end Go.Proofs
