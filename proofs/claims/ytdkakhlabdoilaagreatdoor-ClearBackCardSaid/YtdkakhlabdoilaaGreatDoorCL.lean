/- Polygons apart, free lists of polygons, polygons within boxes: plain laws. -/
import Derived.Test.YtdkakhlabdoilaaGreatDoorSE
import Derived.Test.YtdkakhlabdoilaaGreatDoorPE
import Derived.Test.YtdkakhlabdoilaaGreatDoorS3
/- Polygons apart, free lists of polygons, polygons within boxes: plain laws. -/
namespace Go.Proofs
open Go Go.Eng
def dotR (n v : Rat × Rat) : Rat := n.1 * v.1 + n.2 * v.2
def outN (p q : Rat × Rat) : Rat × Rat := (q.2 - p.2, -(q.1 - p.1))
def beyE (p q : Rat × Rat) (b : List (Rat × Rat)) : Bool := b.all fun v => decide (0 < dotR (outN p q) (v.1 - p.1, v.2 - p.2))
def beyB (a b : List (Rat × Rat)) : Bool := (List.range a.length).any fun i => beyE (a.getD i (0, 0)) (a.getD ((i + 1) % a.length) (0, 0)) b
def meetB (a b : List (Rat × Rat)) : Bool := !beyB a b && !beyB b a
def boxP (l : List (Rat × Rat)) : BoxV := l.tail.foldl boxStep ⟨(l.headD (0, 0)).1, (l.headD (0, 0)).2, (l.headD (0, 0)).1, (l.headD (0, 0)).2⟩
def BoxV.ok (b : BoxV) : Bool := decide (b.x1 ≤ b.x2) && decide (b.y1 ≤ b.y2)
def boxesB (a b : BoxV) : Bool := a.ok && (b.ok && (decide (a.x1 ≤ b.x2) && (decide (b.x1 ≤ a.x2) && (decide (a.y1 ≤ b.y2) && decide (b.y1 ≤ a.y2)))))
def freeB (l m : List (List (Rat × Rat))) : Bool := l.all fun a => m.all fun b => !(boxesB (boxP a) (boxP b)) || !(meetB a b)
def cornV (b : BoxV) : List (Rat × Rat) := [(b.x1, b.y1), (b.x2, b.y1), (b.x2, b.y2), (b.x1, b.y2)]
structure BoxV.has (b : BoxV) (v : Rat × Rat) : Prop where
 x : b.x1 ≤ v.1 ∧ v.1 ≤ b.x2
 y : b.y1 ≤ v.2 ∧ v.2 ≤ b.y2
theorem free_iff {l m : List (List (Rat × Rat))} : freeB l m = true ↔ ∀ a ∈ l, ∀ b ∈ m, boxesB (boxP a) (boxP b) = true → meetB a b = false := by
 unfold freeB
 simp only [List.all_eq_true, Bool.or_eq_true, Bool.not_eq_true']
 constructor
 ·intro h a ha b hb hx
  rcases h a ha b hb with k | k
  ·rw [hx] at k; cases k
  ·exact k
 ·intro h a ha b hb
  cases hx : boxesB (boxP a) (boxP b) with
  | false => exact .inl rfl
  | true => exact .inr (h a ha b hb hx)
theorem step_l (b : BoxV) (v : Rat × Rat) : (boxStep b v).x1 ≤ b.x1 ∧ (boxStep b v).y1 ≤ b.y1 ∧ b.x2 ≤ (boxStep b v).x2 ∧ b.y2 ≤ (boxStep b v).y2 := by
 unfold boxStep
 refine ⟨?_, ?_, ?_, ?_⟩ <;> simp only [minR, maxR] <;> split <;> grind
theorem step_has (b : BoxV) (v : Rat × Rat) : (boxStep b v).has v := by
 unfold boxStep
 refine ⟨⟨?_, ?_⟩, ?_, ?_⟩ <;> simp only [minR, maxR] <;> split <;> grind
theorem has_mono {b c : BoxV} {v : Rat × Rat} (h : b.has v) (k : c.x1 ≤ b.x1 ∧ c.y1 ≤ b.y1 ∧ b.x2 ≤ c.x2 ∧ b.y2 ≤ c.y2) : c.has v :=
 ⟨⟨Rat.le_trans k.1 h.x.1, Rat.le_trans h.x.2 k.2.2.1⟩, Rat.le_trans k.2.1 h.y.1, Rat.le_trans h.y.2 k.2.2.2⟩
theorem fold_grow : ∀ (l : List (Rat × Rat)) (b : BoxV), (l.foldl boxStep b).x1 ≤ b.x1 ∧ (l.foldl boxStep b).y1 ≤ b.y1 ∧ b.x2 ≤ (l.foldl boxStep b).x2 ∧ b.y2 ≤ (l.foldl boxStep b).y2 := by
 intro l
 induction l with
 | nil => intro b; exact ⟨Rat.le_refl, Rat.le_refl, Rat.le_refl, Rat.le_refl⟩
 | cons v l ih =>
  intro b
  obtain ⟨a1, a2, a3, a4⟩ := ih (boxStep b v)
  obtain ⟨b1, b2, b3, b4⟩ := step_l b v
  exact ⟨Rat.le_trans a1 b1, Rat.le_trans a2 b2, Rat.le_trans b3 a3, Rat.le_trans b4 a4⟩
theorem fold_mem : ∀ (l : List (Rat × Rat)) (b : BoxV) (v : Rat × Rat), v ∈ l → (l.foldl boxStep b).has v := by
 intro l
 induction l with
 | nil => intro b v h; cases h
 | cons u l ih =>
  intro b v h
  rcases List.mem_cons.1 h with rfl | h
  ·exact has_mono (step_has b v) (fold_grow l _)
  ·exact ih _ v h
theorem boxP_has {l : List (Rat × Rat)} {v : Rat × Rat} (h : v ∈ l) : (boxP l).has v := by
 cases l with
 | nil => cases h
 | cons u l =>
  unfold boxP
  rcases List.mem_cons.1 h with rfl | h
  ·exact has_mono (b := ⟨v.1, v.2, v.1, v.2⟩) ⟨⟨Rat.le_refl, Rat.le_refl⟩, Rat.le_refl, Rat.le_refl⟩ (fold_grow l _)
  ·exact fold_mem l _ v h
theorem fold_in {c : BoxV} : ∀ (l : List (Rat × Rat)) (b : BoxV), (c.x1 ≤ b.x1 ∧ c.y1 ≤ b.y1 ∧ b.x2 ≤ c.x2 ∧ b.y2 ≤ c.y2) → (∀ v ∈ l, c.has v) → c.x1 ≤ (l.foldl boxStep b).x1 ∧ c.y1 ≤ (l.foldl boxStep b).y1 ∧ (l.foldl boxStep b).x2 ≤ c.x2 ∧ (l.foldl boxStep b).y2 ≤ c.y2 := by
 intro l
 induction l with
 | nil => intro b h _; exact h
 | cons v l ih =>
  intro b h hv
  refine ih _ ?_ fun u hu => hv u (by simp [hu])
  have := hv v (by simp)
  obtain ⟨⟨v1, v2⟩, v3, v4⟩ := this
  obtain ⟨h1, h2, h3, h4⟩ := h
  unfold boxStep
  refine ⟨?_, ?_, ?_, ?_⟩ <;> simp only [minR, maxR] <;> split <;> assumption
theorem boxP_in {l : List (Rat × Rat)} {c : BoxV} (hl : l ≠ []) (h : ∀ v ∈ l, c.has v) : c.x1 ≤ (boxP l).x1 ∧ c.y1 ≤ (boxP l).y1 ∧ (boxP l).x2 ≤ c.x2 ∧ (boxP l).y2 ≤ c.y2 := by
 cases l with
 | nil => exact absurd rfl hl
 | cons u l =>
  obtain ⟨⟨v1, v2⟩, v3, v4⟩ := h u (by simp)
  exact fold_in l _ ⟨v1, v3, v2, v4⟩ fun v hv => h v (by simp [hv])
theorem fold_pick (sel : BoxV → Rat) (co : Rat × Rat → Rat) (hs : ∀ b v, sel (boxStep b v) = sel b ∨ sel (boxStep b v) = co v) : ∀ (l : List (Rat × Rat)) (b : BoxV), sel (l.foldl boxStep b) = sel b ∨ ∃ v ∈ l, co v = sel (l.foldl boxStep b) := by
 intro l
 induction l with
 | nil => intro b; exact .inl rfl
 | cons v l ih =>
  intro b
  rcases ih (boxStep b v) with e | ⟨u, hu, e⟩
  ·rcases hs b v with e2 | e2
   ·exact .inl (e.trans e2)
   ·exact .inr ⟨v, by simp, (e.trans e2).symm⟩
  ·exact .inr ⟨u, by simp [hu], e⟩
theorem boxP_pick {l : List (Rat × Rat)} (hl : l ≠ []) (sel : BoxV → Rat) (co : Rat × Rat → Rat) (hs : ∀ b v, sel (boxStep b v) = sel b ∨ sel (boxStep b v) = co v) (h0 : ∀ v : Rat × Rat, sel ⟨v.1, v.2, v.1, v.2⟩ = co v) : ∃ v ∈ l, co v = sel (boxP l) := by
 cases l with
 | nil => exact absurd rfl hl
 | cons u l =>
  rcases fold_pick sel co hs l ⟨u.1, u.2, u.1, u.2⟩ with e | ⟨v, hv, e⟩
  ·exact ⟨u, by simp, (h0 u).symm.trans e.symm⟩
  ·exact ⟨v, by simp [hv], e⟩
theorem boxP_x1 {l : List (Rat × Rat)} (hl : l ≠ []) : ∃ v ∈ l, v.1 = (boxP l).x1 := boxP_pick hl (·.x1) (·.1) (fun b v => by simp only [boxStep, minR]; split <;> simp) (fun _ => rfl)
theorem boxP_x2 {l : List (Rat × Rat)} (hl : l ≠ []) : ∃ v ∈ l, v.1 = (boxP l).x2 := boxP_pick hl (·.x2) (·.1) (fun b v => by simp only [boxStep, maxR]; split <;> simp) (fun _ => rfl)
theorem boxP_y1 {l : List (Rat × Rat)} (hl : l ≠ []) : ∃ v ∈ l, v.2 = (boxP l).y1 := boxP_pick hl (·.y1) (·.2) (fun b v => by simp only [boxStep, minR]; split <;> simp) (fun _ => rfl)
theorem boxP_y2 {l : List (Rat × Rat)} (hl : l ≠ []) : ∃ v ∈ l, v.2 = (boxP l).y2 := boxP_pick hl (·.y2) (·.2) (fun b v => by simp only [boxStep, maxR]; split <;> simp) (fun _ => rfl)
theorem boxes_iff {a b : BoxV} : boxesB a b = true ↔ (a.x1 ≤ a.x2 ∧ a.y1 ≤ a.y2) ∧ (b.x1 ≤ b.x2 ∧ b.y1 ≤ b.y2) ∧ a.x1 ≤ b.x2 ∧ b.x1 ≤ a.x2 ∧ a.y1 ≤ b.y2 ∧ b.y1 ≤ a.y2 := by
 unfold boxesB BoxV.ok
 simp only [Bool.and_eq_true, decide_eq_true_eq]
/-- A linear function on a box is nowhere less than at one of its corners. -/
theorem corner_min (b : BoxV) (n p : Rat × Rat) (h : ∀ c ∈ cornV b, 0 < dotR n (c.1 - p.1, c.2 - p.2)) {v : Rat × Rat} (hv : b.has v) : 0 < dotR n (v.1 - p.1, v.2 - p.2) := by
  obtain ⟨⟨v1, v2⟩, v3, v4⟩ := hv
  have key : ∀ (x y : Rat), (x, y) ∈ cornV b → n.1 * x ≤ n.1 * v.1 → n.2 * y ≤ n.2 * v.2 → 0 < dotR n (v.1 - p.1, v.2 - p.2) := by
    intro x y hm h1 h2
    have := h (x, y) hm
    unfold dotR at this ⊢
    simp only at this ⊢
    grind
  have mx : ∀ (m a c : Rat), 0 ≤ m → a ≤ c → m * a ≤ m * c := fun m a c hm hac => Rat.mul_le_mul_of_nonneg_left hac hm
  have mn : ∀ (m a c : Rat), m ≤ 0 → a ≤ c → m * c ≤ m * a := fun m a c hm hac => by
    have := Rat.mul_le_mul_of_nonneg_left hac (show 0 ≤ -m by grind)
    grind
  rcases Rat.le_total (a := 0) (b := n.1) with a | a <;> rcases Rat.le_total (a := 0) (b := n.2) with c | c
  · exact key b.x1 b.y1 (by simp [cornV]) (mx _ _ _ a v1) (mx _ _ _ c v3)
  · exact key b.x1 b.y2 (by simp [cornV]) (mx _ _ _ a v1) (mn _ _ _ c v4)
  · exact key b.x2 b.y1 (by simp [cornV]) (mn _ _ _ a v2) (mx _ _ _ c v3)
  · exact key b.x2 b.y2 (by simp [cornV]) (mn _ _ _ a v2) (mn _ _ _ c v4)
theorem corn_has (b : BoxV) (h : b.x1 ≤ b.x2 ∧ b.y1 ≤ b.y2) : ∀ c ∈ cornV b, b.has c := by
 intro c hc
 simp only [cornV, List.mem_cons, List.not_mem_nil, or_false] at hc
 rcases hc with rfl | rfl | rfl | rfl
 ·exact ⟨⟨Rat.le_refl, h.1⟩, Rat.le_refl, h.2⟩
 ·exact ⟨⟨h.1, Rat.le_refl⟩, Rat.le_refl, h.2⟩
 ·exact ⟨⟨h.1, Rat.le_refl⟩, h.2, Rat.le_refl⟩
 ·exact ⟨⟨Rat.le_refl, h.1⟩, h.2, Rat.le_refl⟩
theorem pos_of {m d : Rat} (hm : 0 ≤ m) (h : 0 < m * d) : 0 < d := by
 rcases Rat.le_total (a := d) (b := 0) with k | k
 ·exfalso
  have := Rat.mul_le_mul_of_nonneg_left k hm
  rw [Rat.mul_zero] at this
  exact absurd h (Rat.not_lt.2 this)
 ·refine Rat.lt_iff_le_and_ne.2 ⟨k, fun e => ?_⟩
  rw [← e, Rat.mul_zero] at h
  exact absurd h Rat.lt_irrefl
/-- What lies beyond an edge of a box lies on that side of it. -/
theorem bey_box {b : BoxV} (hb : b.x1 ≤ b.x2 ∧ b.y1 ≤ b.y2) {w : List (Rat × Rat)} (h : beyB (cornV b) w = true) : (∀ v ∈ w, v.2 < b.y1) ∨ (∀ v ∈ w, b.x2 < v.1) ∨ (∀ v ∈ w, b.y2 < v.2) ∨ (∀ v ∈ w, v.1 < b.x1) := by
  obtain ⟨i, hi, he⟩ := List.any_eq_true.1 h
  have hi : i < 4 := List.mem_range.1 hi
  have hv : ∀ v ∈ w, 0 < dotR (outN ((cornV b).getD i (0, 0)) ((cornV b).getD ((i + 1) % 4) (0, 0))) (v.1 - ((cornV b).getD i (0, 0)).1, v.2 - ((cornV b).getD i (0, 0)).2) := fun v hv => of_decide_eq_true (List.all_eq_true.1 he v hv)
  obtain ⟨h1, h2⟩ := hb
  match i, hi with
  | 0, _ =>
    refine .inl fun v hm => ?_
    have := hv v hm
    simp only [cornV, List.getD_cons_zero, List.getD_cons_succ, dotR, outN, show (0 + 1) % 4 = 1 from rfl] at this
    have := pos_of (m := b.x2 - b.x1) (d := b.y1 - v.2) (by grind) (by grind)
    grind
  | 1, _ =>
    refine .inr (.inl fun v hm => ?_)
    have := hv v hm
    simp only [cornV, List.getD_cons_zero, List.getD_cons_succ, dotR, outN, show (1 + 1) % 4 = 2 from rfl] at this
    have := pos_of (m := b.y2 - b.y1) (d := v.1 - b.x2) (by grind) (by grind)
    grind
  | 2, _ =>
    refine .inr (.inr (.inl fun v hm => ?_))
    have := hv v hm
    simp only [cornV, List.getD_cons_zero, List.getD_cons_succ, dotR, outN, show (2 + 1) % 4 = 3 from rfl] at this
    have := pos_of (m := b.x2 - b.x1) (d := v.2 - b.y2) (by grind) (by grind)
    grind
  | 3, _ =>
    refine .inr (.inr (.inr fun v hm => ?_))
    have := hv v hm
    simp only [cornV, List.getD_cons_zero, List.getD_cons_succ, dotR, outN, show (3 + 1) % 4 = 0 from rfl] at this
    have := pos_of (m := b.y2 - b.y1) (d := b.x1 - v.1) (by grind) (by grind)
    grind
/-- A polygon within a box that is free of a wall is free of it. -/
theorem free_in {b : BoxV} (hb : b.x1 ≤ b.x2 ∧ b.y1 ≤ b.y2) {s w : List (Rat × Rat)} (hs : s ≠ []) (hw : w ≠ []) (hsb : ∀ v ∈ s, b.has v) (h : boxesB (boxP (cornV b)) (boxP w) = true → meetB (cornV b) w = false) :
    boxesB (boxP s) (boxP w) = true → meetB s w = false := by
  intro hx
  obtain ⟨_, hwok, k1, k2, k3, k4⟩ := boxes_iff.1 hx
  have hcin := boxP_in (l := cornV b) (c := b) (by simp [cornV]) (corn_has b hb)
  have c1 := boxP_has (l := cornV b) (v := (b.x1, b.y1)) (by simp [cornV])
  have c2 := boxP_has (l := cornV b) (v := (b.x2, b.y2)) (by simp [cornV])
  have hin := boxP_in hs hsb
  have hbx : boxesB (boxP (cornV b)) (boxP w) = true := by
    refine boxes_iff.2 ⟨⟨Rat.le_trans c1.x.1 (Rat.le_trans hb.1 c2.x.2), Rat.le_trans c1.y.1 (Rat.le_trans hb.2 c2.y.2)⟩, hwok, ?_, ?_, ?_, ?_⟩
    · exact Rat.le_trans c1.x.1 (Rat.le_trans hin.1 k1)
    · exact Rat.le_trans k2 (Rat.le_trans hin.2.2.1 c2.x.2)
    · exact Rat.le_trans c1.y.1 (Rat.le_trans hin.2.1 k3)
    · exact Rat.le_trans k4 (Rat.le_trans hin.2.2.2 c2.y.2)
  have hm := h hbx
  unfold meetB at hm ⊢
  cases hy : beyB (cornV b) w with
  | true =>
    exfalso
    have at1 : ∃ v ∈ w, v.1 = (boxP w).x1 := boxP_x1 hw
    have at2 : ∃ v ∈ w, v.1 = (boxP w).x2 := boxP_x2 hw
    have at3 : ∃ v ∈ w, v.2 = (boxP w).y1 := boxP_y1 hw
    have at4 : ∃ v ∈ w, v.2 = (boxP w).y2 := boxP_y2 hw
    rcases bey_box hb hy with h' | h' | h' | h'
    · obtain ⟨v, hv, e⟩ := at4
      have := h' v hv
      rw [e] at this
      exact absurd (Rat.le_trans hin.2.1 k3) (Rat.not_le.2 this)
    · obtain ⟨v, hv, e⟩ := at1
      have := h' v hv
      rw [e] at this
      exact absurd (Rat.le_trans k2 hin.2.2.1) (Rat.not_le.2 this)
    · obtain ⟨v, hv, e⟩ := at3
      have := h' v hv
      rw [e] at this
      exact absurd (Rat.le_trans k4 hin.2.2.2) (Rat.not_le.2 this)
    · obtain ⟨v, hv, e⟩ := at2
      have := h' v hv
      rw [e] at this
      exact absurd (Rat.le_trans hin.1 k1) (Rat.not_le.2 this)
  | false =>
    rw [hy] at hm
    have hwb : beyB w (cornV b) = true := by simpa using hm
    have : beyB w s = true := by
      obtain ⟨i, hi, he⟩ := List.any_eq_true.1 hwb
      refine List.any_eq_true.2 ⟨i, hi, List.all_eq_true.2 fun v hv => decide_eq_true ?_⟩
      exact corner_min b _ _ (fun c hc => of_decide_eq_true (List.all_eq_true.1 he c hc)) (hsb v hv)
    rw [this]; simp
end Go.Proofs
/- Motions in parts: what is proved of them: plain laws. -/
namespace Go.Proofs
open Go Go.Eng
def frac (k n : Nat) : Rat := ((k : Int) : Rat) / ((n : Int) : Rat)
def prtV (p q : List Rat) (n k : Nat) : List Rat := midV (frac k n) p q
def rowQ (p q : List Rat) (n k : Nat) : List Sp := spansV (prtV p q n k) (prtV p q n (k + 1))
def splV (p q : List Rat) (n : Nat) : List (List Sp) := (List.range n).map (rowQ p q n)
def boxH (b : Sp × Sp) : BoxV := ⟨b.1.lo, b.2.lo, b.1.hi, b.2.hi⟩
def polyH (a : ArmV) (row : List Sp) : List (List (Rat × Rat)) := (boxesV (spreadV (loBase a) a.links row) a.links).map fun b => cornV (boxH b)
def motB (a : ArmV) (rows : List (List Sp)) (ws : List (List (Rat × Rat))) : Bool := rows.all fun row => freeB (polyH a row) ws
theorem mot_iff {a : ArmV} {p q : List Rat} {n : Nat} {ws : List (List (Rat × Rat))} : motB a (splV p q n) ws = true ↔ ∀ k, k < n → freeB (polyH a (rowQ p q n k)) ws = true := by
 unfold motB splV
 rw [List.all_map, List.all_eq_true]
 exact ⟨fun h k hk => h k (List.mem_range.2 hk), fun h k hk => h k (List.mem_range.1 hk)⟩
theorem nat_ne {n : Nat} (hn : 0 < n) : ((n : Int) : Rat) ≠ 0 := fun e => by
 have : ((n : Int) : Rat) = ((0 : Int) : Rat) := e
 have := Rat.intCast_inj.1 this
 omega
theorem frac_add {k j n : Nat} (hn : 0 < n) (h : k + j = n) : frac k n + frac j n = 1 := by
 unfold frac
 have hne := nat_ne hn
 have e : ((k : Int) : Rat) + ((j : Int) : Rat) = ((n : Int) : Rat) := by
  rw [← Rat.intCast_add]; congr 1; omega
 rw [Rat.div_def, Rat.div_def, ← Rat.add_mul, e, Rat.mul_inv_cancel _ hne]
theorem min_comm' (a b : Rat) : minR a b = minR b a := by unfold minR; split <;> split <;> grind
theorem max_comm' (a b : Rat) : maxR a b = maxR b a := by unfold maxR; split <;> split <;> grind
theorem spans_comm (a b : List Rat) : spansV a b = spansV b a := by
 unfold spansV
 rw [List.zipWith_comm]
 congr 1
 funext p q
 rw [min_comm', max_comm']
theorem row_back {p q : List Rat} {n k : Nat} (hk : k < n) : rowQ q p n k = rowQ p q n (n - 1 - k) := by
 unfold rowQ prtV
 rw [mid_back (f := frac (n - k) n) (frac_add (by omega) (by omega)) p q, mid_back (f := frac (n - 1 - k) n) (frac_add (by omega) (by omega)) p q, spans_comm, show n - k = n - 1 - k + 1 by omega]
/-- A motion back is proved free as the motion there. -/
theorem mot_back {a : ArmV} {p q : List Rat} {n : Nat} {ws : List (List (Rat × Rat))} : motB a (splV q p n) ws = motB a (splV p q n) ws := by
  rw [Bool.eq_iff_iff, mot_iff, mot_iff]
  constructor
  · intro h k hk
    have := h (n - 1 - k) (by omega)
    rw [row_back (by omega)] at this
    rw [show n - 1 - (n - 1 - k) = k by omega] at this
    exact this
  · intro h k hk
    rw [row_back hk]
    exact h _ (by omega)
theorem line_in {p q s1 s s2 : Rat} (h1 : s1 ≤ s) (h2 : s ≤ s2) : minR (p + s1 * (q - p)) (p + s2 * (q - p)) ≤ p + s * (q - p) ∧ p + s * (q - p) ≤ maxR (p + s1 * (q - p)) (p + s2 * (q - p)) := by
 have mx : ∀ (m a c : Rat), 0 ≤ m → a ≤ c → a * m ≤ c * m := fun m a c hm hac => Rat.mul_le_mul_of_nonneg_right hac hm
 rcases Rat.le_total (a := p) (b := q) with k | k
 ·have a1 := mx (q - p) s1 s (by grind) h1
  have a2 := mx (q - p) s s2 (by grind) h2
  exact ⟨Rat.le_trans (minR_le_l _ _) (by grind), Rat.le_trans (b := p + s2 * (q - p)) (by grind) (le_maxR_r _ _)⟩
 ·have a1 := mx (p - q) s1 s (by grind) h1
  have a2 := mx (p - q) s s2 (by grind) h2
  exact ⟨Rat.le_trans (minR_le_r _ _) (by grind), Rat.le_trans (b := p + s1 * (q - p)) (by grind) (le_maxR_l _ _)⟩
theorem spans_mid {p q : List Rat} (h : p.length = q.length) {s1 s s2 : Rat} (h1 : s1 ≤ s) (h2 : s ≤ s2) : HasQ (spansV (midV s1 p q) (midV s2 p q)) (midV s p q) := by
 refine ⟨by simp [spansV, midV], fun i t x ht hx => ?_⟩
 have hi := (List.getElem?_eq_some_iff.1 hx).1
 rw [mid_len h] at hi
 obtain ⟨a, ha⟩ : ∃ a, p[i]? = some a := ⟨_, List.getElem?_eq_getElem hi⟩
 obtain ⟨b, hb⟩ : ∃ b, q[i]? = some b := ⟨_, List.getElem?_eq_getElem (by omega)⟩
 rw [mid_get ha hb] at hx
 cases hx
 simp only [spansV, List.getElem?_zipWith, mid_get ha hb] at ht
 cases ht
 exact line_in h1 h2
theorem frac_le {a b n m : Nat} (hn : 0 < n) (hm : 0 < m) (h : a * m ≤ b * n) : frac a n ≤ frac b m := by
 have hn0 : (0 : Rat) < ((n : Int) : Rat) := by
  have : ((0 : Int) : Rat) < ((n : Int) : Rat) := Rat.intCast_lt_intCast.2 (by omega)
  exact this
 have hm0 : (0 : Rat) < ((m : Int) : Rat) := by
  have : ((0 : Int) : Rat) < ((m : Int) : Rat) := Rat.intCast_lt_intCast.2 (by omega)
  exact this
 unfold frac
 have h' : ((a : Int) : Rat) * ((m : Int) : Rat) ≤ ((b : Int) : Rat) * ((n : Int) : Rat) := by
  rw [← Rat.intCast_mul, ← Rat.intCast_mul]
  exact Rat.intCast_le_intCast.2 (by exact_mod_cast h)
 have e1 : ((a : Int) : Rat) / ((n : Int) : Rat) * ((n : Int) : Rat) = ((a : Int) : Rat) := Rat.div_mul_cancel (nat_ne hn)
 have e2 : ((b : Int) : Rat) / ((m : Int) : Rat) * ((m : Int) : Rat) = ((b : Int) : Rat) := Rat.div_mul_cancel (nat_ne hm)
 generalize ((a : Int) : Rat) / ((n : Int) : Rat) = x at *
 generalize ((b : Int) : Rat) / ((m : Int) : Rat) = y at *
 rw [← e1, ← e2] at h'
 have hp : 0 < ((n : Int) : Rat) * ((m : Int) : Rat) := Rat.mul_pos hn0 hm0
 refine Rat.le_of_mul_le_mul_right (c := ((n : Int) : Rat) * ((m : Int) : Rat)) ?_ hp
 grind
theorem at_sub {l l' : LoV} {f : FrV} (h : l.has f) (hs : l.sub l') (v : Rat × Rat) : (atX l v).sub (atX l' v) ∧ (atY l v).sub (atY l' v) := by
 have o : ∀ x : Rat, (spOf x).sub (spOf x) := fun x => ⟨Rat.le_refl, Rat.le_refl⟩
 exact ⟨spAdd_sub hs.x (spSub_sub (spMul_sub Rat.le_refl h.c.ok (o _) hs.c) (spMul_sub Rat.le_refl h.s.ok (o _) hs.s)),
  spAdd_sub hs.y (spAdd_sub (spMul_sub Rat.le_refl h.s.ok (o _) hs.s) (spMul_sub Rat.le_refl h.c.ok (o _) hs.c))⟩
theorem hX_sub {l l' : LoV} {f : FrV} (h : l.has f) (hs : l.sub l') : ∀ (vs : List (Rat × Rat)) (x x' : Sp), x.sub x' → (hX l vs x).sub (hX l' vs x') := by
 intro vs
 induction vs with
 | nil => intro x x' hx; exact hx
 | cons v vs ih => intro x x' hx; exact ih _ _ (spJoin_sub hx (at_sub h hs v).1)
theorem hY_sub {l l' : LoV} {f : FrV} (h : l.has f) (hs : l.sub l') : ∀ (vs : List (Rat × Rat)) (x x' : Sp), x.sub x' → (hY l vs x).sub (hY l' vs x') := by
 intro vs
 induction vs with
 | nil => intro x x' hx; exact hx
 | cons v vs ih => intro x x' hx; exact ih _ _ (spJoin_sub hx (at_sub h hs v).2)
theorem hull_sub {l l' : LoV} {f : FrV} (h : l.has f) (hs : l.sub l') (L : LinkV) : (hullV l L).1.sub (hullV l' L).1 ∧ (hullV l L).2.sub (hullV l' L).2 :=
 ⟨hX_sub h hs _ _ _ (at_sub h hs _).1, hY_sub h hs _ _ _ (at_sub h hs _).2⟩
theorem free_pts {bs : List BoxV} {ss ws : List (List (Rat × Rat))} (hw : ∀ w ∈ ws, w ≠ []) (hs : ∀ (i : Nat) s, ss[i]? = some s → s ≠ [] ∧ ∃ b, bs[i]? = some b ∧ ∀ v ∈ s, b.has v) (h : freeB (bs.map cornV) ws = true) : freeB ss ws = true := by
 refine free_iff.2 fun s hm w hwm => ?_
 obtain ⟨i, hi⟩ := List.getElem?_of_mem hm
 obtain ⟨hne, b, hb, hv⟩ := hs i s hi
 obtain ⟨v, hvm⟩ := List.exists_mem_of_ne_nil s hne
 have hk := hv v hvm
 exact free_in ⟨Rat.le_trans hk.x.1 hk.x.2, Rat.le_trans hk.y.1 hk.y.2⟩ hne (hw w hwm) hv (free_iff.1 h _ (List.mem_map.2 ⟨b, List.mem_of_getElem? hb, rfl⟩) w hwm)
theorem polyH_eq (a : ArmV) (row : List Sp) : polyH a row = ((boxesV (spreadV (loBase a) a.links row) a.links).map boxH).map cornV := by
 unfold polyH; rw [List.map_map]; rfl
/-- Where the boxes of a row are free, those of a narrower row are. -/
theorem row_narrow {a : ArmV} (hg : GoodArm a) {row row' : List Sp} {qs : List Rat} (hq : HasQ row' qs) (hl : qs.length = a.links.length) (hl' : row.length = row'.length) (hsub : ∀ (i : Nat) t t', row'[i]? = some t → row[i]? = some t' → t.sub t') {ws : List (List (Rat × Rat))} (hw : ∀ w ∈ ws, w ≠ [])
    (h : freeB (polyH a row) ws = true) : freeB (polyH a row') ws = true := by
  rw [polyH_eq] at h
  have hrl := hq.1
  have sl := spread_len a.links row (loBase a) (by omega)
  have sl' := spread_len a.links row' (loBase a) (by omega)
  have fl := frames_len a.links qs (baseV a) hl
  refine free_pts hw (fun i s hi => ?_) h
  have hi2 := (List.getElem?_eq_some_iff.1 hi).1
  have hi2 : i < a.links.length := by simp [polyH, boxesV, sl'] at hi2; omega
  obtain ⟨L, hL⟩ : ∃ L, a.links[i]? = some L := ⟨_, List.getElem?_eq_getElem hi2⟩
  obtain ⟨y, hy⟩ : ∃ y, (spreadV (loBase a) a.links row)[i]? = some y := ⟨_, List.getElem?_eq_getElem (by omega)⟩
  obtain ⟨y', hy'⟩ : ∃ y, (spreadV (loBase a) a.links row')[i]? = some y := ⟨_, List.getElem?_eq_getElem (by omega)⟩
  obtain ⟨g, hgx⟩ : ∃ g, (framesV (baseV a) a.links qs)[i]? = some g := ⟨_, List.getElem?_eq_getElem (by omega)⟩
  have hh := spread_has a.links row' qs (loBase a) (baseV a) (base_has a) hq i y' g hy' hgx
  have hs := spread_sub a.links row' row qs (loBase a) (loBase a) (baseV a) (base_has a) hq (lo_refl _) hl'.symm (fun i t t' h1 h2 => hsub i t t' h1 h2) i y' y hy' hy
  obtain ⟨hx, hyy⟩ := hull_sub hh hs L
  rw [polyH_eq, List.getElem?_map, List.getElem?_map, boxes_get hy' hL] at hi
  cases hi
  have hpo := ((hg.links L (List.mem_of_getElem? hL)).poly).lo
  obtain ⟨p, hp⟩ : ∃ p, p ∈ L.shape := List.exists_mem_of_ne_nil _ (fun e => by rw [e] at hpo; simp at hpo)
  have hk := hull_has hh hp
  refine ⟨by simp [cornV], boxH (hullV y L), by rw [List.getElem?_map, boxes_get hy hL]; rfl, fun v hv => ?_⟩
  exact has_mono (corn_has (boxH (hullV y' L)) ⟨hk.1.ok, hk.2.ok⟩ v hv) ⟨hx.1, hyy.1, hx.2, hyy.2⟩
/-- A polygon of a works has some width and some height. -/
theorem poly_wide {l : List (Rat × Rat)} (h : PolyOK l) : (∃ p ∈ l, ∃ q ∈ l, p.1 < q.1) ∧ ∃ p ∈ l, ∃ q ∈ l, p.2 < q.2 := by
  have h1 := h.lo
  obtain ⟨a, ha⟩ : ∃ a, l[0]? = some a := ⟨_, List.getElem?_eq_getElem (by omega)⟩
  obtain ⟨b, hb⟩ : ∃ b, l[(0 + 1) % l.length]? = some b := ⟨_, List.getElem?_eq_getElem (Nat.mod_lt _ (by omega))⟩
  obtain ⟨c, hc⟩ : ∃ c, l[(0 + 2) % l.length]? = some c := ⟨_, List.getElem?_eq_getElem (Nat.mod_lt _ (by omega))⟩
  have hl := h.left 0 2 a b c (Nat.le_refl _) (by omega) ha hb hc
  have ma := List.mem_of_getElem? ha
  have mb := List.mem_of_getElem? hb
  have mc := List.mem_of_getElem? hc
  unfold lft at hl
  have tri : ∀ x y : Rat, x < y ∨ x = y ∨ y < x := fun x y => by grind
  constructor
  · rcases tri a.1 b.1 with k | k | k
    · exact ⟨a, ma, b, mb, k⟩
    · rcases tri a.1 c.1 with k2 | k2 | k2
      · exact ⟨a, ma, c, mc, k2⟩
      · exfalso
        rw [← k, ← k2] at hl
        have e : (a.1 - a.1) * (c.2 - a.2) - (b.2 - a.2) * (a.1 - a.1) = 0 := by grind
        rw [e] at hl
        exact absurd hl Rat.lt_irrefl
      · exact ⟨c, mc, a, ma, k2⟩
    · exact ⟨b, mb, a, ma, k⟩
  · rcases tri a.2 b.2 with k | k | k
    · exact ⟨a, ma, b, mb, k⟩
    · rcases tri a.2 c.2 with k2 | k2 | k2
      · exact ⟨a, ma, c, mc, k2⟩
      · exfalso
        rw [← k, ← k2] at hl
        have e : (b.1 - a.1) * (a.2 - a.2) - (a.2 - a.2) * (c.1 - a.1) = 0 := by grind
        rw [e] at hl
        exact absurd hl Rat.lt_irrefl
      · exact ⟨c, mc, a, ma, k2⟩
    · exact ⟨b, mb, a, ma, k⟩
/-- The corners of a box that has some width and height are such a polygon. -/
theorem corn_poly {b : BoxV} (hx : b.x1 < b.x2) (hy : b.y1 < b.y2) : PolyOK (cornV b) := by
  have hp : 0 < (b.x2 - b.x1) * (b.y2 - b.y1) := Rat.mul_pos (by grind) (by grind)
  refine ⟨by simp [cornV], by simp [cornV], fun i k p q r h2 hk hp' hq hr => ?_⟩
  have hi : i < 4 := by have := (List.getElem?_eq_some_iff.1 hp').1; simpa [cornV] using this
  have hk : k < 4 := by simpa [cornV] using hk
  have hk2 : k = 2 ∨ k = 3 := by omega
  have hi2 : i = 0 ∨ i = 1 ∨ i = 2 ∨ i = 3 := by omega
  rcases hi2 with rfl | rfl | rfl | rfl <;> rcases hk2 with rfl | rfl <;> (simp [cornV] at hp' hq hr; subst hp' hq hr; unfold lft; simp only; grind)
theorem hull_wide {l : LoV} {f : FrV} {L : LinkV} (h : l.has f) (hp : PolyOK L.shape) : (hullV l L).1.lo < (hullV l L).1.hi ∧ (hullV l L).2.lo < (hullV l L).2.hi := by
 obtain ⟨⟨p, hpm, q, hqm, h1⟩, ⟨u, hum, v, hvm, h2⟩⟩ := poly_wide (poly_pl f hp)
 obtain ⟨p0, hp0, rfl⟩ := List.mem_map.1 hpm
 obtain ⟨q0, hq0, rfl⟩ := List.mem_map.1 hqm
 obtain ⟨u0, hu0, rfl⟩ := List.mem_map.1 hum
 obtain ⟨v0, hv0, rfl⟩ := List.mem_map.1 hvm
 have a1 := (hull_has h hp0).1.1
 have a2 := (hull_has h hq0).1.2
 have a3 := (hull_has h hu0).2.1
 have a4 := (hull_has h hv0).2.2
 have h1 : putX f p0.1 p0.2 < putX f q0.1 q0.2 := h1
 have h2 : putY f u0.1 u0.2 < putY f v0.1 v0.2 := h2
 exact ⟨by grind, by grind⟩
theorem prt_len {p q : List Rat} (h : p.length = q.length) (n k : Nat) : (prtV p q n k).length = p.length := mid_len h
theorem row_has {p q : List Rat} (h : p.length = q.length) {n k m x : Nat} (hn : 0 < n) (hm : 0 < m) (h1 : k * m ≤ x * n) (h2 : x * n ≤ (k + 1) * m) : HasQ (rowQ p q n k) (prtV p q m x) :=
 spans_mid h (frac_le hn hm h1) (frac_le hm hn h2)
/-- With twice as many parts a motion is still proved free. -/
theorem mot_fine {a : ArmV} (hg : GoodArm a) {p q : List Rat} (hp : p.length = a.links.length) (hq : q.length = a.links.length) {n : Nat} (hn : 0 < n) {ws : List (List (Rat × Rat))} (hw : ∀ w ∈ ws, w ≠ []) (h : motB a (splV p q n) ws = true) : motB a (splV p q (2 * n)) ws = true := by
  have hpq : p.length = q.length := by omega
  refine mot_iff.2 fun k hk => ?_
  have e1 : k / 2 * 2 ≤ k := Nat.div_mul_le_self _ _
  have e2 : k + 1 ≤ (k / 2 + 1) * 2 := by omega
  have a1 : k / 2 * (2 * n) ≤ k * n := by rw [← Nat.mul_assoc]; exact Nat.mul_le_mul_right _ e1
  have a2 : (k + 1) * n ≤ (k / 2 + 1) * (2 * n) := by rw [← Nat.mul_assoc]; exact Nat.mul_le_mul_right _ e2
  have b1 : k * n ≤ (k / 2 + 1) * (2 * n) := Nat.le_trans (Nat.mul_le_mul_right _ (by omega)) a2
  have b2 : k / 2 * (2 * n) ≤ (k + 1) * n := Nat.le_trans a1 (Nat.mul_le_mul_right _ (by omega))
  have c1 := row_has hpq (n := n) (k := k / 2) (m := 2 * n) (x := k) hn (by omega) a1 b1
  have c2 := row_has hpq (n := n) (k := k / 2) (m := 2 * n) (x := k + 1) hn (by omega) b2 a2
  have c3 := row_has hpq (n := 2 * n) (k := k) (m := 2 * n) (x := k) (by omega) (by omega) (Nat.le_refl _) (Nat.mul_le_mul_right _ (by omega))
  have l1 := prt_len hpq (2 * n) k
  refine row_narrow hg (row := rowQ p q n (k / 2)) c3 (by omega) (by rw [c1.1, c3.1]) (fun i t t' ht ht' => spans_sub c1 c2 i t t' ht ht') hw (mot_iff.1 h (k / 2) (by omega))
end Go.Proofs
