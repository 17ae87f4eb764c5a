/- Polygons apart, free lists of polygons, polygons within boxes: plain laws. -/
import Derived.Test.YtglebancgilfdaaGreatDoorSE
import Derived.Test.YtglebancgilfdaaGreatDoorPE
import Derived.Test.YtglebancgilfdaaGreatDoorS3
open List renaming getElem?_eq_getElem → Za, mem_of_getElem? → Zb, mem_map → Zc
/- Polygons apart, free lists of polygons, polygons within boxes: plain laws. -/
namespace Go.Proofs
open Go Go.Eng
def dotR (n v : Rat × Rat) : Rat := n.1 * v.1 + n.2 * v.2
def outN (p q : Rat × Rat) : Rat × Rat := (q.2 - p.2, -(q.1 - p.1))
def beyE (p q : Rat × Rat) (b : List (Rat × Rat)) : Bool := b.all fun v => decide (0 < dotR (outN p q) (v.1 - p.1, v.2 - p.2))
def beyB (a b : List (Rat × Rat)) : Bool := (List.range a.length).any fun i => beyE (a.getD i (0, 0)) (a.getD ((i + 1) % a.length) (0, 0)) b
def meetB (a b : List (Rat × Rat)) : Bool := !beyB a b && !beyB b a
def boxP (l : List (Rat × Rat)) : BoxV := l.tail.foldl boxStep ⟨(l.headD (0, 0)).1, (l.headD (0, 0)).2, (l.headD (0, 0)).1, (l.headD (0, 0)).2⟩
def BoxV.ok (b : BoxV) : Bool := decide (b.x1 ≤ b.x2) && decide (b.y1 ≤ b.y2)
def boxesB (a b : BoxV) : Bool := a.ok && (b.ok && (decide (a.x1 ≤ b.x2) && (decide (b.x1 ≤ a.x2) && (decide (a.y1 ≤ b.y2) && decide (b.y1 ≤ a.y2)))))
def freeB (l m : List (List (Rat × Rat))) : Bool := l.all fun a => m.all fun b => !(boxesB (boxP a) (boxP b)) || !(meetB a b)
def cornV (b : BoxV) : List (Rat × Rat) := [(b.x1, b.y1), (b.x2, b.y1), (b.x2, b.y2), (b.x1, b.y2)]
structure BoxV.has (b : BoxV) (v : Rat × Rat) : Prop where
 x : b.x1 ≤ v.1 ∧ v.1 ≤ b.x2
 y : b.y1 ≤ v.2 ∧ v.2 ≤ b.y2
theorem free_iff {l m : List (List (Rat × Rat))} : freeB l m = true ↔ ∀ a ∈ l, ∀ b ∈ m, boxesB (boxP a) (boxP b) = true → meetB a b = false := by
 unfold freeB
 simp only [List.all_eq_true, Bool.or_eq_true, Bool.not_eq_true']
 constructor
 ·intro h a ha b hb hx
  rcases h a ha b hb with k | k
  ·rw [hx] at k; cases k
  ·exact k
 ·intro h a ha b hb
  cases hx : boxesB (boxP a) (boxP b) with
  | false => exact .inl rfl
  | true => exact .inr (h a ha b hb hx)
end Go.Proofs
/- Motions in parts: what is proved of them: plain laws. -/
namespace Go.Proofs
open Go Go.Eng
def frac (k n : Nat) : Rat := ((k : Int) : Rat) / ((n : Int) : Rat)
def prtV (p q : List Rat) (n k : Nat) : List Rat := midV (frac k n) p q
def rowQ (p q : List Rat) (n k : Nat) : List Sp := spansV (prtV p q n k) (prtV p q n (k + 1))
def splV (p q : List Rat) (n : Nat) : List (List Sp) := (List.range n).map (rowQ p q n)
def boxH (b : Sp × Sp) : BoxV := ⟨b.1.lo, b.2.lo, b.1.hi, b.2.hi⟩
def polyH (a : ArmV) (row : List Sp) : List (List (Rat × Rat)) := (boxesV (spreadV (loBase a) a.links row) a.links).map fun b => cornV (boxH b)
def motB (a : ArmV) (rows : List (List Sp)) (ws : List (List (Rat × Rat))) : Bool := rows.all fun row => freeB (polyH a row) ws
theorem mot_iff {a : ArmV} {p q : List Rat} {n : Nat} {ws : List (List (Rat × Rat))} : motB a (splV p q n) ws = true ↔ ∀ k, k < n → freeB (polyH a (rowQ p q n k)) ws = true := by
 unfold motB splV
 rw [List.all_map, List.all_eq_true]
 exact ⟨fun h k hk => h k (List.mem_range.2 hk), fun h k hk => h k (List.mem_range.1 hk)⟩
theorem nat_ne {n : Nat} (hn : 0 < n) : ((n : Int) : Rat) ≠ 0 := fun e => by
 have : ((n : Int) : Rat) = ((0 : Int) : Rat) := e
 have := Rat.intCast_inj.1 this
 omega
theorem line_in {p q s1 s s2 : Rat} (h1 : s1 ≤ s) (h2 : s ≤ s2) : minR (p + s1 * (q - p)) (p + s2 * (q - p)) ≤ p + s * (q - p) ∧ p + s * (q - p) ≤ maxR (p + s1 * (q - p)) (p + s2 * (q - p)) := by
 have mx : ∀ (m a c : Rat), 0 ≤ m → a ≤ c → a * m ≤ c * m := fun m a c hm hac => Rat.mul_le_mul_of_nonneg_right hac hm
 rcases Rat.le_total (a := p) (b := q) with k | k
 ·have a1 := mx (q - p) s1 s (by grind) h1
  have a2 := mx (q - p) s s2 (by grind) h2
  exact ⟨Rat.le_trans (minR_le_l _ _) (by grind), Rat.le_trans (b := p + s2 * (q - p)) (by grind) (le_maxR_r _ _)⟩
 ·have a1 := mx (p - q) s1 s (by grind) h1
  have a2 := mx (p - q) s s2 (by grind) h2
  exact ⟨Rat.le_trans (minR_le_r _ _) (by grind), Rat.le_trans (b := p + s1 * (q - p)) (by grind) (le_maxR_l _ _)⟩
theorem spans_mid {p q : List Rat} (h : p.length = q.length) {s1 s s2 : Rat} (h1 : s1 ≤ s) (h2 : s ≤ s2) : HasQ (spansV (midV s1 p q) (midV s2 p q)) (midV s p q) := by
 refine ⟨by simp [spansV, midV], fun i t x ht hx => ?_⟩
 have hi := (List.getElem?_eq_some_iff.1 hx).1
 rw [mid_len h] at hi
 obtain ⟨a, ha⟩ : ∃ a, p[i]? = some a := ⟨_, Za hi⟩
 obtain ⟨b, hb⟩ : ∃ b, q[i]? = some b := ⟨_, Za (by omega)⟩
 rw [mid_get ha hb] at hx
 cases hx
 simp only [spansV, List.getElem?_zipWith, mid_get ha hb] at ht
 cases ht
 exact line_in h1 h2
theorem frac_le {a b n m : Nat} (hn : 0 < n) (hm : 0 < m) (h : a * m ≤ b * n) : frac a n ≤ frac b m := by
 have hn0 : (0 : Rat) < ((n : Int) : Rat) := by
  have : ((0 : Int) : Rat) < ((n : Int) : Rat) := Rat.intCast_lt_intCast.2 (by omega)
  exact this
 have hm0 : (0 : Rat) < ((m : Int) : Rat) := by
  have : ((0 : Int) : Rat) < ((m : Int) : Rat) := Rat.intCast_lt_intCast.2 (by omega)
  exact this
 unfold frac
 have h' : ((a : Int) : Rat) * ((m : Int) : Rat) ≤ ((b : Int) : Rat) * ((n : Int) : Rat) := by
  rw [← Rat.intCast_mul, ← Rat.intCast_mul]
  exact Rat.intCast_le_intCast.2 (by exact_mod_cast h)
 have e1 : ((a : Int) : Rat) / ((n : Int) : Rat) * ((n : Int) : Rat) = ((a : Int) : Rat) := Rat.div_mul_cancel (nat_ne hn)
 have e2 : ((b : Int) : Rat) / ((m : Int) : Rat) * ((m : Int) : Rat) = ((b : Int) : Rat) := Rat.div_mul_cancel (nat_ne hm)
 generalize ((a : Int) : Rat) / ((n : Int) : Rat) = x at *
 generalize ((b : Int) : Rat) / ((m : Int) : Rat) = y at *
 rw [← e1, ← e2] at h'
 have hp : 0 < ((n : Int) : Rat) * ((m : Int) : Rat) := Rat.mul_pos hn0 hm0
 refine Rat.le_of_mul_le_mul_right (c := ((n : Int) : Rat) * ((m : Int) : Rat)) ?_ hp
 grind
/-- A polygon of a works has some width and some height. -/
theorem poly_wide {l : List (Rat × Rat)} (h : PolyOK l) : (∃ p ∈ l, ∃ q ∈ l, p.1 < q.1) ∧ ∃ p ∈ l, ∃ q ∈ l, p.2 < q.2 := by
  have h1 := h.lo
  obtain ⟨a, ha⟩ : ∃ a, l[0]? = some a := ⟨_, Za (by omega)⟩
  obtain ⟨b, hb⟩ : ∃ b, l[(0 + 1) % l.length]? = some b := ⟨_, Za (Nat.mod_lt _ (by omega))⟩
  obtain ⟨c, hc⟩ : ∃ c, l[(0 + 2) % l.length]? = some c := ⟨_, Za (Nat.mod_lt _ (by omega))⟩
  have hl := h.left 0 2 a b c (Nat.le_refl _) (by omega) ha hb hc
  have ma := Zb ha
  have mb := Zb hb
  have mc := Zb hc
  unfold lft at hl
  have tri : ∀ x y : Rat, x < y ∨ x = y ∨ y < x := fun x y => by grind
  constructor
  · rcases tri a.1 b.1 with k | k | k
    · exact ⟨a, ma, b, mb, k⟩
    · rcases tri a.1 c.1 with k2 | k2 | k2
      · exact ⟨a, ma, c, mc, k2⟩
      · exfalso
        rw [← k, ← k2] at hl
        have e : (a.1 - a.1) * (c.2 - a.2) - (b.2 - a.2) * (a.1 - a.1) = 0 := by grind
        rw [e] at hl
        exact absurd hl Rat.lt_irrefl
      · exact ⟨c, mc, a, ma, k2⟩
    · exact ⟨b, mb, a, ma, k⟩
  · rcases tri a.2 b.2 with k | k | k
    · exact ⟨a, ma, b, mb, k⟩
    · rcases tri a.2 c.2 with k2 | k2 | k2
      · exact ⟨a, ma, c, mc, k2⟩
      · exfalso
        rw [← k, ← k2] at hl
        have e : (b.1 - a.1) * (a.2 - a.2) - (a.2 - a.2) * (c.1 - a.1) = 0 := by grind
        rw [e] at hl
        exact absurd hl Rat.lt_irrefl
      · exact ⟨c, mc, a, ma, k2⟩
    · exact ⟨b, mb, a, ma, k⟩
/-- The corners of a box that has some width and height are such a polygon. -/
theorem corn_poly {b : BoxV} (hx : b.x1 < b.x2) (hy : b.y1 < b.y2) : PolyOK (cornV b) := by
  have hp : 0 < (b.x2 - b.x1) * (b.y2 - b.y1) := Rat.mul_pos (by grind) (by grind)
  refine ⟨by simp [cornV], by simp [cornV], fun i k p q r h2 hk hp' hq hr => ?_⟩
  have hi : i < 4 := by have := (List.getElem?_eq_some_iff.1 hp').1; simpa [cornV] using this
  have hk : k < 4 := by simpa [cornV] using hk
  have hk2 : k = 2 ∨ k = 3 := by omega
  have hi2 : i = 0 ∨ i = 1 ∨ i = 2 ∨ i = 3 := by omega
  rcases hi2 with rfl | rfl | rfl | rfl <;> rcases hk2 with rfl | rfl <;> (simp [cornV] at hp' hq hr; subst hp' hq hr; unfold lft; simp only; grind)
theorem hull_wide {l : LoV} {f : FrV} {L : LinkV} (h : l.has f) (hp : PolyOK L.shape) : (hullV l L).1.lo < (hullV l L).1.hi ∧ (hullV l L).2.lo < (hullV l L).2.hi := by
 obtain ⟨⟨p, hpm, q, hqm, h1⟩, ⟨u, hum, v, hvm, h2⟩⟩ := poly_wide (poly_pl f hp)
 obtain ⟨p0, hp0, rfl⟩ := Zc.1 hpm
 obtain ⟨q0, hq0, rfl⟩ := Zc.1 hqm
 obtain ⟨u0, hu0, rfl⟩ := Zc.1 hum
 obtain ⟨v0, hv0, rfl⟩ := Zc.1 hvm
 have a1 := (hull_has h hp0).1.1
 have a2 := (hull_has h hq0).1.2
 have a3 := (hull_has h hu0).2.1
 have a4 := (hull_has h hv0).2.2
 have h1 : putX f p0.1 p0.2 < putX f q0.1 q0.2 := h1
 have h2 : putY f u0.1 u0.2 < putY f v0.1 v0.2 := h2
 exact ⟨by grind, by grind⟩
theorem prt_len {p q : List Rat} (h : p.length = q.length) (n k : Nat) : (prtV p q n k).length = p.length := mid_len h
theorem row_has {p q : List Rat} (h : p.length = q.length) {n k m x : Nat} (hn : 0 < n) (hm : 0 < m) (h1 : k * m ≤ x * n) (h2 : x * n ≤ (k + 1) * m) : HasQ (rowQ p q n k) (prtV p q m x) :=
 spans_mid h (frac_le hn hm h1) (frac_le hm hn h2)
end Go.Proofs
