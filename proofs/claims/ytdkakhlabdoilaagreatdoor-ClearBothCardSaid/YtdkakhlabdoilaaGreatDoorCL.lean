/- Polygons apart, free lists of polygons, polygons within boxes: plain laws. -/
import Derived.Test.YtdkakhlabdoilaaGreatDoorSE
import Derived.Test.YtdkakhlabdoilaaGreatDoorPE
import Derived.Test.YtdkakhlabdoilaaGreatDoorS3
/- Polygons apart, free lists of polygons, polygons within boxes: plain laws. -/
namespace Go.Proofs
open Go Go.Eng
def dotR (n v : Rat × Rat) : Rat := n.1 * v.1 + n.2 * v.2
def outN (p q : Rat × Rat) : Rat × Rat := (q.2 - p.2, -(q.1 - p.1))
def beyE (p q : Rat × Rat) (b : List (Rat × Rat)) : Bool := b.all fun v => decide (0 < dotR (outN p q) (v.1 - p.1, v.2 - p.2))
def beyB (a b : List (Rat × Rat)) : Bool := (List.range a.length).any fun i => beyE (a.getD i (0, 0)) (a.getD ((i + 1) % a.length) (0, 0)) b
def meetB (a b : List (Rat × Rat)) : Bool := !beyB a b && !beyB b a
def boxP (l : List (Rat × Rat)) : BoxV := l.tail.foldl boxStep ⟨(l.headD (0, 0)).1, (l.headD (0, 0)).2, (l.headD (0, 0)).1, (l.headD (0, 0)).2⟩
def BoxV.ok (b : BoxV) : Bool := decide (b.x1 ≤ b.x2) && decide (b.y1 ≤ b.y2)
def boxesB (a b : BoxV) : Bool := a.ok && (b.ok && (decide (a.x1 ≤ b.x2) && (decide (b.x1 ≤ a.x2) && (decide (a.y1 ≤ b.y2) && decide (b.y1 ≤ a.y2)))))
def freeB (l m : List (List (Rat × Rat))) : Bool := l.all fun a => m.all fun b => !(boxesB (boxP a) (boxP b)) || !(meetB a b)
structure BoxV.has (b : BoxV) (v : Rat × Rat) : Prop where
 x : b.x1 ≤ v.1 ∧ v.1 ≤ b.x2
 y : b.y1 ≤ v.2 ∧ v.2 ≤ b.y2
theorem free_iff {l m : List (List (Rat × Rat))} : freeB l m = true ↔ ∀ a ∈ l, ∀ b ∈ m, boxesB (boxP a) (boxP b) = true → meetB a b = false := by
 unfold freeB
 simp only [List.all_eq_true, Bool.or_eq_true, Bool.not_eq_true']
 constructor
 ·intro h a ha b hb hx
  rcases h a ha b hb with k | k
  ·rw [hx] at k; cases k
  ·exact k
 ·intro h a ha b hb
  cases hx : boxesB (boxP a) (boxP b) with
  | false => exact .inl rfl
  | true => exact .inr (h a ha b hb hx)
theorem boxes_comm (a b : BoxV) : boxesB a b = boxesB b a := by
 unfold boxesB
 cases a.ok <;> cases b.ok <;> cases decide (a.x1 ≤ b.x2) <;> cases decide (b.x1 ≤ a.x2) <;> cases decide (a.y1 ≤ b.y2) <;> cases decide (b.y1 ≤ a.y2) <;> rfl
theorem meet_comm (a b : List (Rat × Rat)) : meetB a b = meetB b a := by unfold meetB; exact Bool.and_comm _ _
theorem free_comm (l m : List (List (Rat × Rat))) : freeB l m = freeB m l := by
 rw [Bool.eq_iff_iff, free_iff, free_iff]
 constructor
 ·intro h a ha b hb hx
  rw [meet_comm]; exact h b hb a ha (by rw [boxes_comm]; exact hx)
 ·intro h a ha b hb hx
  rw [meet_comm]; exact h b hb a ha (by rw [boxes_comm]; exact hx)
theorem step_l (b : BoxV) (v : Rat × Rat) : (boxStep b v).x1 ≤ b.x1 ∧ (boxStep b v).y1 ≤ b.y1 ∧ b.x2 ≤ (boxStep b v).x2 ∧ b.y2 ≤ (boxStep b v).y2 := by
 unfold boxStep
 refine ⟨?_, ?_, ?_, ?_⟩ <;> simp only [minR, maxR] <;> split <;> grind
theorem step_has (b : BoxV) (v : Rat × Rat) : (boxStep b v).has v := by
 unfold boxStep
 refine ⟨⟨?_, ?_⟩, ?_, ?_⟩ <;> simp only [minR, maxR] <;> split <;> grind
theorem has_mono {b c : BoxV} {v : Rat × Rat} (h : b.has v) (k : c.x1 ≤ b.x1 ∧ c.y1 ≤ b.y1 ∧ b.x2 ≤ c.x2 ∧ b.y2 ≤ c.y2) : c.has v :=
 ⟨⟨Rat.le_trans k.1 h.x.1, Rat.le_trans h.x.2 k.2.2.1⟩, Rat.le_trans k.2.1 h.y.1, Rat.le_trans h.y.2 k.2.2.2⟩
theorem fold_grow : ∀ (l : List (Rat × Rat)) (b : BoxV), (l.foldl boxStep b).x1 ≤ b.x1 ∧ (l.foldl boxStep b).y1 ≤ b.y1 ∧ b.x2 ≤ (l.foldl boxStep b).x2 ∧ b.y2 ≤ (l.foldl boxStep b).y2 := by
 intro l
 induction l with
 | nil => intro b; exact ⟨Rat.le_refl, Rat.le_refl, Rat.le_refl, Rat.le_refl⟩
 | cons v l ih =>
  intro b
  obtain ⟨a1, a2, a3, a4⟩ := ih (boxStep b v)
  obtain ⟨b1, b2, b3, b4⟩ := step_l b v
  exact ⟨Rat.le_trans a1 b1, Rat.le_trans a2 b2, Rat.le_trans b3 a3, Rat.le_trans b4 a4⟩
theorem fold_mem : ∀ (l : List (Rat × Rat)) (b : BoxV) (v : Rat × Rat), v ∈ l → (l.foldl boxStep b).has v := by
 intro l
 induction l with
 | nil => intro b v h; cases h
 | cons u l ih =>
  intro b v h
  rcases List.mem_cons.1 h with rfl | h
  ·exact has_mono (step_has b v) (fold_grow l _)
  ·exact ih _ v h
theorem boxP_has {l : List (Rat × Rat)} {v : Rat × Rat} (h : v ∈ l) : (boxP l).has v := by
 cases l with
 | nil => cases h
 | cons u l =>
  unfold boxP
  rcases List.mem_cons.1 h with rfl | h
  ·exact has_mono (b := ⟨v.1, v.2, v.1, v.2⟩) ⟨⟨Rat.le_refl, Rat.le_refl⟩, Rat.le_refl, Rat.le_refl⟩ (fold_grow l _)
  ·exact fold_mem l _ v h
theorem boxP_ok {l : List (Rat × Rat)} (hl : l ≠ []) : (boxP l).ok = true := by
 cases l with
 | nil => exact absurd rfl hl
 | cons u l =>
  obtain ⟨⟨v1, v2⟩, v3, v4⟩ := boxP_has (l := u :: l) (v := u) (by simp)
  unfold BoxV.ok
  simp only [Bool.and_eq_true, decide_eq_true_eq]
  exact ⟨Rat.le_trans v1 v2, Rat.le_trans v3 v4⟩
/-- A polygon meets itself. -/
theorem free_self {l : List (List (Rat × Rat))} {s : List (Rat × Rat)} (h : s ∈ l) (hs : s ≠ []) : freeB l l = false := by
  cases hf : freeB l l with
  | false => rfl
  | true =>
    exfalso
    have hb : boxesB (boxP s) (boxP s) = true := by
      have hk := boxP_ok hs
      have hk' := hk
      unfold BoxV.ok at hk'
      simp only [Bool.and_eq_true] at hk'
      unfold boxesB
      rw [hk, hk'.1, hk'.2]; rfl
    have hm := free_iff.1 hf s h s h hb
    have hn : beyB s s = false := by
      cases hy : beyB s s with
      | false => rfl
      | true =>
        exfalso
        unfold beyB at hy
        obtain ⟨i, hi, he⟩ := List.any_eq_true.1 hy
        have hi := List.mem_range.1 hi
        have hp : s.getD i (0, 0) ∈ s := by
          rw [List.getD_eq_getElem?_getD, List.getElem?_eq_getElem hi]; exact List.getElem_mem hi
        have := List.all_eq_true.1 he _ hp
        have := of_decide_eq_true this
        generalize s.getD i (0, 0) = p at this
        unfold dotR at this
        have e1 : p.1 - p.1 = 0 := by grind
        have e2 : p.2 - p.2 = 0 := by grind
        simp only [e1, e2, Rat.mul_zero, Rat.add_zero] at this
        exact absurd this (by decide)
    unfold meetB at hm
    rw [hn] at hm
    cases hm
end Go.Proofs
/- Motions in parts: what is proved of them: plain laws. -/
namespace Go.Proofs
open Go Go.Eng
end Go.Proofs
