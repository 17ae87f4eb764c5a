

namespace Go.Proofs
/-- A key: its tick, the bound on the bits of its joint values, these. -/
structure KeyV where
  tick : Int
  n : Nat
  q : List Rat
def mix (s : Rat) (p q : List Rat) : List Rat := List.zipWith (fun x y => x + s * (y - x)) p q
def fracT (a b : KeyV) (t : Int) : Rat := ((t : Rat) - (a.tick : Rat)) / ((b.tick : Rat) - (a.tick : Rat))
def interp (a b : KeyV) (t : Int) : List Rat := mix (fracT a b t) a.q b.q
def atGo : KeyV → List KeyV → Int → List Rat × Nat
 | a, [], _ => (a.q, a.n + 65)
 | a, b :: ks, t => if b.tick ≤ t then atGo b ks t else (interp a b t, 2 * a.n + b.n + 260)
def atR : List KeyV → Int → List Rat × Nat
 | [], _ => ([], 0)
 | a :: ks, t => if t ≤ a.tick then (a.q, a.n + 65) else atGo a ks t
structure KeysOK (ks : List KeyV) (m N : Nat) : Prop where
 len : ∀ k ∈ ks, k.q.length = m
 n : ∀ k ∈ ks, k.n ≤ N
 tick : ∀ k ∈ ks, 0 ≤ k.tick ∧ k.tick ≤ 2000
 inc : ∀ (i : Nat) (a b : KeyV), ks[i]? = some a → ks[i + 1]? = some b → a.tick < b.tick
theorem mix_len {s : Rat} {p q : List Rat} (h : p.length = q.length) : (mix s p q).length = p.length := by simp [mix, h]
theorem mix_get {s : Rat} {p q : List Rat} {i : Nat} {x y : Rat} (hx : p[i]? = some x) (hy : q[i]? = some y) : (mix s p q)[i]? = some (x + s * (y - x)) := by
 simp [mix, List.getElem?_zipWith, hx, hy]
theorem mix_zero {p q : List Rat} (h : p.length = q.length) : mix 0 p q = p := by
 apply List.ext_getElem?
 intro i
 by_cases hi : i < p.length
 ·obtain ⟨x, hx⟩ : ∃ x, p[i]? = some x := ⟨_, List.getElem?_eq_getElem hi⟩
  obtain ⟨y, hy⟩ : ∃ y, q[i]? = some y := ⟨_, List.getElem?_eq_getElem (by omega)⟩
  rw [mix_get hx hy, hx]; congr 1; grind
 ·rw [List.getElem?_eq_none (by rw [mix_len h]; omega), List.getElem?_eq_none (by omega)]
theorem mix_one {p q : List Rat} (h : p.length = q.length) : mix 1 p q = q := by
 apply List.ext_getElem?
 intro i
 by_cases hi : i < p.length
 ·obtain ⟨x, hx⟩ : ∃ x, p[i]? = some x := ⟨_, List.getElem?_eq_getElem hi⟩
  obtain ⟨y, hy⟩ : ∃ y, q[i]? = some y := ⟨_, List.getElem?_eq_getElem (by omega)⟩
  rw [mix_get hx hy, hy]; congr 1; grind
 ·rw [List.getElem?_eq_none (by rw [mix_len h]; omega), List.getElem?_eq_none (by omega)]
theorem fracT_lo (a b : KeyV) : fracT a b a.tick = 0 := by unfold fracT; grind
theorem tick_lt {a b : KeyV} (h : a.tick < b.tick) : (a.tick : Rat) < (b.tick : Rat) := by exact_mod_cast h
theorem fracT_hi {a b : KeyV} (h : a.tick < b.tick) : fracT a b b.tick = 1 := by
 have := tick_lt h
 unfold fracT; grind
theorem KeysOK.tail {a : KeyV} {ks : List KeyV} {m N : Nat} (h : KeysOK (a :: ks) m N) : KeysOK ks m N :=
 ⟨fun k hk => h.len k (by simp [hk]), fun k hk => h.n k (by simp [hk]), fun k hk => h.tick k (by simp [hk]), fun i x y hx hy => h.inc (i + 1) x y (by simpa using hx) (by simpa using hy)⟩
theorem KeysOK.head {a b : KeyV} {ks : List KeyV} {m N : Nat} (h : KeysOK (a :: b :: ks) m N) : a.tick < b.tick := h.inc 0 a b rfl rfl
theorem KeysOK.mono {ks : List KeyV} {m N : Nat} (h : KeysOK ks m N) : ∀ {j i : Nat} {a b : KeyV}, i ≤ j → ks[i]? = some a → ks[j]? = some b → a.tick ≤ b.tick := by
  intro j
  induction j with
  | zero => intro i a b hij ha hb; have : i = 0 := by omega
            subst this; rw [ha] at hb; cases hb; exact Int.le_refl _
  | succ j ih =>
    intro i a b hij ha hb
    by_cases e : i = j + 1
    · subst e; rw [ha] at hb; cases hb; exact Int.le_refl _
    · have hlt := (List.getElem?_eq_some_iff.1 hb).1
      have hc : ks[j]? = some ks[j] := List.getElem?_eq_getElem (by omega)
      have h1 := ih (by omega) ha hc
      have h2 := h.inc j _ b hc hb
      omega
theorem KeysOK.head_len {a b : KeyV} {ks : List KeyV} {m N : Nat} (h : KeysOK (a :: b :: ks) m N) : a.q.length = b.q.length := by rw [h.len a (by simp), h.len b (by simp)]
theorem go_start {m N : Nat} : ∀ {ks : List KeyV} {a : KeyV}, KeysOK (a :: ks) m N → (atGo a ks a.tick).1 = a.q := by
 intro ks a h
 cases ks with
 | nil => rfl
 | cons b ks =>
  unfold atGo
  have := h.head
  rw [if_neg (by omega)]
  show interp a b a.tick = a.q
  unfold interp
  rw [fracT_lo, mix_zero h.head_len]
theorem interp_hi {a b : KeyV} (h : a.tick < b.tick) (hl : a.q.length = b.q.length) : interp a b b.tick = b.q := by
 unfold interp; rw [fracT_hi h, mix_one hl]
/-- Where a tick and the next one lie: in one segment, or behind the last key. -/
theorem go_three {m N : Nat} : ∀ {ks : List KeyV} {a : KeyV} {t : Int}, KeysOK (a :: ks) m N → a.tick ≤ t →
    (∃ (i : Nat) (x y : KeyV), (a :: ks)[i]? = some x ∧ (a :: ks)[i + 1]? = some y ∧ x.tick ≤ t ∧ t < y.tick ∧ (atGo a ks t).1 = interp x y t ∧ (atGo a ks (t + 1)).1 = interp x y (t + 1)) ∨
    (∃ z : KeyV, (a :: ks)[ks.length]? = some z ∧ z.tick ≤ t ∧ (atGo a ks t).1 = z.q ∧ (atGo a ks (t + 1)).1 = z.q) := by
  intro ks
  induction ks with
  | nil => intro a t _ ht; exact .inr ⟨a, rfl, ht, rfl, rfl⟩
  | cons b ks ih =>
    intro a t h ht
    by_cases hb : b.tick ≤ t
    · have e1 : atGo a (b :: ks) t = atGo b ks t := by rw [atGo, if_pos hb]
      have e2 : atGo a (b :: ks) (t + 1) = atGo b ks (t + 1) := by rw [atGo, if_pos (show b.tick ≤ t + 1 by omega)]
      rw [e1, e2]
      rcases ih h.tail hb with ⟨i, x, y, h1, h2, h3⟩ | ⟨z, h1, h2⟩
      · exact .inl ⟨i + 1, x, y, by simpa using h1, by simpa using h2, h3⟩
      · exact .inr ⟨z, by simpa using h1, h2⟩
    · refine .inl ⟨0, a, b, rfl, rfl, ht, by omega, by rw [atGo, if_neg hb], ?_⟩
      by_cases hb' : b.tick ≤ t + 1
      · have e : t + 1 = b.tick := by omega
        rw [atGo, if_pos hb', e, go_start h.tail, interp_hi h.head h.head_len]
      · rw [atGo, if_neg hb']
theorem at_three {m N : Nat} {ks : List KeyV} (h : KeysOK ks m N) (hne : ks ≠ []) (t : Int) :
  (∃ a, ks[0]? = some a ∧ t < a.tick ∧ (atR ks t).1 = a.q ∧ (atR ks (t + 1)).1 = a.q) ∨
  (∃ (i : Nat) (x y : KeyV), ks[i]? = some x ∧ ks[i + 1]? = some y ∧ x.tick ≤ t ∧ t < y.tick ∧ (atR ks t).1 = interp x y t ∧ (atR ks (t + 1)).1 = interp x y (t + 1)) ∨
  (∃ z : KeyV, ks[ks.length - 1]? = some z ∧ z.tick ≤ t ∧ (atR ks t).1 = z.q ∧ (atR ks (t + 1)).1 = z.q) := by
 match ks, hne, h with
 | a :: ks, _, h =>
  by_cases ha : t < a.tick
  ·exact .inl ⟨a, rfl, ha, by rw [atR, if_pos (show t ≤ a.tick by omega)], by rw [atR, if_pos (show t + 1 ≤ a.tick by omega)]⟩
  ·have e1 : (atR (a :: ks) t).1 = (atGo a ks t).1 := by
    by_cases e : t ≤ a.tick
    ·have : t = a.tick := by omega
     subst this
     rw [atR, if_pos e, go_start h]
    ·rw [atR, if_neg e]
   have e2 : (atR (a :: ks) (t + 1)).1 = (atGo a ks (t + 1)).1 := by rw [atR, if_neg (show ¬ t + 1 ≤ a.tick by omega)]
   rw [e1, e2]
   rcases go_three h (show a.tick ≤ t by omega) with h | ⟨z, h1, h2⟩
   ·exact .inr (.inl h)
   ·exact .inr (.inr ⟨z, by simpa using h1, h2⟩)
theorem go_bound {m N : Nat} : ∀ {ks : List KeyV} {a : KeyV} {t : Int}, KeysOK (a :: ks) m N → (atGo a ks t).2 ≤ 3 * N + 260 ∧ (atGo a ks t).1.length = m := by
 intro ks
 induction ks with
 | nil => intro a t h; have := h.n a (by simp); exact ⟨by simp only [atGo]; omega, h.len a (by simp)⟩
 | cons b ks ih =>
  intro a t h
  rw [atGo]
  split
  ·exact ih h.tail
  ·have h1 := h.n a (by simp)
   have h2 := h.n b (by simp)
   exact ⟨by simp only; omega, by simp only [interp]; rw [mix_len h.head_len]; exact h.len a (by simp)⟩
theorem at_bound {m N : Nat} {ks : List KeyV} {t : Int} (h : KeysOK ks m N) (hne : ks ≠ []) : (atR ks t).2 ≤ 3 * N + 260 ∧ (atR ks t).1.length = m := by
 match ks, hne, h with
 | a :: ks, _, h =>
  rw [atR]
  split
  ·have := h.n a (by simp); exact ⟨by simp only; omega, h.len a (by simp)⟩
  ·exact go_bound h
end Go.Proofs
