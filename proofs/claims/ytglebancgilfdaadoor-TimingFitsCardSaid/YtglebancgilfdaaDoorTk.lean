

namespace Go.Proofs
/-- A key: its tick, the bound on the bits of its joint values, these. -/
structure KeyV where
  tick : Int
  n : Nat
  q : List Rat
def mix (s : Rat) (p q : List Rat) : List Rat := List.zipWith (fun x y => x + s * (y - x)) p q
def fracT (a b : KeyV) (t : Int) : Rat := ((t : Rat) - (a.tick : Rat)) / ((b.tick : Rat) - (a.tick : Rat))
def interp (a b : KeyV) (t : Int) : List Rat := mix (fracT a b t) a.q b.q
def atGo : KeyV → List KeyV → Int → List Rat × Nat
 | a, [], _ => (a.q, a.n + 65)
 | a, b :: ks, t => if b.tick ≤ t then atGo b ks t else (interp a b t, 2 * a.n + b.n + 260)
def atR : List KeyV → Int → List Rat × Nat
 | [], _ => ([], 0)
 | a :: ks, t => if t ≤ a.tick then (a.q, a.n + 65) else atGo a ks t
structure KeysOK (ks : List KeyV) (m N : Nat) : Prop where
 len : ∀ k ∈ ks, k.q.length = m
 n : ∀ k ∈ ks, k.n ≤ N
 tick : ∀ k ∈ ks, 0 ≤ k.tick ∧ k.tick ≤ 2000
 inc : ∀ (i : Nat) (a b : KeyV), ks[i]? = some a → ks[i + 1]? = some b → a.tick < b.tick
theorem mix_len {s : Rat} {p q : List Rat} (h : p.length = q.length) : (mix s p q).length = p.length := by simp [mix, h]
theorem mix_get {s : Rat} {p q : List Rat} {i : Nat} {x y : Rat} (hx : p[i]? = some x) (hy : q[i]? = some y) : (mix s p q)[i]? = some (x + s * (y - x)) := by
 simp [mix, List.getElem?_zipWith, hx, hy]
theorem mix_zero {p q : List Rat} (h : p.length = q.length) : mix 0 p q = p := by
 apply List.ext_getElem?
 intro i
 by_cases hi : i < p.length
 ·obtain ⟨x, hx⟩ : ∃ x, p[i]? = some x := ⟨_, List.getElem?_eq_getElem hi⟩
  obtain ⟨y, hy⟩ : ∃ y, q[i]? = some y := ⟨_, List.getElem?_eq_getElem (by omega)⟩
  rw [mix_get hx hy, hx]; congr 1; grind
 ·rw [List.getElem?_eq_none (by rw [mix_len h]; omega), List.getElem?_eq_none (by omega)]
theorem fracT_lo (a b : KeyV) : fracT a b a.tick = 0 := by unfold fracT; grind
theorem tick_lt {a b : KeyV} (h : a.tick < b.tick) : (a.tick : Rat) < (b.tick : Rat) := by exact_mod_cast h
theorem KeysOK.tail {a : KeyV} {ks : List KeyV} {m N : Nat} (h : KeysOK (a :: ks) m N) : KeysOK ks m N :=
 ⟨fun k hk => h.len k (by simp [hk]), fun k hk => h.n k (by simp [hk]), fun k hk => h.tick k (by simp [hk]), fun i x y hx hy => h.inc (i + 1) x y (by simpa using hx) (by simpa using hy)⟩
theorem KeysOK.head {a b : KeyV} {ks : List KeyV} {m N : Nat} (h : KeysOK (a :: b :: ks) m N) : a.tick < b.tick := h.inc 0 a b rfl rfl
theorem KeysOK.mono {ks : List KeyV} {m N : Nat} (h : KeysOK ks m N) : ∀ {j i : Nat} {a b : KeyV}, i ≤ j → ks[i]? = some a → ks[j]? = some b → a.tick ≤ b.tick := by
  intro j
  induction j with
  | zero => intro i a b hij ha hb; have : i = 0 := by omega
            subst this; rw [ha] at hb; cases hb; exact Int.le_refl _
  | succ j ih =>
    intro i a b hij ha hb
    by_cases e : i = j + 1
    · subst e; rw [ha] at hb; cases hb; exact Int.le_refl _
    · have hlt := (List.getElem?_eq_some_iff.1 hb).1
      have hc : ks[j]? = some ks[j] := List.getElem?_eq_getElem (by omega)
      have h1 := ih (by omega) ha hc
      have h2 := h.inc j _ b hc hb
      omega
theorem KeysOK.head_len {a b : KeyV} {ks : List KeyV} {m N : Nat} (h : KeysOK (a :: b :: ks) m N) : a.q.length = b.q.length := by rw [h.len a (by simp), h.len b (by simp)]
theorem go_start {m N : Nat} : ∀ {ks : List KeyV} {a : KeyV}, KeysOK (a :: ks) m N → (atGo a ks a.tick).1 = a.q := by
 intro ks a h
 cases ks with
 | nil => rfl
 | cons b ks =>
  unfold atGo
  have := h.head
  rw [if_neg (by omega)]
  show interp a b a.tick = a.q
  unfold interp
  rw [fracT_lo, mix_zero h.head_len]
end Go.Proofs
