/- Cosine and sine of turns one after the other; points of frames one after the other: plain laws. -/
import Derived.Test.YtdbkndfkgdbhpaaDoorFC
/- Cosine and sine of turns one after the other; points of frames one after the other: plain laws. -/
namespace Go.Proofs
open Go Go.Eng
theorem cos_mul (t : Rat) : cosT false t * (1 + t * t) = 1 - t * t := by
  show (1 - t * t) / (1 + t * t) * (1 + t * t) = _
  exact Rat.div_mul_cancel (sq1 t)
theorem sin_mul (t : Rat) : sinT false t * (1 + t * t) = t + t := by
  show (t + t) / (1 + t * t) * (1 + t * t) = _
  exact Rat.div_mul_cancel (sq1 t)
theorem cancel {a b d : Rat} (hd : d ≠ 0) (h : a * d = b * d) : a = b := by
  have : (a - b) * d = 0 := by grind
  rcases Rat.mul_eq_zero.1 this with h | h
  · grind
  · exact absurd h hd
theorem w_sq {w d a : Rat} (h : w * d = a) : (1 + w * w) * (d * d) = d * d + a * a := by rw [← h]; grind
theorem w_cos {w d a c : Rat} (h : w * d = a) (hc : c * (1 + w * w) = 1 - w * w) : c * (d * d + a * a) = d * d - a * a := by rw [← w_sq h, ← h]; grind
theorem w_sin {w d a s : Rat} (h : w * d = a) (hs : s * (1 + w * w) = w + w) : s * (d * d + a * a) = 2 * (a * d) := by rw [← w_sq h, ← h]; grind
theorem cs_ring (a b c d x y : Rat) : (a * b - c * d) * (x * y) = (a * x) * (b * y) - (c * x) * (d * y) := by grind
theorem sc_ring (a b c d x y : Rat) : (a * b + c * d) * (x * y) = (a * x) * (b * y) + (c * x) * (d * y) := by grind
theorem opp_cs (u : Rat) : cosT (oppH u) (oppT u) = - cosT false u ∧ sinT (oppH u) (oppT u) = - sinT false u := by
  by_cases h : u = 0
  · subst h; decide +kernel
  · have e : oppH u = false := decide_eq_false h
    have ev : oppT u * u = -1 := by
      unfold oppT; rw [e]
      show ((-1 : Int) : Rat) / u * u = _
      rw [Rat.div_mul_cancel h]; rfl
    rw [e]
    generalize oppT u = v at ev
    have c1 := cos_mul u
    have s1 := sin_mul u
    have c2 := cos_mul v
    have s2 := sin_mul v
    have hu := sq1 u
    have hv := sq1 v
    have k : (1 + v * v) * (u * u) = 1 + u * u := by grind
    generalize cosT false u = cu at *
    generalize sinT false u = su at *
    generalize cosT false v = cv at *
    generalize sinT false v = sv at *
    refine ⟨cancel hu ?_, cancel hu ?_⟩
    · rw [← k]; grind
    · rw [← k]; grind
theorem th_cs (h : Bool) (t : Rat) (g : Bool) (u : Rat) : cosT (thH h t g u) (thT h t g u) = cosT h t * cosT g u - sinT h t * sinT g u ∧ sinT (thH h t g u) (thT h t g u) = sinT h t * cosT g u + cosT h t * sinT g u := by
  have ct : ∀ x : Rat, cosT true x = -1 := fun _ => rfl
  have st : ∀ x : Rat, sinT true x = 0 := fun _ => rfl
  cases h <;> cases g
  · by_cases hz : 1 - t * u = 0
    · have e : decide (1 - t * u = 0) = true := decide_eq_true hz
      simp only [thH, thT, Bool.and_self, cond_false, e, cond_true, ct, st]
      have c1 := cos_mul u
      have s1 := sin_mul u
      have c2 := cos_mul t
      have s2 := sin_mul t
      have hu := sq1 u
      have hv := sq1 t
      have hd : (1 + t * t) * (1 + u * u) ≠ 0 := fun e => (Rat.mul_eq_zero.1 e).elim hv hu
      generalize cosT false u = cu at *
      generalize sinT false u = su at *
      generalize cosT false t = cv at *
      generalize sinT false t = sv at *
      refine ⟨cancel hd ?_, cancel hd ?_⟩ <;> grind
    · have e : decide (1 - t * u = 0) = false := decide_eq_false hz
      simp only [thH, thT, Bool.and_self, cond_false, e]
      have ew : (t + u) / (1 - t * u) * (1 - t * u) = t + u := Rat.div_mul_cancel hz
      generalize (t + u) / (1 - t * u) = w at *
      have c1 := cos_mul u
      have s1 := sin_mul u
      have c2 := cos_mul t
      have s2 := sin_mul t
      have c3 := cos_mul w
      have s3 := sin_mul w
      have hu := sq1 u
      have hv := sq1 t
      have hd : (1 + t * t) * (1 + u * u) ≠ 0 := fun e => (Rat.mul_eq_zero.1 e).elim hv hu
      have kd : (1 - t * u) * (1 - t * u) + (t + u) * (t + u) = (1 + t * t) * (1 + u * u) := by clear c1 s1 c2 s2 c3 s3 ew hd hu hv hz e; grind
      have k1 := w_cos ew c3
      have k2 := w_sin ew s3
      rw [kd] at k1 k2
      generalize cosT false u = cu at *
      generalize sinT false u = su at *
      generalize cosT false t = cv at *
      generalize sinT false t = sv at *
      generalize cosT false w = cw at *
      generalize sinT false w = sw at *
      refine ⟨cancel hd ?_, cancel hd ?_⟩
      · rw [k1, cs_ring, c1, c2, s1, s2]; clear c1 c2 s1 s2 k1 k2 kd hd hu hv hz ew c3 s3 e; grind
      · rw [k2, sc_ring, c1, c2, s1, s2]; clear c1 c2 s1 s2 k1 k2 kd hd hu hv hz ew c3 s3 e; grind
  · simp only [thH, thT, Bool.and_true, cond_false, cond_true, ct, st]
    obtain ⟨h1, h2⟩ := opp_cs (fitT false t)
    rw [h1, h2]
    show -cosT false t = _ ∧ -sinT false t = _
    constructor <;> grind
  · simp only [thH, thT, Bool.and_false, cond_false, cond_true, ct, st]
    obtain ⟨h1, h2⟩ := opp_cs (fitT false u)
    rw [h1, h2]
    show -cosT false u = _ ∧ -sinT false u = _
    constructor <;> grind
  · simp only [thH, thT, Bool.and_self, cond_true, ct, st]
    decide +kernel
theorem put_then (f g : FrV) (x y : Rat) : putX (frThen f g) x y = putX f (putX g x y) (putY g x y) ∧ putY (frThen f g) x y = putY f (putX g x y) (putY g x y) := by
  obtain ⟨h1, h2⟩ := th_cs f.h f.t g.h g.t
  have e1 : cosT (frThen f g).h (frThen f g).t = cosT f.h f.t * cosT g.h g.t - sinT f.h f.t * sinT g.h g.t := h1
  have e2 : sinT (frThen f g).h (frThen f g).t = sinT f.h f.t * cosT g.h g.t + cosT f.h f.t * sinT g.h g.t := h2
  unfold putX putY
  rw [e1, e2]
  show putX f g.x g.y + _ = _ ∧ putY f g.x g.y + _ = _
  unfold putX putY
  constructor <;> grind
/-- The sine of a joint value that is no half turn is 0 exactly where the value is. -/
theorem sin_zero (t : Rat) : sinT false t = 0 ↔ t = 0 := by
  have h := sin_mul t
  constructor
  · intro e; rw [e] at h; grind
  · intro e; subst e; decide +kernel
end Go.Proofs
/- Torques, velocities, ranks, reach and placed shapes of arms: plain laws. -/
namespace Go.Proofs
open Go Go.Eng
def torqV (tip : FrV) (u v : Rat) (fs : List FrV) : List Rat := fs.map fun g => (tip.x - g.x) * v - (tip.y - g.y) * u
def colV (tip : FrV) (fs : List FrV) : List (Rat × Rat) := fs.map fun g => (-(tip.y - g.y), tip.x - g.x)
def rateV (q v : Rat) : Rat := (((2 : Int) : Rat) * v) / (((1 : Int) : Rat) + q * q)
def velV : List (Rat × Rat) → List Rat → List Rat → Rat → Rat → Rat × Rat
  | c :: cs, q :: qs, v :: vs, a, b => velV cs qs vs (a + c.1 * rateV q v) (b + c.2 * rateV q v)
  | _, _, _, a, b => (a, b)
def powV : List Rat → List Rat → Rat → Rat
  | t :: ts, r :: rs, s => powV ts rs (s + t * r)
  | _, _, s => s
def dotV : List (Rat × Rat) → List Rat → Rat → Rat → Rat × Rat
  | c :: cs, w :: ws, a, b => dotV cs ws (a + c.1 * w) (b + c.2 * w)
  | _, _, a, b => (a, b)
def crs (u w : Rat × Rat) : Rat := u.1 * w.2 - u.2 * w.1
def hit (u : Rat × Rat) (ws : List (Rat × Rat)) : Bool := ws.any fun w => !(decide (crs u w = 0))
def nzb (u : Rat × Rat) : Bool := !(decide (u.1 = 0)) || !(decide (u.2 = 0))
def prs (l : List (Rat × Rat)) (i : Nat) : Bool := (List.range i).any fun k => match l[k]? with
  | some u => hit u (l.take k)
  | none => false
def nzs (l : List (Rat × Rat)) (i : Nat) : Bool := (l.take i).any nzb
def rk (p n : Bool) : Int := bif p then 2 else bif n then 1 else 0
def rankV (l : List (Rat × Rat)) : Int := rk (prs l l.length) (nzs l l.length)
def plV (f : FrV) (p : Rat × Rat) : Rat × Rat := (putX f p.1 p.2, putY f p.1 p.2)
def areaS (l : List (Rat × Rat)) : Nat → Rat
  | 0 => 0
  | i + 1 => areaS l i + crs (l.getD i (0, 0)) (l.getD ((i + 1) % l.length) (0, 0))
theorem one_cast : ((1 : Int) : Rat) = 1 := rfl
theorem two_cast : ((2 : Int) : Rat) = 2 := rfl
theorem rate_lin (q x v w : Rat) : rateV q (x * v + w) = x * rateV q v + rateV q w := by
  unfold rateV
  rw [Rat.div_def, Rat.div_def, Rat.div_def]
  generalize (((1 : Int) : Rat) + q * q)⁻¹ = d
  grind
theorem vel_lin (x : Rat) (cs : List (Rat × Rat)) : ∀ (qs vs ws : List Rat) (a b a' b' : Rat), vs.length = ws.length →
    velV cs qs (List.zipWith (fun v w => x * v + w) vs ws) (a * x + a') (b * x + b') = ((velV cs qs vs a b).1 * x + (velV cs qs ws a' b').1, (velV cs qs vs a b).2 * x + (velV cs qs ws a' b').2) := by
  induction cs with
  | nil => intros; rfl
  | cons c cs ih =>
    intro qs vs ws a b a' b' h
    match qs, vs, ws, h with
    | [], _, _, _ => rfl
    | q :: qs, [], [], _ => rfl
    | q :: qs, v :: vs, w :: ws, h =>
      simp only [List.zipWith_cons_cons, velV]
      rw [← ih qs vs ws _ _ _ _ (by simpa using h), rate_lin]
      congr 1 <;> grind
theorem work_law (tip : FrV) (u v : Rat) (fs : List FrV) : ∀ (qs vs : List Rat) (s a b : Rat), s = u * a + v * b →
    powV (torqV tip u v fs) (List.zipWith rateV qs vs) s = u * (velV (colV tip fs) qs vs a b).1 + v * (velV (colV tip fs) qs vs a b).2 := by
  induction fs with
  | nil => intro qs vs s a b h; exact h
  | cons f fs ih =>
    intro qs vs s a b h
    match qs, vs with
    | [], _ => exact h
    | q :: qs, [] => exact h
    | q :: qs, x :: xs =>
      simp only [List.zipWith_cons_cons, torqV, colV, List.map_cons, powV, velV]
      refine ih qs xs _ _ _ ?_
      rw [h]; grind
theorem rate_ne (q : Rat) : rateV q 1 ≠ 0 := by
  unfold rateV
  have h : ((1 : Int) : Rat) + q * q ≠ 0 := sq1 q
  intro e
  have : (((2 : Int) : Rat) * 1) / (((1 : Int) : Rat) + q * q) * (((1 : Int) : Rat) + q * q) = 0 := by rw [e, Rat.zero_mul]
  rw [Rat.div_mul_cancel h] at this
  exact absurd this (by decide +kernel)
theorem rate_mul (q v : Rat) : rateV q v = v * rateV q 1 := by
  unfold rateV
  rw [Rat.div_def, Rat.div_def]
  generalize (((1 : Int) : Rat) + q * q)⁻¹ = d
  grind
theorem rate_div (q w : Rat) : rateV q (w / rateV q 1) = w := by
  rw [rate_mul, Rat.div_mul_cancel (rate_ne q)]
theorem vel_still (cs : List (Rat × Rat)) : ∀ (qs ws : List Rat) (a b : Rat), qs.length = ws.length →
    velV cs qs (List.zipWith (fun q w => w / rateV q 1) qs ws) a b = dotV cs ws a b := by
  induction cs with
  | nil => intros; rfl
  | cons c cs ih =>
    intro qs ws a b h
    match qs, ws, h with
    | [], [], _ => rfl
    | q :: qs, w :: ws, h =>
      simp only [List.zipWith_cons_cons, velV, dotV, rate_div]
      exact ih qs ws _ _ (by simpa using h)
theorem le_of_eq' {a b : Rat} (h : a = b) : a ≤ b := h ▸ Rat.le_refl
theorem mul_le {a b c : Rat} (h : a ≤ b) (hc : 0 ≤ c) : a * c ≤ b * c := by
  have := Rat.mul_nonneg (show 0 ≤ b - a by grind) hc
  grind
theorem dot_le {u1 u2 v1 v2 A B : Rat} (hA : 0 ≤ A) (hB : 0 ≤ B) (h1 : u1 * u1 + u2 * u2 ≤ A * A) (h2 : v1 * v1 + v2 * v2 ≤ B * B) : u1 * v1 + u2 * v2 ≤ A * B := by
  apply Classical.byContradiction
  intro hn
  have hlt : A * B < u1 * v1 + u2 * v2 := Rat.not_le.1 hn
  have hAB := Rat.mul_nonneg hA hB
  have hd : (u1 * v1 + u2 * v2) * (u1 * v1 + u2 * v2) ≤ (A * A) * (B * B) := by
    have k1 := mul_le h1 (show 0 ≤ v1 * v1 + v2 * v2 from by have := sq_nn v1; have := sq_nn v2; grind)
    have k2 := mul_le h2 (sq_nn A)
    have k3 := sq_nn (u1 * v2 - u2 * v1)
    grind
  have hlt2 : (A * B) * (A * B) < (u1 * v1 + u2 * v2) * (u1 * v1 + u2 * v2) := by
    generalize u1 * v1 + u2 * v2 = d at *
    generalize A * B = p at *
    have hp := Rat.mul_pos (show 0 < d - p by grind) (show 0 < d + p by grind)
    grind
  grind
theorem add_le {u1 u2 v1 v2 A B : Rat} (hA : 0 ≤ A) (hB : 0 ≤ B) (h1 : u1 * u1 + u2 * u2 ≤ A * A) (h2 : v1 * v1 + v2 * v2 ≤ B * B) : (u1 + v1) * (u1 + v1) + (u2 + v2) * (u2 + v2) ≤ (A + B) * (A + B) := by
  have := dot_le hA hB h1 h2
  grind
theorem sub_ge {u1 u2 v1 v2 L R : Rat} (hL : 0 < L) (hR : 0 ≤ R) (hLR : R ≤ L) (h1 : u1 * u1 + u2 * u2 = L * L) (h2 : v1 * v1 + v2 * v2 ≤ R * R) : (L - R) * (L - R) ≤ (u1 + v1) * (u1 + v1) + (u2 + v2) * (u2 + v2) := by
  have hd := dot_le (u1 := -u1) (u2 := -u2) (v1 := v1) (v2 := v2) (Rat.le_of_lt hL) hR (by grind) h2
  -- p = (u + v) . u is at least L (L - R)
  have hp : L * (L - R) ≤ (u1 + v1) * u1 + (u2 + v2) * u2 := by grind
  have h0 : 0 ≤ L * (L - R) := Rat.mul_nonneg (Rat.le_of_lt hL) (by grind)
  have hq : ((u1 + v1) * u1 + (u2 + v2) * u2) * ((u1 + v1) * u1 + (u2 + v2) * u2) ≤ ((u1 + v1) * (u1 + v1) + (u2 + v2) * (u2 + v2)) * (L * L) := by
    have := sq_nn ((u1 + v1) * u2 - (u2 + v2) * u1)
    rw [← h1]; grind
  have hpp : (L * (L - R)) * (L * (L - R)) ≤ ((u1 + v1) * u1 + (u2 + v2) * u2) * ((u1 + v1) * u1 + (u2 + v2) * u2) := by
    generalize (u1 + v1) * u1 + (u2 + v2) * u2 = d at *
    generalize L * (L - R) = p at *
    have := Rat.mul_nonneg (show 0 ≤ d - p by grind) (show 0 ≤ d + p by grind)
    grind
  apply Classical.byContradiction
  intro hn
  have hlt := Rat.not_le.1 hn
  generalize (u1 + v1) * (u1 + v1) + (u2 + v2) * (u2 + v2) = s at *
  have hLL := Rat.mul_pos hL hL
  have := Rat.mul_pos (show 0 < (L - R) * (L - R) - s by grind) hLL
  grind
theorem sumLen_nn : ∀ (ls : List LinkV), (∀ L ∈ ls, 0 < L.len) → 0 ≤ sumLen ls := by
  intro ls
  induction ls with
  | nil => intro _; exact Rat.le_refl
  | cons L ls ih =>
    intro h
    have h1 := h L (by simp)
    have h2 := ih fun M hM => h M (by simp [hM])
    show 0 ≤ L.len + sumLen ls
    grind
theorem step_len (f : FrV) (l : Rat) : ((frThen f ⟨l, 0, false, 0⟩).x - f.x) * ((frThen f ⟨l, 0, false, 0⟩).x - f.x) + ((frThen f ⟨l, 0, false, 0⟩).y - f.y) * ((frThen f ⟨l, 0, false, 0⟩).y - f.y) = l * l := by
  show (putX f l 0 - f.x) * (putX f l 0 - f.x) + (putY f l 0 - f.y) * (putY f l 0 - f.y) = _
  have := cs1 f.h f.t
  unfold putX putY
  grind
theorem head_xy (b : FrV) (q : Rat) : (frThen b ⟨0, 0, false, q⟩).x = b.x ∧ (frThen b ⟨0, 0, false, q⟩).y = b.y := ⟨put0x b, put0y b⟩
theorem reach_hi : ∀ (ls : List LinkV) (qs : List Rat) (b g : FrV), qs.length = ls.length → (∀ L ∈ ls, 0 < L.len) → (framesV b ls qs)[ls.length]? = some g →
    (g.x - b.x) * (g.x - b.x) + (g.y - b.y) * (g.y - b.y) ≤ sumLen ls * sumLen ls := by
  intro ls
  induction ls with
  | nil =>
    intro qs b g _ _ h
    have : g = b := by
      cases qs <;> · simp [framesV] at h; exact h.symm
    subst this
    show _ ≤ (0 : Rat) * 0
    grind
  | cons L ls ih =>
    intro qs b g hl hp hg
    match qs, hl with
    | q :: qs, hl =>
      have h0 := hp L (by simp)
      have h1 : ∀ M ∈ ls, 0 < M.len := fun M hM => hp M (by simp [hM])
      have hi := ih qs _ g (by simpa using hl) h1 (by simpa [framesV] using hg)
      have hs := step_len (frThen b ⟨0, 0, false, q⟩) L.len
      obtain ⟨e1, e2⟩ := head_xy b q
      rw [e1, e2] at hs
      have := add_le (Rat.le_of_lt h0) (sumLen_nn ls h1) (le_of_eq' hs) hi
      show _ ≤ (L.len + sumLen ls) * (L.len + sumLen ls)
      generalize (frThen (frThen b ⟨0, 0, false, q⟩) ⟨L.len, 0, false, 0⟩).x = cx at *
      generalize (frThen (frThen b ⟨0, 0, false, q⟩) ⟨L.len, 0, false, 0⟩).y = cy at *
      rw [show g.x - b.x = cx - b.x + (g.x - cx) by grind, show g.y - b.y = cy - b.y + (g.y - cy) by grind]
      exact this
theorem reach_lo : ∀ (ls : List LinkV) (qs : List Rat) (b g : FrV) (i : Nat) (L : LinkV) (w1 w2 A : Rat), qs.length = ls.length → (∀ L ∈ ls, 0 < L.len) → (framesV b ls qs)[ls.length]? = some g → ls[i]? = some L → 0 ≤ A → w1 * w1 + w2 * w2 ≤ A * A → A + sumLen ls ≤ 2 * L.len →
    (2 * L.len - sumLen ls - A) * (2 * L.len - sumLen ls - A) ≤ (w1 + (g.x - b.x)) * (w1 + (g.x - b.x)) + (w2 + (g.y - b.y)) * (w2 + (g.y - b.y)) := by
  intro ls
  induction ls with
  | nil => intro qs b g i L w1 w2 A _ _ _ h; cases h
  | cons L0 ls ih =>
    intro qs b g i L w1 w2 A hl hp hg hL hA hw hle
    match qs, hl with
    | q :: qs, hl =>
      have h0 := hp L0 (by simp)
      have h1 : ∀ M ∈ ls, 0 < M.len := fun M hM => hp M (by simp [hM])
      have hg' : (framesV (frThen (frThen b ⟨0, 0, false, q⟩) ⟨L0.len, 0, false, 0⟩) ls qs)[ls.length]? = some g := by simpa [framesV] using hg
      have hs := step_len (frThen b ⟨0, 0, false, q⟩) L0.len
      have hi := reach_hi ls qs _ g (by simpa using hl) h1 hg'
      have hlo := ih qs (frThen (frThen b ⟨0, 0, false, q⟩) ⟨L0.len, 0, false, 0⟩) g
      obtain ⟨e1, e2⟩ := head_xy b q
      rw [e1, e2] at hs
      have hS := sumLen_nn ls h1
      have hle : A + (L0.len + sumLen ls) ≤ 2 * L.len := hle
      show (2 * L.len - (L0.len + sumLen ls) - A) * (2 * L.len - (L0.len + sumLen ls) - A) ≤ _
      generalize (frThen (frThen b ⟨0, 0, false, q⟩) ⟨L0.len, 0, false, 0⟩).x = cx at *
      generalize (frThen (frThen b ⟨0, 0, false, q⟩) ⟨L0.len, 0, false, 0⟩).y = cy at *
      cases i with
      | zero =>
        cases hL
        have hv := add_le hA hS hw hi
        have := sub_ge h0 (show 0 ≤ A + sumLen ls by grind) (show A + sumLen ls ≤ L0.len by grind) hs hv
        rw [show w1 + (g.x - b.x) = cx - b.x + (w1 + (g.x - cx)) by grind, show w2 + (g.y - b.y) = cy - b.y + (w2 + (g.y - cy)) by grind, show 2 * L0.len - (L0.len + sumLen ls) - A = L0.len - (A + sumLen ls) by grind]
        exact this
      | succ i =>
        have hv := add_le hA (Rat.le_of_lt h0) hw (le_of_eq' hs)
        have := hlo i L (w1 + (cx - b.x)) (w2 + (cy - b.y)) (A + L0.len) (by simpa using hl) h1 hg' (by simpa using hL) (by grind) hv (by grind)
        rw [show w1 + (g.x - b.x) = w1 + (cx - b.x) + (g.x - cx) by grind, show w2 + (g.y - b.y) = w2 + (cy - b.y) + (g.y - cy) by grind, show 2 * L.len - (L0.len + sumLen ls) - A = 2 * L.len - sumLen ls - (A + L0.len) by grind]
        exact this
theorem turn0 (f : FrV) (l : Rat) : cosT (frThen f ⟨l, 0, false, 0⟩).h (frThen f ⟨l, 0, false, 0⟩).t = cosT f.h f.t ∧ sinT (frThen f ⟨l, 0, false, 0⟩).h (frThen f ⟨l, 0, false, 0⟩).t = sinT f.h f.t := by
  obtain ⟨h1, h2⟩ := th_cs f.h f.t false 0
  have e1 : cosT false 0 = 1 := by decide +kernel
  have e2 : sinT false 0 = 0 := by decide +kernel
  rw [e1, e2] at h1 h2
  exact ⟨h1.trans (by grind), h2.trans (by grind)⟩
/-- The cross product of the columns of an arm with two links. -/
theorem two_cross (b : FrV) (L M : LinkV) (p q : Rat) (f0 f1 f2 : FrV) (h : framesV b [L, M] [p, q] = [f0, f1, f2]) : crs (-(f2.y - f1.y), f2.x - f1.x) (-(f2.y - f0.y), f2.x - f0.x) = -(L.len * M.len * sinT false q) := by
  simp only [framesV, List.cons.injEq, and_true] at h
  obtain ⟨h0, h1, h2⟩ := h
  have k0 := turn0 f0 L.len
  obtain ⟨a1, a2⟩ := head_xy (frThen f0 ⟨L.len, 0, false, 0⟩) q
  have th := th_cs (frThen f0 ⟨L.len, 0, false, 0⟩).h (frThen f0 ⟨L.len, 0, false, 0⟩).t false q
  rw [h0] at h1 h2
  rw [k0.1, k0.2] at th
  have c0 := cs1 f0.h f0.t
  have hx1 : f1.x = f0.x + L.len * cosT f0.h f0.t := by
    rw [← h1, a1]; show putX f0 L.len 0 = _; unfold putX; grind
  have hy1 : f1.y = f0.y + L.len * sinT f0.h f0.t := by
    rw [← h1, a2]; show putY f0 L.len 0 = _; unfold putY; grind
  have t1 : cosT f1.h f1.t = cosT f0.h f0.t * cosT false q - sinT f0.h f0.t * sinT false q := by rw [← h1]; exact th.1
  have t2 : sinT f1.h f1.t = sinT f0.h f0.t * cosT false q + cosT f0.h f0.t * sinT false q := by rw [← h1]; exact th.2
  rw [h1] at h2
  have hx2 : f2.x = f1.x + M.len * cosT f1.h f1.t := by
    rw [← h2]; show putX f1 M.len 0 = _; unfold putX; grind
  have hy2 : f2.y = f1.y + M.len * sinT f1.h f1.t := by
    rw [← h2]; show putY f1 M.len 0 = _; unfold putY; grind
  unfold crs
  simp only
  rw [hx2, hy2, hx1, hy1, t1, t2]
  clear hx2 hy2 hx1 hy1 t1 t2 th k0 h0 h1 h2 a1 a2
  generalize cosT f0.h f0.t = c at *
  generalize sinT f0.h f0.t = s at *
  generalize cosT false q = cq at *
  generalize sinT false q = sq at *
  grind
theorem lft_pl (f : FrV) (a b c : Rat × Rat) : lft (plV f a) (plV f b) (plV f c) = lft a b c := by
  have := cs1 f.h f.t
  unfold lft plV putX putY
  simp only
  generalize cosT f.h f.t = cq at *
  generalize sinT f.h f.t = sq at *
  grind
theorem len_pl (f : FrV) (a b : Rat × Rat) : ((plV f a).1 - (plV f b).1) * ((plV f a).1 - (plV f b).1) + ((plV f a).2 - (plV f b).2) * ((plV f a).2 - (plV f b).2) = (a.1 - b.1) * (a.1 - b.1) + (a.2 - b.2) * (a.2 - b.2) := by
  have := cs1 f.h f.t
  unfold plV putX putY
  simp only
  generalize cosT f.h f.t = cq at *
  generalize sinT f.h f.t = sq at *
  grind
theorem poly_pl {l : List (Rat × Rat)} (f : FrV) (h : PolyOK l) : PolyOK (l.map (plV f)) := by
  refine ⟨by simpa using h.lo, by simpa using h.hi, fun i k a b c h2 hk ha hb hc => ?_⟩
  simp only [List.length_map, List.getElem?_map, Option.map_eq_some_iff] at hk ha hb hc
  obtain ⟨a', ha, rfl⟩ := ha
  obtain ⟨b', hb, rfl⟩ := hb
  obtain ⟨c', hc, rfl⟩ := hc
  rw [lft_pl]
  exact h.left i k a' b' c' h2 hk ha hb hc
def hPl (f : FrV) (p : Rat × Rat) : Rat := f.x * (p.1 * sinT f.h f.t + p.2 * cosT f.h f.t) - f.y * (p.1 * cosT f.h f.t - p.2 * sinT f.h f.t)
theorem crs_pl (f : FrV) (a b : Rat × Rat) : crs (plV f a) (plV f b) = crs a b + (hPl f b - hPl f a) := by
  have := cs1 f.h f.t
  unfold crs plV putX putY hPl
  simp only
  generalize cosT f.h f.t = cq at *
  generalize sinT f.h f.t = sq at *
  grind
theorem getD_map (f : FrV) {l : List (Rat × Rat)} {i : Nat} (h : i < l.length) : (l.map (plV f)).getD i (0, 0) = plV f (l.getD i (0, 0)) := by
  simp only [List.getD_eq_getElem?_getD, List.getElem?_map, List.getElem?_eq_getElem h, Option.map_some, Option.getD_some]
theorem area_part (f : FrV) (l : List (Rat × Rat)) (i : Nat) : i < l.length → areaS (l.map (plV f)) i = areaS l i + (hPl f (l.getD i (0, 0)) - hPl f (l.getD 0 (0, 0))) := by
  induction i with
  | zero => intro _; show (0 : Rat) = 0 + _; grind
  | succ i ih =>
    intro h
    have := ih (by omega)
    have e : (i + 1) % l.length = i + 1 := Nat.mod_eq_of_lt h
    simp only [areaS, List.length_map, e]
    rw [getD_map f (by omega), getD_map f h, crs_pl, this]
    grind
theorem area_pl (f : FrV) (l : List (Rat × Rat)) : areaS (l.map (plV f)) l.length = areaS l l.length := by
  cases hn : l.length with
  | zero => rfl
  | succ n =>
    have hlt : n < l.length := by omega
    have := area_part f l n hlt
    have e : (n + 1) % l.length = 0 := by rw [hn, Nat.mod_self]
    simp only [areaS, List.length_map, e]
    rw [getD_map f hlt, getD_map f (by omega), crs_pl, this]
    grind
end Go.Proofs
