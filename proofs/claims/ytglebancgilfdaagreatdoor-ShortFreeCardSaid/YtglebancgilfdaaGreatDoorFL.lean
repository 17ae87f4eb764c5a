/- Cosine and sine of turns one after the other; points of frames one after the other: plain laws. -/
import Derived.Test.YtglebancgilfdaaGreatDoorFC
open Rat renaming div_mul_cancel → Za, mul_eq_zero → Zb
/- Cosine and sine of turns one after the other; points of frames one after the other: plain laws. -/
namespace Go.Proofs
open Go Go.Eng
theorem cos_mul (t : Rat) : cosT false t * (1 + t * t) = 1 - t * t := by
 show (1 - t * t) / (1 + t * t) * (1 + t * t) = _
 exact Za (sq1 t)
theorem sin_mul (t : Rat) : sinT false t * (1 + t * t) = t + t := by
 show (t + t) / (1 + t * t) * (1 + t * t) = _
 exact Za (sq1 t)
theorem cancel {a b d : Rat} (hd : d ≠ 0) (h : a * d = b * d) : a = b := by
 have : (a - b) * d = 0 := by grind
 rcases Zb.1 this with h | h
 ·grind
 ·exact absurd h hd
theorem w_sq {w d a : Rat} (h : w * d = a) : (1 + w * w) * (d * d) = d * d + a * a := by rw [← h]; grind
theorem w_cos {w d a c : Rat} (h : w * d = a) (hc : c * (1 + w * w) = 1 - w * w) : c * (d * d + a * a) = d * d - a * a := by rw [← w_sq h, ← h]; grind
theorem w_sin {w d a s : Rat} (h : w * d = a) (hs : s * (1 + w * w) = w + w) : s * (d * d + a * a) = 2 * (a * d) := by rw [← w_sq h, ← h]; grind
theorem cs_ring (a b c d x y : Rat) : (a * b - c * d) * (x * y) = (a * x) * (b * y) - (c * x) * (d * y) := by grind
theorem sc_ring (a b c d x y : Rat) : (a * b + c * d) * (x * y) = (a * x) * (b * y) + (c * x) * (d * y) := by grind
theorem opp_cs (u : Rat) : cosT (oppH u) (oppT u) = - cosT false u ∧ sinT (oppH u) (oppT u) = - sinT false u := by
 by_cases h : u = 0
 ·subst h; decide +kernel
 ·have e : oppH u = false := decide_eq_false h
  have ev : oppT u * u = -1 := by
   unfold oppT; rw [e]
   show ((-1 : Int) : Rat) / u * u = _
   rw [Za h]; rfl
  rw [e]
  generalize oppT u = v at ev
  have c1 := cos_mul u
  have s1 := sin_mul u
  have c2 := cos_mul v
  have s2 := sin_mul v
  have hu := sq1 u
  have hv := sq1 v
  have k : (1 + v * v) * (u * u) = 1 + u * u := by grind
  generalize cosT false u = cu at *
  generalize sinT false u = su at *
  generalize cosT false v = cv at *
  generalize sinT false v = sv at *
  refine ⟨cancel hu ?_, cancel hu ?_⟩
  ·rw [← k]; grind
  ·rw [← k]; grind
theorem th_cs (h : Bool) (t : Rat) (g : Bool) (u : Rat) : cosT (thH h t g u) (thT h t g u) = cosT h t * cosT g u - sinT h t * sinT g u ∧ sinT (thH h t g u) (thT h t g u) = sinT h t * cosT g u + cosT h t * sinT g u := by
 have ct : ∀ x : Rat, cosT true x = -1 := fun _ => rfl
 have st : ∀ x : Rat, sinT true x = 0 := fun _ => rfl
 cases h <;> cases g
 ·by_cases hz : 1 - t * u = 0
  ·have e : decide (1 - t * u = 0) = true := decide_eq_true hz
   simp only [thH, thT, Bool.and_self, cond_false, e, cond_true, ct, st]
   have c1 := cos_mul u
   have s1 := sin_mul u
   have c2 := cos_mul t
   have s2 := sin_mul t
   have hu := sq1 u
   have hv := sq1 t
   have hd : (1 + t * t) * (1 + u * u) ≠ 0 := fun e => (Zb.1 e).elim hv hu
   generalize cosT false u = cu at *
   generalize sinT false u = su at *
   generalize cosT false t = cv at *
   generalize sinT false t = sv at *
   refine ⟨cancel hd ?_, cancel hd ?_⟩ <;> grind
  ·have e : decide (1 - t * u = 0) = false := decide_eq_false hz
   simp only [thH, thT, Bool.and_self, cond_false, e]
   have ew : (t + u) / (1 - t * u) * (1 - t * u) = t + u := Za hz
   generalize (t + u) / (1 - t * u) = w at *
   have c1 := cos_mul u
   have s1 := sin_mul u
   have c2 := cos_mul t
   have s2 := sin_mul t
   have c3 := cos_mul w
   have s3 := sin_mul w
   have hu := sq1 u
   have hv := sq1 t
   have hd : (1 + t * t) * (1 + u * u) ≠ 0 := fun e => (Zb.1 e).elim hv hu
   have kd : (1 - t * u) * (1 - t * u) + (t + u) * (t + u) = (1 + t * t) * (1 + u * u) := by clear c1 s1 c2 s2 c3 s3 ew hd hu hv hz e; grind
   have k1 := w_cos ew c3
   have k2 := w_sin ew s3
   rw [kd] at k1 k2
   generalize cosT false u = cu at *
   generalize sinT false u = su at *
   generalize cosT false t = cv at *
   generalize sinT false t = sv at *
   generalize cosT false w = cw at *
   generalize sinT false w = sw at *
   refine ⟨cancel hd ?_, cancel hd ?_⟩
   ·rw [k1, cs_ring, c1, c2, s1, s2]; clear c1 c2 s1 s2 k1 k2 kd hd hu hv hz ew c3 s3 e; grind
   ·rw [k2, sc_ring, c1, c2, s1, s2]; clear c1 c2 s1 s2 k1 k2 kd hd hu hv hz ew c3 s3 e; grind
 ·simp only [thH, thT, Bool.and_true, cond_false, cond_true, ct, st]
  obtain ⟨h1, h2⟩ := opp_cs (fitT false t)
  rw [h1, h2]
  show -cosT false t = _ ∧ -sinT false t = _
  constructor <;> grind
 ·simp only [thH, thT, Bool.and_false, cond_false, cond_true, ct, st]
  obtain ⟨h1, h2⟩ := opp_cs (fitT false u)
  rw [h1, h2]
  show -cosT false u = _ ∧ -sinT false u = _
  constructor <;> grind
 ·simp only [thH, thT, Bool.and_self, cond_true, ct, st]
  decide +kernel
end Go.Proofs
/- Torques, velocities, ranks, reach and placed shapes of arms: plain laws. -/
namespace Go.Proofs
open Go Go.Eng
def plV (f : FrV) (p : Rat × Rat) : Rat × Rat := (putX f p.1 p.2, putY f p.1 p.2)
theorem head_xy (b : FrV) (q : Rat) : (frThen b ⟨0, 0, false, q⟩).x = b.x ∧ (frThen b ⟨0, 0, false, q⟩).y = b.y := ⟨put0x b, put0y b⟩
theorem turn0 (f : FrV) (l : Rat) : cosT (frThen f ⟨l, 0, false, 0⟩).h (frThen f ⟨l, 0, false, 0⟩).t = cosT f.h f.t ∧ sinT (frThen f ⟨l, 0, false, 0⟩).h (frThen f ⟨l, 0, false, 0⟩).t = sinT f.h f.t := by
 obtain ⟨h1, h2⟩ := th_cs f.h f.t false 0
 have e1 : cosT false 0 = 1 := by decide +kernel
 have e2 : sinT false 0 = 0 := by decide +kernel
 rw [e1, e2] at h1 h2
 exact ⟨h1.trans (by grind), h2.trans (by grind)⟩
theorem lft_pl (f : FrV) (a b c : Rat × Rat) : lft (plV f a) (plV f b) (plV f c) = lft a b c := by
 have := cs1 f.h f.t
 unfold lft plV putX putY
 simp only
 generalize cosT f.h f.t = cq at *
 generalize sinT f.h f.t = sq at *
 grind
theorem poly_pl {l : List (Rat × Rat)} (f : FrV) (h : PolyOK l) : PolyOK (l.map (plV f)) := by
 refine ⟨by simpa using h.lo, by simpa using h.hi, fun i k a b c h2 hk ha hb hc => ?_⟩
 simp only [List.length_map, List.getElem?_map, Option.map_eq_some_iff] at hk ha hb hc
 obtain ⟨a', ha, rfl⟩ := ha
 obtain ⟨b', hb, rfl⟩ := hb
 obtain ⟨c', hc, rfl⟩ := hc
 rw [lft_pl]
 exact h.left i k a' b' c' h2 hk ha hb hc
def hPl (f : FrV) (p : Rat × Rat) : Rat := f.x * (p.1 * sinT f.h f.t + p.2 * cosT f.h f.t) - f.y * (p.1 * cosT f.h f.t - p.2 * sinT f.h f.t)
end Go.Proofs
