/- Sets of all numbers between two numbers: plain laws. -/
import Derived.Test.YtglebancgilfdaaGreatDoorFL
open Rat renaming le_trans → Za, not_le → Zc, le_refl → Zd, mul_pos → Ze
open Classical renaming byContradiction → Zb
/- Sets of all numbers between two numbers: plain laws. -/
namespace Go.Proofs
open Go Go.Eng
structure Sp where
 lo : Rat
 hi : Rat
def Sp.has (s : Sp) (x : Rat) : Prop := s.lo ≤ x ∧ x ≤ s.hi
def Sp.sub (s t : Sp) : Prop := t.lo ≤ s.lo ∧ s.hi ≤ t.hi
def spOf (a : Rat) : Sp := ⟨a, a⟩
def spAdd (s t : Sp) : Sp := ⟨s.lo + t.lo, s.hi + t.hi⟩
def spSub (s t : Sp) : Sp := ⟨s.lo - t.hi, s.hi - t.lo⟩
def spMul (s t : Sp) : Sp := ⟨minR (minR (minR (s.lo * t.lo) (s.lo * t.hi)) (s.hi * t.lo)) (s.hi * t.hi), maxR (maxR (maxR (s.lo * t.lo) (s.lo * t.hi)) (s.hi * t.lo)) (s.hi * t.hi)⟩
def spHas (s : Sp) (x : Rat) : Bool := decide (s.lo ≤ x) && decide (x ≤ s.hi)
def spSq (s : Sp) : Sp := ⟨bif spHas s 0 then 0 else minR (s.lo * s.lo) (s.hi * s.hi), maxR (s.lo * s.lo) (s.hi * s.hi)⟩
def spJoin (s t : Sp) : Sp := ⟨minR s.lo t.lo, maxR s.hi t.hi⟩
def downR (p : Rat) (d : Nat) : Rat := mkRat (p * (d : Rat)).floor d
def upR (p : Rat) (d : Nat) : Rat := -downR (-p) d
def spOut (s : Sp) (d : Nat) : Sp := ⟨downR s.lo d, upR s.hi d⟩
def spCut (s : Sp) : Sp := ⟨maxR (spOut s 1000000).lo (-1), minR (spOut s 1000000).hi 1⟩
def cosF (a : Rat) : Rat := (1 - a) / (1 + a)
def spCos (t : Sp) : Sp := ⟨cosF (spSq t).hi, cosF (spSq t).lo⟩
def spSin0 (t : Sp) : Sp := spJoin (spOf (sinT false t.lo)) (spOf (sinT false t.hi))
def spSin1 (t : Sp) (s : Sp) (a : Rat) : Sp := bif spHas t a then spJoin s (spOf a) else s
def spSin (t : Sp) : Sp := spSin1 t (spSin1 t (spSin0 t) (-1)) 1
theorem minR_le_l (a b : Rat) : minR a b ≤ a := by unfold minR; split <;> grind
theorem minR_le_r (a b : Rat) : minR a b ≤ b := by unfold minR; split <;> grind
theorem le_minR {a b c : Rat} (h1 : c ≤ a) (h2 : c ≤ b) : c ≤ minR a b := by unfold minR; split <;> assumption
theorem le_maxR_l (a b : Rat) : a ≤ maxR a b := by unfold maxR; split <;> grind
theorem le_maxR_r (a b : Rat) : b ≤ maxR a b := by unfold maxR; split <;> grind
theorem maxR_le {a b c : Rat} (h1 : a ≤ c) (h2 : b ≤ c) : maxR a b ≤ c := by unfold maxR; split <;> assumption
theorem Sp.has.ok {s : Sp} {x : Rat} (h : s.has x) : s.lo ≤ s.hi := Za h.1 h.2
theorem Sp.has.sub {s t : Sp} {x : Rat} (h : s.has x) (k : s.sub t) : t.has x := ⟨Za k.1 h.1, Za h.2 k.2⟩
theorem spHas_iff {s : Sp} {x : Rat} : spHas s x = true ↔ s.has x := by
 unfold spHas Sp.has; simp
theorem spOf_has (a : Rat) : (spOf a).has a := ⟨Zd, Zd⟩
theorem spAdd_has {s t : Sp} {x y : Rat} (h : s.has x) (k : t.has y) : (spAdd s t).has (x + y) := by
 obtain ⟨h1, h2⟩ := h; obtain ⟨k1, k2⟩ := k
 exact ⟨by show s.lo + t.lo ≤ _; grind, by show _ ≤ s.hi + t.hi; grind⟩
theorem spSub_has {s t : Sp} {x y : Rat} (h : s.has x) (k : t.has y) : (spSub s t).has (x - y) := by
 obtain ⟨h1, h2⟩ := h; obtain ⟨k1, k2⟩ := k
 exact ⟨by show s.lo - t.hi ≤ _; grind, by show _ ≤ s.hi - t.lo; grind⟩
theorem mul_nn {a b : Rat} (h : 0 ≤ a) (k : 0 ≤ b) : 0 ≤ a * b := Rat.mul_nonneg h k
theorem line_lo {p a b x y : Rat} (h1 : p ≤ a * y) (h2 : p ≤ b * y) (ha : a ≤ x) (hb : x ≤ b) : p ≤ x * y := by
 rcases @Rat.le_total 0 y with h | h
 ·have := mul_nn (show 0 ≤ x - a by grind) h; grind
 ·have := mul_nn (show 0 ≤ b - x by grind) (show 0 ≤ -y by grind); grind
theorem line_hi {p a b x y : Rat} (h1 : a * y ≤ p) (h2 : b * y ≤ p) (ha : a ≤ x) (hb : x ≤ b) : x * y ≤ p := by
 rcases @Rat.le_total 0 y with h | h
 ·have := mul_nn (show 0 ≤ b - x by grind) h; grind
 ·have := mul_nn (show 0 ≤ x - a by grind) (show 0 ≤ -y by grind); grind
theorem line_lo' {p a b x y : Rat} (h1 : p ≤ y * a) (h2 : p ≤ y * b) (ha : a ≤ x) (hb : x ≤ b) : p ≤ y * x := by
 rw [Rat.mul_comm] at h1 h2 ⊢; exact line_lo h1 h2 ha hb
theorem line_hi' {p a b x y : Rat} (h1 : y * a ≤ p) (h2 : y * b ≤ p) (ha : a ≤ x) (hb : x ≤ b) : y * x ≤ p := by
 rw [Rat.mul_comm] at h1 h2 ⊢; exact line_hi h1 h2 ha hb
theorem spMul_has {s t : Sp} {x y : Rat} (h : s.has x) (k : t.has y) : (spMul s t).has (x * y) := by
 obtain ⟨h1, h2⟩ := h; obtain ⟨k1, k2⟩ := k
 have tr := fun {a b c : Rat} (h : a ≤ b) (k : b ≤ c) => Za h k
 have a1 := minR_le_l (minR (minR (s.lo * t.lo) (s.lo * t.hi)) (s.hi * t.lo)) (s.hi * t.hi)
 have a2 := minR_le_r (minR (minR (s.lo * t.lo) (s.lo * t.hi)) (s.hi * t.lo)) (s.hi * t.hi)
 have a3 := minR_le_l (minR (s.lo * t.lo) (s.lo * t.hi)) (s.hi * t.lo)
 have a4 := minR_le_r (minR (s.lo * t.lo) (s.lo * t.hi)) (s.hi * t.lo)
 have a5 := minR_le_l (s.lo * t.lo) (s.lo * t.hi)
 have a6 := minR_le_r (s.lo * t.lo) (s.lo * t.hi)
 have b1 := le_maxR_l (maxR (maxR (s.lo * t.lo) (s.lo * t.hi)) (s.hi * t.lo)) (s.hi * t.hi)
 have b2 := le_maxR_r (maxR (maxR (s.lo * t.lo) (s.lo * t.hi)) (s.hi * t.lo)) (s.hi * t.hi)
 have b3 := le_maxR_l (maxR (s.lo * t.lo) (s.lo * t.hi)) (s.hi * t.lo)
 have b4 := le_maxR_r (maxR (s.lo * t.lo) (s.lo * t.hi)) (s.hi * t.lo)
 have b5 := le_maxR_l (s.lo * t.lo) (s.lo * t.hi)
 have b6 := le_maxR_r (s.lo * t.lo) (s.lo * t.hi)
 refine ⟨line_lo' (line_lo (tr a1 (tr a3 a5)) (tr a1 a4) h1 h2) (line_lo (tr a1 (tr a3 a6)) a2 h1 h2) k1 k2, line_hi' (line_hi (tr (tr b5 b3) b1) (tr b4 b1) h1 h2) (line_hi (tr (tr b6 b3) b1) b2 h1 h2) k1 k2⟩
theorem spSq_has {s : Sp} {x : Rat} (h : s.has x) : (spSq s).has (x * x) := by
 obtain ⟨h1, h2⟩ := h
 have hx := sq_nn x
 have hm : x * x ≤ maxR (s.lo * s.lo) (s.hi * s.hi) := by
  have b1 := le_maxR_l (s.lo * s.lo) (s.hi * s.hi)
  have b2 := le_maxR_r (s.lo * s.lo) (s.hi * s.hi)
  rcases @Rat.le_total 0 x with h | h
  ·have := mul_nn (show 0 ≤ s.hi - x by grind) (show 0 ≤ s.hi + x by grind); grind
  ·have := mul_nn (show 0 ≤ x - s.lo by grind) (show 0 ≤ -x - s.lo by grind); grind
 refine ⟨?_, hm⟩
 show (bif spHas s 0 then 0 else minR (s.lo * s.lo) (s.hi * s.hi)) ≤ x * x
 cases hb : spHas s 0 with
 | true => exact hx
 | false =>
  have hn : ¬ s.has 0 := fun e => by rw [spHas_iff.2 e] at hb; cases hb
  have a1 := minR_le_l (s.lo * s.lo) (s.hi * s.hi)
  have a2 := minR_le_r (s.lo * s.lo) (s.hi * s.hi)
  show minR (s.lo * s.lo) (s.hi * s.hi) ≤ x * x
  by_cases h0 : s.lo ≤ 0
  ·have h3 : s.hi < 0 := Zc.1 fun e => hn ⟨h0, e⟩
   have := mul_nn (show 0 ≤ s.hi - x by grind) (show 0 ≤ -s.hi - x by grind); grind
  ·have h0 : 0 < s.lo := Zc.1 h0
   have := mul_nn (show 0 ≤ x - s.lo by grind) (show 0 ≤ x + s.lo by grind); grind
theorem spSq_nn (s : Sp) : 0 ≤ (spSq s).lo := by
 show 0 ≤ bif spHas s 0 then 0 else _
 cases spHas s 0 with
 | true => exact Zd
 | false => exact le_minR (sq_nn _) (sq_nn _)
theorem spJoin_l {s t : Sp} {x : Rat} (h : s.has x) : (spJoin s t).has x := ⟨Za (minR_le_l _ _) h.1, Za h.2 (le_maxR_l _ _)⟩
theorem spJoin_r {s t : Sp} {x : Rat} (h : t.has x) : (spJoin s t).has x := ⟨Za (minR_le_r _ _) h.1, Za h.2 (le_maxR_r _ _)⟩
/-! ### Rounding -/
theorem cast_pos {d : Nat} (hd : d ≠ 0) : (0 : Rat) < (d : Rat) := by
 have := Rat.natCast_pos.2 (Nat.pos_of_ne_zero hd)
 exact this
theorem mk_mul (n : Int) {d : Nat} (hd : d ≠ 0) : mkRat n d * (d : Rat) = (n : Rat) := by
 rw [Rat.mkRat_eq_div, Rat.div_mul_cancel]
 have := cast_pos hd
 grind
theorem downR_le (p : Rat) {d : Nat} (hd : d ≠ 0) : downR p d ≤ p := by
 have h0 := cast_pos hd
 have h1 := Rat.floor_le (p * (d : Rat))
 have h2 := mk_mul (p * (d : Rat)).floor hd
 unfold downR
 generalize mkRat (p * (d : Rat)).floor d = m at *
 rw [← h2] at h1
 apply Zb
 intro hn
 have := Ze (show 0 < m - p by have := Zc.1 hn; grind) h0
 grind
theorem le_upR (p : Rat) {d : Nat} (hd : d ≠ 0) : p ≤ upR p d := by
 have := downR_le (-p) hd
 unfold upR; grind
theorem spOut_has {s : Sp} {x : Rat} {d : Nat} (hd : d ≠ 0) (h : s.has x) : (spOut s d).has x := ⟨Za (downR_le _ hd) h.1, Za h.2 (le_upR _ hd)⟩
theorem spCut_has {s : Sp} {x : Rat} (h : s.has x) (h1 : -1 ≤ x) (h2 : x ≤ 1) : (spCut s).has x := by
 have := spOut_has (d := 1000000) (by decide) h
 exact ⟨maxR_le this.1 h1, le_minR this.2 h2⟩
/-! ### Cosines and sines -/
theorem cosF_mul {a : Rat} (h : 0 ≤ a) : cosF a * (1 + a) = 1 - a := Rat.div_mul_cancel (by grind)
theorem cosF_anti {a b : Rat} (ha : 0 ≤ a) (h : a ≤ b) : cosF b ≤ cosF a := by
 have h1 := cosF_mul ha
 have h2 := cosF_mul (Za ha h)
 have hp := Ze (show 0 < 1 + a by grind) (show 0 < 1 + b by grind)
 generalize cosF a = x at *
 generalize cosF b = y at *
 apply Zb
 intro hn
 have := Ze (show 0 < y - x by have := Zc.1 hn; grind) hp
 have e : (y - x) * ((1 + a) * (1 + b)) = (y * (1 + b)) * (1 + a) - (x * (1 + a)) * (1 + b) := by grind
 rw [e, h1, h2] at this
 grind
theorem spCos_has {t : Sp} {x : Rat} (h : t.has x) : (spCos t).has (cosT false x) := by
 have := spSq_has h
 exact ⟨cosF_anti (sq_nn x) this.2, cosF_anti (spSq_nn t) this.1⟩
theorem sin_sub (x y : Rat) : (sinT false x - sinT false y) * ((1 + x * x) * (1 + y * y)) = 2 * ((x - y) * (1 - x * y)) := by
 have h1 := sin_mul x
 have h2 := sin_mul y
 have e : (sinT false x - sinT false y) * ((1 + x * x) * (1 + y * y)) = (sinT false x * (1 + x * x)) * (1 + y * y) - (sinT false y * (1 + y * y)) * (1 + x * x) := by grind
 rw [e, h1, h2]; grind
theorem sin_le {x y : Rat} (h : (x - y) * (1 - x * y) ≤ 0) : sinT false x ≤ sinT false y := by
 have e := sin_sub x y
 have hp := Ze (show 0 < 1 + x * x by have := sq_nn x; grind) (show 0 < 1 + y * y by have := sq_nn y; grind)
 apply Zb
 intro hn
 have := Ze (show 0 < sinT false x - sinT false y by have := Zc.1 hn; grind) hp
 grind
theorem sin_one : sinT false 1 = 1 := by decide +kernel
theorem sin_le_one (x : Rat) : sinT false x ≤ 1 := by
 rw [← sin_one]
 apply sin_le
 have := sq_nn (x - 1)
 grind
theorem sin_neg (x : Rat) : sinT false (-x) = - sinT false x := by
 have h1 := sin_mul x
 have h2 := sin_mul (-x)
 have h := sq1 x
 refine cancel h ?_
 grind
theorem sin_ge_mone (x : Rat) : -1 ≤ sinT false x := by
 have := sin_le_one (-x)
 rw [sin_neg] at this
 grind
theorem cos_le_one (x : Rat) : cosT false x ≤ 1 := by
 have := cosF_anti (a := 0) Zd (sq_nn x)
 have e : cosF 0 = 1 := by decide +kernel
 rw [e] at this; exact this
theorem cos_ge_mone (x : Rat) : -1 ≤ cosT false x := by
 have h := cos_mul x
 have hp : 0 < 1 + x * x := by have := sq_nn x; grind
 apply Zb
 intro hn
 have := Ze (show 0 < -1 - cosT false x by have := Zc.1 hn; grind) hp
 grind
/-- No sine between is greater than those at the ends, or 1 if 1 lies between. -/
theorem sin_hi {l h x p : Rat} (h1 : l ≤ x) (h2 : x ≤ h) (kl : sinT false l ≤ p) (kh : sinT false h ≤ p) (k1 : l ≤ 1 → 1 ≤ h → 1 ≤ p) : sinT false x ≤ p := by
  by_cases c1 : l ≤ 1
  · by_cases c2 : 1 ≤ h
    · exact Za (sin_le_one x) (k1 c1 c2)
    · have c2 : h < 1 := Zc.1 c2
      by_cases c3 : x * h ≤ 1
      · refine Za (sin_le ?_) kh
        have := mul_nn (show 0 ≤ h - x by grind) (show 0 ≤ 1 - x * h by grind)
        grind
      · have c3 : 1 < x * h := Zc.1 c3
        refine Za (sin_le ?_) kl
        have hx : x < 0 := by
          apply Zb
          intro hn
          have hn : 0 ≤ x := Rat.not_lt.1 hn
          have := mul_nn hn (show 0 ≤ 1 - h by grind)
          grind
        have e1 := mul_nn (show 0 ≤ -x by grind) (show 0 ≤ h - x by grind)
        have e2 := mul_nn (show 0 ≤ -x by grind) (show 0 ≤ x - l by grind)
        have := mul_nn (show 0 ≤ x - l by grind) (show 0 ≤ x * l - 1 by grind)
        grind
  · have c1 : 1 < l := Zc.1 c1
    refine Za (sin_le ?_) kl
    have e1 := mul_nn (show 0 ≤ l by grind) (show 0 ≤ x - l by grind)
    have e2 := mul_nn (show 0 ≤ l - 1 by grind) (show 0 ≤ l + 1 by grind)
    have := mul_nn (show 0 ≤ x - l by grind) (show 0 ≤ x * l - 1 by grind)
    grind
theorem sin_lo {l h x p : Rat} (h1 : l ≤ x) (h2 : x ≤ h) (kl : p ≤ sinT false l) (kh : p ≤ sinT false h) (k1 : l ≤ -1 → -1 ≤ h → p ≤ -1) : p ≤ sinT false x := by
 have := sin_hi (l := -h) (h := -l) (x := -x) (p := -p) (by grind) (by grind) (by rw [sin_neg]; grind) (by rw [sin_neg]; grind) (fun a b => by have := k1 (by grind) (by grind); grind)
 rw [sin_neg] at this
 grind
theorem spSin1_sub0 (t s : Sp) (a : Rat) : s.sub (spSin1 t s a) := by
 unfold spSin1
 cases spHas t a with
 | true => exact ⟨minR_le_l _ _, le_maxR_l _ _⟩
 | false => exact ⟨Zd, Zd⟩
theorem spSin1_has {t s : Sp} {a : Rat} (h : t.has a) : (spSin1 t s a).has a := by
 unfold spSin1
 rw [spHas_iff.2 h]
 exact spJoin_r (spOf_has a)
theorem spSin_has {t : Sp} {x : Rat} (h : t.has x) : (spSin t).has (sinT false x) := by
 have s0 : (spSin0 t).has (sinT false t.lo) := spJoin_l (spOf_has _)
 have s1 : (spSin0 t).has (sinT false t.hi) := spJoin_r (spOf_has _)
 have k1 := spSin1_sub0 t (spSin0 t) (-1)
 have k2 := spSin1_sub0 t (spSin1 t (spSin0 t) (-1)) 1
 have a1 := (s0.sub k1).sub k2
 have a2 := (s1.sub k1).sub k2
 refine ⟨sin_lo h.1 h.2 a1.1 a2.1 fun b1 b2 => ?_, sin_hi h.1 h.2 a1.2 a2.2 fun b1 b2 => ?_⟩
 ·exact ((spSin1_has ⟨b1, b2⟩ : (spSin1 t (spSin0 t) (-1)).has (-1)).sub k2).1
 ·exact (spSin1_has ⟨b1, b2⟩ : (spSin t).has 1).2
theorem Sp.sub.trans {s t u : Sp} (h : s.sub t) (k : t.sub u) : s.sub u := ⟨Za k.1 h.1, Za h.2 k.2⟩
end Go.Proofs
/- Loose frames: what they contain; narrower spans: plain laws. -/
namespace Go.Proofs
open Go Go.Eng
structure LoV where
 x : Sp
 y : Sp
 c : Sp
 s : Sp
structure LoV.has (l : LoV) (f : FrV) : Prop where
 x : l.x.has f.x
 y : l.y.has f.y
 c : l.c.has (cosT f.h f.t)
 s : l.s.has (sinT f.h f.t)
structure LoV.sub (l m : LoV) : Prop where
 x : l.x.sub m.x
 y : l.y.sub m.y
 c : l.c.sub m.c
 s : l.s.sub m.s
def loC (l : LoV) (t : Sp) : Sp := spCut (spSub (spMul l.c (spCos t)) (spMul l.s (spSin t)))
def loS (l : LoV) (t : Sp) : Sp := spCut (spAdd (spMul l.s (spCos t)) (spMul l.c (spSin t)))
def loNext (l : LoV) (t : Sp) : LoV := ⟨l.x, l.y, loC l t, loS l t⟩
def loEnd (n : LoV) (len : Rat) : LoV := ⟨spAdd n.x (spMul (spOf len) n.c), spAdd n.y (spMul (spOf len) n.s), n.c, n.s⟩
def spreadV : LoV → List LinkV → List Sp → List LoV
 | l, L :: ls, t :: ts => loNext l t :: spreadV (loEnd (loNext l t) L.len) ls ts
 | l, _, _ => [l]
def loBase (a : ArmV) : LoV := ⟨spOf a.x, spOf a.y, spOf (cosT a.half a.t), spOf (sinT a.half a.t)⟩
def HasQ (ts : List Sp) (qs : List Rat) : Prop := ts.length = qs.length ∧ ∀ (i : Nat) t q, ts[i]? = some t → qs[i]? = some q → t.has q
theorem cosT_in (h : Bool) (t : Rat) : -1 ≤ cosT h t ∧ cosT h t ≤ 1 := by
 cases h with
 | true => exact ⟨Zd, by show (-1 : Rat) ≤ 1; decide +kernel⟩
 | false => exact ⟨cos_ge_mone t, cos_le_one t⟩
theorem sinT_in (h : Bool) (t : Rat) : -1 ≤ sinT h t ∧ sinT h t ≤ 1 := by
 cases h with
 | true => exact ⟨by show (-1 : Rat) ≤ 0; decide +kernel, by show (0 : Rat) ≤ 1; decide +kernel⟩
 | false => exact ⟨sin_ge_mone t, sin_le_one t⟩
theorem loNext_has {l : LoV} {f : FrV} {t : Sp} {q : Rat} (h : l.has f) (k : t.has q) : (loNext l t).has (frThen f ⟨0, 0, false, q⟩) := by
 obtain ⟨e1, e2⟩ := head_xy f q
 obtain ⟨c1, c2⟩ := th_cs f.h f.t false q
 have i1 := cosT_in (thH f.h f.t false q) (thT f.h f.t false q)
 have i2 := sinT_in (thH f.h f.t false q) (thT f.h f.t false q)
 refine ⟨by rw [e1]; exact h.x, by rw [e2]; exact h.y, ?_, ?_⟩
 ·show (loC l t).has (cosT (thH f.h f.t false q) (thT f.h f.t false q))
  rw [c1] at i1 ⊢
  exact spCut_has (spSub_has (spMul_has h.c (spCos_has k)) (spMul_has h.s (spSin_has k))) i1.1 i1.2
 ·show (loS l t).has (sinT (thH f.h f.t false q) (thT f.h f.t false q))
  rw [c2] at i2 ⊢
  exact spCut_has (spAdd_has (spMul_has h.s (spCos_has k)) (spMul_has h.c (spSin_has k))) i2.1 i2.2
theorem loEnd_has {l : LoV} {f : FrV} (h : l.has f) (len : Rat) : (loEnd l len).has (frThen f ⟨len, 0, false, 0⟩) := by
 obtain ⟨c1, c2⟩ := turn0 f len
 refine ⟨?_, ?_, by rw [c1]; exact h.c, by rw [c2]; exact h.s⟩
 ·have e : (frThen f ⟨len, 0, false, 0⟩).x = f.x + len * cosT f.h f.t := by show putX f len 0 = _; unfold putX; grind
  rw [e]; exact spAdd_has h.x (spMul_has (spOf_has len) h.c)
 ·have e : (frThen f ⟨len, 0, false, 0⟩).y = f.y + len * sinT f.h f.t := by show putY f len 0 = _; unfold putY; grind
  rw [e]; exact spAdd_has h.y (spMul_has (spOf_has len) h.s)
theorem HasQ.tail {t : Sp} {ts : List Sp} {q : Rat} {qs : List Rat} (h : HasQ (t :: ts) (q :: qs)) : t.has q ∧ HasQ ts qs :=
 ⟨h.2 0 t q rfl rfl, by simpa using h.1, fun i t q h1 h2 => h.2 (i + 1) t q h1 h2⟩
theorem spread_has : ∀ (ls : List LinkV) (ts : List Sp) (qs : List Rat) (l : LoV) (b : FrV), l.has b → HasQ ts qs → ∀ (i : Nat) m f, (spreadV l ls ts)[i]? = some m → (framesV b ls qs)[i]? = some f → m.has f := by
 intro ls
 induction ls with
 | nil =>
  intro ts qs l b h _ i m f hm hf
  have e1 : spreadV l [] ts = [l] := by cases ts <;> rfl
  have e2 : framesV b [] qs = [b] := by cases qs <;> rfl
  rw [e1] at hm; rw [e2] at hf
  cases i with
  | zero => cases hm; cases hf; exact h
  | succ i => cases hm
 | cons L ls ih =>
  intro ts qs l b h hq i m f hm hf
  match ts, qs, hq with
  | [], [], _ =>
   cases i with
   | zero => cases hm; cases hf; exact h
   | succ i => cases hm
  | [], q :: qs, hq => exact absurd hq.1 (by simp)
  | t :: ts, [], hq => exact absurd hq.1 (by simp)
  | t :: ts, q :: qs, hq =>
   obtain ⟨h1, h2⟩ := hq.tail
   have hn := loNext_has h h1
   cases i with
   | zero => cases hm; cases hf; exact hn
   | succ i => exact ih ts qs _ _ (loEnd_has hn L.len) h2 i m f hm hf
theorem frames_len : ∀ (ls : List LinkV) (qs : List Rat) (b : FrV), qs.length = ls.length → (framesV b ls qs).length = ls.length + 1 := by
 intro ls
 induction ls with
 | nil => intro qs b _; cases qs <;> rfl
 | cons L ls ih =>
  intro qs b h
  match qs, h with
  | q :: qs, h => simp only [framesV, List.length_cons]; rw [ih qs _ (by simpa using h)]
theorem base_has (a : ArmV) : (loBase a).has (baseV a) := ⟨spOf_has _, spOf_has _, spOf_has _, spOf_has _⟩
end Go.Proofs
