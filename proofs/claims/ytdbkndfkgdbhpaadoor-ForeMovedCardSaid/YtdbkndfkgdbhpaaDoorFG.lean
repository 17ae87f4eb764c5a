/- Frames one after the other: in any grouping the same; moved arms: plain laws. -/
import Derived.Test.YtdbkndfkgdbhpaaDoorFL
/- Frames one after the other: in any grouping the same; moved arms: plain laws. -/
namespace Go.Proofs
open Go Go.Eng
theorem turn_inj {h : Bool} {t : Rat} {g : Bool} {u : Rat} (h1 : h = true → t = 0) (h2 : g = true → u = 0) (hc : cosT h t = cosT g u) (hs : sinT h t = sinT g u) : h = g ∧ t = u := by
  have key : ∀ t : Rat, (1 + cosT false t) * (1 + t * t) = 2 := fun t => by have := cos_mul t; grind
  have no : ∀ t : Rat, cosT false t ≠ -1 := fun t e => by
    have := key t
    rw [e] at this
    have e2 : (1 + -1 : Rat) = 0 := by decide +kernel
    rw [e2, Rat.zero_mul] at this
    exact absurd this (by decide +kernel)
  cases h <;> cases g
  · refine ⟨rfl, ?_⟩
    have k1 := key t
    have k2 := key u
    have s1 := sin_mul t
    have s2 := sin_mul u
    rw [hc] at k1
    rw [hs] at s1
    generalize cosT false u = c at *
    generalize sinT false u = s at *
    have hn : 1 + c ≠ 0 := fun e => by rw [e, Rat.zero_mul] at k2; exact absurd k2 (by decide +kernel)
    have e1 : t * (1 + c) = s := cancel (sq1 t) (by grind)
    have e2 : u * (1 + c) = s := cancel (sq1 u) (by grind)
    exact cancel hn (e1.trans e2.symm)
  · exact absurd hc (no t)
  · exact absurd hc.symm (no u)
  · exact ⟨rfl, by rw [h1 rfl, h2 rfl]⟩
def FrOK (f : FrV) : Prop := f.h = true → f.t = 0
theorem FrV.ext' {f g : FrV} (h1 : f.x = g.x) (h2 : f.y = g.y) (h3 : f.h = g.h ∧ f.t = g.t) : f = g := by
  cases f; cases g; simp only at h1 h2 h3; obtain ⟨h3, h4⟩ := h3; subst h1 h2 h3 h4; rfl
theorem frThen_ok (f g : FrV) : FrOK (frThen f g) := th_good _ _ _ _
theorem th_assoc (h1 : Bool) (t1 : Rat) (h2 : Bool) (t2 : Rat) (h3 : Bool) (t3 : Rat) :
    thH (thH h1 t1 h2 t2) (thT h1 t1 h2 t2) h3 t3 = thH h1 t1 (thH h2 t2 h3 t3) (thT h2 t2 h3 t3) ∧ thT (thH h1 t1 h2 t2) (thT h1 t1 h2 t2) h3 t3 = thT h1 t1 (thH h2 t2 h3 t3) (thT h2 t2 h3 t3) := by
  refine turn_inj (th_good _ _ _ _) (th_good _ _ _ _) ?_ ?_
  · rw [(th_cs (thH h1 t1 h2 t2) (thT h1 t1 h2 t2) h3 t3).1, (th_cs h1 t1 (thH h2 t2 h3 t3) (thT h2 t2 h3 t3)).1, (th_cs h1 t1 h2 t2).1, (th_cs h1 t1 h2 t2).2, (th_cs h2 t2 h3 t3).1, (th_cs h2 t2 h3 t3).2]
    grind
  · rw [(th_cs (thH h1 t1 h2 t2) (thT h1 t1 h2 t2) h3 t3).2, (th_cs h1 t1 (thH h2 t2 h3 t3) (thT h2 t2 h3 t3)).2, (th_cs h1 t1 h2 t2).1, (th_cs h1 t1 h2 t2).2, (th_cs h2 t2 h3 t3).1, (th_cs h2 t2 h3 t3).2]
    grind
theorem frThen_assoc (a b c : FrV) : frThen (frThen a b) c = frThen a (frThen b c) :=
  FrV.ext' (put_then a b c.x c.y).1 (put_then a b c.x c.y).2 (th_assoc _ _ _ _ _ _)
theorem frames_moved (g : FrV) : ∀ (ls : List LinkV) (qs : List Rat) (b : FrV), framesV (frThen g b) ls qs = (framesV b ls qs).map (frThen g) := by
  intro ls
  induction ls with
  | nil => intro qs b; cases qs <;> rfl
  | cons L ls ih =>
    intro qs b
    cases qs with
    | nil => rfl
    | cons q qs =>
      simp only [framesV, List.map_cons]
      rw [frThen_assoc, frThen_assoc, ih]
end Go.Proofs
