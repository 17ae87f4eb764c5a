/- Cosine and sine of turns one after the other; points of frames one after the other: plain laws. -/
import Derived.Test.YtdkakhlabdoilaaGreatDoorFC
/- Cosine and sine of turns one after the other; points of frames one after the other: plain laws. -/
namespace Go.Proofs
open Go Go.Eng
end Go.Proofs
/- Torques, velocities, ranks, reach and placed shapes of arms: plain laws. -/
namespace Go.Proofs
open Go Go.Eng
def plV (f : FrV) (p : Rat × Rat) : Rat × Rat := (putX f p.1 p.2, putY f p.1 p.2)
theorem lft_pl (f : FrV) (a b c : Rat × Rat) : lft (plV f a) (plV f b) (plV f c) = lft a b c := by
 have := cs1 f.h f.t
 unfold lft plV putX putY
 simp only
 generalize cosT f.h f.t = cq at *
 generalize sinT f.h f.t = sq at *
 grind
theorem poly_pl {l : List (Rat × Rat)} (f : FrV) (h : PolyOK l) : PolyOK (l.map (plV f)) := by
 refine ⟨by simpa using h.lo, by simpa using h.hi, fun i k a b c h2 hk ha hb hc => ?_⟩
 simp only [List.length_map, List.getElem?_map, Option.map_eq_some_iff] at hk ha hb hc
 obtain ⟨a', ha, rfl⟩ := ha
 obtain ⟨b', hb, rfl⟩ := hb
 obtain ⟨c', hc, rfl⟩ := hc
 rw [lft_pl]
 exact h.left i k a' b' c' h2 hk ha hb hc
end Go.Proofs
