/- Box, Boxes, within; ForeContains, ForeNarrow. -/
import Derived.Test.YtdbkndfkgdbhpaaGreatDoorPC
/- Box, Boxes, within; ForeContains, ForeNarrow. -/
namespace Go.Proofs
open Go Go.Eng
def losR (a : ArmV) (ls : List LoV) (l : LoV) : List (List Ch) := ls.map (loN 240000) ++ [loN (lb a.links.length) l]
theorem losR_len (a : ArmV) (ls : List LoV) (l : LoV) : (losR a ls l).length = ls.length + 1 := by simp [losR]
theorem spans_hasL {ps qs : List Rat} (h : ps.length = qs.length) : HasQ (spansV ps qs) ps := by
  refine ⟨spans_len h, fun i t p ht hp => ?_⟩
  have hi := (List.getElem?_eq_some_iff.1 hp).1
  obtain ⟨q, hq⟩ : ∃ q, qs[i]? = some q := ⟨_, List.getElem?_eq_getElem (by omega)⟩
  rw [spans_get hp hq] at ht
  cases ht
  exact ⟨minR_le_l _ _, le_maxR_l _ _⟩
def L153 : List (Nat × Ctr) := L152
def L154 : List (Nat × Ctr) := L153
def L155 : List (Nat × Ctr) := L154
def L156 : List (Nat × Ctr) := L155
def T156 : Tabs := mkT L156 M79 X4
end Go.Proofs
