/- Box, Boxes, within; ForeContains, ForeNarrow. -/
import Derived.Test.YtglebancgilfdaaGreatDoorPC
/- Box, Boxes, within; ForeContains, ForeNarrow. -/
namespace Go.Proofs
open Go Go.Eng
def bxL (n : Nat) (l : LoV) : List Ch := [.r l.x.lo n, .r l.y.lo n, .r l.x.hi n, .r l.y.hi n]
def losR (a : ArmV) (ls : List LoV) (l : LoV) : List (List Ch) := ls.map (loN 240000) ++ [loN (lb a.links.length) l]
theorem losR_len (a : ArmV) (ls : List LoV) (l : LoV) : (losR a ls l).length = ls.length + 1 := by simp [losR]
theorem los_ld {a : ArmV} {ls : List LoV} {l y : LoV} {i : Nat} (ha : a.links.length ≤ 3) (h : (ls ++ [l])[i]? = some y) : ∃ m, m ≤ 240000 ∧ ldE (losR a ls l) i 0 24 = some (loN m y) := by
 have key : ∃ m, m ≤ 240000 ∧ (losR a ls l)[i]? = some (loN m y) := by
  unfold losR
  by_cases hi : i < ls.length
  ·rw [List.getElem?_append_left hi] at h
   exact ⟨240000, Nat.le_refl _, by rw [List.getElem?_append_left (by simpa using hi), List.getElem?_map, h]; rfl⟩
  ·rw [List.getElem?_append_right (by omega)] at h
   have : i - ls.length = 0 := by
    have := (List.getElem?_eq_some_iff.1 h).1
    simp at this; omega
   rw [this] at h
   cases h
   exact ⟨lb a.links.length, lb_le3 ha, by rw [List.getElem?_append_right (by simp; omega), List.length_map, this]; rfl⟩
 obtain ⟨m, hm, hk⟩ := key
 exact ⟨m, hm, by simp only [ldE, hk]; rfl⟩
def ot_fBox : OT := fun _ => ([], [])
def goal_fBox (l : LoV) (n : Nat) (K : AV → Prop) : Prop := goalL T152 ot_fBox noL Tryz.f77 [.x true (loN n l)] K
theorem goal_fBox_vc (l : LoV) (n : Nat) (K : AV → Prop) : goal_fBox l n K = (K (AV.x true [Ch.r l.x.lo n,Ch.r l.y.lo n,Ch.r l.x.hi n,Ch.r l.y.hi n])) := by kernel_rfl
theorem g_fBox (l : LoV) (n : Nat) (hc : True) (K : AV → Prop) (hK : K (.x true (bxL n l))) : Holds (goal_fBox l n K) := by
 refine ⟨?_⟩
 rw [goal_fBox_vc]
 try simp only [Int.ofNat_eq_natCast, true_and, and_true, Nat.zero_add, Nat.le_refl, true_implies, true_or, or_true]
 exact hK
def c_fBox : Ctr := fun as0 => match as0 with
 | [.x true xs] => some fun K => ∃ (l : LoV) (n : Nat), xs = loN n l ∧ (True) ∧ (K (.x true (bxL n l)))
 | _ => none
theorem ok_fBox : CtrOK Tryz.prog tabG debT 77 c_fBox := by
 refine ⟨enters Tryz.func77 (by kernel_rfl), fun l T hT K hK => ?_⟩
 unfold c_fBox at hT
 split at hT
 ·cases hT
  obtain ⟨l, n, rfl, hc, hK⟩ := hK
  exact spec_ofL T152ok mixed Tryz.func77 (by kernel_rfl) (by kernel_rfl) (by rfl) (g_fBox _ _ hc K hK)
 ·cases hT
def L153 : List (Nat × Ctr) := (77, c_fBox) :: L152
theorem L153ok : CtrsOK Tryz.prog tabG debT L153 := .cons ok_fBox L152ok
def L154 : List (Nat × Ctr) := L153
theorem L154ok : CtrsOK Tryz.prog tabG debT L154 := L153ok
def L155 : List (Nat × Ctr) := L154
theorem L155ok : CtrsOK Tryz.prog tabG debT L155 := L154ok
def L156 : List (Nat × Ctr) := L155
def T156 : Tabs := mkT L156 M79 X4
theorem L156ok : CtrsOK Tryz.prog tabG debT L156 := L155ok
end Go.Proofs
