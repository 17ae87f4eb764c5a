/- Box, Boxes, within; ForeContains, ForeNarrow. -/
import Derived.Test.YtdbkndfkgdbhpaaGreatDoorPC
/- Box, Boxes, within; ForeContains, ForeNarrow. -/
namespace Go.Proofs
open Go Go.Eng
def bxL (n : Nat) (l : LoV) : List Ch := [.r l.x.lo n, .r l.y.lo n, .r l.x.hi n, .r l.y.hi n]
def losR (a : ArmV) (ls : List LoV) (l : LoV) : List (List Ch) := ls.map (loN 240000) ++ [loN (lb a.links.length) l]
theorem losR_len (a : ArmV) (ls : List LoV) (l : LoV) : (losR a ls l).length = ls.length + 1 := by simp [losR]
theorem los_ld {a : ArmV} {ls : List LoV} {l y : LoV} {i : Nat} (ha : a.links.length ≤ 3) (h : (ls ++ [l])[i]? = some y) : ∃ m, m ≤ 240000 ∧ ldE (losR a ls l) i 0 24 = some (loN m y) := by
  have key : ∃ m, m ≤ 240000 ∧ (losR a ls l)[i]? = some (loN m y) := by
    unfold losR
    by_cases hi : i < ls.length
    · rw [List.getElem?_append_left hi] at h
      exact ⟨240000, Nat.le_refl _, by rw [List.getElem?_append_left (by simpa using hi), List.getElem?_map, h]; rfl⟩
    · rw [List.getElem?_append_right (by omega)] at h
      have : i - ls.length = 0 := by
        have := (List.getElem?_eq_some_iff.1 h).1
        simp at this; omega
      rw [this] at h
      cases h
      exact ⟨lb a.links.length, lb_le3 ha, by rw [List.getElem?_append_right (by simp; omega), List.length_map, this]; rfl⟩
  obtain ⟨m, hm, hk⟩ := key
  exact ⟨m, hm, by simp only [ldE, hk]; rfl⟩
theorem spans_hasL {ps qs : List Rat} (h : ps.length = qs.length) : HasQ (spansV ps qs) ps := by
  refine ⟨spans_len h, fun i t p ht hp => ?_⟩
  have hi := (List.getElem?_eq_some_iff.1 hp).1
  obtain ⟨q, hq⟩ : ∃ q, qs[i]? = some q := ⟨_, List.getElem?_eq_getElem (by omega)⟩
  rw [spans_get hp hq] at ht
  cases ht
  exact ⟨minR_le_l _ _, le_maxR_l _ _⟩
def ot_fBox : OT := fun _ => ([], [])
def goal_fBox (l : LoV) (n : Nat) (K : AV → Prop) : Prop := goalL T152 ot_fBox noL Tryz.f80 [.x true (loN n l)] K
theorem goal_fBox_vc (l : LoV) (n : Nat) (K : AV → Prop) : goal_fBox l n K = ( K (AV.x true [Ch.r (Sp.lo (LoV.x l)) n, Ch.r (Sp.lo (LoV.y l)) n, Ch.r (Sp.hi (LoV.x l)) n, Ch.r (Sp.hi (LoV.y l)) n])) := by kernel_rfl
theorem g_fBox (l : LoV) (n : Nat) (hc : True) (K : AV → Prop) (hK : K (.x true (bxL n l))) : Holds (goal_fBox l n K) := by
  refine ⟨?_⟩
  rw [goal_fBox_vc]
  try simp only [Int.ofNat_eq_natCast, true_and, and_true, Nat.zero_add, Nat.le_refl, true_implies, true_or, or_true]
  exact hK
def c_fBox : Ctr := fun as0 => match as0 with
  | [.x true xs] => some fun K => ∃ (l : LoV) (n : Nat), xs = loN n l ∧ (True) ∧ (K (.x true (bxL n l)))
  | _ => none
theorem ok_fBox : CtrOK Tryz.prog tabG debT 80 c_fBox := by
  refine ⟨enters Tryz.func80 (by kernel_rfl), fun l T hT K hK => ?_⟩
  unfold c_fBox at hT
  split at hT
  · cases hT
    obtain ⟨l, n, rfl, hc, hK⟩ := hK
    exact spec_ofL T152ok mixed Tryz.func80 (by kernel_rfl) (by kernel_rfl) (by rfl) (g_fBox _ _ hc K hK)
  · cases hT
def L153 : List (Nat × Ctr) := (80, c_fBox) :: L152
theorem L153ok : CtrsOK Tryz.prog tabG debT L153 := .cons ok_fBox L152ok
def L154 : List (Nat × Ctr) := L153
def T154 : Tabs := mkT L154 M79 X4
theorem L154ok : CtrsOK Tryz.prog tabG debT L154 := L153ok
theorem T154ok : TabsOK Tryz.prog tabG debT T154 := mkTok L154ok M79ok X4ok
def ot_kWithin : OT := fun _ => ([], [])
def goal_kWithin (l : Rat) (a : Nat) (m : Rat) (b : Nat) (h : Rat) (c : Nat) (k : Rat) (d : Nat) (l' : Rat) (a' : Nat) (m' : Rat) (b' : Nat) (h' : Rat) (c' : Nat) (k' : Rat) (d' : Nat) (K : AV → Prop) : Prop := goalL T154 ot_kWithin noL Tryz.f30 [.x true [.r l a, .r m b, .r h c, .r k d], .x true [.r l' a', .r m' b', .r h' c', .r k' d']] K
theorem goal_kWithin_vc (l : Rat) (a : Nat) (m : Rat) (b : Nat) (h : Rat) (c : Nat) (k : Rat) (d : Nat) (l' : Rat) (a' : Nat) (m' : Rat) (b' : Nat) (h' : Rat) (c' : Nat) (k' : Rat) (d' : Nat) (K : AV → Prop) : goal_kWithin l a m b h c k d l' a' m' b' h' c' k' d' K = ( a + a' ≤ (4294967296 : Nat) ∧ bif decide (cmpR l l' ≤ (0 : Int)) then b + b' ≤ (4294967296 : Nat) ∧ bif decide (cmpR m m' ≤ (0 : Int)) then c' + c ≤ (4294967296 : Nat) ∧ bif decide (cmpR h' h ≤ (0 : Int)) then d' + d ≤ (4294967296 : Nat) ∧ K (AV.x false [Ch.v (Value.bool (decide (cmpR k' k ≤ (0 : Int))))]) else K (AV.x false [Ch.v (Value.bool false)]) else K (AV.x false [Ch.v (Value.bool false)]) else K (AV.x false [Ch.v (Value.bool false)])) := by kernel_rfl
theorem g_kWithin (l : Rat) (a : Nat) (m : Rat) (b : Nat) (h : Rat) (c : Nat) (k : Rat) (d : Nat) (l' : Rat) (a' : Nat) (m' : Rat) (b' : Nat) (h' : Rat) (c' : Nat) (k' : Rat) (d' : Nat) (hc : (a + a' ≤ 4294967296 ∧ b + b' ≤ 4294967296 ∧ c + c' ≤ 4294967296 ∧ d + d' ≤ 4294967296) ∧ ((l ≤ l' ∧ m ≤ m') ∧ h' ≤ h ∧ k' ≤ k)) (K : AV → Prop) (hK : K (.x false [.v (.bool true)])) : Holds (goal_kWithin l a m b h c k d l' a' m' b' h' c' k' d' K) := by
  refine ⟨?_⟩
  rw [goal_kWithin_vc]
  try simp only [Int.ofNat_eq_natCast, true_and, and_true, Nat.zero_add, Nat.le_refl, true_implies, true_or, or_true]
  obtain ⟨⟨b1, b2, b3, b4⟩, ⟨h1, h2⟩, h3, h4⟩ := hc
  refine ⟨by omega, bif_mk (fun _ => ⟨by omega, bif_mk (fun _ => ⟨by omega, bif_mk (fun _ => ⟨by omega, ?_⟩) (fun h => absurd ((cmp_le _ _).2 h3) (of_decide_eq_false h))⟩) (fun h => absurd ((cmp_le _ _).2 h2) (of_decide_eq_false h))⟩) (fun h => absurd ((cmp_le _ _).2 h1) (of_decide_eq_false h))⟩
  rw [decide_eq_true ((cmp_le _ _).2 h4)]
  exact hK
def c_kWithin : Ctr := fun as0 => match as0 with
  | [.x true [.r l a, .r m b, .r h c, .r k d], .x true [.r l' a', .r m' b', .r h' c', .r k' d']] => some fun K => ((a + a' ≤ 4294967296 ∧ b + b' ≤ 4294967296 ∧ c + c' ≤ 4294967296 ∧ d + d' ≤ 4294967296) ∧ ((l ≤ l' ∧ m ≤ m') ∧ h' ≤ h ∧ k' ≤ k)) ∧ (K (.x false [.v (.bool true)]))
  | _ => none
theorem ok_kWithin : CtrOK Tryz.prog tabG debT 30 c_kWithin := by
  refine ⟨enters Tryz.func30 (by kernel_rfl), fun l T hT K hK => ?_⟩
  unfold c_kWithin at hT
  split at hT
  · cases hT
    obtain ⟨hc, hK⟩ := hK
    exact spec_ofL T154ok mixed Tryz.func30 (by kernel_rfl) (by kernel_rfl) (by rfl) (g_kWithin _ _ _ _ _ _ _ _ _ _ _ _ _ _ _ _ hc K hK)
  · cases hT
def L155 : List (Nat × Ctr) := (30, c_kWithin) :: L154
theorem L155ok : CtrsOK Tryz.prog tabG debT L155 := .cons ok_kWithin L154ok
def L156 : List (Nat × Ctr) := L155
def T156 : Tabs := mkT L156 M79 X4
theorem L156ok : CtrsOK Tryz.prog tabG debT L156 := L155ok
end Go.Proofs
