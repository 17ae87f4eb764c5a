/- Ways: plain laws. -/
import Derived.Test.YtglebancgilfdaaDoorE4
import Derived.Test.YtglebancgilfdaaDoorPl
import Derived.Test.YtglebancgilfdaaDoorR1
import Derived.Test.YtglebancgilfdaaDoorAJ
/- Ways: plain laws. -/
namespace Go.Proofs
open Go Go.Eng
end Go.Proofs
/- How long a way is. -/
namespace Go.Proofs
open Go Go.Eng
def dst : List Rat → List Rat → Rat
 | p :: ps, q :: qs => absR (q - p) + dst ps qs
 | _, _ => 0
end Go.Proofs
/- short: good, between, check, Measure, Plain; slices.EqualFunc on ways. -/
namespace Go.Proofs
open Go Go.Eng
def wEl (n : Nat) (q : List Rat) : List Ch := [.s 3 (lR n q)]
def wN (n : Nat) (w : List (List Rat)) : List (List Ch) := w.map (wEl n)
def sW (n : Nat) (w : List (List Rat)) : AV := .x false [.s 1 (wN n w)]
/-- Configurations of one length. -/
structure WayOK (w : List (List Rat)) (m : Nat) : Prop where
  n : 1 ≤ w.length ∧ w.length ≤ 60
  len : ∀ q ∈ w, q.length = m
  m : 1 ≤ m ∧ m ≤ 3
def L99 : List (Nat × Ctr) := (14, c_equalR) :: L52
def M99 : List (Nat × CtrM) := M48
theorem way_ld {n : Nat} {w : List (List Rat)} {i : Nat} {q : List Rat} (h : w[i]? = some q) : ldE (wN n w) i 0 1 = some [.s 3 (lR n q)] := by
 simp only [ldE, wN, List.getElem?_map, h]; rfl
theorem sc_pos {a b : Rat} : cmpR a b > 0 ↔ b < a := by
 unfold cmpR
 by_cases h : a < b
 ·rw [if_pos h]; refine ⟨fun h2 => by omega, fun h2 => ?_⟩; grind
 ·rw [if_neg h]
  by_cases h2 : a = b
  ·rw [if_pos h2]; refine ⟨fun h => by omega, fun h => ?_⟩; grind
  ·rw [if_neg h2]; refine ⟨fun _ => ?_, fun _ => by omega⟩; grind
theorem wN_snoc (n : Nat) (o : List (List Rat)) (q : List Rat) : List.take o.length (wN n o) ++ [[.s 3 (lR n q)]] = wN n (o ++ [q]) := by
 rw [List.take_of_length_le (by simp [wN])]; simp [wN, wEl]
theorem L99ok : CtrsOK Tryd.prog tabG debT L99 := .cons ok_equalR L52ok
theorem M99ok : CtrMsOK Tryd.prog tabG debT M99 := M48ok
def L100 : List (Nat × Ctr) := L99
theorem L100ok : CtrsOK Tryd.prog tabG debT L100 := L99ok
def L101 : List (Nat × Ctr) := L100
theorem L101ok : CtrsOK Tryd.prog tabG debT L101 := L100ok
def L102 : List (Nat × Ctr) := L101
theorem L102ok : CtrsOK Tryd.prog tabG debT L102 := L101ok
def L103 : List (Nat × Ctr) := L102
theorem L103ok : CtrsOK Tryd.prog tabG debT L103 := L102ok
def L104 : List (Nat × Ctr) := L103
def T104 : Tabs := mkT L104 M99 X4
theorem L104ok : CtrsOK Tryd.prog tabG debT L104 := L103ok
end Go.Proofs
