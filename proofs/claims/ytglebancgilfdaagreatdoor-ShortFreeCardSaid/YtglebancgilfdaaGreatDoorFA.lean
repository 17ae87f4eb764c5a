/- Columns, velocities. -/
import Derived.Test.YtglebancgilfdaaGreatDoorFC
import Derived.Test.YtglebancgilfdaaGreatDoorFL
/- Columns, velocities. -/
namespace Go.Proofs
open Go Go.Eng
structure TqX where
 fs : List FrV
 f : FrV
 i : Nat
structure TqI (a : ArmV) (qs : List Rat) (x : TqX) : Prop where
 eq : x.fs ++ [x.f] = framesV (baseV a) a.links qs
 len : x.fs.length = a.links.length
 le : x.i ≤ a.links.length
def sVv (n : Nat) (l : List (Rat × Rat)) : AV := .x false [.s 6 (l.map (vecN n))]
def L110 : List (Nat × Ctr) := L95
theorem L110ok : CtrsOK Tryz.prog tabG debT L110 := L95ok
theorem snoc_of {fs F : List FrV} {f : FrV} {n : Nat} (h : fs ++ [f] = F) (hl : fs.length = n) : fs = F.take n ∧ f = F.getD n ⟨0, 0, false, 0⟩ := by
 subst hl
 rw [← h]
 simp
theorem drop_get {α : Type} {l : List α} {i : Nat} {a : α} (h : l[i]? = some a) : l.drop i = a :: l.drop (i + 1) := by
 obtain ⟨hi, e⟩ := List.getElem?_eq_some_iff.1 h
 rw [List.drop_eq_getElem_cons hi, e]
def L111 : List (Nat × Ctr) := L110
theorem L111ok : CtrsOK Tryz.prog tabG debT L111 := L110ok
def L112 : List (Nat × Ctr) := L111
theorem L112ok : CtrsOK Tryz.prog tabG debT L112 := L111ok
def L113 : List (Nat × Ctr) := L112
theorem L113ok : CtrsOK Tryz.prog tabG debT L113 := L112ok
def L114 : List (Nat × Ctr) := L113
theorem L114ok : CtrsOK Tryz.prog tabG debT L114 := L113ok
def L115 : List (Nat × Ctr) := L114
theorem L115ok : CtrsOK Tryz.prog tabG debT L115 := L114ok
def L116 : List (Nat × Ctr) := L115
theorem L116ok : CtrsOK Tryz.prog tabG debT L116 := L115ok
def L117 : List (Nat × Ctr) := L116
def T117 : Tabs := mkT L117 M79 X4
theorem L117ok : CtrsOK Tryz.prog tabG debT L117 := L116ok
end Go.Proofs
