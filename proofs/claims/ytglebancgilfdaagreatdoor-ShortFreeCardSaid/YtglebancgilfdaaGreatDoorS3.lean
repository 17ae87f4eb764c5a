/- A part of a straight motion. -/
import Derived.Test.YtglebancgilfdaaGreatDoorR1
/- A part of a straight motion. -/
namespace Go.Proofs
open Go Go.Eng
def midV (f : Rat) (a b : List Rat) : List Rat := List.zipWith (fun p q => p + f * (q - p)) a b
theorem mid_len {f : Rat} {a b : List Rat} (h : a.length = b.length) : (midV f a b).length = a.length := by simp [midV, h]
theorem mid_get {f : Rat} {a b : List Rat} {i : Nat} {p q : Rat} (hp : a[i]? = some p) (hq : b[i]? = some q) : (midV f a b)[i]? = some (p + f * (q - p)) := by
 simp [midV, List.getElem?_zipWith, hp, hq]
end Go.Proofs
