/- A part of a straight motion. -/
import Derived.Test.YtmpfaflhpioaiaaGreatDoorR1
namespace Go.Proofs
open Go Go.Eng
def KP (f:Rat)(a b:List Rat):List Rat:=List.zipWith (fun p q=>p+f*(q-p)) a b
theorem c9 {f:Rat}{a b:List Rat}(h:a.length=b.length):(KP f a b).length=a.length:=by simp[KP,h]
theorem dN {f:Rat}{a b:List Rat}{i:Nat}{p q:Rat}(h:a[i]? =some p)(c:b[i]? =some q):(KP f a b)[i]? =some (p+f*(q-p)):=by
 simp[KP,List.getElem?_zipWith,h,c]
end Go.Proofs
