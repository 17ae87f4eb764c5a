/- A part of a straight motion. -/
import Derived.Test.YtnbkdgmgbaangaaGreatDoorR1
namespace Go.Proofs
open Go Go.Eng
def Wt (f:Rat)(a b:List Rat):List Rat:=List.zipWith (fun p q=>p+f*(q-p)) a b
theorem QHB {f:Rat}{a b:List Rat}(h:a.length=b.length):(Wt f a b).length=a.length:=by simp[Wt,h]
theorem QHC {f:Rat}{a b:List Rat}{i:Nat}{p q:Rat}(hp:a[i]? =some p)(hq:b[i]? =some q):(Wt f a b)[i]? =some (p+f*(q-p)):=by
 simp[Wt,List.getElem?_zipWith,hp,hq]
end Go.Proofs
