/- A part of a straight motion. -/
import Derived.Test.YtfhfenokfkenoaaGreatDoorR1
namespace Go.Proofs
open Go Go.Eng
def Wj (f:Rat)(a b:List Rat):List Rat:=List.zipWith (fun p q=>p+f*(q-p)) a b
theorem G0 {f:Rat}{a b:List Rat}(h:a.length=b.length):(Wj f a b).length=a.length:=by simp[Wj,h]
theorem G4 {f:Rat}{a b:List Rat}{i:Nat}{p q:Rat}(hp:a[i]? =some p)(hq:b[i]? =some q):(Wj f a b)[i]? =some (p+f*(q-p)):=by
 simp[Wj,List.getElem?_zipWith,hp,hq]
end Go.Proofs
