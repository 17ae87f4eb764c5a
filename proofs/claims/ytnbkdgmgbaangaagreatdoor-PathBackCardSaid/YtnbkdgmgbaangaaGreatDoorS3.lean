/- A part of a straight motion. -/
import Derived.Test.YtnbkdgmgbaangaaGreatDoorR1
namespace Go.Proofs
open Go Go.Eng
def J7 (f:Rat)(a b:List Rat):List Rat:=List.zipWith (fun p q=>p+f*(q-p)) a b
theorem QG6 {f:Rat}{a b:List Rat}(h:a.length=b.length):(J7 f a b).length=a.length:=by simp[J7,h]
theorem QG7 {f:Rat}{a b:List Rat}{i:Nat}{p q:Rat}(hp:a[i]? =some p)(hq:b[i]? =some q):(J7 f a b)[i]? =some (p+f*(q-p)):=by
 simp[J7,List.getElem?_zipWith,hp,hq]
theorem QJb {f g:Rat}(h:f+g=1)(a b:List Rat):J7 g b a=J7 f a b:=by
 unfold J7;rw[List.zipWith_comm];congr 1;funext p q;have e:g=1-f:=by grind
 rw[e];grind
end Go.Proofs
