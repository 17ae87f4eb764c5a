/- SinSpan, cut, Spread, Boxes, spans, between. -/
import Derived.Test.YtfhfenokfkenoaaGreatDoorPB
namespace Go.Proofs
open Go Go.Eng
def spN (n:Nat)(s:Sp):List Ch:=[.r s.lo n,.r s.hi n]
theorem QFy {n:Nat}{ts:List Sp}{i:Nat}{t:Sp}(h:ts[i]? =some t):ldE (ts.map (spN n)) i 0 6=some [.r t.lo n,.r t.hi n]:=by
 simp only[ldE,List.getElem?_map,h];rfl
def QZw:LC:=QXN
theorem QXP:QF QZw:=QXO
def QZx:LC:=QZw
theorem QXQ:QF QZx:=QXP
def QZy:LC:=QZx
theorem QXR:QF QZy:=QXQ
def QZz:LC:=QZy
theorem QXS:QF QZz:=QXR
def QZ0:LC:=QZz
theorem QXT:QF QZ0:=QXS
def QXU:LC:=QZ0
noncomputable def QbS:Qb:=mkT QXU M79 X4
theorem QXV:QF QXU:=QXT
end Go.Proofs
