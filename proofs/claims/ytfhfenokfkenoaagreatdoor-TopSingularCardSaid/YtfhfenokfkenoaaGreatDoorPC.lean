/- SinSpan, cut, Spread, Boxes, spans, between. -/
import Derived.Test.YtfhfenokfkenoaaGreatDoorPB
namespace Go.Proofs
open Go Go.Eng
def spN (n:Nat)(s:Sp):List Ch:=[.r s.lo n,.r s.hi n]
theorem QFy {n:Nat}{ts:List Sp}{i:Nat}{t:Sp}(h:ts[i]? =some t):ldE (ts.map (spN n)) i 0 6=some [.r t.lo n,.r t.hi n]:=by
 simp only[ldE,List.getElem?_map,h];rfl
def QZv:LC:=QXL
theorem QXN:QF QZv:=QXM
def QZw:LC:=QZv
theorem QXO:QF QZw:=QXN
def QZx:LC:=QZw
theorem QXP:QF QZx:=QXO
def QZy:LC:=QZx
theorem QXQ:QF QZy:=QXP
def QZz:LC:=QZy
theorem QXR:QF QZz:=QXQ
def QXS:LC:=QZz
noncomputable def QbS:Qb:=mkT QXS M79 X4
theorem QXT:QF QXS:=QXR
end Go.Proofs
