/- SinSpan, cut, Spread, Boxes, spans, between. -/
import Derived.Test.YtjdhppdpbkoihaaGreatDoorPB
namespace Go.Proofs
open Go Go.Eng
def spN (n:Nat)(s:Sp):List Ch:=[.r s.lo n,.r s.hi n]
theorem QGK {n:Nat}{ts:List Sp}{i:Nat}{t:Sp}(h:ts[i]? =some t):ldE (ts.map (spN n)) i 0 6=some [.r t.lo n,.r t.hi n]:=by
 simp only[ldE,List.getElem?_map,h];rfl
def QY8:LC:=QWn
theorem QWp:QG QY8:=QWo
def QY9:LC:=QY8
theorem QWq:QG QY9:=QWp
def QZA:LC:=QY9
theorem QWr:QG QZA:=QWq
def QZB:LC:=QZA
theorem QWs:QG QZB:=QWr
def QZC:LC:=QZB
theorem QWt:QG QZC:=QWs
def QWu:LC:=QZC
noncomputable def QaO:Qc:=mkT QWu M79 X4
theorem QWv:QG QWu:=QWt
end Go.Proofs
