/- SinSpan, cut, Spread, Boxes, spans, between. -/
import Derived.Test.YtjdhppdpbkoihaaGreatDoorPB
namespace Go.Proofs
open Go Go.Eng
def spN (n:Nat)(s:Sp):List Ch:=[.r s.lo n,.r s.hi n]
theorem QPq {n:Nat}{ts:List Sp}{i:Nat}{t:Sp}(h:ts[i]? =some t):ldE (ts.map (spN n)) i 0 6=some [.r t.lo n,.r t.hi n]:=by
 simp only[ldE,List.getElem?_map,h];rfl
def QUJ:LC:=QRr
theorem QRt:QC QUJ:=QRs
def QUK:LC:=QUJ
theorem QRu:QC QUK:=QRt
def QUL:LC:=QUK
theorem QRv:QC QUL:=QRu
def QUM:LC:=QUL
theorem QRw:QC QUM:=QRv
def QUN:LC:=QUM
theorem QRx:QC QUN:=QRw
def QRy:LC:=QUN
noncomputable def QVU:QY:=mkT QRy M79 X4
theorem QRz:QC QRy:=QRx
end Go.Proofs
