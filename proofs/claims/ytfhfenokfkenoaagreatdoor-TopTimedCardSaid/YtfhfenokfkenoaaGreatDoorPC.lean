/- SinSpan, cut, Spread, Boxes, spans, between. -/
import Derived.Test.YtfhfenokfkenoaaGreatDoorPB
namespace Go.Proofs
open Go Go.Eng
def spN (n:Nat)(s:Sp):List Ch:=[.r s.lo n,.r s.hi n]
theorem QFF {n:Nat}{ts:List Sp}{i:Nat}{t:Sp}(h:ts[i]? =some t):ldE (ts.map (spN n)) i 0 6=some [.r t.lo n,.r t.hi n]:=by
 simp only[ldE,List.getElem?_map,h];rfl
def QXf:LC:=QVT
theorem QVV:QG QXf:=QVU
def QXg:LC:=QXf
theorem QVW:QG QXg:=QVV
def QXh:LC:=QXg
theorem QVX:QG QXh:=QVW
def QXi:LC:=QXh
theorem QVY:QG QXi:=QVX
def QXj:LC:=QXi
theorem QVZ:QG QXj:=QVY
def QVa:LC:=QXj
noncomputable def QYz:Qa:=mkT QVa M79 X4
theorem QVb:QG QVa:=QVZ
end Go.Proofs
