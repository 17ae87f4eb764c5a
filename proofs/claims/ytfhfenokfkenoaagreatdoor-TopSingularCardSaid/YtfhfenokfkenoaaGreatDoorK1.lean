/- track: copied, At, Speed. -/
import Derived.Test.YtfhfenokfkenoaaGreatDoorA1
import Derived.Test.YtfhfenokfkenoaaGreatDoorTk
namespace Go.Proofs
open Go Go.Eng
def WO (k:Ke):List Ch:=[.v (.int .i64 k.tick),.s 3 (lR k.n k.q)]
theorem QJR {l:List Ke}{i:Nat}{k:Ke}(h:l[i]? =some k):ldE (l.map WO) i 0 1=some [.v (.int .i64 k.tick)]:=by
 simp only[ldE,List.getElem?_map,h];rfl
def Qao:LC:=L49
def QZF:LC:=Qao
noncomputable def QbJ:Qb:=mkT QZF M48 X4
end Go.Proofs
namespace Go.Proofs
open Go Go.Eng
def Qap:LC:=QZF
def Qaq:LC:=Qap
def Qar:LC:=Qaq
noncomputable def QbK:Qb:=mkT Qar M48 X4
end Go.Proofs
