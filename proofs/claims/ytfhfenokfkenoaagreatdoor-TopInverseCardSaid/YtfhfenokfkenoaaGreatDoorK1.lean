/- track: copied, At, Speed. -/
import Derived.Test.YtfhfenokfkenoaaGreatDoorA1
import Derived.Test.YtfhfenokfkenoaaGreatDoorTk
namespace Go.Proofs
open Go Go.Eng
def Wc (k:K5):List Ch:=[.v (.int .i64 k.tick),.s 3 (lR k.n k.q)]
theorem QKf {l:List K5}{i:Nat}{k:K5}(h:l[i]? =some k):ldE (l.map Wc) i 0 1=some [.v (.int .i64 k.tick)]:=by
 simp only[ldE,List.getElem?_map,h];rfl
def Qch:LC:=L49
def QbB:LC:=Qch
noncomputable def QdL:QZ:=mkT QbB M48 X4
end Go.Proofs
namespace Go.Proofs
open Go Go.Eng
def Qci:LC:=QbB
def Qcj:LC:=Qci
def Qck:LC:=Qcj
noncomputable def QdM:QZ:=mkT Qck M48 X4
end Go.Proofs
