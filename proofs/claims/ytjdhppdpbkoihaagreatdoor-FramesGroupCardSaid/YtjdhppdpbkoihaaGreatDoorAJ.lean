/- The sample arm; the length of an arm. -/
import Derived.Test.YtjdhppdpbkoihaaGreatDoorA1
namespace Go.Proofs
open Go Go.Eng
theorem UR {l:List Int}{i:Nat}{n:Int}(h:l[i]? =some n):ldE (ints l) i 0 1=some [.v (.int .i64 n)]:=by
 simp only[ldE,ints,List.getElem?_map,h];rfl
def L50:LC:=L49
theorem QTm:QC L50:=QKP
def L51:LC:=L50
theorem QTn:QC L51:=QTm
def L52:LC:=L51
noncomputable def T52:QY:=mkT L52 M48 X4
theorem QTo:QC L52:=QTn
end Go.Proofs
