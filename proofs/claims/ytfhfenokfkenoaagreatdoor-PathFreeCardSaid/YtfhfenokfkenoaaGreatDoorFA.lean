/- Columns, velocities. -/
import Derived.Test.YtfhfenokfkenoaaGreatDoorFL
namespace Go.Proofs
open Go Go.Eng
def sVv (n:Nat)(l:List (Rat×Rat)):AV:= .x false [.s 6 (l.map (QT n))]
def Qah:LC:=L95
theorem QXf:QG Qah:=QWC
theorem QPK {α:Type}{l:List α}{i:Nat}{a:α}(h:l[i]? =some a):l.drop i=a::l.drop (i+1):=by
 obtain⟨hi,e⟩:=List.getElem?_eq_some_iff.1 h
 rw[List.drop_eq_getElem_cons hi,e]
def Qai:LC:=Qah
theorem QXg:QG Qai:=QXf
def Qaj:LC:=Qai
theorem QXh:QG Qaj:=QXg
def Qak:LC:=Qaj
theorem QXi:QG Qak:=QXh
def Qal:LC:=Qak
theorem QXj:QG Qal:=QXi
def Qam:LC:=Qal
theorem QXk:QG Qam:=QXj
def Qan:LC:=Qam
theorem QXl:QG Qan:=QXk
def QXm:LC:=Qan
noncomputable def Qb3:QZ:=mkT QXm M79 X4
theorem QXn:QG QXm:=QXl
end Go.Proofs
