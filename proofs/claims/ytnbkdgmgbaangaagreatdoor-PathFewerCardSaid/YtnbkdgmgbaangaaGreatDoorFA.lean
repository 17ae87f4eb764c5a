/- Columns, velocities. -/
import Derived.Test.YtnbkdgmgbaangaaGreatDoorFL
namespace Go.Proofs
open Go Go.Eng
def sVv (n:Nat)(l:List (Rat×Rat)):AV:= .x false [.s 6 (l.map (QY n))]
def QgV:List (Nat×Ctr):=L95
theorem QcS:CtrsOK Tryz.prog QH QG QgV:=Qad
theorem QSz {α:Type}{l:List α}{i:Nat}{a:α}(h:l[i]? =some a):l.drop i=a::l.drop (i+1):=by
 obtain⟨hi,e⟩:=List.getElem?_eq_some_iff.1 h
 rw[List.drop_eq_getElem_cons hi,e]
def QgW:List (Nat×Ctr):=QgV
theorem QcT:CtrsOK Tryz.prog QH QG QgW:=QcS
def QgX:List (Nat×Ctr):=QgW
theorem QcU:CtrsOK Tryz.prog QH QG QgX:=QcT
def QgY:List (Nat×Ctr):=QgX
theorem QcV:CtrsOK Tryz.prog QH QG QgY:=QcU
def QgZ:List (Nat×Ctr):=QgY
theorem QcW:CtrsOK Tryz.prog QH QG QgZ:=QcV
def Qga:List (Nat×Ctr):=QgZ
theorem QcX:CtrsOK Tryz.prog QH QG Qga:=QcW
def Qgb:List (Nat×Ctr):=Qga
theorem QcY:CtrsOK Tryz.prog QH QG Qgb:=QcX
def QcZ:List (Nat×Ctr):=Qgb
noncomputable def QiU:QU:=mkT QcZ M79 X4
theorem Qca:CtrsOK Tryz.prog QH QG QcZ:=QcY
end Go.Proofs
