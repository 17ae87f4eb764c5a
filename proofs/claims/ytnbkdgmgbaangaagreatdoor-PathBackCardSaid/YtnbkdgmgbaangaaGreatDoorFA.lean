/- Columns, velocities. -/
import Derived.Test.YtnbkdgmgbaangaaGreatDoorFL
namespace Go.Proofs
open Go Go.Eng
def sVv (n:Nat)(l:List (Rat×Rat)):AV:= .x false [.s 6 (l.map (QY n))]
def QgW:List (Nat×Ctr):=L95
theorem QcT:CtrsOK Tryz.prog QH QG QgW:=Qae
theorem QS5 {α:Type}{l:List α}{i:Nat}{a:α}(h:l[i]? =some a):l.drop i=a::l.drop (i+1):=by
 obtain⟨hi,e⟩:=List.getElem?_eq_some_iff.1 h
 rw[List.drop_eq_getElem_cons hi,e]
def QgX:List (Nat×Ctr):=QgW
theorem QcU:CtrsOK Tryz.prog QH QG QgX:=QcT
def QgY:List (Nat×Ctr):=QgX
theorem QcV:CtrsOK Tryz.prog QH QG QgY:=QcU
def QgZ:List (Nat×Ctr):=QgY
theorem QcW:CtrsOK Tryz.prog QH QG QgZ:=QcV
def Qga:List (Nat×Ctr):=QgZ
theorem QcX:CtrsOK Tryz.prog QH QG Qga:=QcW
def Qgb:List (Nat×Ctr):=Qga
theorem QcY:CtrsOK Tryz.prog QH QG Qgb:=QcX
def Qgc:List (Nat×Ctr):=Qgb
theorem QcZ:CtrsOK Tryz.prog QH QG Qgc:=QcY
def Qca:List (Nat×Ctr):=Qgc
noncomputable def QiV:QU:=mkT Qca M79 X4
theorem Qcb:CtrsOK Tryz.prog QH QG Qca:=QcZ
end Go.Proofs
