/- Ways: plain laws. -/
import Derived.Test.YtnbkdgmgbaangaaGreatDoorAJ
namespace Go.Proofs
open Go Go.Eng
end Go.Proofs
namespace Go.Proofs
open Go Go.Eng
def dst:List Rat->List Rat->Rat
 | p::ps,q::qs=>Qh0 (q-p)+dst ps qs
 | _,_=>0
end Go.Proofs
namespace Go.Proofs
open Go Go.Eng
def wEl (n:Nat)(q:List Rat):List Ch:=[.s 3 (lR n q)]
def wN (n:Nat)(w:List (List Rat)):List (List Ch):=w.map (wEl n)
def L99:List (Nat×Ctr):=L52
def M99:List (Nat×XM):=M48
def Qh3:List (Nat×Ctr):=L99
def Qh4:List (Nat×Ctr):=Qh3
def Qh5:List (Nat×Ctr):=Qh4
def Qh6:List (Nat×Ctr):=Qh5
def QgQ:List (Nat×Ctr):=Qh6
noncomputable def QiS:QU:=mkT QgQ M99 X4
end Go.Proofs
