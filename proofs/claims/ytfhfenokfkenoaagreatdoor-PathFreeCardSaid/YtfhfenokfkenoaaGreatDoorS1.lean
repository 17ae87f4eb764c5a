/- Ways: plain laws. -/
import Derived.Test.YtfhfenokfkenoaaGreatDoorAJ
namespace Go.Proofs
open Go Go.Eng
end Go.Proofs
namespace Go.Proofs
open Go Go.Eng
def dst:List Rat->List Rat->Rat
 | p::ps,q::qs=>QbZ (q-p)+dst ps qs
 | _,_=>0
end Go.Proofs
namespace Go.Proofs
open Go Go.Eng
def wEl (n:Nat)(q:List Rat):List Ch:=[.s 3 (lR n q)]
def wN (n:Nat)(w:List (List Rat)):List (List Ch):=w.map (wEl n)
def sW (n:Nat)(w:List (List Rat)):AV:= .x false [.s 1 (wN n w)]
structure QWD (w:List (List Rat))(m:Nat):Prop where
  n:1<=w.length/\w.length<=60
  len: ∀q∈w,q.length=m
  m:1<=m/\m<=3
def L99:LC:=(18,Uu)::L52
def M99:List (Nat×XJ):=M48
theorem QBR {n:Nat}{w:List (List Rat)}{i:Nat}{q:List Rat}(h:w[i]? =some q):ldE (wN n w) i 0 1=some [.s 3 (lR n q)]:=by
 simp only[ldE,wN,List.getElem?_map,h];rfl
def Qbc:LC:=L99
def Qbd:LC:=Qbc
def Qbe:LC:=Qbd
def Qbf:LC:=Qbe
def Qac:LC:=Qbf
noncomputable def Qb1:QZ:=mkT Qac M99 X4
end Go.Proofs
