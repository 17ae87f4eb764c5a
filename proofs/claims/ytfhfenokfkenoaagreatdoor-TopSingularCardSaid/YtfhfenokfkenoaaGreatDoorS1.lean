/- Ways: plain laws. -/
import Derived.Test.YtfhfenokfkenoaaGreatDoorAJ
namespace Go.Proofs
open Go Go.Eng
end Go.Proofs
namespace Go.Proofs
open Go Go.Eng
def dst:List Rat->List Rat->Rat
 | p::ps,q::qs=>QW (q-p)+dst ps qs
 | _,_=>0
end Go.Proofs
namespace Go.Proofs
open Go Go.Eng
def wEl (n:Nat)(q:List Rat):List Ch:=[.s 3 (lR n q)]
def wN (n:Nat)(w:List (List Rat)):List (List Ch):=w.map (wEl n)
def sW (n:Nat)(w:List (List Rat)):AV:= .x false [.s 1 (wN n w)]
structure QFs (w:List (List Rat))(m:Nat):Prop where
  n:1<=w.length/\w.length<=60
  len: ∀q∈w,q.length=m
  m:1<=m/\m<=3
def L99:LC:=L52
def M99:List (Nat×Xt):=M48
theorem QBA {n:Nat}{w:List (List Rat)}{i:Nat}{q:List Rat}(h:w[i]? =some q):ldE (wN n w) i 0 1=some [.s 3 (lR n q)]:=by
 simp only[ldE,wN,List.getElem?_map,h];rfl
theorem QWX {a b:Rat}:Jp a b>0↔b<a:=by
 unfold Jp;by_cases h:a<b
 ·rw[if_pos h];refine⟨fun h2=>by omega,fun h2=> ?_⟩;grind
 ·rw[if_neg h];by_cases h2:a=b
  ·rw[if_pos h2];refine⟨fun h=>by omega,fun h=> ?_⟩;grind
  ·rw[if_neg h2];refine⟨fun _=> ?_,fun _=>by omega⟩;grind
theorem QZP:QF L99:=QUn
theorem QJU:Xm M99:=QCX
def QZQ:LC:=L99
theorem QWY:QF QZQ:=QZP
def QZR:LC:=QZQ
theorem QWZ:QF QZR:=QWY
def QZS:LC:=QZR
theorem QWa:QF QZS:=QWZ
def QZT:LC:=QZS
theorem QWb:QF QZT:=QWa
def QWc:LC:=QZT
noncomputable def QbL:Qb:=mkT QWc M99 X4
theorem QWd:QF QWc:=QWb
end Go.Proofs
