/- Ways: plain laws. -/
import Derived.Test.YtfhfenokfkenoaaGreatDoorAJ
namespace Go.Proofs
open Go Go.Eng
end Go.Proofs
namespace Go.Proofs
open Go Go.Eng
def dst:List Rat->List Rat->Rat
 | p::ps,q::qs=>QW (q-p)+dst ps qs
 | _,_=>0
end Go.Proofs
namespace Go.Proofs
open Go Go.Eng
def wEl (n:Nat)(q:List Rat):List Ch:=[.s 3 (lR n q)]
def wN (n:Nat)(w:List (List Rat)):List (List Ch):=w.map (wEl n)
def sW (n:Nat)(w:List (List Rat)):AV:= .x false [.s 1 (wN n w)]
structure QFs (w:List (List Rat))(m:Nat):Prop where
  n:1<=w.length/\w.length<=60
  len: ∀q∈w,q.length=m
  m:1<=m/\m<=3
def L99:LC:=L52
def M99:List (Nat×Xt):=M48
theorem QBA {n:Nat}{w:List (List Rat)}{i:Nat}{q:List Rat}(h:w[i]? =some q):ldE (wN n w) i 0 1=some [.s 3 (lR n q)]:=by
 simp only[ldE,wN,List.getElem?_map,h];rfl
theorem QWV {a b:Rat}:Jp a b>0↔b<a:=by
 unfold Jp;by_cases h:a<b
 ·rw[if_pos h];refine⟨fun h2=>by omega,fun h2=> ?_⟩;grind
 ·rw[if_neg h];by_cases h2:a=b
  ·rw[if_pos h2];refine⟨fun h=>by omega,fun h=> ?_⟩;grind
  ·rw[if_neg h2];refine⟨fun _=> ?_,fun _=>by omega⟩;grind
theorem QZO:QF L99:=QUk
theorem QJU:Xm M99:=QCX
def QZP:LC:=L99
theorem QWW:QF QZP:=QZO
def QZQ:LC:=QZP
theorem QWX:QF QZQ:=QWW
def QZR:LC:=QZQ
theorem QWY:QF QZR:=QWX
def QZS:LC:=QZR
theorem QWZ:QF QZS:=QWY
def QWa:LC:=QZS
noncomputable def QbL:Qb:=mkT QWa M99 X4
theorem QWb:QF QWa:=QWZ
end Go.Proofs
