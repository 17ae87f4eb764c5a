/- Ways: plain laws. -/
import Derived.Test.YtfhfenokfkenoaaGreatDoorAJ
namespace Go.Proofs
open Go Go.Eng
end Go.Proofs
namespace Go.Proofs
open Go Go.Eng
def dst:List Rat->List Rat->Rat
 | p::ps,q::qs=>QV (q-p)+dst ps qs
 | _,_=>0
end Go.Proofs
namespace Go.Proofs
open Go Go.Eng
def wEl (n:Nat)(q:List Rat):List Ch:=[.s 3 (lR n q)]
def wN (n:Nat)(w:List (List Rat)):List (List Ch):=w.map (wEl n)
def sW (n:Nat)(w:List (List Rat)):AV:= .x false [.s 1 (wN n w)]
structure QGn (w:List (List Rat))(m:Nat):Prop where
  n:1<=w.length/\w.length<=60
  len: ∀q∈w,q.length=m
  m:1<=m/\m<=3
def L99:LC:=L52
def M99:List (Nat×X6):=M48
theorem QBq {n:Nat}{w:List (List Rat)}{i:Nat}{q:List Rat}(h:w[i]? =some q):ldE (wN n w) i 0 1=some [.s 3 (lR n q)]:=by
 simp only[ldE,wN,List.getElem?_map,h];rfl
theorem QYB {a b:Rat}:JY a b>0↔b<a:=by
 unfold JY;by_cases h:a<b
 ·rw[if_pos h];refine⟨fun h2=>by omega,fun h2=> ?_⟩;grind
 ·rw[if_neg h];by_cases h2:a=b
  ·rw[if_pos h2];refine⟨fun h=>by omega,fun h=> ?_⟩;grind
  ·rw[if_neg h2];refine⟨fun _=> ?_,fun _=>by omega⟩;grind
theorem QbM:QG L99:=QWO
theorem QKi:Xy M99:=QDI
def QbN:LC:=L99
theorem QYC:QG QbN:=QbM
def QbO:LC:=QbN
theorem QYD:QG QbO:=QYC
def QbP:LC:=QbO
theorem QYE:QG QbP:=QYD
def QbQ:LC:=QbP
theorem QYF:QG QbQ:=QYE
def QYG:LC:=QbQ
noncomputable def QdN:QZ:=mkT QYG M99 X4
theorem QYH:QG QYG:=QYF
end Go.Proofs
