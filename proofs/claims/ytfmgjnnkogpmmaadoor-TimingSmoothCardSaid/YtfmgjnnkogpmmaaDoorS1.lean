/- Ways: plain laws. -/
import Derived.Test.YtfmgjnnkogpmmaaDoorAJ
namespace Go.Proofs
open Go Go.Eng
end Go.Proofs
namespace Go.Proofs
open Go Go.Eng
def dst:List Rat->List Rat->Rat
 | p::ps,q::qs=>Qf (q-p)+dst ps qs
 | _,_=>0
end Go.Proofs
namespace Go.Proofs
open Go Go.Eng
def wEl (n:Nat)(q:List Rat):List Ch:=[.s 3 (lR n q)]
def wN (n:Nat)(w:List (List Rat)):List (List Ch):=w.map (wEl n)
def sW (n:Nat)(w:List (List Rat)):AV:= .x false [.s 1 (wN n w)]
structure QOQ (w:List (List Rat))(m:Nat):Prop where
  n:1<=w.length/\w.length<=60
  len: ∀q∈w,q.length=m
  m:1<=m/\m<=3
def L99:LC:=(16,Vl)::L52
def M99:List (Nat×YA):=M48
theorem Gg {n:Nat}{w:List (List Rat)}{i:Nat}{q:List Rat}(h:w[i]? =some q):ldE (wN n w) i 0 1=some [.s 3 (lR n q)]:=by
 simp only[ldE,wN,List.getElem?_map,h];rfl
theorem QKp {a b:Rat}:JS a b<0↔a<b:=by
 unfold JS;by_cases h:a<b
 ·rw[if_pos h];exact⟨fun _=>h,fun _=>by omega⟩
 ·rw[if_neg h];refine⟨fun h2=> ?_,fun h2=>absurd h2 h⟩;split at h2<;>omega
theorem QKq {a b:Rat}:JS a b>0↔b<a:=by
 unfold JS;by_cases h:a<b
 ·rw[if_pos h];refine⟨fun h2=>by omega,fun h2=> ?_⟩;grind
 ·rw[if_neg h];by_cases h2:a=b
  ·rw[if_pos h2];refine⟨fun h=>by omega,fun h=> ?_⟩;grind
  ·rw[if_neg h2];refine⟨fun _=> ?_,fun _=>by omega⟩;grind
theorem QRE:QN L99:= .cons QAn QRD
theorem Vp:YI M99:=VA
def QRF:LC:=L99
theorem QPn:QN QRF:=QRE
def QRG:LC:=QRF
theorem QPo:QN QRG:=QPn
def QRH:LC:=QRG
theorem QPp:QN QRH:=QPo
def QRI:LC:=QRH
theorem QPq:QN QRI:=QPp
def QPr:LC:=QRI
noncomputable def QRk:Qh:=mkT QPr M99 X4
theorem QPs:QN QPr:=QPq
end Go.Proofs
