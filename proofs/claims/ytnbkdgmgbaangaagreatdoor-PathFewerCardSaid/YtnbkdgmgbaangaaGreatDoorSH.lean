/- Ways with points left out: plain laws. -/
import Derived.Test.YtnbkdgmgbaangaaGreatDoorCU
import Derived.Test.YtnbkdgmgbaangaaGreatDoorS2
namespace Go.Proofs
open Go Go.Eng
def QeB (go:List Rat->List Rat->Bool)(w:List (List Rat))(i:Nat):Nat->Nat
 | 0=>i+1
 | k+1=>bif Nat.ble (k+1) (i+1)then i+1 else bif go (w.getD i []) (w.getD (k+1) [])then k+1 else QeB go w i k
def cutI (go:List Rat->List Rat->Bool)(w:List (List Rat)):Nat->Nat->List Nat
 | 0,_=>[]
 | f+1,i=>bif decide (i+1<w.length)then QeB go w i (w.length-1)::cutI go w f (QeB go w i (w.length-1))else[]
end Go.Proofs
namespace Go.Proofs
open Go Go.Eng
def goV (a:QN)(ws:List (List (Rat×Rat)))(k:Nat)(p q:List Rat):Bool:=H5 a (Xj p q k) ws
theorem QhO {W:World}{O:Nat->Prop}{ρ:Env}{sz:Nat}{X Y:List (List Ch)}{vs:List Value}(hlen:X.length=Y.length)(hel: ∀(i:Nat) (x y:List Ch),X[i]? =some x->Y[i]? =some y-> ∀f,CC W O (fun _=>none) x f->CC W O (fun _=>none) y f)(h:CC W O ρ [.s sz X] vs):CC W O ρ [.s sz Y] vs:=by
 cases h with
 | s0 h=>rw[List.length_eq_zero_iff.1 hlen.symm];exact .s0 h
 | s00 h=>rw[List.length_eq_zero_iff.1 hlen.symm];exact .s00 h
 | s hr hx hcap h=>
  have back: ∀(i:Nat) (y:List Ch),Y[i]? =some y-> ∃x,X[i]? =some x:=fun i y hy=>⟨_,List.getElem?_eq_getElem (by have:=(List.getElem?_eq_some_iff.1 hy).1;omega)⟩
  rename_i f vs';rw[hlen]at hcap⊢;refine .s (f:=f) ⟨hr.lt,hr.free,fun i y hy=> ?_⟩ (fun i y hy=> ?_) hcap h
  ·obtain⟨x,hx'⟩:=back i y hy;exact hr.cell i x hx'
  ·obtain⟨x,hx'⟩:=back i y hy;exact hel i x y hx' hy _ (hx i x hx')
theorem QUj {W:World}{O:Nat->Prop}{ρ:Env}{n m:Nat}{qs:List Rat}(hb: ∀q∈qs,Bd n q){v:Value}(h:ConcV W O ρ (sR m qs) v):ConcV W O ρ (sR n qs) v:=by
 obtain⟨vs,h1,h2⟩:=h;refine⟨vs,QhO (by rw[WT,WT]) (fun i x y hx hy g hg=> ?_) h1,h2⟩;simp only[lR,List.getElem?_map]at hx hy;cases hq:qs[i]? with
 | none=>rw[hq]at hx;cases hx
 | some r=>
  rw[hq]at hx hy;cases hx;cases hy
  cases hg with
  | r _ h'=>exact .r (hb r (List.mem_of_getElem? hq)) h'
theorem QUk {w:World}{O:Nat->Prop}{ρ:Env}{n:Nat}{qs:List Rat}{v:Value}(h:ConcV w O ρ (sR n qs) v): ∀q∈qs,Bd n q:=by
 obtain⟨vs,h1,h2⟩:=h;intro q hq;obtain⟨i,hi⟩:=List.getElem?_of_mem hq
 have hi':(lR n qs)[i]? =some [.r q n]:=by simp only[lR,List.getElem?_map,hi];rfl
 generalize lR n qs=X at*;cases h1 with
 | s0 _=>simp at hi'
 | s00 _=>simp at hi'
 | s hr hx hcap h=>
  rename_i f vs';have hc:=hx i _ hi';generalize f i=g at hc;cases hc with
  | r hb _=>exact hb
def QhP:List (Nat×Ctr):=QUi
theorem QeC:CtrsOK Tryz.prog QH QG QhP:=QZD
def Qa1:List (Nat×Ctr):=QhP
theorem QZE:CtrsOK Tryz.prog QH QG Qa1:=QeC
def QUl:List (Nat×Ctr):=Qa1
noncomputable def QiQ:QU:=mkT QUl QQC X4
theorem QZF:CtrsOK Tryz.prog QH QG QUl:=QZE
end Go.Proofs
