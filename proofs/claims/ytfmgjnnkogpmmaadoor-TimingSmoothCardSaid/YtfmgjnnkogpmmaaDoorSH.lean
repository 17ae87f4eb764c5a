/- Ways with points left out: plain laws. -/
import Derived.Test.YtfmgjnnkogpmmaaDoorS1
namespace Go.Proofs
open Go Go.Eng
def QP1 (go:List Rat->List Rat->Bool)(w:List (List Rat))(i:Nat):Nat->Nat
 | 0=>i+1
 | k+1=>bif Nat.ble (k+1) (i+1)then i+1 else bif go (w.getD i []) (w.getD (k+1) [])then k+1 else QP1 go w i k
def cutI (go:List Rat->List Rat->Bool)(w:List (List Rat)):Nat->Nat->List Nat
 | 0,_=>[]
 | f+1,i=>bif decide (i+1<w.length)then QP1 go w i (w.length-1)::cutI go w f (QP1 go w i (w.length-1))else[]
theorem Vr (p:Rat):Qf p=if p<0 then-p else p:=by
 unfold Qf;have k:=Rat.num_nonneg (q:=p);by_cases h:p.num<0
 ·have: ¬0<=p:=fun h'=>by have:=k.2 h';omega
  rw[if_pos h,if_pos (by grind)]
 ·have:0<=p:=k.1 (by omega);rw[if_neg h,if_neg (by grind)]
end Go.Proofs
