/- Digits: a number tells them. -/
import Derived.Test.YtmpfaflhpioaiaaGreatDoorRB
set_option maxHeartbeats 200000
set_option maxRecDepth 100000
namespace Go.Proofs
theorem Ud {s:Int}(e:0<=s): ∀{l m:List Int},l.length=m.length->(∀k∈l,0<=k/\k<=s)->(∀k∈m,0<=k/\k<=s)->numV s l=numV s m->l=m:=by
 intro l;induction l with
 | nil=>intro m h _ _ _;cases m with | nil=>rfl | cons=>simp at h
 | cons a l p=>
  intro m h n o f;cases m with
  | nil=>simp at h
  | cons b m=>
   have g:l.length=m.length:=by simpa using h
   have r: ∀k∈l,0<=k/\k<=s:=fun k d=>n k (by simp[d]);have i: ∀k∈m,0<=k/\k<=s:=fun k d=>o k (by simp[d]);obtain⟨q,t⟩:=Uc e r;obtain⟨u,j⟩:=Uc e i;unfold numV at f;rw[<-g]at f j;have v:=Ub e l.length;generalize (s+1)^l.length=P at*;have c:a=b:=by
    rcases Int.lt_trichotomy a b with h | h | h
    ·have:a*P+P<=b*P:=by
      have:=Int.mul_le_mul_of_nonneg_right (show a+1<=b by omega) (show 0<=P by omega);grind
     omega
    ·exact h
    ·have:b*P+P<=a*P:=by
      have:=Int.mul_le_mul_of_nonneg_right (show b+1<=a by omega) (show 0<=P by omega);grind
     omega
   subst c;rw[p g r i (by omega)]
end Go.Proofs
namespace Go.Proofs
open Go Go.Eng
theorem Qb6 (s:Int)(l:List Int):QM (Xp (X:=Unit) QhZ (oF Tryz.f66) noL Tryz.f66 [iA .i64 s,.x false [.s 1 (ints l)]] [] (fun _=>True) (fun _=>⟨[(4,.x false [.f 109 [3,2]])],[(2,.box 3 [.v (.int .i64 s)]),(3,.box 22 [.s 1 (ints l)])]⟩)):=by
 refine HV (∃(_x:Unit),True/\109=109/\3=3/\s=s/\22=22/\1=1/\ints l=ints l/\True) ?_
 simp only[R1];exact⟨(),trivial⟩
def lC:XS:=fun a H d=>match a with
 | [.x false [.v (.int .i64 s)],.x false [.s 1 x]]=>match H d,H (d+1000)with
  | none,none=>some fun K=> ∃l:List Int,x=ints l/\K (.x false [.f 109 [d+1000,d]]) (XW [(2,d),(3,d+1000)] (QO [(2,.box 3 [.v (.int .i64 s)]),(3,.box 22 [.s 1 (ints l)])]) H)
  | _,_=>none
 | _=>none
theorem QMv:Xg 66 lC:=by
 refine⟨Qf Tryz.func66 o4,fun l H d T a K f=> ?_⟩;unfold lC at a;split at a
 ·split at a
  ·rename_i s _ _ _ i j;cases a
   obtain⟨l,rfl,f⟩:=f;refine Xc (R:=[]) (N:=[(2,d),(3,d+1000)]) (Hl:=[]) uU QK Tryz.func66 o4 o4 j6
    (as0:=[iA .i64 s,.x false [.s 1 (ints l)]]) ?_ .nil rfl o6 o6 (fun p c=>by simp at c;rcases c with rfl | rfl<;>assumption) (fun x=>⟨(fun _ h=>by cases h),fun p c b g=> ?_⟩) (Qb6 s l) (fun x k=> ?_)
   ·simp[X7,X2,XZ];rfl
   ·simp at c;rcases c with rfl | rfl
    ·have e:some (Blk.box _ _)=some b:=g;cases e;rfl
    ·have e:some (Blk.box _ _)=some b:=g;cases e;rfl
   ·exact⟨_,rfl,f⟩
  ·cases a
 ·cases a
def rsW (v:Int)(j:Nat):Int:=if j=0 then v-1 else v+1
def bX (k n1 n2:Nat)(l:List Int)(i:Nat):List (Nat×AV):=[(0,.x false [.yl k]),(1,.x false [.p n1 0]),(2,.x false [.p n2 0]),(9,.x false [.s 1 (ints l)]),(10,iA .i64 l.length),(11,iA .i64 i)]
def fg (i:Nat)(v:Int)(r j:Nat):List (Nat×AV):=[(4,iA .i64 i),(5,iA .i64 v),(20,.x false [.w r 0 2]),(21,iA .i64 2),(22,iA .i64 j)]
def Qj5:List Nat:=[0,1,2,4,5,9,10,11,20,21,22]
end Go.Proofs
