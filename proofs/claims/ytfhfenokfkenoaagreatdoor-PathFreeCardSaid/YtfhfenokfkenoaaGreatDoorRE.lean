/- Digits: a number tells them. -/
import Derived.Test.YtfhfenokfkenoaaGreatDoorRB
namespace Go.Proofs
theorem Vi {s:Int}(hs:0<=s): ∀{l m:List Int},l.length=m.length->(∀k∈l,0<=k/\k<=s)->(∀k∈m,0<=k/\k<=s)->numV s l=numV s m->l=m:=by
 intro l;induction l with
 | nil=>intro m h _ _ _;cases m with | nil=>rfl | cons=>simp at h
 | cons a l ih=>
  intro m h h1 h2 he;cases m with
  | nil=>simp at h
  | cons b m=>
   have hl:l.length=m.length:=by simpa using h
   have r1: ∀k∈l,0<=k/\k<=s:=fun k hk=>h1 k (by simp[hk]);have r2: ∀k∈m,0<=k/\k<=s:=fun k hk=>h2 k (by simp[hk]);obtain⟨a0,a1⟩:=Vh hs r1;obtain⟨b0,b1⟩:=Vh hs r2;unfold numV at he;rw[<-hl]at he b1;have hp:=Vg hs l.length;generalize (s+1)^l.length=P at*;have hab:a=b:=by
    rcases Int.lt_trichotomy a b with h | h | h
    ·have:a*P+P<=b*P:=by
      have:=Int.mul_le_mul_of_nonneg_right (show a+1<=b by omega) (show 0<=P by omega);grind
     omega
    ·exact h
    ·have:b*P+P<=a*P:=by
      have:=Int.mul_le_mul_of_nonneg_right (show b+1<=a by omega) (show 0<=P by omega);grind
     omega
   subst hab;rw[ih hl r1 r2 (by omega)]
end Go.Proofs
namespace Go.Proofs
open Go Go.Eng
theorem QU2 (s:Int)(l:List Int):QM (Xc (X:=Unit) QY7 (oF Tryz.f167) noL Tryz.f167 [iA .i64 s,.x false [.s 1 (ints l)]] [] (fun _=>True) (fun _=>⟨[(4,.x false [.f 205 [3,2]])],[(2,.box 3 [.v (.int .i64 s)]),(3,.box 22 [.s 1 (ints l)])]⟩)):=by
 refine HV ((∃(_x:Unit),True/\205=205/\3=3/\s=s/\22=22/\1=1/\ints l=ints l/\True)) ?_
 simp only[R1];exact⟨(),trivial⟩
def GB:XJ:=fun as0 H d=>match as0 with
 | [.x false [.v (.int .i64 s)],.x false [.s 1 xs]]=>match H d,H (d+1000)with
  | none,none=>some fun K=> ∃l:List Int,xs=ints l/\K (.x false [.f 205 [d+1000,d]]) (XZ [(2,d),(3,d+1000)] (QN [(2,.box 3 [.v (.int .i64 s)]),(3,.box 22 [.s 1 (ints l)])]) H)
  | _,_=>none
 | _=>none
theorem QJW:XP 167 GB:=by
 refine⟨Qb Tryz.func167 (by kernel_rfl),fun l H d T hT K hK=> ?_⟩;unfold GB at hT;split at hT
 ·split at hT
  ·rename_i s _ _ _ hd1 hd2;cases hT
   obtain⟨l,rfl,hK⟩:=hK;refine XU (R:=[]) (N:=[(2,d),(3,d+1000)]) (Hl:=[]) QRN QK Tryz.func167 (by kernel_rfl) (by kernel_rfl) (by rfl)
    (as0:=[iA .i64 s,.x false [.s 1 (ints l)]]) ?_ .nil rfl (by simp) (by simp) (fun p hp=>by simp at hp;rcases hp with rfl | rfl<;>assumption) (fun x=>⟨(fun _ h=>by cases h),fun p hp b hb=> ?_⟩) (QU2 s l) (fun x hx=> ?_)
   ·simp[Xj,Xg,XI];rfl
   ·simp at hp;rcases hp with rfl | rfl
    ·have h':some (Blk.box _ _)=some b:=hb;cases h';rfl
    ·have h':some (Blk.box _ _)=some b:=hb;cases h';rfl
   ·exact⟨_,rfl,hK⟩
  ·cases hT
 ·cases hT
def rsW (v:Int)(j:Nat):Int:=if j=0 then v-1 else v+1
def QRQ (k n1 n2:Nat)(l:List Int)(i:Nat):List (Nat×AV):=[(0,.x false [.yl k]),(1,.x false [.p n1 0]),(2,.x false [.p n2 0]),(9,.x false [.s 1 (ints l)]),(10,iA .i64 l.length),(11,iA .i64 i)]
def QRR (i:Nat)(v:Int)(r j:Nat):List (Nat×AV):=[(4,iA .i64 i),(5,iA .i64 v),(20,.x false [.w r 0 2]),(21,iA .i64 2),(22,iA .i64 j)]
def QbA:List Nat:=[0,1,2,4,5,9,10,11,20,21,22]
end Go.Proofs
