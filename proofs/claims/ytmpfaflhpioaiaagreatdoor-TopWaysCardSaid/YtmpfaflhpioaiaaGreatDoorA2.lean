/- Clamp; Conf with a row of its own; slices.Clone of integers; gantmake.Rat. -/
import Derived.Test.YtmpfaflhpioaiaaGreatDoorAJ
set_option maxHeartbeats 200000
set_option maxRecDepth 100000
namespace Go.Proofs
open Go Go.Eng Tryz
def YV (l:List Int):Blk:= .row 3 1 (ints l)
def GI (l:List Int):Prop:=Xp (X:=Unit) T52 (oF f110) noL f110 [.x false [.v (.slice none 0 0)]] [] (fun _=>True) (fun _=>⟨[(2,.x false [.w 0 0 0])],[(0,YV l)]⟩)
theorem QBO (l:List Int):GI l=(True/\∃(_x:Unit),True/\Value.slice none 0 0=Value.slice none 0 0/\0=0/\0=0/\ints l=[]/\True):=o4
def GJ (b o c:Nat)(l:List Int):Prop:=Xp (X:=Unit) T52 (oF f110) noL f110 [.x false [.v (.slice (some ⟨b,o,none⟩) 0 c)]] [] (fun _=>True) (fun _=>⟨[(2,.x false [.w 0 0 0])],[(0,YV l)]⟩)
theorem QBP (b:Nat)(o:Nat)(c:Nat)(l:List Int):GJ b o c l=(True/\(0<=140737488355328/\0<=9223372036854775807)/\∃(_x:Unit),True/\0=0/\0=0/\3=3/\1=1/\([]=ints l\/QC [] (ints l))/\True):=o4
def L53:LC:=L52
noncomputable def T53:Qd:=mkT L53 M48 X4
theorem QjL:QF L53:=cd
theorem QUZ (l:List Int)(h:l≠[])(a:l.length*8<=140737488355328):QM (Xp (X:=Unit) T52 (oF f110) noL f110 [.x false [.s 1 (ints l)]] [] (fun _=>True) (fun _=>⟨[(2,.x false [.w 0 0 l.length])],[(0,YV l)]⟩)):=by
 refine HV (ints l≠[]/\((0+(ints l).length)*8<=140737488355328/\0+(ints l).length<=9223372036854775807)/\∃(_x:Unit),True/\0=0/\0+(ints l).length=l.length/\3=3/\1=1/\(ints l=ints l\/QC (ints l) (ints l))/\True) ?_
 simp only[R0,R1,Nat.zero_add,R2];rw[XG];exact⟨fun e=>h (by simpa [ints]using e),o3,(),rfl⟩
theorem QQv:QM (GI []):=by
 refine⟨?_⟩;rw[QBO];simp only[R0,R1];exact⟨(),rfl⟩
theorem QQw (b o c:Nat):QM (GJ b o c []):=by
 refine⟨?_⟩;rw[QBP];simp only[R0,R1];exact⟨o3,(),.inl rfl⟩
theorem QL4 {P:Program}{g:Nat}{z:List Value}{f sz:Nat}{H:HP}{K:KK}(p:SpecM P g z f [.x false [.v (.slice none 0 0)]] H K)(l: ∀b o c,SpecM P g z f [.x false [.v (.slice (some ⟨b,o,none⟩) 0 c)]] H K):SpecM P g z f [.x false [.s sz []]] H K:=by
 intro j M k w v d i e q;cases q with
 | cons h t=>
  cases t
  obtain⟨x,a,n⟩:=h;simp only[Bool.false_eq_true,if_false]at n;subst n;cases a with
  | s0 h=>exact p j M k w _ d i e (.cons ⟨_,.v rfl .nil,rfl⟩ .nil)
  | s00 h=>exact l _ _ _ j M k w _ d i e (.cons ⟨_,.v rfl .nil,rfl⟩ .nil)
  | s r u m h=>exact l _ _ _ j M k w _ d i e (.cons ⟨_,.v rfl .nil,rfl⟩ .nil)
def GK:XS:=fun a H d=>match a with
 | [.x false [.s 1 x]]=>match H d with
  | none=>some fun K=> ∃l,x=ints l/\l.length*8<=140737488355328/\K (.x false [.w d 0 l.length]) (XW [(0,d)] (QO [(0,YV l)]) H)
  | some _=>none
 | _=>none
theorem QFG:Xg 110 GK:=by
 refine⟨Qf func110 o4,fun l H d T a K e=> ?_⟩;unfold GK at a;split at a
 ·split at a
  ·rename_i f;cases a
   obtain⟨l,rfl,g,e⟩:=e;by_cases h:l=[]
   ·subst h;refine QL4 ?_ fun b o c=> ?_
    ·exact WW mT QK func110 o4 o4 j6 j6 f o4 QQv e
    ·exact WW mT QK func110 o4 o4 j6 j6 f o4 (QQw b o c) e
   ·exact WW mT QK func110 o4 o4 j6 j6 f o4 (QUZ l h g) e
  ·cases a
 ·cases a
end Go.Proofs
