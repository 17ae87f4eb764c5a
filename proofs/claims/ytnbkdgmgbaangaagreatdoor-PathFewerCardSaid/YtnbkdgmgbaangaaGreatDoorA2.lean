/- Clamp; Conf with a row of its own; slices.Clone of integers; gantmake.Rat. -/
import Derived.Test.YtnbkdgmgbaangaaGreatDoorAJ
namespace Go.Proofs
open Go Go.Eng
def Xv (l:List Int):Blk:= .row 3 1 (ints l)
def Gl (l:List Int):Prop:=Xe (X:=Unit) T52 noO noL Tryz.f210 [.x false [.s 1 (ints l)]] [] (fun _=>True) (fun _=>⟨[(2,.x false [.w 0 0 l.length])],[(0,Xv l)]⟩)
theorem QCU (l:List Int):Gl l=(ints l≠[]/\((0+(ints l).length)*8<=140737488355328/\0+(ints l).length<=9223372036854775807)/\∃(x:Unit),True/\0=0/\0+(ints l).length=l.length/\3=3/\1=1/\(ints l=ints l∨QC (ints l) (ints l))/\True):=by kernel_rfl
def Uo (l0:List Int):Prop:=Xe (X:=Unit) T52 noO noL Tryz.f210 [.x false [.v (.slice none 0 0)]] [] (fun _=>True) (fun _=>⟨[(2,.x false [.w 0 0 0])],[(0,Xv l0)]⟩)
theorem QAJ (l0:List Int):Uo l0=(True/\∃(x:Unit),True/\Value.slice none 0 0=Value.slice none 0 0/\0=0/\0=0/\ints l0=[]/\True):=by kernel_rfl
def Up (b o c:Nat)(l0:List Int):Prop:=Xe (X:=Unit) T52 noO noL Tryz.f210 [.x false [.v (.slice (some ⟨b,o,none⟩) 0 c)]] [] (fun _=>True) (fun _=>⟨[(2,.x false [.w 0 0 0])],[(0,Xv l0)]⟩)
theorem QAK (b:Nat)(o:Nat)(c:Nat)(l0:List Int):Up b o c l0=(True/\(0<=140737488355328/\0<=9223372036854775807)/\∃(x:Unit),True/\0=0/\0=0/\3=3/\1=1/\([]=ints l0∨QC [] (ints l0))/\True):=by kernel_rfl
def L53:List (Nat×Ctr):=L52
noncomputable def T53:QU:=mkT L53 M48 X4
theorem Qf6:CtrsOK Tryz.prog QH QG L53:=QSr
theorem QSt (l:List Int)(h:l≠[])(hl:l.length*8<=140737488355328):QR (Gl l):=by
 refine⟨?_⟩;rw[QCU];simp only[Int.ofNat_eq_natCast,R0,R1,Nat.zero_add,Nat.le_refl,R4,R2,R3];rw[Qu];exact⟨fun e=>h (by simpa [ints]using e),by omega,(),rfl⟩
theorem QPY:QR (Uo []):=by
 refine⟨?_⟩;rw[QAJ];simp only[Int.ofNat_eq_natCast,R0,R1,Nat.zero_add,Nat.le_refl,R4,R2,R3];exact⟨(),rfl⟩
theorem QPZ (b o c:Nat):QR (Up b o c []):=by
 refine⟨?_⟩;rw[QAK];simp only[Int.ofNat_eq_natCast,R0,R1,Nat.zero_add,Nat.le_refl,R4,R2,R3];exact⟨by omega,(),.inl rfl⟩
theorem QL5 {P:Program}{g:Nat}{tab:List Value}{f sz:Nat}{H:HP}{K:KK}(hA:SpecM P g tab f [.x false [.v (.slice none 0 0)]] H K)(hB: ∀b o c,SpecM P g tab f [.x false [.v (.slice (some ⟨b,o,none⟩) 0 c)]] H K):SpecM P g tab f [.x false [.s sz []]] H K:=by
 intro w0 M ρ w vals hg ht hs hc;cases hc with
 | cons h t=>
  cases t
  obtain⟨us,hcc,hv⟩:=h;simp only[Bool.false_eq_true,if_false]at hv;subst hv;cases hcc with
  | s0 h=>exact hA w0 M ρ w _ hg ht hs (.cons ⟨_,.v rfl .nil,rfl⟩ .nil)
  | s00 h=>exact hB _ _ _ w0 M ρ w _ hg ht hs (.cons ⟨_,.v rfl .nil,rfl⟩ .nil)
  | s hr hx hcap h=>exact hB _ _ _ w0 M ρ w _ hg ht hs (.cons ⟨_,.v rfl .nil,rfl⟩ .nil)
def Uq:XM:=fun as0 H d=>match as0 with
 | [.x false [.s 1 xs]]=>match H d with
  | none=>some fun K=> ∃l,xs=ints l/\l.length*8<=140737488355328/\K (.x false [.w d 0 l.length]) (XU [(0,d)] (QT [(0,Xv l)]) H)
  | some _=>none
 | _=>none
theorem QFC:XQ Tryz.prog QH QG 210 Uq:=by
 refine⟨QK Tryz.func210 (by kernel_rfl),fun l H d T hT K hK=> ?_⟩;unfold Uq at hT;split at hT
 ·split at hT
  ·rename_i hd;cases hT
   obtain⟨l,rfl,hl,hK⟩:=hK;by_cases h:l=[]
   ·subst h;refine QL5 ?_ fun b o c=> ?_
    ·exact W3 QSs QP Tryz.func210 (by kernel_rfl) (by kernel_rfl) (by rfl) (by rfl) hd (by kernel_rfl) QPY hK
    ·exact W3 QSs QP Tryz.func210 (by kernel_rfl) (by kernel_rfl) (by rfl) (by rfl) hd (by kernel_rfl) (QPZ b o c) hK
   ·exact W3 QSs QP Tryz.func210 (by kernel_rfl) (by kernel_rfl) (by rfl) (by rfl) hd (by kernel_rfl) (QSt l h hl) hK
  ·cases hT
 ·cases hT
end Go.Proofs
