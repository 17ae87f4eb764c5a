/- Clamp; Conf with a row of its own; slices.Clone of integers; gantmake.Rat. -/
import Derived.Test.YtnbkdgmgbaangaaGreatDoorAJ
namespace Go.Proofs
open Go Go.Eng
def Xu (l:List Int):Blk:= .row 3 1 (ints l)
def Gh (l:List Int):Prop:=Xe (X:=Unit) T52 noO noL Tryz.f210 [.x false [.s 1 (ints l)]] [] (fun _=>True) (fun _=>⟨[(2,.x false [.w 0 0 l.length])],[(0,Xu l)]⟩)
theorem QCO (l:List Int):Gh l=(ints l≠[]/\((0+(ints l).length)*8<=140737488355328/\0+(ints l).length<=9223372036854775807)/\∃(x:Unit),True/\0=0/\0+(ints l).length=l.length/\3=3/\1=1/\(ints l=ints l∨QC (ints l) (ints l))/\True):=by kernel_rfl
def Um (l0:List Int):Prop:=Xe (X:=Unit) T52 noO noL Tryz.f210 [.x false [.v (.slice none 0 0)]] [] (fun _=>True) (fun _=>⟨[(2,.x false [.w 0 0 0])],[(0,Xu l0)]⟩)
theorem QAE (l0:List Int):Um l0=(True/\∃(x:Unit),True/\Value.slice none 0 0=Value.slice none 0 0/\0=0/\0=0/\ints l0=[]/\True):=by kernel_rfl
def Un (b o c:Nat)(l0:List Int):Prop:=Xe (X:=Unit) T52 noO noL Tryz.f210 [.x false [.v (.slice (some ⟨b,o,none⟩) 0 c)]] [] (fun _=>True) (fun _=>⟨[(2,.x false [.w 0 0 0])],[(0,Xu l0)]⟩)
theorem QAF (b:Nat)(o:Nat)(c:Nat)(l0:List Int):Un b o c l0=(True/\(0<=140737488355328/\0<=9223372036854775807)/\∃(x:Unit),True/\0=0/\0=0/\3=3/\1=1/\([]=ints l0∨QC [] (ints l0))/\True):=by kernel_rfl
def L53:List (Nat×Ctr):=L52
noncomputable def T53:QU:=mkT L53 M48 X4
theorem Qf7:CtrsOK Tryz.prog QH QG L53:=QSx
theorem QSz (l:List Int)(h:l≠[])(hl:l.length*8<=140737488355328):QR (Gh l):=by
 refine⟨?_⟩;rw[QCO];simp only[Int.ofNat_eq_natCast,R0,R1,Nat.zero_add,Nat.le_refl,R4,R2,R3];rw[Qu];exact⟨fun e=>h (by simpa [ints]using e),by omega,(),rfl⟩
theorem QPe:QR (Um []):=by
 refine⟨?_⟩;rw[QAE];simp only[Int.ofNat_eq_natCast,R0,R1,Nat.zero_add,Nat.le_refl,R4,R2,R3];exact⟨(),rfl⟩
theorem QPf (b o c:Nat):QR (Un b o c []):=by
 refine⟨?_⟩;rw[QAF];simp only[Int.ofNat_eq_natCast,R0,R1,Nat.zero_add,Nat.le_refl,R4,R2,R3];exact⟨by omega,(),.inl rfl⟩
theorem QL3 {P:Program}{g:Nat}{tab:List Value}{f sz:Nat}{H:HP}{K:KK}(hA:SpecM P g tab f [.x false [.v (.slice none 0 0)]] H K)(hB: ∀b o c,SpecM P g tab f [.x false [.v (.slice (some ⟨b,o,none⟩) 0 c)]] H K):SpecM P g tab f [.x false [.s sz []]] H K:=by
 intro w0 M ρ w vals hg ht hs hc;cases hc with
 | cons h t=>
  cases t
  obtain⟨us,hcc,hv⟩:=h;simp only[Bool.false_eq_true,if_false]at hv;subst hv;cases hcc with
  | s0 h=>exact hA w0 M ρ w _ hg ht hs (.cons ⟨_,.v rfl .nil,rfl⟩ .nil)
  | s00 h=>exact hB _ _ _ w0 M ρ w _ hg ht hs (.cons ⟨_,.v rfl .nil,rfl⟩ .nil)
  | s hr hx hcap h=>exact hB _ _ _ w0 M ρ w _ hg ht hs (.cons ⟨_,.v rfl .nil,rfl⟩ .nil)
def Uo:XL:=fun as0 H d=>match as0 with
 | [.x false [.s 1 xs]]=>match H d with
  | none=>some fun K=> ∃l,xs=ints l/\l.length*8<=140737488355328/\K (.x false [.w d 0 l.length]) (XT [(0,d)] (QT [(0,Xu l)]) H)
  | some _=>none
 | _=>none
theorem QE5:XP Tryz.prog QH QG 210 Uo:=by
 refine⟨QK Tryz.func210 (by kernel_rfl),fun l H d T hT K hK=> ?_⟩;unfold Uo at hT;split at hT
 ·split at hT
  ·rename_i hd;cases hT
   obtain⟨l,rfl,hl,hK⟩:=hK;by_cases h:l=[]
   ·subst h;refine QL3 ?_ fun b o c=> ?_
    ·exact W2 QSy QP Tryz.func210 (by kernel_rfl) (by kernel_rfl) (by rfl) (by rfl) hd (by kernel_rfl) QPe hK
    ·exact W2 QSy QP Tryz.func210 (by kernel_rfl) (by kernel_rfl) (by rfl) (by rfl) hd (by kernel_rfl) (QPf b o c) hK
   ·exact W2 QSy QP Tryz.func210 (by kernel_rfl) (by kernel_rfl) (by rfl) (by rfl) hd (by kernel_rfl) (QSz l h hl) hK
  ·cases hT
 ·cases hT
end Go.Proofs
