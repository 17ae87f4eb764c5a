/- Clamp; Conf with a row of its own; slices.Clone of integers; gantmake.Rat. -/
import Derived.Test.YtfhfenokfkenoaaGreatDoorAJ
namespace Go.Proofs
open Go Go.Eng
def X2 (l:List Int):Blk:= .row 3 1 (ints l)
def Ux (l0:List Int):Prop:=Xc (X:=Unit) T52 (oF Tryz.f206) noL Tryz.f206 [.x false [.v (.slice none 0 0)]] [] (fun _=>True) (fun _=>⟨[(2,.x false [.w 0 0 0])],[(0,X2 l0)]⟩)
theorem Gh (l0:List Int):Ux l0=(True/\∃(_x:Unit),True/\Value.slice none 0 0=Value.slice none 0 0/\0=0/\0=0/\ints l0=[]/\True):=by kernel_rfl
def Uy (b o c:Nat)(l0:List Int):Prop:=Xc (X:=Unit) T52 (oF Tryz.f206) noL Tryz.f206 [.x false [.v (.slice (some ⟨b,o,none⟩) 0 c)]] [] (fun _=>True) (fun _=>⟨[(2,.x false [.w 0 0 0])],[(0,X2 l0)]⟩)
theorem Gi (b:Nat)(o:Nat)(c:Nat)(l0:List Int):Uy b o c l0=(True/\(0<=140737488355328/\0<=9223372036854775807)/\∃(_x:Unit),True/\0=0/\0=0/\3=3/\1=1/\([]=ints l0∨QC [] (ints l0))/\True):=by kernel_rfl
def L53:LC:=L52
noncomputable def T53:QZ:=mkT L53 M48 X4
theorem QaP:QG L53:=QPD
theorem QPF (l:List Int)(h:l≠[])(hl:l.length*8<=140737488355328):QM (Xc (X:=Unit) T52 (oF Tryz.f206) noL Tryz.f206 [.x false [.s 1 (ints l)]] [] (fun _=>True) (fun _=>⟨[(2,.x false [.w 0 0 l.length])],[(0,X2 l)]⟩)):=by
 refine HV ((ints l≠[]/\((0+(ints l).length)*8<=140737488355328/\0+(ints l).length<=9223372036854775807)/\∃(_x:Unit),True/\0=0/\0+(ints l).length=l.length/\3=3/\1=1/\(ints l=ints l∨QC (ints l) (ints l))/\True)) ?_
 simp only[R0,R1,Nat.zero_add,R2];rw[Qw];exact⟨fun e=>h (by simpa [ints]using e),by omega,(),rfl⟩
theorem QMF:QM (Ux []):=by
 refine⟨?_⟩;rw[Gh];simp only[R0,R1];exact⟨(),rfl⟩
theorem QMG (b o c:Nat):QM (Uy b o c []):=by
 refine⟨?_⟩;rw[Gi];simp only[R0,R1];exact⟨by omega,(),.inl rfl⟩
theorem QIl {P:Program}{g:Nat}{tab:List Value}{f sz:Nat}{H:HP}{K:KK}(hA:SpecM P g tab f [.x false [.v (.slice none 0 0)]] H K)(hB: ∀b o c,SpecM P g tab f [.x false [.v (.slice (some ⟨b,o,none⟩) 0 c)]] H K):SpecM P g tab f [.x false [.s sz []]] H K:=by
 intro w0 M ρ w vals hg ht hs hc;cases hc with
 | cons h t=>
  cases t
  obtain⟨us,hcc,hv⟩:=h;simp only[Bool.false_eq_true,if_false]at hv;subst hv;cases hcc with
  | s0 h=>exact hA w0 M ρ w _ hg ht hs (.cons ⟨_,.v rfl .nil,rfl⟩ .nil)
  | s00 h=>exact hB _ _ _ w0 M ρ w _ hg ht hs (.cons ⟨_,.v rfl .nil,rfl⟩ .nil)
  | s hr hx hcap h=>exact hB _ _ _ w0 M ρ w _ hg ht hs (.cons ⟨_,.v rfl .nil,rfl⟩ .nil)
def Uz:XJ:=fun as0 H d=>match as0 with
 | [.x false [.s 1 xs]]=>match H d with
  | none=>some fun K=> ∃l,xs=ints l/\l.length*8<=140737488355328/\K (.x false [.w d 0 l.length]) (XZ [(0,d)] (QN [(0,X2 l)]) H)
  | some _=>none
 | _=>none
theorem QCt:XP 206 Uz:=by
 refine⟨Qb Tryz.func206 (by kernel_rfl),fun l H d T hT K hK=> ?_⟩;unfold Uz at hT;split at hT
 ·split at hT
  ·rename_i hd;cases hT
   obtain⟨l,rfl,hl,hK⟩:=hK;by_cases h:l=[]
   ·subst h;refine QIl ?_ fun b o c=> ?_
    ·exact KI QPE QK Tryz.func206 (by kernel_rfl) (by kernel_rfl) (by rfl) (by rfl) hd (by kernel_rfl) QMF hK
    ·exact KI QPE QK Tryz.func206 (by kernel_rfl) (by kernel_rfl) (by rfl) (by rfl) hd (by kernel_rfl) (QMG b o c) hK
   ·exact KI QPE QK Tryz.func206 (by kernel_rfl) (by kernel_rfl) (by rfl) (by rfl) hd (by kernel_rfl) (QPF l h hl) hK
  ·cases hT
 ·cases hT
end Go.Proofs
