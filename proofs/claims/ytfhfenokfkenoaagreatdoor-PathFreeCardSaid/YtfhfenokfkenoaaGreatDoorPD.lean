/- Box, Boxes, within; ForeContains, ForeNarrow. -/
import Derived.Test.YtfhfenokfkenoaaGreatDoorPC
open Rat renaming le_refl → Za
namespace Go.Proofs
open Go Go.Eng
def bxL (n:Nat)(l:LoV):List Ch:=[.r l.x.lo n,.r l.y.lo n,.r l.x.hi n,.r l.y.hi n]
def K4 (a:ArmV)(ls:List LoV)(l:LoV):List (List Ch):=ls.map (loN 42100000)++[loN (lb a.links.length) l]
theorem QGe (a:ArmV)(ls:List LoV)(l:LoV):(K4 a ls l).length=ls.length+1:=by simp[K4]
theorem QP5 {a:ArmV}{ls:List LoV}{l y:LoV}{i:Nat}(ha:a.links.length<=3)(h:(ls++[l])[i]? =some y): ∃m,m<=42100000/\ldE (K4 a ls l) i 0 24=some (loN m y):=by
 have key: ∃m,m<=42100000/\(K4 a ls l)[i]? =some (loN m y):=by
  unfold K4;by_cases hi:i<ls.length
  ·rw[List.getElem?_append_left hi]at h;exact⟨42100000,Nat.le_refl _,by rw[List.getElem?_append_left (by simpa using hi),List.getElem?_map,h];rfl⟩
  ·rw[List.getElem?_append_right (by omega)]at h;have:i-ls.length=0:=by
    have:=(List.getElem?_eq_some_iff.1 h).1;simp at this;omega
   rw[this]at h;cases h
   exact⟨lb a.links.length,QYP ha,by rw[List.getElem?_append_right (by simp;omega),List.length_map,this];rfl⟩
 obtain⟨m,hm,hk⟩:=key;exact⟨m,hm,by simp only[ldE,hk];rfl⟩
theorem QMW {ts:List Sp}{vs ws:List Rat}(h1:HasQ ts vs)(h2:HasQ ts ws)(i:Nat)(t t':Sp)(ht:(KA vs ws)[i]? =some t)(ht':ts[i]? =some t'):t.sub t':=by
 have hi:=(List.getElem?_eq_some_iff.1 ht').1;have l1:=h1.1;have l2:=h2.1;obtain⟨v,hv⟩: ∃v,vs[i]? =some v:=⟨_,List.getElem?_eq_getElem (by omega)⟩
 obtain⟨w,hw⟩: ∃w,ws[i]? =some w:=⟨_,List.getElem?_eq_getElem (by omega)⟩
 rw[QC1 hv hw]at ht;cases ht
 have a:=h1.2 i t' v ht' hv;have b:=h2.2 i t' w ht' hw;exact⟨Jy a.1 b.1,WQ a.2 b.2⟩
theorem QUQ (l:LoV):l.sub l:=⟨⟨Za,Za⟩,⟨Za,Za⟩,⟨Za,Za⟩,⟨Za,Za⟩⟩
theorem QYa (l:LoV)(n:Nat)(_hc:True)(K:AV->Prop)(hK:K (.x true (bxL n l))):QM (QR Qay (oF Tryz.f98) noL Tryz.f98 [.x true (loN n l)] K):=by
 refine HV ((K (AV.x true [Ch.r l.x.lo n,Ch.r l.y.lo n,Ch.r l.x.hi n,Ch.r l.y.hi n]))) ?_
 try simp only[Int.ofNat_eq_natCast,R0,R1,Nat.zero_add,Nat.le_refl,R4,R2,R3]
 exact hK
def QJA:Ctr
 | [.x true xs]=>some fun K=> ∃(l:LoV) (n:Nat),xs=loN n l/\(True)/\(K (.x true (bxL n l)))
 | _=>none
theorem QUR:QI 98 QJA:=by
 refine okL Tryz.func98 fun l T hT K hK=> ?_
 unfold QJA at hT;split at hT<;>cases hT
 obtain⟨l,n,rfl,hc,hK⟩:=hK;exact spL QYZ QK Tryz.func98 (QYa _ _ hc K hK)
def Qaz:LC:=(98,QJA)::QYY
theorem QYb:QG Qaz:= .cons QUR QP4
def Qa0:LC:=Qaz
theorem QYc:QG Qa0:=QYb
def Qa1:LC:=Qa0
theorem QYd:QG Qa1:=QYc
def QYe:LC:=Qa1
noncomputable def Qb6:QZ:=mkT QYe M79 X4
theorem QYf:QG QYe:=QYd
end Go.Proofs
