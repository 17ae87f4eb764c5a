/- Box, Boxes, within; ForeContains, ForeNarrow. -/
import Derived.Test.YtmpfaflhpioaiaaGreatDoorPC
open _root_ renaming List → A
open Rat renaming le_refl → Za
set_option maxHeartbeats 200000
set_option maxRecDepth 100000
namespace Go.Proofs
open Go Go.Eng
def bxL (n:Nat)(l:LoV):A Ch:=[.r l.x.lo n,.r l.y.lo n,.r l.x.hi n,.r l.y.hi n]
def Vw (a:ArmV)(b:A LoV)(l:LoV):A (A Ch):=b.map (loN 42100000)++[loN (lb a.za.length) l]
theorem QJi (a:ArmV)(b:A LoV)(l:LoV):(Vw a b l).length=b.length+1:=by simp[Vw]
theorem zN {a:ArmV}{b:A LoV}{l y:LoV}{i:Nat}(d:a.za.length<=3)(h:(b++[l])[i]? =some y): ∃m,m<=42100000/\ldE (Vw a b l) i 0 24=some (loN m y):=by
 have k: ∃m,m<=42100000/\(Vw a b l)[i]? =some (loN m y):=by
  unfold Vw;by_cases c:i<b.length
  ·rw[A.getElem?_append_left c]at h;exact⟨42100000,Nat.le_refl _,by rw[A.getElem?_append_left ((j9 c)),A.getElem?_map,h];rfl⟩
  ·rw[A.getElem?_append_right o3]at h;have:i-b.length=0:=by
    have:=(A.getElem?_eq_some_iff.1 h).1;simp at this;omega
   rw[this]at h;cases h
   exact⟨lb a.za.length,Qgq d,by rw[A.getElem?_append_right o9,A.length_map,this];rfl⟩
 obtain⟨m,f,e⟩:=k;exact⟨m,f,by simp only[ldE,e];rfl⟩
theorem QRD {d:A Sp}{vs ws:A Rat}(h1:HasQ d vs)(e:HasQ d ws)(i:Nat)(t c:Sp)(f:(Kz vs ws)[i]? =some t)(h:d[i]? =some c):t.sub c:=by
 have g:=(A.getElem?_eq_some_iff.1 h).1;have l:=h1.1;have j:=e.1;obtain⟨v,hv⟩: ∃v,vs[i]? =some v:=⟨_,A.getElem?_eq_getElem o3⟩
 obtain⟨w,hw⟩: ∃w,ws[i]? =some w:=⟨_,A.getElem?_eq_getElem o3⟩
 rw[tO hv hw]at f;cases f
 have a:=h1.2 i c v h hv;have b:=e.2 i c w h hw;exact⟨Wd a.1 b.1,W6 a.2 b.2⟩
theorem QbL (l:LoV):l.sub l:=⟨⟨Za,Za⟩,⟨Za,Za⟩,⟨Za,Za⟩,⟨Za,Za⟩⟩
theorem Qg1 (l:LoV)(n:Nat)(_hc:True)(K:AV->Prop)(h:K (.x true (bxL n l))):QM (QN Qjr (oF Tryz.f108) noL Tryz.f108 [.x true (loN n l)] K):=by
 refine HV (K (AV.x true [Ch.r l.x.lo n,Ch.r l.y.lo n,Ch.r l.x.hi n,Ch.r l.y.hi n])) ?_
 try simp only[Int.ofNat_eq_natCast,R0,R1,Nat.zero_add,Nat.le_refl,R4,R2,R3]
 exact h
def fb:Ctr
 | [.x true x]=>some fun K=> ∃(l:LoV) (n:Nat),x=loN n l/\(True)/\(K (.x true (bxL n l)))
 | _=>none
theorem QbM:QH 108 fb:=by
 refine okL Tryz.func108 fun l T a K h=> ?_
 unfold fb at a;split at a<;>cases a
 obtain⟨l,n,rfl,b,h⟩:=h;exact spL Qg0 QK Tryz.func108 (Qg1 _ _ b K h)
def Qjs:LC:=(108,fb)::sf
theorem Qg2:QF Qjs:= .cons QbM QVb
def Qjt:LC:=Qjs
theorem Qg3:QF Qjt:=Qg2
def Qju:LC:=Qjt
theorem Qg4:QF Qju:=Qg3
def bR:LC:=Qju
noncomputable def Qjv:Qd:=mkT bR M79 X4
theorem eI:QF bR:=Qg4
theorem Qg5:Qr Qjv:=QP eI Qq Qb
end Go.Proofs
