/- Natural numbers: windows of digits, halving: plain facts. -/
import Derived.Test.YtfmgjnnkogpmmaaDoorN2
import Derived.WalkKit
open Int renaming ofNat → Za, toNat_natCast → Zf, ofNat_eq_natCast → Zs, eq_ofNat_of_zero_le → Zu
open Go.IntKind renaming i64 → Zb, u64 → Zc, u32 → Zo, u8 → Zw
open Go.Value renaming int → Zd
open Array renaming mk → Ze
open Nat renaming div_div_eq_div_mul → Zg, pow_pos → Zi, pow_add → Zj, gcd → Zk, pow_zero → Zl, div_add_mod → Zm, pow_le_pow_right → Zn, mod_eq_of_lt → Zp, pow_succ → Zx, mul_assoc → Zy, pow_succ' → Yb, lt_or_ge → Ye, div_eq_of_lt → Yf, mod_lt → Yi, lt_of_le_of_lt → Yj, pow_mul → Yk, mul_div_cancel_left → Yl, mul_add → Ym, div_one → Yn, mul_comm → Yo, gcd_comm → Yp, eq_of_beq_eq_true → Yq, div_lt_of_lt_mul → Yr, gcd_le_left → Ys, div_le_self → Yt, testBit_two_pow_mul_add → Yu, le_refl → Yw, mod_mul → Yy
open List renaming replicate → Zh, map → Zq, getElem?_set_ne → Zr, take_of_length_le → Ya, getElem?_eq_none → Yc, getElem?_set → Yd, take → Yg, drop → Yh, drop_zero → Yv, length_set → Yx
open Go.Eng.Ch renaming v → Zt
open UInt8 renaming ofNat → Zv, toNat_ofNat' → Zz
namespace Go.Proofs
open Go Go.Eng
structure Win (B:Nat)(us:List Nat)(o n v:Nat):Prop where
  lt:v<B^n
  le:o+n<=us.length
  get: ∀i,i<n->us[o+i]? =some (v/B^i % B)

theorem Win.zero {B:Nat}{us:List Nat}{o v:Nat}(h:Win B us o 0 v):v=0:=by
 have:=h.lt;rw[Zl]at this;omega
theorem Win.less {B:Nat}{us:List Nat}{o n v:Nat}(h:Win B us o (n+1) v)(hv:v<B^n):Win B us o n v:=
 ⟨hv,by have:=h.le;omega,fun i hi=>h.get i (by omega)⟩
theorem Win.skip {B:Nat}{us:List Nat}{o n v k:Nat}(h:Win B us o n v)(hk:k<=n):Win B us (o+k) (n-k) (v/B^k):=by
 have h1:=h.le;refine⟨?_,by omega,fun i hi=> ?_⟩
 ·apply Yr;rw[<-Zj,show k+(n-k)=n by omega];exact h.lt
 ·rw[Nat.add_assoc,h.get (k+i) (by omega),Zg,<-Zj]
theorem Win.of_fd {B n v:Nat}{us:List Nat}(hv:v<B^n)(h:us=fd B n v):Win B us 0 n v:=by
 subst h;exact⟨hv,by rw[Qj];omega,fun i hi=>by rw[Nat.zero_add];exact JE hi⟩
theorem Win.uniq {B:Nat}{us:List Nat}{o n v w:Nat}(h:Win B us o n v)(k:Win B us o n w):v=w:=by
 have e:fd B n v=fd B n w:=by
  apply List.ext_getElem?
  intro i;by_cases hi:i<n
  ·rw[JE hi,JE hi,<-h.get i hi,k.get i hi]
  ·rw[Yc (by rw[Qj];omega),Yc (by rw[Qj];omega)]
 rw[<-Qt h.lt,<-Qt k.lt,e]
theorem Win.win {B:Nat}{us:List Nat}{o n v:Nat}(h:Win B us o n v):(us.drop o).take n=fd B n v:=by
 have h1:=h.le;apply List.ext_getElem?
 intro i;by_cases hi:i<n
 ·rw[JE hi,List.getElem?_take,if_pos hi,List.getElem?_drop,h.get i hi]
 ·rw[Yc (by simp;omega),Yc (by rw[Qj];omega)]
theorem Win.move {B:Nat}{us:List Nat}{o n v:Nat}(h:Win B us o n v):Win B ((us.drop o).take n) 0 n v:= .of_fd h.lt h.win
theorem Win.same {B:Nat}{us ws:List Nat}{o n v:Nat}(h:Win B us o n v)(hl:ws.length=us.length)(hg: ∀i,i<n->ws[o+i]? =us[o+i]?):Win B ws o n v:=
 ⟨h.lt,by rw[hl];exact h.le,fun i hi=>by rw[hg i hi];exact h.get i hi⟩
theorem VO {v n:Nat}:vl v<=n↔v<18446744073709551616^n:=by
 have e:(18446744073709551616:Nat)^n=256^(8*n):=by rw[show(18446744073709551616:Nat)=256^8 from rfl,<-Yk]
 rw[e,<-Qa];unfold vl;omega
theorem W2 (v:Nat):v<18446744073709551616^vl v:=VO.1 (Yw _)
theorem Jx {v:Nat}:vl v=0↔v=0:=by
 constructor
 ·intro h;have:=W2 v;rw[h,Zl]at this;omega
 ·rintro rfl;have:=VO (v:=0) (n:=0);rw[Zl]at this;omega
theorem QBY {u v:Nat}(h:u<=v):vl u<=vl v:=VO.2 (Yj h (W2 v))
theorem QC7 {us:List Nat}{o:Nat}: ∀{n v:Nat},Win 18446744073709551616 us o n v->WU us o n=vl v:=by
 intro n;induction n with
 | zero=>intro v h;rw[h.zero,Jx.2 rfl];rfl
 | succ n ih=>
  intro v h;unfold WU;rw[h.get n (by omega)];have hlt:=h.lt;have hp:0<(18446744073709551616:Nat)^n:=Zi (by decide);have hd:v/18446744073709551616^n<18446744073709551616:=by
   apply Yr;rw[<-Zx];exact hlt
  rw[Zp hd,Option.getD_some];split
  ·rename_i h0;have hv:v<18446744073709551616^n:=by
    rcases Ye v (18446744073709551616^n)with h' | h'
    ·exact h'
    ·have:=Nat.div_pos h' hp;omega
   exact ih (h.less hv)
  ·rename_i h0;have h1: ¬vl v<=n:=fun h'=>h0 (Yf (VO.1 h'));have h2:vl v<=n+1:=VO.2 hlt;omega
theorem Win.cut {us:List Nat}{o n v:Nat}(h:Win 18446744073709551616 us o n v):Win 18446744073709551616 us o (vl v) v:=
 have h1:vl v<=n:=VO.2 h.lt
 ⟨W2 v,by have:=h.le;omega,fun i hi=>h.get i (by omega)⟩
def IsEv (v r:Nat):Prop:= ∃q,v=2^r*(2*q+1)
theorem IsEv.ne {v r:Nat}(h:IsEv v r):v≠0:=by
 obtain⟨q,rfl⟩:=h;have:0<2^r*(2*q+1):=Nat.mul_pos (Zi (by decide)) (by omega);omega
theorem IsEv.odd {v r:Nat}(h:IsEv v r):v/2^r % 2=1:=by
 obtain⟨q,rfl⟩:=h;rw[Yl _ (Zi (by decide))];omega
theorem IsEv.back {v r:Nat}(h:IsEv v r):v=2^r*(v/2^r):=by
 obtain⟨q,rfl⟩:=h;rw[Yl _ (Zi (by decide))]
theorem IsEv.lt {v r n:Nat}(h:IsEv v r)(hv:v<2^n):r<n:=by
 obtain⟨q,rfl⟩:=h;rcases Ye r n with h' | h'
 ·exact h'
 ·have h1:2^n<=2^r:=Zn (by decide) h';have h2:2^r*1<=2^r*(2*q+1):=Nat.mul_le_mul_left _ (by omega);omega
theorem IsEv.ex: ∀{v:Nat},v≠0-> ∃r,IsEv v r:=by
 intro v;induction v using Nat.strongRecOn with
 | _ v ih=>
  intro h;by_cases h2:v % 2=1
  ·exact⟨0,v/2,by rw[Zl];omega⟩
  ·obtain⟨r,q,hq⟩:=ih (v/2) (by omega) (by omega);refine⟨r+1,q,?_⟩;rw[Zx,Yo (2^r) 2,Zy,<-hq];omega
theorem IsEv.digit {v i r d:Nat}(h0:v % 18446744073709551616^i=0)(hd:v/18446744073709551616^i % 18446744073709551616=d)(h:IsEv d r)(hr:r<64):IsEv v (64*i+r):=by
  obtain⟨q,hq⟩:=h;have e0:v=18446744073709551616^i*(v/18446744073709551616^i):=by
    have:=Zm v (18446744073709551616^i);omega
  have e1:=Zm (v/18446744073709551616^i) 18446744073709551616;rw[hd,hq]at e1;generalize v/18446744073709551616^i/18446744073709551616=k at e1;have e2:(18446744073709551616:Nat)=2^r*(2*2^(63-r)):=by
    rw[<-Yb,<-Zj,show r+(63-r).succ=64 by omega]
  have e3:(18446744073709551616:Nat)^i=2^(64*i):=by rw[show(18446744073709551616:Nat)=2^64 from rfl,<-Yk]
  refine⟨2^(63-r)*k+q,?_⟩;rw[e0,<-e1,e3,Zj,Zy];congr 1;conv=>lhs;rw[e2]
  grind

theorem QMZ {x r q:Nat}(hx:x=2^r*(2*q+1))(hl:x<18446744073709551616):x&&&(18446744073709551616-x)=2^r:=by
  have h0:0<x:=by
    have:0<2^r*(2*q+1):=Nat.mul_pos (Zi (by decide)) (by omega);omega
  have hr:r<64:=IsEv.lt (n:=64) ⟨q,hx⟩ hl;have e1:(18446744073709551616:Nat)-x=2^64-((x-1)+1):=by rw[show x-1+1=x by omega]
  have e2:x-1=2^r*(2*q)+(2^r-1):=by
    rw[hx,Ym,Nat.mul_one];have:0<2^r:=Zi (by decide);omega
  have e3:x=2^r*(2*q+1)+0:=by rw[hx];rfl
  apply Nat.eq_of_testBit_eq;intro i;rw[Nat.testBit_and,e1,Nat.testBit_two_pow_sub_succ (by show x-1<18446744073709551616;omega),e2,Yu _ (by have:0<2^r:=Zi (by decide);omega),Nat.testBit_two_pow];conv=>lhs;lhs;rw[e3]
  rw[Yu _ (Zi (by decide))];by_cases h1:i<r
  · rw[if_pos h1,if_pos h1];simp;omega
  · rw[if_neg h1,if_neg h1];by_cases h2:r=i
    · subst h2;simp[hr]
    · obtain⟨j,hj⟩: ∃j,i-r=j+1:=⟨i-r-1,by omega⟩;rw[hj,Nat.testBit_succ,Nat.testBit_succ];have:(2*q+1)/2=q:=by omega
      rw[this,Yl _ (by decide:0<2)];simp[h2];intro h _;exact h

theorem QC8 {w s:Nat}(hs:s<=64):w/2^s % 18446744073709551616=w % 18446744073709551616/2^s+2^(64-s)*(w/18446744073709551616 % 2^s):=by
 have hB:(18446744073709551616:Nat)=2^s*2^(64-s):=by rw[<-Zj,show s+(64-s)=64 by omega]
 have hp:0<2^s:=Zi (by decide);have hq:0<2^(64-s):=Zi (by decide);have e1:w % 18446744073709551616/2^s=w/2^s % 2^(64-s):=by
  conv=>lhs;rw[hB]
  rw[Nat.mod_mul_right_div_self]
 have e2:w/18446744073709551616=w/2^s/2^(64-s):=by
  conv=>lhs;rw[hB]
  rw[Zg]
 rw[e1,e2];generalize w/2^s=v;have e3:v % 18446744073709551616=v % (2^(64-s)*2^s):=by rw[Yo,<-hB]
 rw[e3,Yy]
theorem QHl {B u d i:Nat}(hB:0<B){c:Nat}(hc:u % B^i+d % B^i=(u+d) % B^i+B^i*c):
    u/B^i % B+d/B^i % B+c=(u+d)/B^i % B+B*((u/B^i % B+d/B^i % B+c)/B)/\
    u % B^(i+1)+d % B^(i+1)=(u+d) % B^(i+1)+B^(i+1)*((u/B^i % B+d/B^i % B+c)/B):=by
  have hp:0<B^i:=Zi hB;have eu:=Zm u (B^i);have ed:=Zm d (B^i);have es:=Zm (u+d) (B^i);have e0:(u+d)/B^i=u/B^i+d/B^i+c:=by
    have:B^i*((u+d)/B^i)=B^i*(u/B^i+d/B^i+c):=by rw[Ym,Ym];omega
    exact Nat.eq_of_mul_eq_mul_left hp this
  have e1:(u+d)/B^i % B=(u/B^i % B+d/B^i % B+c) % B:=by
    rw[e0];rw[Nat.add_mod (u/B^i+d/B^i) c,Nat.add_mod (u/B^i) (d/B^i),<-Nat.add_mod]
  have f: ∀y,y % B^(i+1)=y % B^i+B^i*(y/B^i % B):=fun y=>by rw[Zx,Yy]
  have hm:=Zm (u/B^i % B+d/B^i % B+c) B;refine⟨by rw[e1];omega,?_⟩;rw[f,f,f,e1,Zx,Zy];generalize u/B^i % B=x at hm⊢;generalize d/B^i % B=y at hm⊢;generalize (x+y+c)/B=q at hm⊢;generalize (x+y+c) % B=r at hm⊢;have:B^i*x+B^i*y+B^i*c=B^i*(B*q)+B^i*r:=by rw[<-Ym,<-Ym,<-Ym,hm]
  omega

theorem QJl {u v:Nat}(h:vl u<vl v):u<v:=by
 rcases Ye u v with h' | h'
 ·exact h'
 ·have:=QBY h';omega
theorem Um {B u v i:Nat}(hB:0<B)(h:u/B^(i+1)=v/B^(i+1))(hd:u/B^i % B<v/B^i % B):u<v:=by
  have hp:0<B^i:=Zi hB;have h1:=Zm (u/B^i) B;have h2:=Zm (v/B^i) B;rw[Zx,<-Zg,<-Zg]at h;rw[h]at h1;have h3:u/B^i<v/B^i:=by omega
  rcases Ye u v with h' | h'
  · exact h'
  · have:=Nat.div_le_div_right (c:=B^i) h';omega
theorem QC9 {B u v i:Nat}(h:u/B^(i+1)=v/B^(i+1))(hd:u/B^i % B=v/B^i % B):u/B^i=v/B^i:=by
 have h1:=Zm (u/B^i) B;have h2:=Zm (v/B^i) B;rw[Zx,<-Zg,<-Zg]at h;rw[h,hd]at h1;omega
theorem QDA {x y:Nat}(hy:y % 2=1):Zk (2*x) y=Zk x y:=by
 have:Nat.Coprime 2 y:=by
  unfold Nat.Coprime;rw[Nat.gcd_rec,hy];rfl
 exact Nat.Coprime.gcd_mul_left_cancel x this
theorem Kc {x y:Nat}(r:Nat)(hy:y % 2=1):Zk (2^r*x) y=Zk x y:=by
 induction r with
 | zero=>rw[Zl,Nat.one_mul]
 | succ r ih=>rw[Yb,Zy,QDA hy,ih]
theorem QDB {x y r s:Nat}(hx:x % 2=1)(hy:y % 2=1):Zk (2^r*x) (2^s*y)=2^min r s*Zk x y:=by
 rcases Nat.le_total r s with h | h
 ·rw[Nat.min_eq_left h,show s=r+(s-r)by omega,Zj,Zy,Nat.gcd_mul_left];rw[Yp x,Kc _ hx,Yp]
 ·rw[Nat.min_eq_right h,show r=s+(r-s)by omega,Zj,Zy,Nat.gcd_mul_left];rw[Kc _ hy]
theorem QJm {x y:Nat}(h:y<=x):Zk (x-y) y=Zk x y:=Nat.gcd_sub_self_left h
end Go.Proofs
namespace Go.Proofs
open Go Go.Eng
def debL:List Nat:=[0,1,56,2,57,49,28,3,61,58,42,50,38,29,17,4,62,47,59,36,45,43,51,22,53,39,33,30,24,18,12,5,63,55,48,27,60,41,37,16,46,35,44,21,52,32,23,11,54,26,40,15,34,20,31,10,25,14,19,9,13,8,7,6]
def G9:List Value:=debL.map fun(n:Nat)=> .int .u8 (n:Int)
theorem QPD:(List.range 64).all (fun r=>decide (debL[(2^r*285870213051353865) % 18446744073709551616/288230376151711744]? =some r))=true:=by kernel_rfl
theorem QMa {r:Nat}(h:r<64):debL[(2^r*285870213051353865) % 18446744073709551616/288230376151711744]? =some r:=by
 have:=List.all_eq_true.1 QPD r (by simpa using h);simpa using this
abbrev QDC:Nat:=1
abbrev WE:=@J8 Tryd.prog QDC G9
abbrev YI:=@CtrMsOK Tryd.prog QDC G9
abbrev QT:=@CtrOK Tryd.prog QDC G9
abbrev QN:=@CtrsOK Tryd.prog QDC G9
abbrev XO:=@Q5 Tryd.prog QDC G9
theorem QHm {w:World}(h:QDq w QDC G9){i r:Nat}(hi:debL[i]? =some r):w.cell? ⟨1,i,none⟩=some (.int .u8 (r:Int)):=by
 obtain⟨t,fr,e⟩:=h;simp only[World.cell?,e];simp[G9,hi]
theorem QMb (x:Int)(r:Int)(w:World)(h0:(x==0)=false)(hb:0<=Zc.wrap (Go.bits BinOp.and Zc x (Zc.wrap (-x))*285870213051353865)/288230376151711744/\Zc.wrap (Go.bits BinOp.and Zc x (Zc.wrap (-x))*285870213051353865)/288230376151711744<64)
  (hc:w.cell? ⟨1,(Zc.wrap (Go.bits BinOp.and Zc x (Zc.wrap (-x))*285870213051353865)/288230376151711744).toNat,none⟩=some (.int .u8 r)):
  Calls Tryd.prog 95 #[.int .u64 x] w fun e w'=>e= .returned (.int .i64 (RowKit.wrap64 r))/\w'=w:=by
 go_enter Tryd.func95,Tryd.ntmps95;go_wp2;go_ret;exact⟨rfl,rfl⟩
theorem QPE {x r:Nat}(h:IsEv x r)(hx:x<18446744073709551616):Go.bits BinOp.and Zc (x:Int) (Zc.wrap (-(x:Int)))=((2^r:Nat):Int):=by
 have h0:=h.ne;obtain⟨q,hq⟩:=h;have e1:Zc.wrap (-(x:Int))=((18446744073709551616-x:Nat):Int):=by
  rw[JD];omega
 have hl:=QMZ hq hx;rw[e1];show Zc.wrap ((BitVec.ofInt 64 (x:Int)&&&BitVec.ofInt 64 ((18446744073709551616-x:Nat):Int)).toNat:Int)=_
 rw[BitVec.toNat_and,toNat_ofInt (by show _<2^64;omega),toNat_ofInt (by show _<2^64;omega),hl];have:2^r<=x:=by rw[<-hl];exact Nat.and_le_left
 exact XV (by omega)
def QE3:Ctr
  | [.x false [.v (.int .u64 x)]]=>some fun K=>(0<x/\x<18446744073709551616)/\ ∀r,IsEv x.toNat r->K (iA .i64 (r:Nat))
  | _=>none
theorem QMc:QT 95 QE3:=by
 refine⟨Qm Tryd.func95 (by kernel_rfl),fun l T hT K hK=> ?_⟩;unfold QE3 at hT;split at hT
 ·cases hT
  rename_i x;obtain⟨⟨h0,h1⟩,hK⟩:=hK;obtain⟨x,rfl⟩:=Zu (by omega:0<=x);obtain⟨r,hr⟩:=IsEv.ex (v:=x) (by omega);have hr64:r<64:=hr.lt (n:=64) (by show x<18446744073709551616;omega);intro w O vals _ hg hc;cases hc with
  | cons hc ht=>
   cases ht
   obtain⟨rfl,_⟩:=ConcX.one hc;have hlow:=QPE hr (by omega);have e2:Zc.wrap (((2^r:Nat):Int)*285870213051353865)/288230376151711744=((2^r*285870213051353865 % 18446744073709551616/288230376151711744:Nat):Int):=by
    rw[JD];generalize 2^r=p;omega
   have hi:=QMa hr64;have hlt:2^r*285870213051353865 % 18446744073709551616/288230376151711744<64:=(List.getElem?_eq_some_iff.1 hi).1;have hcell:=QHm hg hi;generalize 2^r*285870213051353865 % 18446744073709551616/288230376151711744=j at e2 hlt hcell;refine(QMb (x:Int) (r:Int) w (by simp;omega) ?_ ?_).mono ?_
   ·rw[hlow,e2];omega
   ·rw[hlow,e2,Zf];exact hcell
   ·rintro e w' ⟨rfl,rfl⟩;have:RowKit.wrap64 (r:Int)=(r:Int):=by
     have:RowKit.wrap64 (r:Int)=Zb.wrap r:=by simp[RowKit.wrap64,IntKind.wrap_i64]
     rw[this];exact w64 (by omega)
    rw[this];exact⟨_,_,rfl,hK r hr,QZ rfl,.refl _ _⟩
 ·cases hT
def QBZ:Uu:=fun as0=>match as0 with
 | [.x false [.v (.int .u64 x)],.x false [.v (.int .u64 y)],.x false [.v (.int .u64 b)]]=>some fun K=>((0<=x/\x<18446744073709551616)/\(0<=y/\y<18446744073709551616)/\0<=b/\b<=1)/\
   K (.t [(false,[.v (.int .u64 ((x-y-b) % 18446744073709551616))]),(false,[.v (.int .u64 (bif decide (x<y+b)then 1 else 0))])])
 | _=>none
theorem QJn:QBI Tryd.prog 97 QBZ:=by
 intro l T hT K hK w O ρ vals hc;unfold QBZ at hT;split at hT
 ·cases hT
  rename_i x y b;obtain⟨⟨⟨a1,a2⟩,⟨a3,a4⟩,a5,a6⟩,hK⟩:=hK;cases hc with
  | cons h1 hc=>cases hc with
   | cons h2 hc=>cases hc with
    | cons h3 hc=>
     cases hc
     obtain⟨rfl,_⟩:=ConcX.one h1;obtain⟨rfl,_⟩:=ConcX.one h2;obtain⟨rfl,_⟩:=ConcX.one h3;obtain⟨x,rfl⟩:=Zu a1;obtain⟨y,rfl⟩:=Zu a3;obtain⟨b,rfl⟩:=Zu a5;refine⟨.tuple #[.int .u64 ((x-y-b:Int) % 18446744073709551616),.int .u64 (bif decide ((x:Int)<y+b)then 1 else 0)],_,?_,?_,hK⟩
     ·rw[run_callFunc_extern Tryd.func97 (by kernel_rfl) (by kernel_rfl) (by kernel_rfl) (e:=fun args=>do
       let (x,y,b)<-Extern.MathBitsCarry.three "Sub64" args
       pure (Extern.MathBitsCarry.pair ((x+Extern.MathBitsCarry.m64-y-b) % Extern.MathBitsCarry.m64) (if x<y+b then 1 else 0))) (by kernel_rfl)]
      have e1:((x:Int)-y-b) % 18446744073709551616=(((x+18446744073709551616-y-b) % 18446744073709551616:Nat):Int):=by omega
      have e2:(bif decide ((x:Int)<y+b)then(1:Int)else 0)=((if x<y+b then 1 else 0:Nat):Int):=by
       by_cases h:x<y+b
       ·have h':(x:Int)<y+b:=by omega
        simp[h,h']
       ·have h': ¬(x:Int)<y+b:=by omega
        simp[h,h']
      rw[e1,e2];have h3:(Extern.MathBitsCarry.three "Sub64" #[.int .u64 x,.int .u64 y,.int .u64 b]).run Tryd.prog w= .ok (x,y,b) w:=by
       rcases(by omega:b=0∨b=1)with rfl | rfl<;>rfl
      simp only[Sem.run_bind,h3,Result.andThen_ok,Sem.run_pure];rfl
     ·exact⟨_,.cons (QZ rfl) (.cons (QZ rfl) .nil),rfl⟩
 ·cases hT
end Go.Proofs
namespace Go.Proofs
open Go Go.Eng
def L14:LC:=(95,QE3)::L13
def M14:List (Nat×YA):=(83,QBX)::(96,QJk)::M12
def X4:List (Nat×Uu):=(97,QBZ)::X3
noncomputable def T14:Qh:=mkT L14 M14 X4
theorem QNv:QN L14:= .cons QMc QNt
theorem QNw:YI M14:= .cons QJj (.cons QPC QJg)
theorem XP:CtrXsOK Tryd.prog X4:= .cons QJn Uw
theorem QGB:XO T14:=Qq QNv QNw XP
def sV (n v:Nat):AV:= .x false [.s 1 (V (fd 18446744073709551616 n v))]
def QHn (n v:Nat):LI:=fun _=> .inv ⟨Nat,fun i=>⟨[(0,sV n v),(3,iA .i64 i)],[]⟩,fun i=>i<n/\v % 18446744073709551616^i=0,fun i=>n-i,fun _=>0⟩
def QHo (n v m u:Nat):LI:=fun _=> .inv ⟨Nat,fun i=>⟨[(0,sV n v),(1,sV m u),(5,iA .i64 ((i:Int)-1))],[]⟩,fun i=>i<=n/\v/18446744073709551616^i=u/18446744073709551616^i,fun i=>i,fun _=>0⟩
theorem QMd (n v:Nat)(K:AV->Prop)(hn:n<=1099511627776)(h0:v≠0)(hv:v<18446744073709551616^n)(hK: ∀r,IsEv v r->r<64*n->K (iA .i64 (r:Nat))):QU (Qc T14 (oF Tryd.f84) (QHn n v) Tryd.f84 [sV n v] K):=by
 refine HV (((∃(x:Nat),((x<n/\v%18446744073709551616^x=0)/\OfNat.ofNat 0=0)/\1=1/\V (fd 18446744073709551616 n v)=V (fd 18446744073709551616 n v)/\0=Za x/\True)/\∀(x:Nat),x<n/\v%18446744073709551616^x=0->OfNat.ofNat 0=0->(0<=Za x/\Za x<Za (V (fd 18446744073709551616 n v)).length)/\∃(d:Int),ldE (V (fd 18446744073709551616 n v)) (Za x).toNat 0 1=some [Zt (Zd Zc d)]/\bif d==0 then ∃(x':Nat),((x'<n/\v%18446744073709551616^x'=0)/\OfNat.ofNat 0=0/\n-x'<n-x)/\1=1/\V (fd 18446744073709551616 n v)=V (fd 18446744073709551616 n v)/\Zb.wrap (Za x+1)=Za x'/\True else(0<=Za x/\Za x<Za (V (fd 18446744073709551616 n v)).length)/\∃(d:Int),ldE (V (fd 18446744073709551616 n v)) (Za x).toNat 0 1=some [Zt (Zd Zc d)]/\(0<d/\d<18446744073709551616)/\∀(r:Nat),IsEv d.toNat r->K (AV.x false [Zt (Zd Zb (Zb.wrap (Zb.wrap (64*Za x)+Za r)))]))) ?_
 simp only[Zs,R0,R1,R4];have h0n:0<n:=by
  rcases Nat.eq_zero_or_pos n with rfl | h
  ·rw[Zl]at hv;omega
  ·exact h
 rw[Ul,Qj];refine⟨⟨0,⟨h0n,by rw[Zl,Nat.mod_one]⟩,rfl⟩,fun x hx=>⟨by omega,_,by rw[Zf];exact WD (JE hx.1),QE (fun hd=> ?_) (fun hd=> ?_)⟩⟩
 ·have hd:v/18446744073709551616^x % 18446744073709551616=0:=by have:=eq_of_beq hd;omega
  have hm:v % 18446744073709551616^(x+1)=0:=by rw[Zx,Yy,hx.2,hd,Nat.mul_zero]
  refine⟨x+1,⟨⟨?_,hm⟩,by omega⟩,by rw[w64 (by omega)];omega⟩;rcases Ye (x+1) n with h | h
  ·exact h
  ·have:x+1=n:=by omega
   rw[this,Zp hv]at hm;exact absurd hm h0
 ·have hd:v/18446744073709551616^x % 18446744073709551616≠0:=fun e=>by rw[e]at hd;simp at hd
  have hlt:v/18446744073709551616^x % 18446744073709551616<18446744073709551616:=Yi _ (by decide);refine⟨by omega,_,by rw[Zf];exact WD (JE hx.1),⟨by omega,by omega⟩,fun r hr=> ?_⟩;rw[Zf]at hr;have hr64:r<64:=hr.lt (n:=64) hlt;have e:Zb.wrap (Zb.wrap (64*(x:Int))+r)=((64*x+r:Nat):Int):=by
   rw[w64 (n:=64*(x:Int)) (by omega),w64 (by omega)];omega
  rw[e];exact hK _ (IsEv.digit hx.2 rfl hr hr64) (by omega)
set_option maxHeartbeats 1000000 in
theorem QMe (n v m u:Nat)(K:AV->Prop)(hn:n<=1099511627776)(en:n=vl v)(em:m=vl u)(hK:K (.x false [.v (.bool (decide (v<u)))])):QU (Qc T14 (oF Tryd.f86) (QHo n v m u) Tryd.f86 [sV n v,sV m u] K):=by
 refine HV ((bif Za (V (fd 18446744073709551616 n v)).length !=Za (V (fd 18446744073709551616 m u)).length then K (AV.x false [Zt (Value.bool (decide (Za (V (fd 18446744073709551616 n v)).length<Za (V (fd 18446744073709551616 m u)).length)))])else(∃(x:Nat),((x<=n/\v/18446744073709551616^x=u/18446744073709551616^x)/\OfNat.ofNat 0=0)/\1=1/\V (fd 18446744073709551616 n v)=V (fd 18446744073709551616 n v)/\1=1/\V (fd 18446744073709551616 m u)=V (fd 18446744073709551616 m u)/\Zb.wrap (Za (V (fd 18446744073709551616 n v)).length-1)=Za x-1/\True)/\∀(x:Nat),x<=n/\v/18446744073709551616^x=u/18446744073709551616^x->OfNat.ofNat 0=0->bif decide (Za x-1≥0)then(0<=Za x-1/\Za x-1<Za (V (fd 18446744073709551616 n v)).length)/\∃(d:Int),ldE (V (fd 18446744073709551616 n v)) (Za x-1).toNat 0 1=some [Zt (Zd Zc d)]/\(0<=Za x-1/\Za x-1<Za (V (fd 18446744073709551616 m u)).length)/\∃(d_1:Int),ldE (V (fd 18446744073709551616 m u)) (Za x-1).toNat 0 1=some [Zt (Zd Zc d_1)]/\bif d !=d_1 then(0<=Za x-1/\Za x-1<Za (V (fd 18446744073709551616 n v)).length)/\∃(d:Int),ldE (V (fd 18446744073709551616 n v)) (Za x-1).toNat 0 1=some [Zt (Zd Zc d)]/\(0<=Za x-1/\Za x-1<Za (V (fd 18446744073709551616 m u)).length)/\∃(d_2:Int),ldE (V (fd 18446744073709551616 m u)) (Za x-1).toNat 0 1=some [Zt (Zd Zc d_2)]/\K (AV.x false [Zt (Value.bool (decide (d<d_2)))])else ∃(x':Nat),((x'<=n/\v/18446744073709551616^x'=u/18446744073709551616^x')/\OfNat.ofNat 0=0/\x'<x)/\1=1/\V (fd 18446744073709551616 n v)=V (fd 18446744073709551616 n v)/\1=1/\V (fd 18446744073709551616 m u)=V (fd 18446744073709551616 m u)/\Zb.wrap (Za x-1-1)=Za x'-1/\True else K (AV.x false [Zt (Value.bool false)]))) ?_
 simp only[Zs,R0,R1,R4];simp only[Ul,Qj];have hv:=W2 v;have hu:=W2 u;rw[<-en]at hv;rw[<-em]at hu;refine QE (fun hp=> ?_) (fun hp=> ?_)
 ·have hp:n≠m:=by
   intro e;subst e;simp at hp
  have e:decide ((n:Int)<(m:Int))=decide (v<u):=by
   rw[Bool.eq_iff_iff];simp only[decide_eq_true_eq];constructor
   ·intro h;exact QJl (by omega)
   ·intro h;have:=QBY (Nat.le_of_lt h);omega
  rw[e];exact hK
 ·have hp:n=m:=by
   simp at hp;omega
  subst hp;refine⟨⟨n,⟨Yw _,by rw[Yf hv,Yf hu]⟩,by rw[w64 (by omega)]⟩,fun x hx=>QE (fun hq=> ?_) (fun hq=> ?_)⟩
  ·have hq:=R5 hq;obtain⟨y,rfl⟩: ∃y,x=y+1:=⟨x-1,by omega⟩;have e1:(((y+1:Nat):Int)-1).toNat=y:=by omega
   have hy:y<n:=by omega
   simp only[e1];have l1:=WD (JE (B:=18446744073709551616) (m:=v) hy);have l2:=WD (JE (B:=18446744073709551616) (m:=u) hy);refine⟨by omega,_,l1,by omega,_,l2,QE (fun hd=> ?_) (fun hd=> ?_)⟩
   ·refine⟨by omega,_,l1,by omega,_,l2,?_⟩;have hd:v/18446744073709551616^y % 18446744073709551616≠u/18446744073709551616^y % 18446744073709551616:=fun e=>by rw[e]at hd;simp at hd
    have e:decide (((v/18446744073709551616^y % 18446744073709551616:Nat):Int)<((u/18446744073709551616^y % 18446744073709551616:Nat):Int))=decide (v<u):=by
     rw[Bool.eq_iff_iff];simp only[decide_eq_true_eq];constructor
     ·intro h;exact Um (by decide) hx.2 (by omega)
     ·intro h;rcases Ye (v/18446744073709551616^y % 18446744073709551616) (u/18446744073709551616^y % 18446744073709551616)with h' | h'
      ·omega
      ·have:=Um (B:=18446744073709551616) (by decide) hx.2.symm (by omega);omega
    rw[e];exact hK
   ·have hd:v/18446744073709551616^y % 18446744073709551616=u/18446744073709551616^y % 18446744073709551616:=by
     have:((v/18446744073709551616^y % 18446744073709551616:Nat):Int)=((u/18446744073709551616^y % 18446744073709551616:Nat):Int):=by simpa using hd
     exact Int.ofNat.inj this
    exact⟨y,⟨⟨by omega,QC9 hx.2 hd⟩,by omega⟩,by rw[w64 (by omega)];omega⟩
  ·have hq:=R6 hq;have:x=0:=by omega
   subst this;have h:=hx.2;rw[Zl,Yn,Yn]at h;have e:decide (v<u)=false:=by simp;omega
   rw[e]at hK;exact hK
def QBa:Ctr
 | [.x false [.s 1 xs]]=>some fun K=> ∃n v,xs=V (fd 18446744073709551616 n v)/\v<18446744073709551616^n/\v≠0/\n<=1099511627776/\ ∀r,IsEv v r->r<64*n->K (iA .i64 (r:Nat))
 | _=>none
def QBb:Ctr
 | [.x false [.s 1 xs],.x false [.s 1 ys]]=>some fun K=> ∃v u,xs=V (fd 18446744073709551616 (vl v) v)/\ys=V (fd 18446744073709551616 (vl u) u)/\vl v<=1099511627776/\K (.x false [.v (.bool (decide (v<u)))])
 | _=>none
theorem QJo:QT 84 QBa:=by
 refine okL Tryd.func84 fun l T hT K hK=> ?_
 unfold QBa at hT;split at hT<;>cases hT
 obtain⟨n,v,rfl,hv,h0,hn,hK⟩:=hK;exact spL QGB QW Tryd.func84 (QMd n v K hn h0 hv hK)
theorem QJp:QT 86 QBb:=by
 refine okL Tryd.func86 fun l T hT K hK=> ?_
 unfold QBb at hT;split at hT<;>cases hT
 obtain⟨v,u,rfl,rfl,hn,hK⟩:=hK;exact spL QGB QW Tryd.func86 (QMe _ v _ u K hn rfl rfl hK)
end Go.Proofs
namespace Go.Proofs
open Go Go.Eng
structure QE4 where
 us:List Nat
 b:Nat
 i:Nat
structure QDD (us0:List Nat)(o n u d:Nat)(x:QE4):Prop where
  len:x.us.length=us0.length
  hi:x.i<=n
  hb:x.b<=1
  low: ∀j,j<x.i->x.us[o+j]? =some (d/18446744073709551616^j % 18446744073709551616)
  high: ∀j,x.i<=j->x.us[o+j]? =us0[o+j]?
  inv:u % 18446744073709551616^x.i+d % 18446744073709551616^x.i=(u+d) % 18446744073709551616^x.i+18446744073709551616^x.i*x.b
def QHp (us ws:List Nat)(o n o2 m u d:Nat):LI:=fun _=> .inv ⟨QE4,fun x=>⟨[(0,wO 1000 o n),(1,wO 1001 o2 m),(5,iA .u64 x.b),(9,iA .i64 n),(10,iA .i64 x.i)],[(1000,YU x.us),(1001,YU ws)]⟩,QDD us o n u d,fun x=>n-x.i,fun _=>0⟩
theorem QMf {v u c d e:Nat}(h:u+d+c=v+18446744073709551616*e)(hd:d<18446744073709551616)(hu:u<18446744073709551616)(hc:c<=1):e<=1/\((v:Int)-u-c) % 18446744073709551616=d/\(bif decide ((v:Int)<u+c)then(1:Int)else 0)=e:=by
 have he:e=0∨e=1:=by omega
 rcases he with rfl | rfl
 ·have h': ¬(v:Int)<u+c:=by omega
  refine⟨by omega,by omega,?_⟩;simp[h']
 ·have h':(v:Int)<u+c:=by omega
  refine⟨by omega,by omega,?_⟩;simp[h']
theorem QDD.step {us0:List Nat}{o n u d:Nat}{x:QE4}(h:QDD us0 o n u d x)(hi:x.i<n)(hw:Win 18446744073709551616 us0 o n (u+d)): ∃e v:Nat,x.us[o+x.i]? =some v/\v<18446744073709551616/\QDD us0 o n u d ⟨x.us.set (o+x.i) (d/18446744073709551616^x.i % 18446744073709551616),e,x.i+1⟩/\ 
  ((v:Int)-(u/18446744073709551616^x.i % 18446744073709551616:Nat)-x.b) % 18446744073709551616=((d/18446744073709551616^x.i % 18446744073709551616:Nat):Int)/\(bif decide ((v:Int)<(u/18446744073709551616^x.i % 18446744073709551616:Nat)+(x.b:Int))then(1:Int)else 0)=e:=by
 obtain⟨len,_,hb,low,high,inv⟩:=h;obtain⟨h1,h2⟩:=QHl (B:=18446744073709551616) (by decide) inv;have hg:=hw.get x.i hi;have hle:=hw.le;have hu:=Yi (u/18446744073709551616^x.i) (by decide:0<18446744073709551616);have hd:=Yi (d/18446744073709551616^x.i) (by decide:0<18446744073709551616);have hv:=Yi ((u+d)/18446744073709551616^x.i) (by decide:0<18446744073709551616);obtain⟨k1,k2,k3⟩:=QMf h1 hd hu hb;refine⟨_,_,by rw[high x.i (Yw _)];exact hg,hv,⟨by simpa using len,hi,k1,fun j hj=> ?_,fun j hj=> ?_,h2⟩,k2,k3⟩
 ·simp only at hj⊢;by_cases e:j=x.i
  ·subst e;rw[Yd];simp;omega
  ·rw[Zr (by omega)];exact low j (by omega)
 ·simp only at hj⊢;rw[Zr (by omega)];exact high j (by omega)
set_option maxHeartbeats 1000000 in
theorem QMg (us ws:List Nat)(o n o2 m u d:Nat)(hl:us.length<=1099511627776)(hl2:ws.length<=1099511627776)(hw:Win 18446744073709551616 us o n (u+d))(hw2:Win 18446744073709551616 ws o2 m u):QU (JK (X:=List Nat) T14 (oF Tryd.f87) (QHp us ws o n o2 m u d) Tryd.f87 [wO 1000 o n,wO 1001 o2 m] [(1000,YU us),(1001,YU ws)]
 (fun us'=>us'.length=us.length/\Win 18446744073709551616 us' o (vl d) d) (fun us'=>⟨[(4,wO 1000 o (vl d))],[(1000,YU us'),(1001,YU ws)]⟩)):=by
 refine HV (((∃(x:QE4),(QDD us o n u d x/\OfNat.ofNat 0=0)/\o=o/\n=n/\o2=o2/\m=m/\0=Za x.b/\Za n=Za n/\0=Za x.i/\94=94/\1=1/\(V us=V x.us∨QG (V us) (V x.us))/\94=94/\1=1/\(V ws=V ws∨QG (V ws) (V ws))/\True)/\∀(x:QE4),QDD us o n u d x->OfNat.ofNat 0=0->bif decide (Za x.i<Za n)then bif decide (Za x.i<Za m)then(0<=Za x.i/\Za x.i<Za m)/\∃(d_1:Int),ldE (V ws) (o2+(Za x.i).toNat) 0 1=some [Zt (Zd Zc d_1)]/\(0<=Za x.i/\Za x.i<Za n)/\∃(d_2:Int),ldE (V x.us) (o+(Za x.i).toNat) 0 1=some [Zt (Zd Zc d_2)]/\((0<=d_2/\d_2<18446744073709551616)/\(0<=d_1/\d_1<18446744073709551616)/\0<=Za x.b/\Za x.b<=1)/\(0<=Za x.i/\Za x.i<Za n)/\o+(Za x.i).toNat<(V x.us).length/\∃(x':QE4),(QDD us o n u d x'/\OfNat.ofNat 0=0/\n-x'.i<n-x.i)/\o=o/\n=n/\o2=o2/\m=m/\(bif decide (d_2<d_1+Za x.b)then 1 else 0)=Za x'.b/\Za n=Za n/\Zb.wrap (Za x.i+1)=Za x'.i/\94=94/\1=1/\((V x.us).set (o+(Za x.i).toNat) [Zt (Zd Zc ((d_2-d_1-Za x.b)%18446744073709551616))]=V x'.us∨QG ((V x.us).set (o+(Za x.i).toNat) [Zt (Zd Zc ((d_2-d_1-Za x.b)%18446744073709551616))]) (V x'.us))/\94=94/\1=1/\(V ws=V ws∨QG (V ws) (V ws))/\True else(0<=Za x.i/\Za x.i<Za n)/\∃(d_1:Int),ldE (V x.us) (o+(Za x.i).toNat) 0 1=some [Zt (Zd Zc d_1)]/\((0<=d_1/\d_1<18446744073709551616)/\((0:Int)<=0/\(0:Int)<18446744073709551616)/\0<=Za x.b/\Za x.b<=1)/\(0<=Za x.i/\Za x.i<Za n)/\o+(Za x.i).toNat<(V x.us).length/\∃(x':QE4),(QDD us o n u d x'/\OfNat.ofNat 0=0/\n-x'.i<n-x.i)/\o=o/\n=n/\o2=o2/\m=m/\(bif decide (d_1<0+Za x.b)then 1 else 0)=Za x'.b/\Za n=Za n/\Zb.wrap (Za x.i+1)=Za x'.i/\94=94/\1=1/\((V x.us).set (o+(Za x.i).toNat) [Zt (Zd Zc ((d_1-0-Za x.b)%18446744073709551616))]=V x'.us∨QG ((V x.us).set (o+(Za x.i).toNat) [Zt (Zd Zc ((d_1-0-Za x.b)%18446744073709551616))]) (V x'.us))/\94=94/\1=1/\(V ws=V ws∨QG (V ws) (V ws))/\True else ∃(us_1:List Nat),V x.us=V us_1/\o+n<=us_1.length/\us_1.length<=2199023255552/\∃(x:List Nat),(x.length=us.length/\Win 18446744073709551616 x o (vl d) d)/\o=o/\WU us_1 o n=vl d/\94=94/\1=1/\(V us_1=V x∨QG (V us_1) (V x))/\94=94/\1=1/\(V ws=V ws∨QG (V ws) (V ws))/\True)) ?_
 simp only[Zs,R0,R1,R4,R2];have hle:=hw.le;have hle2:=hw2.le;refine⟨⟨⟨us,0,0⟩,⟨rfl,by simp,by simp,fun j hj=>by simp at hj,fun _ _=>rfl,by simp[Nat.mod_one]⟩,by simp,by simp,.inl rfl⟩,fun x hx=>QE (fun hp=> ?_) (fun hp=> ?_)⟩
 ·have hp:x.i<n:=by simpa using hp
  obtain⟨e,v,g1,g2,g3,g4,g5⟩:=hx.step hp hw;have len:=hx.len;have hb:=hx.hb;simp only[Zf];refine QE (fun hq=> ?_) (fun hq=> ?_)
  ·have hq:x.i<m:=by simpa using hq
   have hu:=Yi (u/18446744073709551616^x.i) (by decide:0<18446744073709551616);refine⟨by omega,_,WD (hw2.get x.i hq),by omega,v,WD g1,by omega,by omega,by rw[Ul];omega,_,⟨g3,by simp only;omega⟩,g5,by rw[w64 (by omega)];simp,.inl ?_⟩;rw[g4,QAd]
  ·have hq: ¬x.i<m:=by simpa using hq
   have hu0:u/18446744073709551616^x.i=0:=Yf (Nat.lt_of_lt_of_le hw2.lt (Zn (by decide) (by omega)));rw[hu0,Nat.zero_mod]at g4 g5;refine⟨by omega,v,WD g1,by omega,by omega,by rw[Ul];omega,_,⟨g3,by simp only;omega⟩,g5,by rw[w64 (by omega)];simp,.inl ?_⟩;have e1:((v:Int)-0-x.b) % 18446744073709551616=((d/18446744073709551616^x.i % 18446744073709551616:Nat):Int):=g4;rw[e1,QAd]
 ·have hp: ¬x.i<n:=by simpa using hp
  have hi:=hx.hi;have len:=hx.len;have:x.i=n:=by omega
  have hwin:Win 18446744073709551616 x.us o n d:=⟨Yj (Nat.le_add_left d u) hw.lt,by omega,fun j hj=>hx.low j (by omega)⟩;exact⟨x.us,rfl,by omega,by omega,x.us,⟨len,hwin.cut⟩,QC7 hwin,.inl rfl⟩
def QBc:YA:=fun as0 H _=>match as0 with
 | [.x false [.w k o n],.x false [.w k2 o2 m]]=>match H k,H k2 with
  | some (.row t 1 xs),some (.row t2 1 ys)=>bif t.beq 94&&t2.beq 94&& !(k.beq k2)then
    some fun K=> ∃us ws v u,xs=V us/\ys=V ws/\(us.length<=1099511627776/\ws.length<=1099511627776)/\Win 18446744073709551616 us o n v/\Win 18446744073709551616 ws o2 m u/\u<=v/\
     ∀us',us'.length=us.length->Win 18446744073709551616 us' o (vl (v-u)) (v-u)->K (wO k o (vl (v-u))) (Xc [(1000,k),(1001,k2)] (QO [(1000,YU us'),(1001,YU ws)]) H)
    else none
  | _,_=>none
 | _=>none
theorem QJq:WE 87 QBc:=by
 refine⟨Qm Tryd.func87 (by kernel_rfl),fun l H d0 T hT K hK=> ?_⟩;unfold QBc at hT;split at hT
 ·rename_i k o n k2 o2 m;split at hT
  ·rename_i t xs t2 ys e1 e2;cases hb:t.beq 94&&t2.beq 94&& !(k.beq k2)with
   | false=>rw[hb]at hT;cases hT
   | true=>
    rw[hb]at hT;cases hT
    simp only[Bool.and_eq_true,Bool.not_eq_true']at hb;obtain⟨⟨ht,ht2⟩,hk⟩:=hb;have ht:=Yq ht;have ht2:=Yq ht2;have hk:k≠k2:=fun e=>by subst e;simp at hk
    subst ht ht2;obtain⟨us,ws,v,u,rfl,rfl,⟨hl,hl2⟩,hw,hw2,hle,hK⟩:=hK;obtain⟨d,rfl⟩: ∃d,v=u+d:=⟨v-u,by omega⟩;rw[show u+d-u=d by omega]at hK;refine Xp (R:=[(1000,k),(1001,k2)]) (N:=[]) (Hl:=[(1000,YU us),(1001,YU ws)]) QGB QW Tryd.func87 (by kernel_rfl) (by kernel_rfl) (by rfl)
     (as0:=[wO 1000 o n,wO 1001 o2 m]) ?_ (QCv e1 e2 hk rfl rfl rfl rfl) rfl (by simp) (by simp) (fun _ h=>by cases h) (fun x=>⟨fun p hp=> ?_,fun p hp b hb=> ?_⟩) (QMg us ws o n o2 m u d hl hl2 hw hw2) (fun us' hx=> ?_)
    ·simp[Jf,Je,JJ,(G5 hk).1,(G5 hk).2,wO]
    ·simp at hp;rcases hp with rfl | rfl
     ·exact fun h=>by have h':some (YU _)=none:=h;cases h'
     ·exact fun h=>by have h':some (YU _)=none:=h;cases h'
    ·simp at hp;rcases hp with rfl | rfl
     ·have h':some (YU _)=some b:=hb;cases h';rfl
     ·have h':some (YU _)=some b:=hb;cases h';rfl
    ·exact⟨_,rfl,hK us' hx.1 hx.2⟩
  ·cases hT
 ·cases hT
end Go.Proofs
namespace Go.Proofs
open Go Go.Eng
structure VP where
 us:List Nat
 i:Nat
structure Kd (us0:List Nat)(o n v s:Nat)(x:VP):Prop where
  len:x.us.length=us0.length
  hi:x.i<=n
  low: ∀j,j<x.i->x.us[o+j]? =some (v/2^s/18446744073709551616^j % 18446744073709551616)
  high: ∀j,x.i<=j->x.us[o+j]? =us0[o+j]?
def QHq (us:List Nat)(o n v s:Nat):LI:=fun _=> .inv ⟨VP,fun x=>⟨[(0,wO 1000 o n),(1,iA .i64 s),(15,iA .i64 n),(16,iA .i64 x.i)],[(1000,YU x.us)]⟩,Kd us o n v s,fun x=>n-x.i,fun _=>0⟩
theorem Kd.step {us0:List Nat}{o n v s:Nat}{x:VP}(h:Kd us0 o n v s x)(hi:x.i<n)(hw:Win 18446744073709551616 us0 o n v):Kd us0 o n v s ⟨x.us.set (o+x.i) (v/2^s/18446744073709551616^x.i % 18446744073709551616),x.i+1⟩:=by
 obtain⟨len,_,low,high⟩:=h;have hle:=hw.le;refine⟨by simpa using len,hi,fun j hj=> ?_,fun j hj=> ?_⟩
 ·simp only at hj⊢;by_cases e:j=x.i
  ·subst e;rw[Yd];simp;omega
  ·rw[Zr (by omega)];exact low j (by omega)
 ·simp only at hj⊢;rw[Zr (by omega)];exact high j (by omega)
theorem QDE {v s i:Nat}:v/2^s/18446744073709551616^i=v/18446744073709551616^i/2^s:=by
 rw[Zg,Zg,Yo]
theorem QMh {b s:Nat}(hs:0<s)(h:s<64):Xh .u64 (b:Int) ((64-s:Nat):Int)=((2^(64-s)*(b % 2^s):Nat):Int):=by
 rw[KU (by simp[IntKind.bits]),Zf,JD];have e1:(b:Int)*2^(64-s)=((b*2^(64-s):Nat):Int):=by simp
 have hB:(18446744073709551616:Nat)=2^(64-s)*2^s:=by rw[<-Zj,show 64-s+s=64 by omega]
 have e2:b*2^(64-s) % 18446744073709551616=2^(64-s)*(b % 2^s):=by
  conv=>lhs;rw[hB,Yo b,Nat.mul_mod_mul_left]
 rw[e1,<-e2];omega
theorem QMi {w s:Nat}(h:s<=64):w % 18446744073709551616 % 2^s=w % 2^s:=by
 apply Nat.mod_mod_of_dvd;rw[show(18446744073709551616:Nat)=2^64 from rfl];exact Nat.pow_dvd_pow 2 h
theorem QMj {d s:Nat}(h:s<=64):Q0 .u64 (d:Int) (s:Int)=((d/2^s:Nat):Int):=by
 rw[X2 (by simpa [IntKind.bits]using h) (by omega),Zf];simp
set_option maxHeartbeats 1000000 in
theorem QMk (us:List Nat)(o n v r s:Nat)(hl:us.length<=1099511627776)(hw:Win 18446744073709551616 us o n v)(hr:r<=n)(hs:s<64):QU (JK (X:=List Nat) T14 (oF Tryd.f85) (QHq us (o+r) (n-r) (v/18446744073709551616^r) s) Tryd.f85 [wO 1000 o n,iA .i64 ((64*r+s:Nat):Int)] [(1000,YU us)]
 (fun us'=>us'.length=us.length/\Win 18446744073709551616 us' (o+r) (vl (v/18446744073709551616^r/2^s)) (v/18446744073709551616^r/2^s)) (fun us'=>⟨[(4,wO 1000 (o+r) (vl (v/18446744073709551616^r/2^s)))],[(1000,YU us')]⟩)):=by
 refine HV (((64:Int)≠0/\(0<=Zb.wrap ((Za (64*r+s)).tdiv 64)/\Zb.wrap ((Za (64*r+s)).tdiv 64)<=Za n/\Za n<=Za n)/\(64:Int)≠0/\bif decide ((Za (64*r+s)).tmod 64>0)then(∃(x:VP),(Kd us (o+r) (n-r) (v/18446744073709551616^r) s x/\OfNat.ofNat 0=0)/\o+(Zb.wrap ((Za (64*r+s)).tdiv 64)).toNat=o+r/\(Za n).toNat-(Zb.wrap ((Za (64*r+s)).tdiv 64)).toNat=n-r/\(Za (64*r+s)).tmod 64=Za s/\Za ((Za n).toNat-(Zb.wrap ((Za (64*r+s)).tdiv 64)).toNat)=Za (n-r)/\0=Za x.i/\94=94/\1=1/\(V us=V x.us∨QG (V us) (V x.us))/\True)/\∀(x:VP),Kd us (o+r) (n-r) (v/18446744073709551616^r) s x->OfNat.ofNat 0=0->bif decide (Za x.i<Za (n-r))then(0<=Za x.i/\Za x.i<Za (n-r))/\∃(d:Int),ldE (V x.us) (o+r+(Za x.i).toNat) 0 1=some [Zt (Zd Zc d)]/\0<=Za s/\(0<=Za x.i/\Za x.i<Za (n-r))/\o+r+(Za x.i).toNat<(V x.us).length/\bif decide (Zb.wrap (Za x.i+1)<Za (n-r))then(0<=Za x.i/\Za x.i<Za (n-r))/\∃(d_1:Int),ldE ((V x.us).set (o+r+(Za x.i).toNat) [Zt (Zd Zc (Q0 Zc d (Za s)))]) (o+r+(Za x.i).toNat) 0 1=some [Zt (Zd Zc d_1)]/\(0<=Zb.wrap (Za x.i+1)/\Zb.wrap (Za x.i+1)<Za (n-r))/\∃(d_2:Int),ldE ((V x.us).set (o+r+(Za x.i).toNat) [Zt (Zd Zc (Q0 Zc d (Za s)))]) (o+r+(Zb.wrap (Za x.i+1)).toNat) 0 1=some [Zt (Zd Zc d_2)]/\0<=Zb.wrap (64-Za s)/\(0<=Za x.i/\Za x.i<Za (n-r))/\o+r+(Za x.i).toNat<((V x.us).set (o+r+(Za x.i).toNat) [Zt (Zd Zc (Q0 Zc d (Za s)))]).length/\∃(x':VP),(Kd us (o+r) (n-r) (v/18446744073709551616^r) s x'/\OfNat.ofNat 0=0/\n-r-x'.i<n-r-x.i)/\o+r=o+r/\n-r=n-r/\Za s=Za s/\Za (n-r)=Za (n-r)/\Zb.wrap (Za x.i+1)=Za x'.i/\94=94/\1=1/\(((V x.us).set (o+r+(Za x.i).toNat) [Zt (Zd Zc (Q0 Zc d (Za s)))]).set (o+r+(Za x.i).toNat) [Zt (Zd Zc (orI Zc d_1 (Xh Zc d_2 (Zb.wrap (64-Za s)))))]=V x'.us∨QG (((V x.us).set (o+r+(Za x.i).toNat) [Zt (Zd Zc (Q0 Zc d (Za s)))]).set (o+r+(Za x.i).toNat) [Zt (Zd Zc (orI Zc d_1 (Xh Zc d_2 (Zb.wrap (64-Za s)))))]) (V x'.us))/\True else ∃(x':VP),(Kd us (o+r) (n-r) (v/18446744073709551616^r) s x'/\OfNat.ofNat 0=0/\n-r-x'.i<n-r-x.i)/\o+r=o+r/\n-r=n-r/\Za s=Za s/\Za (n-r)=Za (n-r)/\Zb.wrap (Za x.i+1)=Za x'.i/\94=94/\1=1/\((V x.us).set (o+r+(Za x.i).toNat) [Zt (Zd Zc (Q0 Zc d (Za s)))]=V x'.us∨QG ((V x.us).set (o+r+(Za x.i).toNat) [Zt (Zd Zc (Q0 Zc d (Za s)))]) (V x'.us))/\True else ∃(us_1:List Nat),V x.us=V us_1/\o+r+(n-r)<=us_1.length/\us_1.length<=2199023255552/\∃(x:List Nat),(x.length=us.length/\Win 18446744073709551616 x (o+r) (vl (v/18446744073709551616^r/2^s)) (v/18446744073709551616^r/2^s))/\o+r=o+r/\WU us_1 (o+r) (n-r)=vl (v/18446744073709551616^r/2^s)/\94=94/\1=1/\(V us_1=V x∨QG (V us_1) (V x))/\True else ∃(us_1:List Nat),V us=V us_1/\o+(Zb.wrap ((Za (64*r+s)).tdiv 64)).toNat+((Za n).toNat-(Zb.wrap ((Za (64*r+s)).tdiv 64)).toNat)<=us_1.length/\us_1.length<=2199023255552/\∃(x:List Nat),(x.length=us.length/\Win 18446744073709551616 x (o+r) (vl (v/18446744073709551616^r/2^s)) (v/18446744073709551616^r/2^s))/\o+(Zb.wrap ((Za (64*r+s)).tdiv 64)).toNat=o+r/\WU us_1 (o+(Zb.wrap ((Za (64*r+s)).tdiv 64)).toNat) ((Za n).toNat-(Zb.wrap ((Za (64*r+s)).tdiv 64)).toNat)=vl (v/18446744073709551616^r/2^s)/\94=94/\1=1/\(V us_1=V x∨QG (V us_1) (V x))/\True)) ?_
 simp only[Zs,R0,R1,R4];have hle:=hw.le;have e1:((64*r+s:Nat):Int).tdiv 64=(r:Int):=by rw[te (by omega)];omega
 have e2:((64*r+s:Nat):Int).tmod 64=(s:Int):=by rw[tm (by omega)];omega
 simp only[e1,e2,w64 (n:=(r:Int)) (by omega),Zf,R0];have hw':=hw.skip hr;generalize v/18446744073709551616^r=w at hw'⊢;have hle':=hw'.le;generalize o+r=o' at hw' hle'⊢;generalize n-r=n' at hw' hle'⊢;have fin: ∀x:List Nat,x.length=us.length->Win 18446744073709551616 x o' n' (w/2^s)-> ∃us_1:List Nat,V x=V us_1/\o'+n'<=us_1.length/\us_1.length<=2199023255552/\ ∃y:List Nat,(y.length=us.length/\Win 18446744073709551616 y o' (vl (w/2^s)) (w/2^s))/\WU us_1 o' n'=vl (w/2^s)/\(V us_1=V y∨QG (V us_1) (V y)):=
  fun x hx hwx=>⟨x,rfl,by omega,by omega,x,⟨hx,hwx.cut⟩,QC7 hwx,.inl rfl⟩
 refine⟨by omega,by omega,by omega,QE (fun hp=>⟨⟨⟨us,0⟩,⟨rfl,by simp,fun j hj=>by simp at hj,fun _ _=>rfl⟩,by simp,.inl rfl⟩,fun x hx=>QE (fun hq=> ?_) (fun hq=> ?_)⟩) (fun hp=> ?_)⟩
 ·have hp:0<s:=by have:=R5 hp;omega
  have hq:x.i<n':=by have:=R5 hq;omega
  have hstep:=hx.step hq hw';have len:=hx.len;have gi:x.us[o'+x.i]? =some (w/18446744073709551616^x.i % 18446744073709551616):=by rw[hx.high _ (Yw _)];exact hw'.get _ hq
  have hd:=Yi (w/18446744073709551616^x.i) (by decide:0<18446744073709551616);have hp2:0<2^s:=Zi (by decide);have sd:=QC8 (w:=w/18446744073709551616^x.i) (s:=s) (by omega);have e3:Zb.wrap ((x.i:Int)+1)=((x.i+1:Nat):Int):=by rw[w64 (by omega)];simp
  have e4:Zb.wrap (64-(s:Int))=((64-s:Nat):Int):=by rw[w64 (by omega)];omega
  have hdiv:w/18446744073709551616^x.i % 18446744073709551616/2^s<2^(64-s):=by
   apply Yr;rw[<-Zj,show s+(64-s)=64 by omega];exact hd
  simp only[e3,e4,Zf];refine⟨by omega,_,WD gi,by omega,by omega,by rw[Ul];omega,?_⟩;rw[QMj (by omega),QAd];have gs:(x.us.set (o'+x.i) (w/18446744073709551616^x.i % 18446744073709551616/2^s))[o'+x.i]? =some (w/18446744073709551616^x.i % 18446744073709551616/2^s):=by
   rw[Yd];simp;omega
  refine QE (fun hk=> ?_) (fun hk=> ?_)
  ·have hk:x.i+1<n':=by have:=R5 hk;omega
   have gn:(x.us.set (o'+x.i) (w/18446744073709551616^x.i % 18446744073709551616/2^s))[o'+(x.i+1)]? =some (w/18446744073709551616^(x.i+1) % 18446744073709551616):=by
    rw[Zr (by omega),hx.high _ (by omega)];exact hw'.get _ hk
   refine⟨by omega,_,WD gs,by omega,_,WD gn,by omega,by omega,by rw[Ul,Yx];omega,_,⟨hstep,by simp only;omega⟩,rfl,.inl ?_⟩;rw[QMh hp hs,Wc,QMi (by omega),Ve hdiv ?_,QAd,List.set_set]
   ·have e5:2^(64-s)*(w/18446744073709551616^(x.i+1) % 2^s)+w/18446744073709551616^x.i % 18446744073709551616/2^s=w/2^s/18446744073709551616^x.i % 18446744073709551616:=by
     rw[QDE,sd,Zx,Zg,Nat.add_comm]
    rw[e5]
   ·have:=Yi (w/18446744073709551616^(x.i+1)) hp2;have hB:(18446744073709551616:Nat)=2^(64-s)*2^s:=by rw[<-Zj,show 64-s+s=64 by omega]
    have h6:2^(64-s)*(w/18446744073709551616^(x.i+1) % 2^s+1)<=2^(64-s)*2^s:=Nat.mul_le_mul_left _ this;rw[Ym,<-hB]at h6;omega
  ·have hk: ¬x.i+1<n':=by have:=R6 hk;omega
   refine⟨_,⟨hstep,by simp only;omega⟩,rfl,.inl ?_⟩;have hn:x.i+1=n':=by omega
   have e5:w/18446744073709551616^x.i % 18446744073709551616/2^s=w/2^s/18446744073709551616^x.i % 18446744073709551616:=by
    rw[QDE,sd,Zg,<-Zx,show x.i.succ=n' from hn,Yf hw'.lt,Nat.zero_mod,Nat.mul_zero,Nat.add_zero]
   rw[e5]
 ·have hq: ¬x.i<n':=by have:=R6 hq;omega
  have hi:=hx.hi;have len:=hx.len;exact fin x.us len ⟨Yj (Yt _ _) hw'.lt,by omega,fun j hj=>hx.low j (by omega)⟩
 ·have hp:s=0:=by have:=R6 hp;omega
  subst hp;rw[Zl,Yn]at fin⊢;exact fin us rfl hw'
def QBd:YA:=fun as0 H _=>match as0 with
 | [.x false [.w k o n],.x false [.v (.int .i64 y)]]=>match H k with
  | some (.row t 1 xs)=>bif t.beq 94 then
    some fun K=> ∃us v,xs=V us/\us.length<=1099511627776/\Win 18446744073709551616 us o n v/\(0<=y/\y<=64*n)/\
     ∀us' o',us'.length=us.length->Win 18446744073709551616 us' o' (vl (v/2^y.toNat)) (v/2^y.toNat)->K (wO k o' (vl (v/2^y.toNat))) (Xc [(1000,k)] (QO [(1000,YU us')]) H)
    else none
  | _=>none
 | _=>none
theorem QJr:WE 85 QBd:=by
 refine⟨Qm Tryd.func85 (by kernel_rfl),fun l H d T hT K hK=> ?_⟩;unfold QBd at hT;split at hT
 ·rename_i k o n y;split at hT
  ·rename_i t xs e1;cases hb:t.beq 94 with
   | false=>rw[hb]at hT;cases hT
   | true=>
    rw[hb]at hT;cases hT
    have ht:=Yq hb;subst ht;obtain⟨us,v,rfl,hl,hw,⟨hy0,hy1⟩,hK⟩:=hK;obtain⟨y,rfl⟩:=Zu hy0;obtain⟨r,s,rfl,hs⟩: ∃r s,y=64*r+s/\s<64:=⟨y/64,y % 64,by omega,by omega⟩;have hv:v/2^((64*r+s:Nat):Int).toNat=v/18446744073709551616^r/2^s:=by
     rw[Zf,Zj,<-Zg,Yk]
    rw[hv]at hK;refine Xp (R:=[(1000,k)]) (N:=[]) (Hl:=[(1000,YU us)]) QGB QW Tryd.func85 (by kernel_rfl) (by kernel_rfl) (by rfl)
     (as0:=[wO 1000 o n,iA .i64 ((64*r+s:Nat):Int)]) ?_ (GB e1 rfl rfl) rfl (by simp) (by simp) (fun _ h=>by cases h) (fun x=>⟨fun p hp=> ?_,fun p hp b hb=> ?_⟩) (QMk us o n v r s hl hw (by omega) hs) (fun us' hx=> ?_)
    ·simp[Jf,Je,JJ,lkB,wO,iA]
    ·simp at hp;subst hp;exact fun h=>by have h':some (YU _)=none:=h;cases h'
    ·simp at hp;subst hp;have h':some (YU _)=some b:=hb;cases h';rfl
    ·exact⟨_,rfl,hK us' (o+r) hx.1 hx.2⟩
  ·cases hT
 ·cases hT
end Go.Proofs
namespace Go.Proofs
open Go Go.Eng
def QAe (l k:List UInt8)(K:AV->Prop):Prop:=Qc T8 (oF Tryd.f36) (QF6 (fd 4294967296 (wl (QB l)) (QB l)) (fd 4294967296 (wl (QB k)) (QB k))) Tryd.f36 [QEi l,QEi k] K
theorem QBe (l:List UInt8)(k:List UInt8)(K:AV->Prop):QAe l k K=(bif decide (Zb.wrap (Za (QA (QB (Ze l).toList)).length+Za (QA (QB (Ze k).toList)).length)<=8)then QB (Ze l).toList<18446744073709551616/\QB (Ze k).toList<18446744073709551616/\(0<=Zc.wrap (Za (QB (Ze l).toList)*Za (QB (Ze k).toList))/\Zc.wrap (Za (QB (Ze l).toList)*Za (QB (Ze k).toList))<18446744073709551616)/\K (AV.x false [Ch.b (Zc.wrap (Za (QB (Ze l).toList)*Za (QB (Ze k).toList))).toNat 64])else 8*(Ze l).toList.length<=1099511627776/\8*(Ze k).toList.length<=1099511627776/\(0<=Zb.wrap (Za (wl (QB (Ze l).toList))+Za (wl (QB (Ze k).toList)))/\Zb.wrap (Za (wl (QB (Ze l).toList))+Za (wl (QB (Ze k).toList)))<=Zb.wrap (Za (wl (QB (Ze l).toList))+Za (wl (QB (Ze k).toList)))/\4*Zb.wrap (Za (wl (QB (Ze l).toList))+Za (wl (QB (Ze k).toList)))<=281474976710656/\Zb.wrap (Za (wl (QB (Ze l).toList))+Za (wl (QB (Ze k).toList)))<=9223372036854775807)/\(∃(x:QCz),(QC0 (fd 4294967296 (wl (QB l)) (QB l)) (fd 4294967296 (wl (QB k)) (QB k)) x/\OfNat.ofNat 0=0)/\0=0/\wl (QB (Ze l).toList)=(fd 4294967296 (wl (QB l)) (QB l)).length/\0=0/\wl (QB (Ze k).toList)=(fd 4294967296 (wl (QB k)) (QB k)).length/\0=0/\(Zb.wrap (Za (wl (QB (Ze l).toList))+Za (wl (QB (Ze k).toList)))).toNat=(fd 4294967296 (wl (QB l)) (QB l)).length+(fd 4294967296 (wl (QB k)) (QB k)).length/\0=0/\wl (QB (Ze l).toList)=(fd 4294967296 (wl (QB l)) (QB l)).length/\Za (wl (QB (Ze l).toList))=Za (fd 4294967296 (wl (QB l)) (QB l)).length/\0=Za x.i/\98=98/\1=1/\(W (fd 4294967296 (wl (QB (Ze l).toList)) (QB (Ze l).toList))=W (fd 4294967296 (wl (QB l)) (QB l))∨QG (W (fd 4294967296 (wl (QB (Ze l).toList)) (QB (Ze l).toList))) (W (fd 4294967296 (wl (QB l)) (QB l))))/\98=98/\1=1/\(W (fd 4294967296 (wl (QB (Ze k).toList)) (QB (Ze k).toList))=W (fd 4294967296 (wl (QB k)) (QB k))∨QG (W (fd 4294967296 (wl (QB (Ze k).toList)) (QB (Ze k).toList))) (W (fd 4294967296 (wl (QB k)) (QB k))))/\98=98/\1=1/\(Zh (Zb.wrap (Za (wl (QB (Ze l).toList))+Za (wl (QB (Ze k).toList)))).toNat [Zt (Zd Zo 0)]=W x.out∨QG (Zh (Zb.wrap (Za (wl (QB (Ze l).toList))+Za (wl (QB (Ze k).toList)))).toNat [Zt (Zd Zo 0)]) (W x.out))/\True)/\∀(x:QCz),QC0 (fd 4294967296 (wl (QB l)) (QB l)) (fd 4294967296 (wl (QB k)) (QB k)) x->OfNat.ofNat 0=0->bif decide (Za x.i<Za (fd 4294967296 (wl (QB l)) (QB l)).length)then(0<=Za x.i/\Za x.i<Za (fd 4294967296 (wl (QB l)) (QB l)).length)/\∃(d:Int),ldE (W (fd 4294967296 (wl (QB l)) (QB l))) (0+(Za x.i).toNat) 0 1=some [Zt (Zd Zo d)]/\(∃(x_1:G6),(Uy (fd 4294967296 (wl (QB l)) (QB l)) (fd 4294967296 (wl (QB k)) (QB k)) x_1/\(fd 4294967296 (wl (QB l)) (QB l)).length-x_1.i=(fd 4294967296 (wl (QB l)) (QB l)).length-x.i)/\Za x.i=Za x_1.i/\d=Za ((fd 4294967296 (wl (QB l)) (QB l)).getD x_1.i 0)/\0=Za x_1.carry/\0=0/\(fd 4294967296 (wl (QB k)) (QB k)).length=(fd 4294967296 (wl (QB k)) (QB k)).length/\Za (fd 4294967296 (wl (QB k)) (QB k)).length=Za (fd 4294967296 (wl (QB k)) (QB k)).length/\0=Za x_1.k/\0=0/\(fd 4294967296 (wl (QB l)) (QB l)).length=(fd 4294967296 (wl (QB l)) (QB l)).length/\0=0/\(fd 4294967296 (wl (QB k)) (QB k)).length=(fd 4294967296 (wl (QB k)) (QB k)).length/\0=0/\(fd 4294967296 (wl (QB l)) (QB l)).length+(fd 4294967296 (wl (QB k)) (QB k)).length=(fd 4294967296 (wl (QB l)) (QB l)).length+(fd 4294967296 (wl (QB k)) (QB k)).length/\0=0/\(fd 4294967296 (wl (QB l)) (QB l)).length=(fd 4294967296 (wl (QB l)) (QB l)).length/\Za (fd 4294967296 (wl (QB l)) (QB l)).length=Za (fd 4294967296 (wl (QB l)) (QB l)).length/\Za x.i=Za x_1.i/\98=98/\1=1/\(W (fd 4294967296 (wl (QB l)) (QB l))=W (fd 4294967296 (wl (QB l)) (QB l))∨QG (W (fd 4294967296 (wl (QB l)) (QB l))) (W (fd 4294967296 (wl (QB l)) (QB l))))/\98=98/\1=1/\(W (fd 4294967296 (wl (QB k)) (QB k))=W (fd 4294967296 (wl (QB k)) (QB k))∨QG (W (fd 4294967296 (wl (QB k)) (QB k))) (W (fd 4294967296 (wl (QB k)) (QB k))))/\98=98/\1=1/\(W x.out=W x_1.out∨QG (W x.out) (W x_1.out))/\True)/\∀(x_1:G6),Uy (fd 4294967296 (wl (QB l)) (QB l)) (fd 4294967296 (wl (QB k)) (QB k)) x_1->(fd 4294967296 (wl (QB l)) (QB l)).length-x_1.i=(fd 4294967296 (wl (QB l)) (QB l)).length-x.i->bif decide (Za x_1.k<Za (fd 4294967296 (wl (QB k)) (QB k)).length)then(0<=Za x_1.k/\Za x_1.k<Za (fd 4294967296 (wl (QB k)) (QB k)).length)/\∃(d:Int),ldE (W (fd 4294967296 (wl (QB k)) (QB k))) (0+(Za x_1.k).toNat) 0 1=some [Zt (Zd Zo d)]/\(0<=Zb.wrap (Za x_1.i+Za x_1.k)/\Zb.wrap (Za x_1.i+Za x_1.k)<Za ((fd 4294967296 (wl (QB l)) (QB l)).length+(fd 4294967296 (wl (QB k)) (QB k)).length))/\∃(d_1:Int),ldE (W x_1.out) (0+(Zb.wrap (Za x_1.i+Za x_1.k)).toNat) 0 1=some [Zt (Zd Zo d_1)]/\(0<=Zb.wrap (Za x_1.i+Za x_1.k)/\Zb.wrap (Za x_1.i+Za x_1.k)<Za ((fd 4294967296 (wl (QB l)) (QB l)).length+(fd 4294967296 (wl (QB k)) (QB k)).length))/\0+(Zb.wrap (Za x_1.i+Za x_1.k)).toNat<(W x_1.out).length/\(0:Int)<=32/\∃(x':G6),(Uy (fd 4294967296 (wl (QB l)) (QB l)) (fd 4294967296 (wl (QB k)) (QB k)) x'/\(fd 4294967296 (wl (QB l)) (QB l)).length-x'.i=(fd 4294967296 (wl (QB l)) (QB l)).length-x.i/\(fd 4294967296 (wl (QB k)) (QB k)).length-x'.k<(fd 4294967296 (wl (QB k)) (QB k)).length-x_1.k)/\Za x_1.i=Za x'.i/\Za ((fd 4294967296 (wl (QB l)) (QB l)).getD x_1.i 0)=Za ((fd 4294967296 (wl (QB l)) (QB l)).getD x'.i 0)/\Q0 Zc (Zc.wrap (Za x_1.carry+Zc.wrap (Zc.wrap (Zc.wrap (Za ((fd 4294967296 (wl (QB l)) (QB l)).getD x_1.i 0))*Zc.wrap d)+Zc.wrap d_1))) 32=Za x'.carry/\0=0/\(fd 4294967296 (wl (QB k)) (QB k)).length=(fd 4294967296 (wl (QB k)) (QB k)).length/\Za (fd 4294967296 (wl (QB k)) (QB k)).length=Za (fd 4294967296 (wl (QB k)) (QB k)).length/\Zb.wrap (Za x_1.k+1)=Za x'.k/\0=0/\(fd 4294967296 (wl (QB l)) (QB l)).length=(fd 4294967296 (wl (QB l)) (QB l)).length/\0=0/\(fd 4294967296 (wl (QB k)) (QB k)).length=(fd 4294967296 (wl (QB k)) (QB k)).length/\0=0/\(fd 4294967296 (wl (QB l)) (QB l)).length+(fd 4294967296 (wl (QB k)) (QB k)).length=(fd 4294967296 (wl (QB l)) (QB l)).length+(fd 4294967296 (wl (QB k)) (QB k)).length/\0=0/\(fd 4294967296 (wl (QB l)) (QB l)).length=(fd 4294967296 (wl (QB l)) (QB l)).length/\Za (fd 4294967296 (wl (QB l)) (QB l)).length=Za (fd 4294967296 (wl (QB l)) (QB l)).length/\Za x_1.i=Za x'.i/\98=98/\1=1/\(W (fd 4294967296 (wl (QB l)) (QB l))=W (fd 4294967296 (wl (QB l)) (QB l))∨QG (W (fd 4294967296 (wl (QB l)) (QB l))) (W (fd 4294967296 (wl (QB l)) (QB l))))/\98=98/\1=1/\(W (fd 4294967296 (wl (QB k)) (QB k))=W (fd 4294967296 (wl (QB k)) (QB k))∨QG (W (fd 4294967296 (wl (QB k)) (QB k))) (W (fd 4294967296 (wl (QB k)) (QB k))))/\98=98/\1=1/\((W x_1.out).set (0+(Zb.wrap (Za x_1.i+Za x_1.k)).toNat) [Zt (Zd Zo (Zo.wrap (Zc.wrap (Za x_1.carry+Zc.wrap (Zc.wrap (Zc.wrap (Za ((fd 4294967296 (wl (QB l)) (QB l)).getD x_1.i 0))*Zc.wrap d)+Zc.wrap d_1)))))]=W x'.out∨QG ((W x_1.out).set (0+(Zb.wrap (Za x_1.i+Za x_1.k)).toNat) [Zt (Zd Zo (Zo.wrap (Zc.wrap (Za x_1.carry+Zc.wrap (Zc.wrap (Zc.wrap (Za ((fd 4294967296 (wl (QB l)) (QB l)).getD x_1.i 0))*Zc.wrap d)+Zc.wrap d_1)))))]) (W x'.out))/\True else(0<=Zb.wrap (Za x_1.i+Za (fd 4294967296 (wl (QB k)) (QB k)).length)/\Zb.wrap (Za x_1.i+Za (fd 4294967296 (wl (QB k)) (QB k)).length)<Za ((fd 4294967296 (wl (QB l)) (QB l)).length+(fd 4294967296 (wl (QB k)) (QB k)).length))/\0+(Zb.wrap (Za x_1.i+Za (fd 4294967296 (wl (QB k)) (QB k)).length)).toNat<(W x_1.out).length/\∃(x':QCz),(QC0 (fd 4294967296 (wl (QB l)) (QB l)) (fd 4294967296 (wl (QB k)) (QB k)) x'/\OfNat.ofNat 0=0/\(fd 4294967296 (wl (QB l)) (QB l)).length-x'.i<(fd 4294967296 (wl (QB l)) (QB l)).length-x.i)/\0=0/\(fd 4294967296 (wl (QB l)) (QB l)).length=(fd 4294967296 (wl (QB l)) (QB l)).length/\0=0/\(fd 4294967296 (wl (QB k)) (QB k)).length=(fd 4294967296 (wl (QB k)) (QB k)).length/\0=0/\(fd 4294967296 (wl (QB l)) (QB l)).length+(fd 4294967296 (wl (QB k)) (QB k)).length=(fd 4294967296 (wl (QB l)) (QB l)).length+(fd 4294967296 (wl (QB k)) (QB k)).length/\0=0/\(fd 4294967296 (wl (QB l)) (QB l)).length=(fd 4294967296 (wl (QB l)) (QB l)).length/\Za (fd 4294967296 (wl (QB l)) (QB l)).length=Za (fd 4294967296 (wl (QB l)) (QB l)).length/\Zb.wrap (Za x_1.i+1)=Za x'.i/\98=98/\1=1/\(W (fd 4294967296 (wl (QB l)) (QB l))=W (fd 4294967296 (wl (QB l)) (QB l))∨QG (W (fd 4294967296 (wl (QB l)) (QB l))) (W (fd 4294967296 (wl (QB l)) (QB l))))/\98=98/\1=1/\(W (fd 4294967296 (wl (QB k)) (QB k))=W (fd 4294967296 (wl (QB k)) (QB k))∨QG (W (fd 4294967296 (wl (QB k)) (QB k))) (W (fd 4294967296 (wl (QB k)) (QB k))))/\98=98/\1=1/\((W x_1.out).set (0+(Zb.wrap (Za x_1.i+Za (fd 4294967296 (wl (QB k)) (QB k)).length)).toNat) [Zt (Zd Zo (Zo.wrap (Za x_1.carry)))]=W x'.out∨QG ((W x_1.out).set (0+(Zb.wrap (Za x_1.i+Za (fd 4294967296 (wl (QB k)) (QB k)).length)).toNat) [Zt (Zd Zo (Zo.wrap (Za x_1.carry)))]) (W x'.out))/\True else ∃(ds:List Nat),Yg ((fd 4294967296 (wl (QB l)) (QB l)).length+(fd 4294967296 (wl (QB k)) (QB k)).length) (Yh 0 (W x.out))=W ds/\(∀(d:Nat),d∈ds->d<4294967296)/\ds.length<=1099511627776/\K (AV.x false [Ch.b (QF 4294967296 ds) (32*ds.length)])):=by kernel_rfl
theorem QBf (l k:List UInt8)(K:AV->Prop):QAe l k K=GC (QB l) (8*l.length) (QB k) (8*k.length) K:=(QBe l k K).trans (Uk (QB l) (8*l.length) (QB k) (8*k.length) K).symm
def QE5:Ctr:=fun as0=>match as0 with
 | [.x false [.v (.string s)],.x false [.v (.string t)]]=>some fun K=>(s.data.toList.length<=34359738368/\t.data.toList.length<=34359738368)/\K (bA (QB s.data.toList*QB t.data.toList) (8*s.data.toList.length+8*t.data.toList.length))
 | as0=>QC1 as0
theorem QMl {g:Nat}{tab:List Value}:CtrOK Tryd.prog g tab 36 QE5:=by
 refine⟨Qm Tryd.func36 (by kernel_rfl),fun l T hT K hK=> ?_⟩;unfold QE5 at hT;split at hT
 ·rename_i s t;cases hT
  have hG:=QNr (QB s.data.toList) (8*s.data.toList.length) (QB t.data.toList) (8*t.data.toList.length) (NatIs (QB s.data.toList*QB t.data.toList) (8*s.data.toList.length+8*t.data.toList.length)) (by omega) (by omega) (VK _) (VK _) fun _ h=>h;rw[<-QBf]at hG;exact WC (Qn QQj QW Tryd.func36 (by kernel_rfl) (by kernel_rfl) (by rfl) hG) hK.2
 ·exact ok_Mul.sound _ _ hT K hK
def L15:LC:=(84,QBa)::(86,QBb)::(36,QE5)::L14
def M15:List (Nat×YA):=(87,QBc)::(85,QBd)::M14
theorem QNx:QN L15:= .cons QJo (.cons QJp (.cons QMl QNv))
theorem Un:YI M15:= .cons QJq (.cons QJr QNw)
structure Wf where
 xs:List Nat
 ys:List Nat
 ox:Nat
 oy:Nat
 x:Nat
 y:Nat
structure VQ (g:Nat)(z:Wf):Prop where
 wx:Win 18446744073709551616 z.xs z.ox (vl z.x) z.x
 wy:Win 18446744073709551616 z.ys z.oy (vl z.y) z.y
 lx:z.xs.length<=1099511627776
 ly:z.ys.length<=1099511627776
 ex:z.x % 2=1
 ey:z.y % 2=1
 hg:Zk z.x z.y=g
structure QMm (g:Nat)(z:Wf):Prop where
 wx:Win 18446744073709551616 z.xs z.ox (vl z.x) z.x
 wy:Win 18446744073709551616 z.ys z.oy (vl z.y) z.y
 lx:z.xs.length<=1099511627776
 ly:z.ys.length<=1099511627776
 h:(z.x=0/\z.y=g)∨(vl z.x=1/\vl z.y=1/\Zk z.x z.y=g)
def QMn (n m:Nat)(z:Wf):SL:=⟨[(5,wO 15 z.ox (vl z.x)),(6,wO 17 z.oy (vl z.y)),(7,iA .i64 n),(8,iA .i64 m)],[(15,YU z.xs),(17,YU z.ys)]⟩
structure W4 where
 ys:List Nat
 oy:Nat
structure QDF (g:Nat)(z:W4):Prop where
 wy:Win 18446744073709551616 z.ys z.oy (vl g) g
 ly:z.ys.length<=1099511627776
def Bt (bs:List UInt8)(g p:Nat):Prop:=bs[bs.length-1-p]? =some (Zv (g/256^p))
structure QMo (g:Nat)(z:W4×List UInt8×Nat):Prop where
 d:QDF g z.1
 len:z.2.1.length=8*vl g
 hi:z.2.2<=vl g
 low: ∀p,p<8*z.2.2->Bt z.2.1 g p
structure QE6 (g:Nat)(z:W4×List UInt8×Nat×Nat):Prop where
 d:QDF g z.1
 len:z.2.1.length=8*vl g
 hi:z.2.2.1<vl g
 hk:z.2.2.2<=8
 low: ∀p,p<8*z.2.2.1->Bt z.2.1 g p
 new: ∀p,8*z.2.2.1+8-z.2.2.2<=p->p<8*z.2.2.1+8->Bt z.2.1 g p
def QAA (bs:List UInt8):Blk:= .row 5 1 (bs.map QK)
def QE7 (n m g:Nat):LI:=fun id=>bif id.beq 4 then .inv ⟨Wf,QMn n m,VQ g,fun z=>z.x+z.y,fun _=>0⟩
 else bif id.beq 5 then .cut ⟨Wf,QMn n m,VQ g,fun _=>0,fun z=>z.x+z.y⟩
 else bif id.beq 7 then .cut ⟨Wf,QMn n m,fun z=>VQ g z/\z.y<=z.x,fun _=>0,fun z=>z.x+z.y⟩
 else bif id.beq 10 then .cut ⟨Wf,QMn n m,QMm g,fun _=>0,fun _=>0⟩
 else bif id.beq 12 then .cut ⟨W4,fun z=>⟨[(6,wO 17 z.oy (vl g)),(7,iA .i64 n),(8,iA .i64 m)],[(17,YU z.ys)]⟩,QDF g,fun _=>0,fun _=>0⟩
 else bif id.beq 14 then .inv ⟨W4×List UInt8×Nat,fun z=>⟨[(6,wO 17 z.1.oy (vl g)),(7,iA .i64 n),(8,iA .i64 m),(9,.x false [.w 71 0 (8*vl g)]),(72,wO 17 z.1.oy (vl g)),(73,iA .i64 (vl g)),(74,iA .i64 z.2.2)],[(17,YU z.1.ys),(71,QAA z.2.1)]⟩,QMo g,fun z=>vl g-z.2.2,fun _=>0⟩
 else .inv ⟨W4×List UInt8×Nat×Nat,fun z=>⟨[(6,wO 17 z.1.oy (vl g)),(7,iA .i64 n),(8,iA .i64 m),(9,.x false [.w 71 0 (8*vl g)]),(10,iA .i64 z.2.2.1),(11,iA .u64 (g/18446744073709551616^z.2.2.1 % 18446744073709551616:Nat)),(72,wO 17 z.1.oy (vl g)),(73,iA .i64 (vl g)),(74,iA .i64 z.2.2.1),(79,iA .i64 z.2.2.2)],[(17,YU z.1.ys),(71,QAA z.2.1)]⟩,QE6 g,fun z=>8-z.2.2.2,fun z=>vl g-z.2.2.1⟩
def Uo (m a n b r s:Nat)(g:Nat)(K:AV->Prop):Prop:=Qc (mkT L15 M15 X4) (oF Tryd.f77) (QE7 r s g) Tryd.f77 [bA m a,bA n b] K
theorem GN (m:Nat)(a:Nat)(n:Nat)(b:Nat)(r:Nat)(s:Nat)(g:Nat)(K:AV->Prop):Uo m a n b r s g K=(a<=1099511627776/\b<=1099511627776/\∃(n_1:Nat)(v:Nat),Yg (vl m) (Yh 0 (V (fd 18446744073709551616 (vl m) m)))=V (fd 18446744073709551616 n_1 v)/\v<18446744073709551616^n_1/\v≠0/\n_1<=1099511627776/\∀(r_1:Nat),IsEv v r_1->r_1<64*n_1->∃(n_2:Nat)(v:Nat),Yg (vl n) (Yh 0 (V (fd 18446744073709551616 (vl n) n)))=V (fd 18446744073709551616 n_2 v)/\v<18446744073709551616^n_2/\v≠0/\n_2<=1099511627776/\∀(r_2:Nat),IsEv v r_2->r_2<64*n_2->∃(us:List Nat)(v:Nat),V (fd 18446744073709551616 (vl m) m)=V us/\us.length<=1099511627776/\Win 18446744073709551616 us 0 (vl m) v/\(0<=Za r_1/\Za r_1<=64*Za (vl m))/\∀(us':List Nat) (o':Nat),us'.length=us.length->Win 18446744073709551616 us' o' (vl (v/2^(Za r_1).toNat)) (v/2^(Za r_1).toNat)->∃(us:List Nat)(v_1:Nat),V (fd 18446744073709551616 (vl n) n)=V us/\us.length<=1099511627776/\Win 18446744073709551616 us 0 (vl n) v_1/\(0<=Za r_2/\Za r_2<=64*Za (vl n))/\∀(us'_1:List Nat) (o'_1:Nat),us'_1.length=us.length->Win 18446744073709551616 us'_1 o'_1 (vl (v_1/2^(Za r_2).toNat)) (v_1/2^(Za r_2).toNat)->((∃(x:Wf),(VQ g x/\OfNat.ofNat 0=0)/\o'=x.ox/\vl (v/2^(Za r_1).toNat)=vl x.x/\o'_1=x.oy/\vl (v_1/2^(Za r_2).toNat)=vl x.y/\Za r_1=Za r/\Za r_2=Za s/\94=94/\1=1/\(V us'=V x.xs∨QG (V us') (V x.xs))/\94=94/\1=1/\(V us'_1=V x.ys∨QG (V us'_1) (V x.ys))/\True)/\∀(x:Wf),VQ g x->OfNat.ofNat 0=0->(bif decide (Za (vl x.x)>1)then ∃(x_1:Wf),(VQ g x_1/\x_1.x+x_1.y=x.x+x.y)/\x.ox=x_1.ox/\vl x.x=vl x_1.x/\x.oy=x_1.oy/\vl x.y=vl x_1.y/\Za r=Za r/\Za s=Za s/\94=94/\1=1/\(V x.xs=V x_1.xs∨QG (V x.xs) (V x_1.xs))/\94=94/\1=1/\(V x.ys=V x_1.ys∨QG (V x.ys) (V x_1.ys))/\True else bif decide (Za (vl x.y)>1)then ∃(x_1:Wf),(VQ g x_1/\x_1.x+x_1.y=x.x+x.y)/\x.ox=x_1.ox/\vl x.x=vl x_1.x/\x.oy=x_1.oy/\vl x.y=vl x_1.y/\Za r=Za r/\Za s=Za s/\94=94/\1=1/\(V x.xs=V x_1.xs∨QG (V x.xs) (V x_1.xs))/\94=94/\1=1/\(V x.ys=V x_1.ys∨QG (V x.ys) (V x_1.ys))/\True else ∃(x_1:Wf),(QMm g x_1/\OfNat.ofNat 0=0)/\x.ox=x_1.ox/\vl x.x=vl x_1.x/\x.oy=x_1.oy/\vl x.y=vl x_1.y/\Za r=Za r/\Za s=Za s/\94=94/\1=1/\(V x.xs=V x_1.xs∨QG (V x.xs) (V x_1.xs))/\94=94/\1=1/\(V x.ys=V x_1.ys∨QG (V x.ys) (V x_1.ys))/\True)/\∀(x_1:Wf),VQ g x_1->x_1.x+x_1.y=x.x+x.y->(∃(v:Nat)(u:Nat),Yg (vl x_1.x) (Yh x_1.ox (V x_1.xs))=V (fd 18446744073709551616 (vl v) v)/\Yg (vl x_1.y) (Yh x_1.oy (V x_1.ys))=V (fd 18446744073709551616 (vl u) u)/\vl v<=1099511627776/\bif decide (v<u)then ∃(x_2:Wf),((VQ g x_2/\x_2.y<=x_2.x)/\x_2.x+x_2.y=x.x+x.y)/\x_1.oy=x_2.ox/\vl x_1.y=vl x_2.x/\x_1.ox=x_2.oy/\vl x_1.x=vl x_2.y/\Za r=Za r/\Za s=Za s/\94=94/\1=1/\(V x_1.ys=V x_2.xs∨QG (V x_1.ys) (V x_2.xs))/\94=94/\1=1/\(V x_1.xs=V x_2.ys∨QG (V x_1.xs) (V x_2.ys))/\True else ∃(x_2:Wf),((VQ g x_2/\x_2.y<=x_2.x)/\x_2.x+x_2.y=x.x+x.y)/\x_1.ox=x_2.ox/\vl x_1.x=vl x_2.x/\x_1.oy=x_2.oy/\vl x_1.y=vl x_2.y/\Za r=Za r/\Za s=Za s/\94=94/\1=1/\(V x_1.xs=V x_2.xs∨QG (V x_1.xs) (V x_2.xs))/\94=94/\1=1/\(V x_1.ys=V x_2.ys∨QG (V x_1.ys) (V x_2.ys))/\True)/\∀(x_2:Wf),VQ g x_2/\x_2.y<=x_2.x->x_2.x+x_2.y=x.x+x.y->∃(us:List Nat)(ws:List Nat)(v:Nat)(u:Nat),V x_2.xs=V us/\V x_2.ys=V ws/\(us.length<=1099511627776/\ws.length<=1099511627776)/\Win 18446744073709551616 us x_2.ox (vl x_2.x) v/\Win 18446744073709551616 ws x_2.oy (vl x_2.y) u/\u<=v/\∀(us':List Nat),us'.length=us.length->Win 18446744073709551616 us' x_2.ox (vl (v-u)) (v-u)->bif Za (vl (v-u))==0 then ∃(x:Wf),(QMm g x/\OfNat.ofNat 0=0)/\x_2.ox=x.ox/\vl (v-u)=vl x.x/\x_2.oy=x.oy/\vl x_2.y=vl x.y/\Za r=Za r/\Za s=Za s/\94=94/\1=1/\(V us'=V x.xs∨QG (V us') (V x.xs))/\94=94/\1=1/\(V ws=V x.ys∨QG (V ws) (V x.ys))/\True else ∃(n:Nat)(v_2:Nat),Yg (vl (v-u)) (Yh x_2.ox (V us'))=V (fd 18446744073709551616 n v_2)/\v_2<18446744073709551616^n/\v_2≠0/\n<=1099511627776/\∀(r_3:Nat),IsEv v_2 r_3->r_3<64*n->∃(us:List Nat)(v_3:Nat),V us'=V us/\us.length<=1099511627776/\Win 18446744073709551616 us x_2.ox (vl (v-u)) v_3/\(0<=Za r_3/\Za r_3<=64*Za (vl (v-u)))/\∀(us':List Nat) (o':Nat),us'.length=us.length->Win 18446744073709551616 us' o' (vl (v_3/2^(Za r_3).toNat)) (v_3/2^(Za r_3).toNat)->∃(x':Wf),(VQ g x'/\OfNat.ofNat 0=0/\x'.x+x'.y<x.x+x.y)/\o'=x'.ox/\vl (v_3/2^(Za r_3).toNat)=vl x'.x/\x_2.oy=x'.oy/\vl x_2.y=vl x'.y/\Za r=Za r/\Za s=Za s/\94=94/\1=1/\(V us'=V x'.xs∨QG (V us') (V x'.xs))/\94=94/\1=1/\(V ws=V x'.ys∨QG (V ws) (V x'.ys))/\True)/\∀(x:Wf),QMm g x->OfNat.ofNat 0=0->(bif Za (vl x.x)==1 then bif Za (vl x.y)==1 then((0:Int)<=0/\0<Za (vl x.x))/\∃(d:Int),ldE (V x.xs) (x.ox+0) 0 1=some [Zt (Zd Zc d)]/\((0:Int)<=0/\0<Za (vl x.y))/\∃(d_1:Int),ldE (V x.ys) (x.oy+0) 0 1=some [Zt (Zd Zc d_1)]/\((0<=d/\d<18446744073709551616)/\0<=d_1/\d_1<18446744073709551616)/\((0:Int)<=0/\0<Za (vl x.y))/\x.oy+0<(V x.ys).length/\∃(x_1:W4),(QDF g x_1/\OfNat.ofNat 0=0)/\x.oy=x_1.oy/\vl x.y=vl g/\Za r=Za r/\Za s=Za s/\94=94/\1=1/\((V x.ys).set (x.oy+0) [Zt (Zd Zc (Za (d.toNat.gcd d_1.toNat)))]=V x_1.ys∨QG ((V x.ys).set (x.oy+0) [Zt (Zd Zc (Za (d.toNat.gcd d_1.toNat)))]) (V x_1.ys))/\True else ∃(x_1:W4),(QDF g x_1/\OfNat.ofNat 0=0)/\x.oy=x_1.oy/\vl x.y=vl g/\Za r=Za r/\Za s=Za s/\94=94/\1=1/\(V x.ys=V x_1.ys∨QG (V x.ys) (V x_1.ys))/\True else ∃(x_1:W4),(QDF g x_1/\OfNat.ofNat 0=0)/\x.oy=x_1.oy/\vl x.y=vl g/\Za r=Za r/\Za s=Za s/\94=94/\1=1/\(V x.ys=V x_1.ys∨QG (V x.ys) (V x_1.ys))/\True)/\∀(x:W4),QDF g x->OfNat.ofNat 0=0->(0<=Zb.wrap (8*Za (vl g))/\Zb.wrap (8*Za (vl g))<=Zb.wrap (8*Za (vl g))/\1*Zb.wrap (8*Za (vl g))<=281474976710656/\Zb.wrap (8*Za (vl g))<=9223372036854775807)/\(∃(x_1:W4×List UInt8×Nat),(QMo g x_1/\OfNat.ofNat 0=0)/\x.oy=x_1.fst.oy/\vl g=vl g/\Za r=Za r/\Za s=Za s/\0=0/\(Zb.wrap (8*Za (vl g))).toNat=8*vl g/\x.oy=x_1.fst.oy/\vl g=vl g/\Za (vl g)=Za (vl g)/\0=Za x_1.snd.snd/\94=94/\1=1/\(V x.ys=V x_1.fst.ys∨QG (V x.ys) (V x_1.fst.ys))/\5=5/\1=1/\(Zh (Zb.wrap (8*Za (vl g))).toNat [Zt (Zd Zw 0)]=Zq QK x_1.snd.fst∨QG (Zh (Zb.wrap (8*Za (vl g))).toNat [Zt (Zd Zw 0)]) (Zq QK x_1.snd.fst))/\True)/\∀(x:W4×List UInt8×Nat),QMo g x->OfNat.ofNat 0=0->bif decide (Za x.snd.snd<Za (vl g))then(0<=Za x.snd.snd/\Za x.snd.snd<Za (vl g))/\∃(d:Int),ldE (V x.fst.ys) (x.fst.oy+(Za x.snd.snd).toNat) 0 1=some [Zt (Zd Zc d)]/\(∃(x_1:W4×List UInt8×Nat×Nat),(QE6 g x_1/\vl g-x_1.snd.snd.fst=vl g-x.snd.snd)/\x.fst.oy=x_1.fst.oy/\vl g=vl g/\Za r=Za r/\Za s=Za s/\0=0/\8*vl g=8*vl g/\Za x.snd.snd=Za x_1.snd.snd.fst/\d=Za (g/18446744073709551616^x_1.snd.snd.fst%18446744073709551616)/\x.fst.oy=x_1.fst.oy/\vl g=vl g/\Za (vl g)=Za (vl g)/\Za x.snd.snd=Za x_1.snd.snd.fst/\0=Za x_1.snd.snd.snd/\94=94/\1=1/\(V x.fst.ys=V x_1.fst.ys∨QG (V x.fst.ys) (V x_1.fst.ys))/\5=5/\1=1/\(Zq QK x.snd.fst=Zq QK x_1.snd.fst∨QG (Zq QK x.snd.fst) (Zq QK x_1.snd.fst))/\True)/\∀(x_1:W4×List UInt8×Nat×Nat),QE6 g x_1->vl g-x_1.snd.snd.fst=vl g-x.snd.snd->bif decide (Za x_1.snd.snd.snd<8)then 0<=Zb.wrap (56-Zb.wrap (8*Za x_1.snd.snd.snd))/\(0<=Zb.wrap (Zb.wrap (8*Zb.wrap (Zb.wrap (Za (vl g)-1)-Za x_1.snd.snd.fst))+Za x_1.snd.snd.snd)/\Zb.wrap (Zb.wrap (8*Zb.wrap (Zb.wrap (Za (vl g)-1)-Za x_1.snd.snd.fst))+Za x_1.snd.snd.snd)<Za (8*vl g))/\0+(Zb.wrap (Zb.wrap (8*Zb.wrap (Zb.wrap (Za (vl g)-1)-Za x_1.snd.snd.fst))+Za x_1.snd.snd.snd)).toNat<(Zq QK x_1.snd.fst).length/\∃(x':W4×List UInt8×Nat×Nat),(QE6 g x'/\vl g-x'.snd.snd.fst=vl g-x.snd.snd/\8-x'.snd.snd.snd<8-x_1.snd.snd.snd)/\x_1.fst.oy=x'.fst.oy/\vl g=vl g/\Za r=Za r/\Za s=Za s/\0=0/\8*vl g=8*vl g/\Za x_1.snd.snd.fst=Za x'.snd.snd.fst/\Za (g/18446744073709551616^x_1.snd.snd.fst%18446744073709551616)=Za (g/18446744073709551616^x'.snd.snd.fst%18446744073709551616)/\x_1.fst.oy=x'.fst.oy/\vl g=vl g/\Za (vl g)=Za (vl g)/\Za x_1.snd.snd.fst=Za x'.snd.snd.fst/\Zb.wrap (Za x_1.snd.snd.snd+1)=Za x'.snd.snd.snd/\94=94/\1=1/\(V x_1.fst.ys=V x'.fst.ys∨QG (V x_1.fst.ys) (V x'.fst.ys))/\5=5/\1=1/\((Zq QK x_1.snd.fst).set (0+(Zb.wrap (Zb.wrap (8*Zb.wrap (Zb.wrap (Za (vl g)-1)-Za x_1.snd.snd.fst))+Za x_1.snd.snd.snd)).toNat) [Zt (Zd Zw (Zw.wrap (Q0 Zc (Za (g/18446744073709551616^x_1.snd.snd.fst%18446744073709551616)) (Zb.wrap (56-Zb.wrap (8*Za x_1.snd.snd.snd))))))]=Zq QK x'.snd.fst∨QG ((Zq QK x_1.snd.fst).set (0+(Zb.wrap (Zb.wrap (8*Zb.wrap (Zb.wrap (Za (vl g)-1)-Za x_1.snd.snd.fst))+Za x_1.snd.snd.snd)).toNat) [Zt (Zd Zw (Zw.wrap (Q0 Zc (Za (g/18446744073709551616^x_1.snd.snd.fst%18446744073709551616)) (Zb.wrap (56-Zb.wrap (8*Za x_1.snd.snd.snd))))))]) (Zq QK x'.snd.fst))/\True else ∃(x':W4×List UInt8×Nat),(QMo g x'/\OfNat.ofNat 0=0/\vl g-x'.snd.snd<vl g-x.snd.snd)/\x_1.fst.oy=x'.fst.oy/\vl g=vl g/\Za r=Za r/\Za s=Za s/\0=0/\8*vl g=8*vl g/\x_1.fst.oy=x'.fst.oy/\vl g=vl g/\Za (vl g)=Za (vl g)/\Zb.wrap (Za x_1.snd.snd.fst+1)=Za x'.snd.snd/\94=94/\1=1/\(V x_1.fst.ys=V x'.fst.ys∨QG (V x_1.fst.ys) (V x'.fst.ys))/\5=5/\1=1/\(Zq QK x_1.snd.fst=Zq QK x'.snd.fst∨QG (Zq QK x_1.snd.fst) (Zq QK x'.snd.fst))/\True else(8:Int)≠0/\(0<=Zb.wrap (Zb.wrap ((bif false then if Za s>Za r then Za s else Za r else if Za s<Za r then Za s else Za r).tdiv 8)+1)/\Zb.wrap (Zb.wrap ((bif false then if Za s>Za r then Za s else Za r else if Za s<Za r then Za s else Za r).tdiv 8)+1)<=Zb.wrap (Zb.wrap ((bif false then if Za s>Za r then Za s else Za r else if Za s<Za r then Za s else Za r).tdiv 8)+1)/\1*Zb.wrap (Zb.wrap ((bif false then if Za s>Za r then Za s else Za r else if Za s<Za r then Za s else Za r).tdiv 8)+1)<=281474976710656/\Zb.wrap (Zb.wrap ((bif false then if Za s>Za r then Za s else Za r else if Za s<Za r then Za s else Za r).tdiv 8)+1)<=9223372036854775807)/\(8:Int)≠0/\0<=(bif false then if Za s>Za r then Za s else Za r else if Za s<Za r then Za s else Za r).tmod 8/\((0:Int)<=0/\0<Za (Zb.wrap (Zb.wrap ((bif false then if Za s>Za r then Za s else Za r else if Za s<Za r then Za s else Za r).tdiv 8)+1)).toNat)/\0<(Zh (Zb.wrap (Zb.wrap ((bif false then if Za s>Za r then Za s else Za r else if Za s<Za r then Za s else Za r).tdiv 8)+1)).toNat [Zt (Zd Zw 0)]).length/\∃(bs:List UInt8),Yg (8*vl g) (Yh 0 (Zq QK x.snd.fst))=Zq QK bs/\∃(bs_1:List UInt8),Yg (Zb.wrap (Zb.wrap ((bif false then if Za s>Za r then Za s else Za r else if Za s<Za r then Za s else Za r).tdiv 8)+1)).toNat (Yh 0 ((Zh (Zb.wrap (Zb.wrap ((bif false then if Za s>Za r then Za s else Za r else if Za s<Za r then Za s else Za r).tdiv 8)+1)).toNat [Zt (Zd Zw 0)]).set 0 [Zt (Zd Zw (Xh Zw 1 ((bif false then if Za s>Za r then Za s else Za r else if Za s<Za r then Za s else Za r).tmod 8)))]))=Zq QK bs_1/\((Ze bs).toList.length<=34359738368/\(Ze bs_1).toList.length<=34359738368)/\K (AV.x false [Ch.b (QB (Ze bs).toList*QB (Ze bs_1).toList) (8*(Ze bs).toList.length+8*(Ze bs_1).toList.length)])):=by kernel_rfl
theorem IsEv.le_of {v r s:Nat}(h:IsEv v r)(k:IsEv v s):s<=r:=by
 obtain⟨q,hq⟩:=h;obtain⟨p,hp⟩:=k;rcases Ye r s with h' | h'
 ·exfalso;rw[show s=r+(s-r-1+1)by omega,Zj,Yb]at hp;have e:2^r*(2*q+1)=2^r*(2*(2^(s-r-1)*(2*p+1))):=by rw[<-hq,hp];simp only[Zy]
  have:=Nat.eq_of_mul_eq_mul_left (Zi (by decide)) e;omega
 ·exact h'
theorem IsEv.uniq {v r s:Nat}(h:IsEv v r)(k:IsEv v s):r=s:=Nat.le_antisymm (k.le_of h) (h.le_of k)
theorem VQ.swap {g:Nat}{z:Wf}(h:VQ g z):VQ g ⟨z.ys,z.xs,z.oy,z.ox,z.y,z.x⟩:=⟨h.wy,h.wx,h.ly,h.lx,h.ey,h.ex,by simp only;rw[Yp];exact h.hg⟩
theorem GO (bs:List UInt8)(i:Nat)(b:UInt8)(n:Int)(h:n=(b.toNat:Int)):(bs.map QK).set i [.v (.int .u8 n)]=(bs.set i b).map QK:=by rw[List.map_set,h];rfl
theorem QDG {w j:Nat}(h:j<=7):Zv (w % 18446744073709551616/2^(8*j))=Zv (w/256^j):=by
 have e1:(18446744073709551616:Nat)=256^j*256^(8-j):=by rw[<-Zj,show j+(8-j)=8 by omega]
 rw[<-JG];have e2:w % 18446744073709551616/256^j=w/256^j % 256^(8-j):=by
  conv=>lhs;rw[e1]
  rw[Nat.mod_mul_right_div_self]
 rw[e2];apply UInt8.toNat_inj.1;rw[Zz,Zz];apply Nat.mod_mod_of_dvd;exact⟨256^(7-j),by rw[show 8-j=(7-j)+1 by omega,Yb (m:=256)]⟩
theorem QJs {bs:List UInt8}: ∀{g:Nat},(∀p,p<bs.length->Bt bs g p)->QB bs=g % 256^bs.length:=by
 induction bs using Kp with
 | h0=>intro g _;simp[J1,Nat.mod_one]
 | h1 l b ih=>
  intro g h;have hb:=h 0 (by simp);unfold Bt at hb;simp at hb;have hl: ∀p,p<l.length->Bt l (g/256) p:=by
   intro p hp;have:=h (p+1) (by simp;omega);unfold Bt at this⊢;rw[List.length_append,List.length_singleton,show l.length+1-1-(p+1)=l.length-1-p by omega,List.getElem?_append_left (by omega)]at this;rw[this,Zg,<-Yb]
  rw[Xs,ih hl,List.length_append,List.length_singleton,hb,Zz,Yb (m:=256) (n:=l.length),Yy];omega
theorem QJt (q:Nat):QB (Zh q 0)=0:=by
 induction q with
 | zero=>rfl
 | succ q ih=>rw[List.replicate_succ,Wu,ih];simp
theorem QHr (q x:Nat)(hx:x<256):(Zh (q+1) [Zt (.int .u8 0)]).set 0 [.v (.int .u8 (x:Int))]=(Zv x::Zh q 0).map QK:=by
 rw[List.replicate_succ,List.set_cons_zero,List.map_cons,List.map_replicate];congr 1;show[Zt (.int .u8 (x:Int))]=[Zt (.int .u8 ((Zv x).toNat:Int))]
 rw[Zz,Zp hx]
theorem QHs (q t:Nat)(ht:t<8):QB (Zv (2^t)::Zh q 0)=2^(8*q+t):=by
 have:(2:Nat)^t<=2^7:=Zn (by decide) (by omega);rw[Wu,QJt,List.length_replicate,Zz,Zp (by omega),Nat.add_zero,Zj,Yo,JG]
theorem Bt.set {bs:List UInt8}{g p q:Nat}{b:UInt8}(h:Bt bs g p)(hb:q=bs.length-1-p->False):Bt (bs.set q b) g p:=by
 unfold Bt at h⊢;rw[Yx,Zr hb];exact h
theorem Bt.new {bs:List UInt8}{g p:Nat}(h:p<bs.length):Bt (bs.set (bs.length-1-p) (Zv (g/256^p))) g p:=by
 unfold Bt;rw[Yx,Yd];simp;omega
theorem QE6.step {g:Nat}{ys:W4}{bs:List UInt8}{i k:Nat}(h:QE6 g (ys,bs,i,k))(hk:k<8):QE6 g (ys,bs.set (8*(vl g-1-i)+k) (Zv (g/256^(8*i+7-k))),i,k+1):=by
 obtain⟨d,len,hi,_,low,new⟩:=h;simp only at len hi low new;have e:8*(vl g-1-i)+k=bs.length-1-(8*i+7-k):=by omega
 refine⟨d,by simpa using len,hi,by simp only;omega,fun p hp=> ?_,fun p h1 h2=> ?_⟩
 ·simp only at hp⊢;exact(low p hp).set (by omega)
 ·simp only at h1 h2⊢;by_cases e2:p=8*i+7-k
  ·rw[e,e2];exact Bt.new (by omega)
  ·exact(new p (by omega) h2).set (by omega)
theorem QJu (m a n b r s:Nat)(ha:a<=8589934592)(hb:b<=8589934592)(hm:m<2^a)(hn:n<2^b)(er:IsEv m r)(es:IsEv n s):QU (Uo m a n b r s (Zk (m/2^r) (n/2^s)) (NatIs (Zk m n) a)):=by
 refine⟨?_⟩;rw[GN];have m0:=er.ne;have n0:=es.ne;have lm:=XB hm;have ln:=XB hn;have vm:vl m<=1073741825:=by unfold vl;omega
 have vn:vl n<=1073741825:=by unfold vl;omega
 have om:=er.odd;have on:=es.odd;have hgcd:Zk m n=2^min r s*Zk (m/2^r) (n/2^s):=by
  conv=>lhs;rw[er.back,es.back]
  exact QDB om on
 have g0:Zk (m/2^r) (n/2^s)≠0:=by
  intro e;have:=Nat.gcd_eq_zero_iff.1 e;omega
 have hpos:0<m/2^r:=Nat.pos_of_ne_zero fun e=>by rw[e]at om;cases om
 have gle:Zk (m/2^r) (n/2^s)<=m:=Nat.le_trans (Ys _ hpos) (Yt _ _);have hga:Zk m n<2^a:=Yj (Ys _ (by omega)) hm;have hr:r<64*vl m:=er.lt (by have:=W2 m;rwa [show(18446744073709551616:Nat)=2^64 from rfl,<-Yk]at this);have hs:s<64*vl n:=es.lt (by have:=W2 n;rwa [show(18446744073709551616:Nat)=2^64 from rfl,<-Yk]at this);have vg:vl (Zk (m/2^r) (n/2^s))<=1073741825:=Nat.le_trans (QBY gle) vm;simp only[Zs,R0,R1,Nat.zero_add,R4];have wm:Win 18446744073709551616 (fd 18446744073709551616 (vl m) m) 0 (vl m) m:= .of_fd (W2 m) rfl;have wn:Win 18446744073709551616 (fd 18446744073709551616 (vl n) n) 0 (vl n) n:= .of_fd (W2 n) rfl
 have fm:(fd 18446744073709551616 (vl m) m).length=vl m:=Qj;have fn:(fd 18446744073709551616 (vl n) n).length=vl n:=Qj;have tm':Yg (vl m) (Yh 0 (V (fd 18446744073709551616 (vl m) m)))=V (fd 18446744073709551616 (vl m) m):=by rw[Yv,GM,Ya (by omega)]
 have tn':Yg (vl n) (Yh 0 (V (fd 18446744073709551616 (vl n) n)))=V (fd 18446744073709551616 (vl n) n):=by rw[Yv,GM,Ya (by omega)]
 refine⟨by omega,by omega,vl m,m,tm',W2 m,m0,by omega,fun r1 h1 _=> ?_⟩;have:=er.uniq h1;subst this;refine⟨vl n,n,tn',W2 n,n0,by omega,fun s1 h1 _=> ?_⟩;have:=es.uniq h1;subst this;refine⟨_,m,rfl,by omega,wm,by omega,fun us ox lus wus=>⟨_,n,rfl,by omega,wn,by omega,fun ws oy lws wws=> ?_⟩⟩;simp only[Zf,R0]at wus wws⊢;have hq1:m/2^r<=m:=Yt _ _;have hq2:n/2^s<=n:=Yt _ _;generalize hgg:Zk (m/2^r) (n/2^s)=g at*;generalize m/2^r=m1 at*;generalize n/2^s=n1 at*;refine⟨⟨⟨⟨us,ws,ox,oy,m1,n1⟩,⟨wus,wws,by simp only;omega,by simp only;omega,om,on,hgg⟩,rfl,rfl,rfl,rfl,.inl rfl,.inl rfl⟩,fun z hz=>⟨?_,fun z1 hz1 e1=>⟨?_,fun z2 hz2 e2=> ?_⟩⟩⟩,fun z hz=>⟨?_,fun y hy=> ?_⟩⟩
 ·-- the head
  refine QE (fun h=>⟨z,⟨hz,rfl⟩,rfl,rfl,rfl,rfl,.inl rfl,.inl rfl⟩) (fun h=>QE (fun h'=>⟨z,⟨hz,rfl⟩,rfl,rfl,rfl,rfl,.inl rfl,.inl rfl⟩) (fun h'=> ?_));have h:=R6 h;have h':=R6 h';have h1:vl z.x≠0:=fun e=>by have:=Jx.1 e;have:=hz.ex;omega
  have h2:vl z.y≠0:=fun e=>by have:=Jx.1 e;have:=hz.ey;omega
  exact⟨z,⟨hz.wx,hz.wy,hz.lx,hz.ly,.inr ⟨by omega,by omega,hz.hg⟩⟩,rfl,rfl,rfl,rfl,.inl rfl,.inl rfl⟩
 ·-- the greater one first
  have lx:=hz1.wx.le;have llx:=hz1.lx;refine⟨z1.x,z1.y,by rw[QE2,GM,hz1.wx.win],by rw[QE2,GM,hz1.wy.win],by omega,QE (fun h=> ?_) (fun h=> ?_)⟩
  ·have h:=R5 h;exact⟨⟨z1.ys,z1.xs,z1.oy,z1.ox,z1.y,z1.x⟩,⟨⟨hz1.swap,Nat.le_of_lt h⟩,by simp only;omega⟩,rfl,rfl,rfl,rfl,.inl rfl,.inl rfl⟩
  ·have h:=R6 h;exact⟨z1,⟨⟨hz1,by omega⟩,e1⟩,rfl,rfl,rfl,rfl,.inl rfl,.inl rfl⟩
 ·-- the difference, halved
  obtain⟨hz2,hle⟩:=hz2;have llx:=hz2.lx;have lly:=hz2.ly;have hey:=hz2.ey;have hex:=hz2.ex;refine⟨z2.xs,z2.ys,z2.x,z2.y,rfl,rfl,⟨llx,lly⟩,hz2.wx,hz2.wy,hle,fun us' lus' wus'=>QE (fun h=> ?_) (fun h=> ?_)⟩
  ·have h:vl (z2.x-z2.y)=0:=by have:=eq_of_beq h;omega
   have h0:=Jx.1 h;refine⟨⟨us',z2.ys,z2.ox,z2.oy,z2.x-z2.y,z2.y⟩,⟨wus',hz2.wy,by simp only;omega,lly,.inl ⟨h0,?_⟩⟩,rfl,rfl,rfl,rfl,.inl rfl,.inl rfl⟩;simp only;have:=hz2.hg;rw[show z2.x=z2.y by omega,Nat.gcd_self]at this;exact this
  ·have h:vl (z2.x-z2.y)≠0:=fun e=>by rw[e]at h;simp at h
   have h0:z2.x-z2.y≠0:=fun e=>h (Jx.2 e);have lx':=wus'.le;refine⟨_,z2.x-z2.y,by rw[QE2,GM,wus'.win],wus'.lt,h0,by omega,fun t ht htl=>⟨us',z2.x-z2.y,rfl,by omega,wus',by omega,fun us2 o2 lus2 wus2=> ?_⟩⟩;have hodd:=ht.odd;have hback:=ht.back;have ht1:t≠0:=fun e=>by
    subst e;rw[Zl,Yn]at hodd;omega
   have hp2:2*((z2.x-z2.y)/2^t)<=z2.x-z2.y:=by
    have e:2^t=2*2^(t-1):=by rw[<-Yb];congr 1;omega
    have h1:1*((z2.x-z2.y)/2^t)<=2^(t-1)*((z2.x-z2.y)/2^t):=Nat.mul_le_mul_right _ (Zi (by decide));have h2:z2.x-z2.y=2*(2^(t-1)*((z2.x-z2.y)/2^t)):=by
     rw[<-Zy,<-e];exact hback
    omega
   refine⟨⟨us2,z2.ys,o2,z2.oy,(z2.x-z2.y)/2^t,z2.y⟩,⟨⟨wus2,hz2.wy,by simp only;omega,lly,hodd,hey,?_⟩,?_⟩,rfl,rfl,rfl,rfl,.inl rfl,.inl rfl⟩
   ·simp only;rw[<-hz2.hg,<-QJm hle];conv=>rhs;rw[hback]
    exact(Kc t hey).symm
   ·simp only;omega
 ·-- behind the loop
  have wy:=hz.wy;have wx:=hz.wx;have lly:=hz.ly;have fin:z.y=g-> ∃x_1:W4,QDF g x_1/\z.oy=x_1.oy/\vl z.y=vl g/\(V z.ys=V x_1.ys∨QG (V z.ys) (V x_1.ys)):=fun e=>by
   subst e;exact⟨⟨z.ys,z.oy⟩,⟨wy,lly⟩,rfl,rfl,.inl rfl⟩
  refine QE (fun h=>QE (fun h'=> ?_) (fun h'=> ?_)) (fun h=> ?_)
  ·have h:vl z.x=1:=by have:=eq_of_beq h;omega
   have h':vl z.y=1:=by have:=eq_of_beq h';omega
   have hc:Zk z.x z.y=g:=by
    rcases hz.h with⟨h0,_⟩ | ⟨_,_,h⟩
    ·rw[Jx.2 h0]at h;cases h
    ·exact h
   rw[h]at wx;rw[h']at wy;have gx:=wx.get 0 (by omega);have gy:=wy.get 0 (by omega);have lx:=wx.lt;have ly:=wy.lt;have hle:=wy.le;rw[Nat.pow_one]at lx ly;rw[Zl,Yn,Zp lx]at gx;rw[Zl,Yn,Zp ly]at gy;have y0:0<z.y:=Nat.pos_of_ne_zero fun e=>by rw[Jx.2 e]at h';cases h'
   have gy2:g<=z.y:=by rw[<-hc];exact Nat.gcd_le_right _ y0
   have vg1:vl g=1:=by
    have h1:vl g<=1:=VO.2 (by rw[Nat.pow_one];omega);have h2:vl g≠0:=fun e=>g0 (Jx.1 e);omega
   refine⟨by omega,_,WD gx,by omega,_,WD gy,by omega,by omega,by rw[Ul];omega,⟨z.ys.set z.oy g,z.oy⟩,⟨?_,by simpa using lly⟩,rfl,by omega,.inl ?_⟩
   ·rw[vg1];refine⟨by rw[Nat.pow_one];omega,by simpa using hle,fun i hi=> ?_⟩;have:i=0:=by omega
    subst this;simp only;rw[Yd,Zl,Yn,Zp (by omega)];simp;omega
   ·simp only;rw[Zf,Zf,hc,QAd,Nat.add_zero]
  ·have h:vl z.x=1:=by have:=eq_of_beq h;omega
   have h': ¬vl z.y=1:=fun e=>by rw[e]at h';simp at h'
   rcases hz.h with⟨h0,_⟩ | ⟨_,h2,_⟩
   ·rw[Jx.2 h0]at h;cases h
   ·exact absurd h2 h'
  ·have h: ¬vl z.x=1:=fun e=>by rw[e]at h;simp at h
   rcases hz.h with⟨_,h1⟩ | ⟨h2,_⟩
   ·exact fin h1
   ·exact absurd h2 h
 ·-- bytes
  have ew:Zb.wrap (8*(vl g:Int))=((8*vl g:Nat):Int):=by rw[w64 (by omega)];omega
  rw[ew,Zf];refine⟨⟨by omega,by omega,by omega,by omega⟩,⟨(y,Zh (8*vl g) 0,0),⟨hy,by simp,by simp,fun p hp=>by simp at hp⟩,rfl,rfl,rfl,rfl,.inl rfl,.inl ?_⟩,fun x hx=> ?_⟩
  ·simp[QK]
  obtain⟨y,bs,i⟩:=x;have len:=hx.len;have hi:=hx.hi;have wy:=hx.d.wy;have lyl:=hx.d.ly;have hle:=wy.le;simp only at len hi⊢;refine QE (fun h=> ?_) (fun h=> ?_)
  ·have h:i<vl g:=by have:=R5 h;omega
   refine⟨by omega,_,WD (wy.get i h),⟨(y,bs,i,0),⟨⟨hx.d,len,h,by simp,hx.low,fun p h1 h2=>by simp only at h1 h2;omega⟩,rfl⟩,rfl,rfl,rfl,rfl,rfl,rfl,.inl rfl,.inl rfl⟩,fun x1 hx1 ht=> ?_⟩;obtain⟨y1,bs1,i1,k⟩:=x1;have len1:=hx1.len;have hi1:=hx1.hi;have hk1:=hx1.hk;simp only at len1 hi1 hk1 ht⊢;refine QE (fun hq=> ?_) (fun hq=> ?_)
   ·have hq:k<8:=by have:=R5 hq;omega
    have f1:Zb.wrap (Zb.wrap (8*Zb.wrap (Zb.wrap ((vl g:Int)-1)-i1))+k)=((8*(vl g-1-i1)+k:Nat):Int):=by
     rw[w64 (n:=(vl g:Int)-1) (by omega),w64 (n:=(vl g:Int)-1-i1) (by omega),w64 (n:=8*((vl g:Int)-1-i1)) (by omega),w64 (by omega)];omega
    have f2:Zb.wrap (56-Zb.wrap (8*(k:Int)))=((8*(7-k):Nat):Int):=by
     rw[w64 (n:=8*(k:Int)) (by omega),w64 (by omega)];omega
    have f3:Zw.wrap (Q0 .u64 ((g/18446744073709551616^i1 % 18446744073709551616:Nat):Int) ((8*(7-k):Nat):Int))=((Zv (g/256^(8*i1+7-k))).toNat:Int):=by
     rw[show Zw.wrap (Q0 .u64 ((g/18446744073709551616^i1 % 18446744073709551616:Nat):Int) ((8*(7-k):Nat):Int))=_ from JH (by omega),QDG (by omega)];congr 3;rw[Zg];congr 1;rw[show(18446744073709551616:Nat)=256^8 from rfl,<-Yk,<-Zj];congr 1;omega
    simp only[f1,f2,f3,Zf];refine⟨by omega,by omega,by rw[List.length_map];omega,(y1,bs1.set (8*(vl g-1-i1)+k) (Zv (g/256^(8*i1+7-k))),i1,k+1),⟨hx1.step hq,ht,by simp only;omega⟩,rfl,rfl,rfl,rfl,rfl,by rw[w64 (by omega)];simp,.inl rfl,.inl ?_⟩;exact GO _ _ _ _ rfl
   ·have hq:k=8:=by have:=R6 hq;omega
    subst hq;refine⟨(y1,bs1,i1+1),⟨⟨hx1.d,len1,hi1,fun p hp=> ?_⟩,by simp only;omega⟩,rfl,rfl,by rw[w64 (by omega)];simp,.inl rfl,.inl rfl⟩;simp only at hp⊢;by_cases hp2:p<8*i1
    ·exact hx1.low p hp2
    ·exact hx1.new p (by simp only;omega) (by simp only;omega)
  ·have h:i=vl g:=by have:=R6 h;omega
   subst h;have hbe:QB bs=g:=by
    have hlow: ∀p,p<bs.length->Bt bs g p:=fun p hp=>hx.low p (by show p<8*vl g;omega);rw[QJs hlow,Zp];rw[len,Yk];exact W2 g
   have hmin:(bif false then(if(s:Int)>r then(s:Int)else r)else if(s:Int)<r then(s:Int)else r)=((min r s:Nat):Int):=by
    simp only[R8];split<;>omega
   rw[hmin];have hml:min r s<68719476800:=by omega
   generalize min r s=e at hmin hml hgcd⊢;have f1:Zb.wrap (Zb.wrap ((e:Int).tdiv 8)+1)=((e/8+1:Nat):Int):=by
    rw[te (by omega),w64 (n:=(e:Int)/8) (by omega),w64 (by omega)];omega
   have f2:(e:Int).tmod 8=((e % 8:Nat):Int):=by rw[tm (by omega)];omega
   have f3:Xh .u8 1 ((e % 8:Nat):Int)=((2^(e % 8):Nat):Int):=by
    have:(2:Nat)^(e % 8)<=2^7:=Zn (by decide) (by omega);rw[KU (by simp[IntKind.bits];omega),Zf,Int.one_mul];have e1:(2:Int)^(e % 8)=((2^(e % 8):Nat):Int):=by simp
    rw[e1];generalize 2^(e % 8)=q at this;exact wu8 (by omega)
   have hp7:(2:Nat)^(e % 8)<=2^7:=Zn (by decide) (by omega);simp only[f1,f2,f3,Zf];refine⟨by omega,by omega,by omega,by omega,by omega,by rw[List.length_replicate];omega,bs,?_,Zv (2^(e % 8))::Zh (e/8) 0,?_,⟨by omega,by simp;omega⟩,?_⟩
   ·rw[Yv,Ya (by rw[List.length_map];omega)]
   ·rw[Yv,QHr _ _ (by omega),Ya (by simp)]
   ·rw[hbe,QHs _ _ (by omega),show 8*(e/8)+e % 8=e by omega,Yo,<-hgcd];exact .b hga
end Go.Proofs
namespace Go.Proofs
open Go Go.Eng
def GP:Ctr
 | [.x false [.b m a],.x false [.b n b]]=>some fun K=>(a<=8589934592/\b<=8589934592)/\(m≠0/\n≠0)/\K (bA (Zk m n) a)
 | _=>none
theorem QHt:QT 77 GP:=by
 refine⟨Qm Tryd.func77 (by kernel_rfl),fun l T hT K hK=> ?_⟩;unfold GP at hT;split at hT
 ·rename_i m a n b;cases hT
  obtain⟨⟨ha,hb⟩,⟨hm,hn⟩,hK⟩:=hK;obtain⟨r,hr⟩:=IsEv.ex hm;obtain⟨s,hs⟩:=IsEv.ex hn;exact YZ fun w O ρ vals hc=>WC (Qn (Qq QNx Un XP) QW Tryd.func77 (by kernel_rfl) (by kernel_rfl) (by rfl) (QJu m a n b r s ha hb (Jw hc) (JI hc) hr hs)) hK
 ·cases hT
def L16:LC:=(77,GP)::L15
theorem QNy:QN L16:= .cons QHt QNx
structure K3 where
 x:Nat
 y:Nat
def QMp (m a n b:Nat)(z:K3):Prop:=z.x<2^(a+b)/\z.y<2^(a+b)/\Zk z.x z.y=Zk m n
def QMq (m a n b:Nat):LI:=fun id=>bif id.beq 2 then .inv ⟨K3,fun z=>⟨[(0,bA z.x (a+b)),(1,bA z.y (a+b))],[]⟩,QMp m a n b,fun z=>z.x+z.y,fun _=>0⟩
 else bif id.beq 3 then .cut ⟨K3,fun z=>⟨[(0,bA z.x (a+b)),(1,bA z.y (a+b))],[]⟩,fun z=>QMp m a n b z/\z.x≠0/\z.y≠0,fun _=>0,fun z=>z.x+z.y⟩
 else bif id.beq 5 then .cut ⟨K3,fun z=>⟨[(0,bA z.x (a+b)),(1,bA z.y (a+b))],[]⟩,fun z=>QMp m a n b z/\z.x≠0/\z.y≠0/\(QA z.y).length<=(QA z.x).length,fun _=>0,fun z=>z.x+z.y⟩
 else bif id.beq 11 then .cut ⟨K3,fun z=>⟨[(0,bA z.x (a+b)),(1,bA z.y (a+b))],[]⟩,fun z=>QMp m a n b z/\(z.x=0∨z.y=0),fun _=>0,fun _=>0⟩else .no
def QDH (m a n b:Nat)(K:AV->Prop):Prop:=Qc (mkT L16 M15 X4) (oF Tryd.f62) (QMq m a n b) Tryd.f62 [bA m a,bA n b] K
theorem QDI (m:Nat)(a:Nat)(n:Nat)(b:Nat)(K:AV->Prop):QDH m a n b K=(((∃(x:K3),((x.x<2^(a+b)/\x.y<2^(a+b)/\x.x.gcd x.y=m.gcd n)/\OfNat.ofNat 0=0)/\m=x.x/\a<=a+b/\n=x.y/\b<=a+b/\True)/\∀(x:K3),x.x<2^(a+b)/\x.y<2^(a+b)/\x.x.gcd x.y=m.gcd n->OfNat.ofNat 0=0->(bif !decide (QA x.x=(ByteArray.mk #[]).data.toList)then bif !decide (QA x.y=(ByteArray.mk #[]).data.toList)then ∃(x_1:K3),(((x_1.x<2^(a+b)/\x_1.y<2^(a+b)/\x_1.x.gcd x_1.y=m.gcd n)/\x_1.x≠0/\x_1.y≠0)/\x_1.x+x_1.y=x.x+x.y)/\x.x=x_1.x/\a+b<=a+b/\x.y=x_1.y/\a+b<=a+b/\True else ∃(x_1:K3),(((x_1.x<2^(a+b)/\x_1.y<2^(a+b)/\x_1.x.gcd x_1.y=m.gcd n)/\(x_1.x=0∨x_1.y=0))/\OfNat.ofNat 0=0)/\x.x=x_1.x/\a+b<=a+b/\x.y=x_1.y/\a+b<=a+b/\True else ∃(x_1:K3),(((x_1.x<2^(a+b)/\x_1.y<2^(a+b)/\x_1.x.gcd x_1.y=m.gcd n)/\(x_1.x=0∨x_1.y=0))/\OfNat.ofNat 0=0)/\x.x=x_1.x/\a+b<=a+b/\x.y=x_1.y/\a+b<=a+b/\True)/\∀(x_1:K3),(x_1.x<2^(a+b)/\x_1.y<2^(a+b)/\x_1.x.gcd x_1.y=m.gcd n)/\x_1.x≠0/\x_1.y≠0->x_1.x+x_1.y=x.x+x.y->(bif decide (Za (QA x_1.x).length<Za (QA x_1.y).length)then ∃(x_2:K3),(((x_2.x<2^(a+b)/\x_2.y<2^(a+b)/\x_2.x.gcd x_2.y=m.gcd n)/\x_2.x≠0/\x_2.y≠0/\(QA x_2.y).length<=(QA x_2.x).length)/\x_2.x+x_2.y=x.x+x.y)/\x_1.y=x_2.x/\a+b<=a+b/\x_1.x=x_2.y/\a+b<=a+b/\True else ∃(x_2:K3),(((x_2.x<2^(a+b)/\x_2.y<2^(a+b)/\x_2.x.gcd x_2.y=m.gcd n)/\x_2.x≠0/\x_2.y≠0/\(QA x_2.y).length<=(QA x_2.x).length)/\x_2.x+x_2.y=x.x+x.y)/\x_1.x=x_2.x/\a+b<=a+b/\x_1.y=x_2.y/\a+b<=a+b/\True)/\∀(x_2:K3),(x_2.x<2^(a+b)/\x_2.y<2^(a+b)/\x_2.x.gcd x_2.y=m.gcd n)/\x_2.x≠0/\x_2.y≠0/\(QA x_2.y).length<=(QA x_2.x).length->x_2.x+x_2.y=x.x+x.y->bif decide (Za (QA x_2.x).length<=8)then x_2.x<18446744073709551616/\x_2.y<18446744073709551616/\((0<=Za x_2.x/\Za x_2.x<18446744073709551616)/\0<=Za x_2.y/\Za x_2.y<18446744073709551616)/\(0<=Za ((Za x_2.x).toNat.gcd (Za x_2.y).toNat)/\Za ((Za x_2.x).toNat.gcd (Za x_2.y).toNat)<18446744073709551616)/\K (AV.x false [Ch.b (Za ((Za x_2.x).toNat.gcd (Za x_2.y).toNat)).toNat 64])else bif decide (Za (QA x_2.x).length<=Zb.wrap (Za (QA x_2.y).length+8))then(a+b<=8589934592/\a+b<=8589934592)/\(x_2.x≠0/\x_2.y≠0)/\K (AV.x false [Ch.b (x_2.x.gcd x_2.y) (a+b)])else(a+b<=549755813888/\a+b<=549755813888)/\∃(x':K3),((x'.x<2^(a+b)/\x'.y<2^(a+b)/\x'.x.gcd x'.y=m.gcd n)/\OfNat.ofNat 0=0/\x'.x+x'.y<x.x+x.y)/\x_2.y=x'.x/\a+b<=a+b/\(bif decide (x_2.y=0)then 0 else x_2.x%x_2.y)=x'.y/\a+b<=a+b/\True)/\∀(x:K3),(x.x<2^(a+b)/\x.y<2^(a+b)/\x.x.gcd x.y=m.gcd n)/\(x.x=0∨x.y=0)->OfNat.ofNat 0=0->((x.x=0∨x.y=0)/\a+b+(a+b)<=1152921504606846976)/\K (AV.x false [Ch.b (x.x+x.y) (a+b+(a+b))])):=by kernel_rfl
theorem QQt (m a n b:Nat)(ha:a<=4294967296)(hb:b<=4294967296)(hm:m<2^a)(hn:n<2^b):QU (QDH m a n b (NatIs (Zk m n) (a+b))):=by
 refine⟨?_⟩;rw[QDI];have hpa:(2:Nat)^a<=2^(a+b):=Zn (by decide) (by omega);have hpb:(2:Nat)^b<=2^(a+b):=Zn (by decide) (by omega);have hg:Zk m n<2^(a+b):=by
  rcases Nat.eq_zero_or_pos m with rfl | h
  ·rw[Nat.gcd_zero_left];omega
  ·have:=Ys n h;omega
 have nil: ∀x:Nat,(!decide (QA x=(ByteArray.mk #[]).data.toList))= !decide (x=0):=fun x=>by
  congr 1;rw[Bool.eq_iff_iff,decide_eq_true_eq,decide_eq_true_eq];exact Qk
 simp only[nil];simp only[Zs,R0,R1,Yw,R4];refine⟨⟨⟨⟨m,n⟩,⟨by simp only;omega,by simp only;omega,rfl⟩,rfl,by omega,rfl,by omega⟩,fun z hz=>⟨?_,fun z1 hz1 e1=>⟨?_,fun z2 hz2 e2=> ?_⟩⟩⟩,fun z hz=> ?_⟩
 ·refine QE (fun h=>QE (fun h'=> ?_) (fun h'=> ?_)) (fun h=> ?_)
  ·exact⟨z,⟨⟨hz,by simpa using h,by simpa using h'⟩,rfl⟩,rfl,rfl⟩
  ·exact⟨z,⟨hz,.inr (by simpa using h')⟩,rfl,rfl⟩
  ·exact⟨z,⟨hz,.inl (by simpa using h)⟩,rfl,rfl⟩
 ·obtain⟨⟨h1,h2,h3⟩,h4,h5⟩:=hz1;refine QE (fun h=> ?_) (fun h=> ?_)
  ·have h:=R5 h;exact⟨⟨z1.y,z1.x⟩,⟨⟨⟨h2,h1,by simp only;rw[Yp];exact h3⟩,h5,h4,by simp only;omega⟩,by simp only;omega⟩,rfl,rfl⟩
  ·have h:=R6 h;exact⟨z1,⟨⟨⟨h1,h2,h3⟩,h4,h5,by omega⟩,e1⟩,rfl,rfl⟩
 ·obtain⟨⟨h1,h2,h3⟩,h4,h5,h6⟩:=hz2;have l1:=XB h1;have l2:=XB h2;refine QE (fun h=> ?_) (fun h=>QE (fun h'=> ?_) (fun h'=> ?_))
  ·have h:=R5 h;have x8:=Qa (m:=z2.x) (k:=8) |>.1 (by omega)
   have y8:=Qa (m:=z2.y) (k:=8) |>.1 (by omega)
   simp only[Zf];have hgx:=Ys z2.y (by omega:0<z2.x);rw[h3]at hgx⊢;exact⟨by omega,by omega,by omega,by omega,.b hg⟩
  ·rw[h3];exact⟨by omega,⟨h4,h5⟩,.b hg⟩
  ·have hmod:=Yi z2.x (by omega:0<z2.y);have hlen: ¬(QA z2.x).length<=(QA z2.y).length+8:=by
    have:=R6 h';rw[w64 (by omega)]at this;omega
   have hlt:=UQ (m:=z2.y) (n:=z2.x) (by omega);simp only[h5,decide_false,R8];refine⟨by omega,⟨z2.y,z2.x % z2.y⟩,⟨⟨h2,by simp only;omega,?_⟩,by simp only;omega⟩,rfl,rfl⟩;simp only;rw[<-h3,Yp z2.y,<-Nat.gcd_rec,Yp]
 ·obtain⟨⟨h1,h2,h3⟩,h4⟩:=hz;have e:z.x+z.y=Zk m n:=by
   rw[<-h3];rcases h4 with h | h
   ·rw[h,Nat.gcd_zero_left];omega
   ·rw[h,Nat.gcd_zero_right];omega
  refine⟨⟨h4,by omega⟩,?_⟩;rw[e];exact .b hg
def QGC:Ctr
 | [.x false [.b m a],.x false [.b n b]]=>some fun K=>(a<=4294967296/\b<=4294967296)/\K (bA (Zk m n) (a+b))
 | _=>none
theorem ok_Gcd:QT 62 QGC:=by
 refine⟨Qm Tryd.func62 (by kernel_rfl),fun l T hT K hK=> ?_⟩;unfold QGC at hT;split at hT
 ·rename_i m a n b;cases hT
  exact YZ fun w O ρ vals hc=>WC (Qn (Qq QNy Un XP) QW Tryd.func62 (by kernel_rfl) (by kernel_rfl) (by rfl) (QQt m a n b hK.1.1 hK.1.2 (Jw hc) (JI hc))) hK.2
 ·cases hT
def L17:LC:=(62,QGC)::L16
theorem QQu:QN L17:= .cons ok_Gcd QNy
end Go.Proofs
