/- Chains that count roots: what halve, split, apart, fine answer, plainly. -/
import Derived.Test.YtjdhppdpbkoihaaGreatDoorQA
open Option renaming bind_some → Za
open Rat renaming le_refl → Zb, le_trans → Zd, not_lt → Zj, div_mul_cancel → Zk
open Nat renaming pow_succ → Zc, ble → Zf, two_pow_pos → Zn
open List renaming getD_eq_getElem?_getD → Ze, append_assoc → Zg, eq_nil_of_length_eq_zero → Zh, mem_append → Zi, replicate → Zl, not_mem_nil → Zm
namespace Go.Proofs
open Go Go.Eng
structure Cnt (c:List (List Rat))(U V:Rat->Int)(sep:Rat):Prop where
  cnt: ∀s:Sp,Bd 20000 s.lo->Bd 20000 s.hi->YF c s=some (U s.lo-V s.hi)
  zer: ∀x,Bd 20000 x->YQ c x=some (decide (U x≠V x))
  le: ∀x,V x<=U x/\U x<=V x+1
  anti: ∀x y,x<y->U y<=V x
  nn: ∀x,0<=V x
  two: ∀x,U x<=2
  pos:0<sep
  far: ∀x y,x<=y->2<=U x-V y->sep<=y-x

def Gd (D M j:Nat)(x:Rat):Prop:= ∃n:Int,x*(((D*2^j:Nat):Int):Rat)=(n:Rat)/\n.natAbs<=M*2^j
theorem Gd.up {D M j:Nat}{x:Rat}(h:Gd D M j x):Gd D M (j+1) x:=by
 obtain⟨n,e,l⟩:=h;refine⟨2*n,?_,?_⟩
 ·have:((D*2^(j+1):Nat):Int)=2*((D*2^j:Nat):Int):=by rw[Zc];push_cast;rw[Int.mul_comm 2,Int.mul_assoc]
  rw[this];push_cast at e⊢;grind
 ·rw[Int.natAbs_mul,Zc];show 2*n.natAbs<=_
  generalize 2^j=p at*;have:M*(p*2)=2*(M*p):=by rw[<-Nat.mul_assoc,Nat.mul_comm]
  omega
theorem Gd.ups {D M j:Nat}{x:Rat}(h:Gd D M j x): ∀k,Gd D M (j+k) x
 | 0=>h
 | k+1=>(Gd.ups h k).up
theorem Gd.le {D M j k:Nat}{x:Rat}(h:Gd D M j x)(hk:j<=k):Gd D M k x:=by
 have:=h.ups (k-j);rwa [Nat.add_sub_cancel' hk]at this
theorem Gd.mid {D M j:Nat}{x y:Rat}(h:Gd D M j x)(k:Gd D M j y):Gd D M (j+1) ((x+y)/2):=by
 obtain⟨n,e,l⟩:=h;obtain⟨m,e',l'⟩:=k;refine⟨n+m,?_,?_⟩
 ·have:((D*2^(j+1):Nat):Int)=2*((D*2^j:Nat):Int):=by rw[Zc];push_cast;rw[Int.mul_comm 2,Int.mul_assoc]
  rw[this];push_cast at e e'⊢;grind
 ·rw[Zc];generalize 2^j=p at*;have:M*(p*2)=2*(M*p):=by rw[<-Nat.mul_assoc,Nat.mul_comm]
  omega
theorem Gd.half {D M j:Nat}{x:Rat}(h:Gd D M j x):Gd D M (j+1) (x/2):=by
 have:=h.mid (y:=0) ⟨0,by simp,by simp⟩;rwa [Rat.add_zero]at this
theorem Gd.bd {a D M j:Nat}{x:Rat}(h:Gd D M j x)(h0:0<D)(hD:D<2^a)(hM:M<2^a):Bd (a+j) x:=by
 obtain⟨n,e,l⟩:=h;have hp:0<D*2^j:=Nat.mul_pos h0 (Zn j);rw[QIu (fun e=>by have:=Rat.intCast_eq_zero_iff.1 e;omega) e];refine K6 hp ?_ ?_
 ·rw[Nat.pow_add];exact Nat.lt_of_le_of_lt l ((Nat.mul_lt_mul_right (Zn j)).2 hM)
 ·rw[Nat.pow_add];exact(Nat.mul_lt_mul_right (Zn j)).2 hD
theorem QKd:QGN=1/2:=by decide+kernel
theorem QTu:Bd 2 QGN:=by
 rw[QKd];exact⟨by decide+kernel,by decide+kernel⟩
theorem QKe {s:Sp}(h1:Bd 20000 s.lo)(h2:Bd 20000 s.hi):Vs s=some ((s.lo+s.hi)/2):=by
 unfold Vs;rw[Xo h1 h2 (by omega)];show YV QGN _=_
 rw[XD QTu (XV h1 h2) (by omega),QKd];congr 1;grind
namespace Cnt
variable {c:List (List Rat)}{U V:Rat->Int}{sep:Rat}
theorem uu (h:Cnt c U V sep){x y:Rat}(hxy:x<=y):U y<=U x:=by
 rcases Rat.le_iff_lt_or_eq.1 hxy with e | e
 ·have:=h.anti x y e;have:=(h.le x).1;omega
 ·rw[e];exact Int.le_refl _
theorem vv (h:Cnt c U V sep){x y:Rat}(hxy:x<=y):V y<=V x:=by
 rcases Rat.le_iff_lt_or_eq.1 hxy with e | e
 ·have:=h.anti x y e;have:=(h.le y).1;omega
 ·rw[e];exact Int.le_refl _
theorem vu (h:Cnt c U V sep){x y:Rat}(hxy:x<=y):V y<=U x:=by
 have:=h.vv hxy;have:=(h.le x).1;omega
theorem keep (h:Cnt c U V sep){s s':Sp}(h1:U s.lo-V s.hi=1)(h2:U s'.lo-V s'.hi=1)(hl:s.lo<=s'.lo)(hh:s'.hi<=s.hi){t:Rat}(ht:U t≠V t)(tl:s.lo<=t)(th:t<=s.hi):s'.lo<=t/\t<=s'.hi:=by
 have t1:=h.le t;constructor
 ·refine Zj.1 fun e=> ?_
  have a1:=h.anti t s'.lo e;have a2:=h.uu tl;have a3:=h.vv hh;omega
 ·refine Zj.1 fun e=> ?_
  have a1:=h.anti s'.hi t e;have a2:=h.vv th;have a3:=h.uu hl;omega
theorem ends (h:Cnt c U V sep){s s':Sp}(h1:U s.lo-V s.hi=1)(h2:U s'.lo-V s'.hi=1)(hl:s.lo<=s'.lo)(hh:s'.hi<=s.hi):U s'.lo=U s.lo/\V s'.hi=V s.hi:=by
 have a1:=h.uu hl;have a2:=h.vv hh;omega
theorem halve (h:Cnt c U V sep){s:Sp}(hl:Bd 20000 s.lo)(hh:Bd 20000 s.hi)(hm:Bd 20000 ((s.lo+s.hi)/2))(ho:s.lo<=s.hi)(h1:U s.lo-V s.hi=1):
  ∃s',J3 c s=some s'/\U s'.lo-V s'.hi=1/\s.lo<=s'.lo/\s'.lo<=s'.hi/\s'.hi<=s.hi/\(s'.hi-s'.lo)*2<=s.hi-s.lo/\
   ∀P:Rat->Prop,P s.lo->P s.hi->P ((s.lo+s.hi)/2)->P s'.lo/\P s'.hi:=by
 unfold J3;rw[QKe hl hh];generalize em:(s.lo+s.hi)/2=m at*;have m1:s.lo<=m:=by grind
 have m2:m<=s.hi:=by grind
 simp only[Za];rw[h.zer m hm];simp only[Za];have lm:=h.le m;have ll:=h.le s.lo;have lh:=h.le s.hi;have u1:=h.uu m1;have u2:=h.vv m2;by_cases e:U m=V m
 ·rw[decide_eq_false (by simpa using e)];simp only[R8];rw[h.cnt ⟨s.lo,m⟩ hl hm];simp only[Za];by_cases e2:U s.lo-V m=1
  ·have:(U s.lo-V m==1)=true:=by simpa using e2
   rw[this];exact⟨⟨s.lo,m⟩,rfl,e2,Zb,m1,m2,by grind,fun P p1 p2 p3=>⟨p1,p3⟩⟩
  ·have:(U s.lo-V m==1)=false:=by simpa using e2
   rw[this];exact⟨⟨m,s.hi⟩,rfl,by show U m-V s.hi=1;omega,m1,m2,Zb,by grind,fun P p1 p2 p3=>⟨p3,p2⟩⟩
 ·rw[decide_eq_true (by simpa using e)];exact⟨⟨m,m⟩,rfl,by show U m-V m=1;omega,m1,Zb,m2,by grind,fun P p1 p2 p3=>⟨p3,p3⟩⟩
theorem bdG {a D M j:Nat}(h0:0<D)(hD:D<2^a)(hM:M<2^a)(hj:a+j<=20000){x:Rat}(h:Gd D M j x):Bd 20000 x:=(h.bd h0 hD hM).mono hj
theorem fine (h:Cnt c U V sep){a D M:Nat}(h0:0<D)(hD:D<2^a)(hM:M<2^a){w:Rat}: ∀(k f j:Nat) (s:Sp),k<f->a+j+k+1<=20000->Gd D M j s.lo->Gd D M j s.hi->s.lo<=s.hi->U s.lo-V s.hi=1->s.hi-s.lo<=w*((2^k:Nat):Rat)->
  ∃s',Ke c w f s=some s'/\U s'.lo-V s'.hi=1/\s.lo<=s'.lo/\s'.lo<=s'.hi/\s'.hi<=s.hi/\s'.hi-s'.lo<=w/\Gd D M (j+k) s'.lo/\Gd D M (j+k) s'.hi:=by
 intro k;induction k with
 | zero=>
  intro f j s hf hj gl gh ho h1 hw;obtain⟨f,rfl⟩: ∃g,f=g+1:=⟨f-1,by omega⟩;have hw:s.hi-s.lo<=w:=by simpa using hw
  refine⟨s,?_,h1,Zb,ho,Zb,hw,gl,gh⟩;unfold Ke;rw[Y5 (bdG h0 hD hM (by omega) gh) (bdG h0 hD hM (by omega) gl) (by omega)];simp only[Za];rw[decide_eq_false (Zj.2 hw)];rfl
 | succ k ih=>
  intro f j s hf hj gl gh ho h1 hw;obtain⟨f,rfl⟩: ∃g,f=g+1:=⟨f-1,by omega⟩;unfold Ke;rw[Y5 (bdG h0 hD hM (by omega) gh) (bdG h0 hD hM (by omega) gl) (by omega)];simp only[Za];by_cases e:w<s.hi-s.lo
  ·rw[decide_eq_true e];simp only[R7];obtain⟨s',e1,e2,e3,e4,e5,e6,e7⟩:=h.halve (bdG h0 hD hM (by omega) gl) (bdG h0 hD hM (by omega) gh) (bdG (j:=j+1) h0 hD hM (by omega) (gl.mid gh)) ho h1;obtain⟨g1,g2⟩:=e7 (Gd D M (j+1)) gl.up gh.up (gl.mid gh);have hw':s'.hi-s'.lo<=w*((2^k:Nat):Rat):=by
    rw[Zc]at hw;push_cast at hw⊢;grind
   obtain⟨s2,f1,f2,f3,f4,f5,f6,f7,f8⟩:=ih f (j+1) s' (by omega) (by omega) g1 g2 e4 e2 hw';rw[e1];simp only[Za];rw[show j+(k+1)=j+1+k by omega];exact⟨s2,f1,f2,Zd e3 f3,f4,Zd f5 e5,f6,f7,f8⟩
  ·rw[decide_eq_false e];exact⟨s,rfl,h1,Zb,ho,Zb,Zj.1 e,gl.ups _,gh.ups _⟩
theorem near_one (h:Cnt c U V sep){m b:Rat}(hr:U m≠V m)(hb:0<b)(hs:b<sep):U (m-b/2)-V (m+b/2)=1/\U (m-b/2)=V (m-b/2)/\U (m+b/2)=V (m+b/2):=by
 have lm:=h.le m;have ll:=h.le (m-b/2);have lu:=h.le (m+b/2);have e1:m-b/2<m:=by grind
 have e2:m<m+b/2:=by grind
 have a1:=h.anti _ _ e1;have a2:=h.anti _ _ e2;have f1: ¬2<=U (m-b/2)-V (m+b/2):=fun k=>by
  have:=h.far (m-b/2) (m+b/2) (by grind) k;grind
 omega
theorem near_round (h:Cnt c U V sep){m b:Rat}{f:Nat}(hb:Bd 10000 b)(hm:Bd 9000 m)(hl:Bd 20000 (m-b/2))(hu:Bd 20000 (m+b/2)):
    KC c m (f+1) b=if U (m-b/2)-V (m+b/2)=1/\U (m-b/2)=V (m-b/2)/\U (m+b/2)=V (m+b/2)then some ⟨m-b/2,m+b/2⟩else KC c m f (b/2):=by
  have mid01:Vs ⟨0,1⟩=some (1/2):=by decide+kernel
  have b2:Bd 2 (1/2:Rat):=⟨by decide+kernel,by decide+kernel⟩;have eb:b*(1/2)=b/2:=by grind
  have hb2:=Qg hb b2;rw[KC,mid01];simp only[Za];rw[XD hb b2 (by omega)];simp only[Za];rw[eb]at hb2⊢;rw[Y5 hm hb2 (by omega)];simp only[Za];rw[Xo hm hb2 (by omega)];simp only[Za];rw[h.cnt ⟨m-b/2,m+b/2⟩ hl hu];simp only[Za];by_cases e1:U (m-b/2)-V (m+b/2)=1
  · have:(U (m-b/2)-V (m+b/2)==1)=true:=by simpa using e1
    rw[this];simp only[R7];rw[h.zer _ hl];simp only[Za];by_cases e2:U (m-b/2)=V (m-b/2)
    · rw[decide_eq_false (by simpa using e2)];simp only[R8];rw[h.zer _ hu];simp only[Za];by_cases e3:U (m+b/2)=V (m+b/2)
      · rw[decide_eq_false (by simpa using e3),if_pos ⟨e1,e2,e3⟩];rfl
      · rw[decide_eq_true (by simpa using e3),if_neg (fun h=>e3 h.2.2)];rfl
    · rw[decide_eq_true (by simpa using e2),if_neg (fun h=>e2 h.2.1)];rfl
  · have:(U (m-b/2)-V (m+b/2)==1)=false:=by simpa using e1
    rw[this,if_neg (fun h=>e1 h.1)];rfl
theorem near (h:Cnt c U V sep){a D M:Nat}(h0:0<D)(hD:D<2^a)(hM:M<2^a){m:Rat}(hr:U m≠V m): ∀(k f j:Nat) (b:Rat),k<f->a+j+k+2<=9000->Gd D M j m->Gd D M j (m-b)->Gd D M j (m+b)->Gd D (2*M) j b->0<b->b<sep*((2^k:Nat):Rat)->
    ∃t,KC c m f b=some t/\U t.lo-V t.hi=1/\U t.lo=V t.lo/\U t.hi=V t.hi/\m-b<=t.lo/\t.lo<m/\m<t.hi/\t.hi<=m+b/\Gd D M (j+k+1) t.lo/\Gd D M (j+k+1) t.hi:=by
  intro k;induction k with
  | zero=>
    intro f j b hf hj gm gl gh hb hb0 hw;obtain⟨f,rfl⟩: ∃g,f=g+1:=⟨f-1,by omega⟩;have hw:b<sep:=by simpa using hw
    have el:(m-b+m)/2=m-b/2:=by grind
    have eh:(m+b+m)/2=m+b/2:=by grind
    have g1:=gl.mid gm;have g2:=gh.mid gm;rw[el]at g1;rw[eh]at g2;rw[h.near_round ((hb.bd (a:=a+1) h0 (by rw[Zc];omega) (by rw[Zc];omega)).mono (by omega)) ((gm.bd h0 hD hM).mono (by omega)) (bdG h0 hD hM (by omega) g1) (bdG h0 hD hM (by omega) g2)];have key:=h.near_one hr hb0 hw;rw[if_pos key];exact⟨_,rfl,key.1,key.2.1,key.2.2,by grind,by grind,by grind,by grind,g1,g2⟩
  | succ k ih=>
    intro f j b hf hj gm gl gh hb hb0 hw;obtain⟨f,rfl⟩: ∃g,f=g+1:=⟨f-1,by omega⟩;have el:(m-b+m)/2=m-b/2:=by grind
    have eh:(m+b+m)/2=m+b/2:=by grind
    have g1:=gl.mid gm;have g2:=gh.mid gm;rw[el]at g1;rw[eh]at g2;rw[h.near_round ((hb.bd (a:=a+1) h0 (by rw[Zc];omega) (by rw[Zc];omega)).mono (by omega)) ((gm.bd h0 hD hM).mono (by omega)) (bdG h0 hD hM (by omega) g1) (bdG h0 hD hM (by omega) g2)];by_cases key:U (m-b/2)-V (m+b/2)=1/\U (m-b/2)=V (m-b/2)/\U (m+b/2)=V (m+b/2)
    · rw[if_pos key];exact⟨_,rfl,key.1,key.2.1,key.2.2,by grind,by grind,by grind,by grind,g1.le (by omega),g2.le (by omega)⟩
    · rw[if_neg key];have hw':b/2<sep*((2^k:Nat):Rat):=by
        rw[Zc]at hw;push_cast at hw⊢;grind
      obtain⟨t,e1,e2,e3,e4,e5,e6,e7,e8,e9,e10⟩:=ih f (j+1) (b/2) (by omega) (by omega) gm.up g1 g2 hb.half (by grind) hw';rw[show j+(k+1)+1=j+1+k+1 by omega];exact⟨t,e1,e2,e3,e4,by grind,e6,e7,by grind,e9,e10⟩
inductive QCT (U V:Rat->Int)(s:Sp):List Sp->Prop
  | zero (h:U s.lo-V s.hi=0):QCT U V s []
  | one {x:Sp} (h:U s.lo-V s.hi=1) (h1:s.lo<=x.lo) (h2:x.lo<=x.hi) (h3:x.hi<=s.hi) (hx:U x.lo-V x.hi=1):QCT U V s [x]
  | two {x y:Sp} (h:U s.lo-V s.hi=2) (h1:s.lo<=x.lo) (h2:x.lo<=x.hi) (h3:x.hi<=y.lo) (h4:y.lo<=y.hi) (h5:y.hi<=s.hi) (hx:U x.lo-V x.hi=1) (hy:U y.lo-V y.hi=1) (ht:U x.lo-V y.hi=2):QCT U V s [x,y]
theorem split_one (h:Cnt c U V sep){g:Nat}{out:List Sp}{s:Sp}(hl:Bd 20000 s.lo)(hh:Bd 20000 s.hi)(ho:s.lo<=s.hi)(hn:U s.lo-V s.hi<=1):
  ∃L,XM c (g+1) out s=some (out++L)/\QCT U V s L/\ ∀x∈L,x=s:=by
 have hv:=h.vu ho;unfold XM;rw[h.cnt s hl hh];simp only[Za];by_cases e:U s.lo-V s.hi=0
 ·rw[e];exact⟨[],by simp,.zero e,by simp⟩
 ·have e1:U s.lo-V s.hi=1:=by omega
  rw[e1];exact⟨[s],rfl,.one e1 Zb ho Zb e1,by simp⟩
theorem QCT.app {s:Sp}{m:Rat}{L1 L2:List Sp}(h:Cnt c U V sep)(hm:U m=V m)(h1:s.lo<=m)(h2:m<=s.hi)(hn:U s.lo-V s.hi<=2)(k1:QCT U V ⟨s.lo,m⟩ L1)(k2:QCT U V ⟨m,s.hi⟩ L2):QCT U V s (L1++L2):=by
 cases k1 with
 | zero a=>
  have a:U s.lo-V m=0:=a;cases k2 with
  | zero b=>have b:U m-V s.hi=0:=b;exact .zero (by omega)
  | one b b1 b2 b3 bx=>have b:U m-V s.hi=1:=b;exact .one (by omega) (Zd h1 b1) b2 b3 bx
  | two b b1 b2 b3 b4 b5 bx by' bt=>have b:U m-V s.hi=2:=b;exact .two (by omega) (Zd h1 b1) b2 b3 b4 b5 bx by' bt
 | one a a1 a2 a3 ax=>
  have a:U s.lo-V m=1:=a;cases k2 with
  | zero b=>have b:U m-V s.hi=0:=b;exact .one (by omega) a1 a2 (Zd a3 h2) ax
  | one b b1 b2 b3 bx=>have b:U m-V s.hi=1:=b;have q1:=h.ends (s:=⟨s.lo,m⟩) a ax a1 a3;have q2:=h.ends (s:=⟨m,s.hi⟩) b bx b1 b3;exact .two (by omega) a1 a2 (Zd a3 b1) b2 b3 ax bx (by have q3:U _=U s.lo:=q1.1;have q4:V _=V s.hi:=q2.2;omega)
  | two b b1 b2 b3 b4 b5 bx by'=>have b:U m-V s.hi=2:=b;omega
 | two a a1 a2 a3 a4 a5 ax ay at'=>
  have a:U s.lo-V m=2:=a;cases k2 with
  | zero b=>have b:U m-V s.hi=0:=b;exact .two (by omega) a1 a2 a3 a4 (Zd a5 h2) ax ay at'
  | one b b1 b2 b3 bx=>have b:U m-V s.hi=1:=b;omega
  | two b b1 b2 b3 b4 b5 bx by'=>have b:U m-V s.hi=2:=b;omega
theorem Gd.dif {D M j:Nat}{x y:Rat}(h:Gd D M j x)(k:Gd D M j y):Gd D (2*M) j (x-y):=by
 obtain⟨n,e,l⟩:=h;obtain⟨m,e',l'⟩:=k;refine⟨n-m,?_,?_⟩
 ·push_cast at e e'⊢;grind
 ·rw[Nat.mul_assoc];omega
theorem split (h:Cnt c U V sep){a D M:Nat}(h0:0<D)(hD:D<2^a)(hM:M<2^a): ∀(k f j:Nat) (out:List Sp) (s:Sp),k+2<=f->a+j+k+10<=9000->Gd D M j s.lo->Gd D M j s.hi->s.lo<=s.hi->s.hi-s.lo<sep*((2^k:Nat):Rat)->
  ∃L,XM c f out s=some (out++L)/\QCT U V s L/\ ∀x∈L,Gd D M (j+k+1) x.lo/\Gd D M (j+k+1) x.hi:=by
 intro k;induction k with
 | zero=>
  intro f j out s hf hj gl gh ho hw;obtain⟨f,rfl⟩: ∃g,f=g+1:=⟨f-1,by omega⟩;have hn:U s.lo-V s.hi<=1:=by
   have: ¬2<=U s.lo-V s.hi:=fun e=>by
    have:=h.far _ _ ho e;have hw:s.hi-s.lo<sep:=by simpa using hw
    exact absurd hw (Zj.2 this)
   omega
  obtain⟨L,e1,e2,e3⟩:=h.split_one (g:=f) (out:=out) (bdG h0 hD hM (by omega) gl) (bdG h0 hD hM (by omega) gh) ho hn;exact⟨L,e1,e2,fun x hx=>by rw[e3 x hx];exact⟨gl.up,gh.up⟩⟩
 | succ k ih=>
  intro f j out s hf hj gl gh ho hw;obtain⟨f,rfl⟩: ∃g,f=g+1:=⟨f-1,by omega⟩;by_cases hn:U s.lo-V s.hi<=1
  ·obtain⟨L,e1,e2,e3⟩:=h.split_one (g:=f) (out:=out) (bdG h0 hD hM (by omega) gl) (bdG h0 hD hM (by omega) gh) ho hn;exact⟨L,e1,e2,fun x hx=>by rw[e3 x hx];exact⟨gl.le (by omega),gh.le (by omega)⟩⟩
  ·have t1:=h.two s.lo;have t2:=h.nn s.hi;have hn2:U s.lo-V s.hi=2:=by omega
   have hw2:(s.hi-s.lo)/2<sep*((2^k:Nat):Rat):=by
    rw[Zc]at hw;push_cast at hw⊢;grind
   have hfar:=h.far _ _ ho (by omega);have hpos:=h.pos;unfold XM;rw[h.cnt s (bdG h0 hD hM (by omega) gl) (bdG h0 hD hM (by omega) gh),hn2];simp only[Za,show((2:Int)==0)=false from rfl,show((2:Int)==1)=false from rfl,R8];rw[QKe (bdG h0 hD hM (by omega) gl) (bdG h0 hD hM (by omega) gh)];have gm:=gl.mid gh;generalize em:(s.lo+s.hi)/2=m at*;have m1:s.lo<=m:=by grind
   have m2:m<=s.hi:=by grind
   simp only[Za];rw[h.zer m (bdG h0 hD hM (by omega) gm)];simp only[Za];have lm:=h.le m;by_cases e:U m=V m
   ·rw[decide_eq_false (by simpa using e)];simp only[R8];obtain⟨L1,a1,a2,a3⟩:=ih f (j+1) out ⟨s.lo,m⟩ (by omega) (by omega) gl.up gm m1 (by show m-s.lo<_;rw[show m-s.lo=(s.hi-s.lo)/2 by grind];exact hw2);obtain⟨L2,b1,b2,b3⟩:=ih f (j+1) (out++L1) ⟨m,s.hi⟩ (by omega) (by omega) gm gh.up m2 (by show s.hi-m<_;rw[show s.hi-m=(s.hi-s.lo)/2 by grind];exact hw2);rw[a1];simp only[Za];rw[b1,Zg];refine⟨L1++L2,rfl,QCT.app h e m1 m2 (by omega) a2 b2,fun x hx=> ?_⟩;rw[show j+(k+1)+1=j+1+k+1 by omega];rcases Zi.1 hx with hx | hx
    ·exact a3 x hx
    ·exact b3 x hx
   ·rw[decide_eq_true (by simpa using e)];simp only[R7];rw[Y5 (bdG h0 hD hM (by omega) gh) (bdG h0 hD hM (by omega) gm) (by omega)];simp only[Za];have e1:m-(s.hi-m)=s.lo:=by grind
    have e2:m+(s.hi-m)=s.hi:=by grind
    obtain⟨t,n1,n2,n3,n4,n5,n6,n7,n8,n9,n10⟩:=h.near h0 hD hM e k FU (j+1) (s.hi-m) (by unfold FU;omega) (by omega) gm (by rw[e1];exact gl.up) (by rw[e2];exact gh.up) (Gd.dif gh.up gm) (by grind) (by rw[show s.hi-m=(s.hi-s.lo)/2 by grind];exact hw2);rw[e1]at n5;rw[e2]at n8;rw[n1];simp only[Za];have v1:=h.vu n5;have v2:=h.vu n8;obtain⟨g,rfl⟩: ∃g,f=g+1:=⟨f-1,by omega⟩;obtain⟨L1,a1,a2,a3⟩:=h.split_one (g:=g) (out:=out) (s:=⟨s.lo,t.lo⟩) (bdG h0 hD hM (by omega) gl) (bdG h0 hD hM (by omega) n9) n5 (by show U s.lo-V t.lo<=1;omega);obtain⟨L2,b1,b2,b3⟩:=h.split_one (g:=g) (out:=out++L1++[⟨m,m⟩]) (s:=⟨t.hi,s.hi⟩) (bdG h0 hD hM (by omega) n10) (bdG h0 hD hM (by omega) gh) n8 (by show U t.hi-V s.hi<=1;omega)
    rw[a1];simp only[Za];rw[b1,Zg,Zg];have mm:U m-V m=1:=by omega
    refine⟨L1++([⟨m,m⟩]++L2),rfl,?_,fun x hx=> ?_⟩
    ·cases a2 with
     | zero a=>
      have a:U s.lo-V t.lo=0:=a;cases b2 with
      | zero b=>have b:U t.hi-V s.hi=0:=b;omega
      | one b r1 r2 r3 rx=>have b:U t.hi-V s.hi=1:=b;have q2:=h.ends (s:=⟨t.hi,s.hi⟩) b rx r1 r3;exact .two hn2 m1 Zb (Zd (Rat.le_of_lt n7) r1) r2 r3 mm rx (by have q4:V _=V s.hi:=q2.2;have z1:=h.anti _ _ n6;have z2:=h.anti _ _ n7;show U m-V _=2;omega)
      | two b=>have b:U t.hi-V s.hi=2:=b;omega
     | one a r1 r2 r3 rx=>
      have a:U s.lo-V t.lo=1:=a;cases b2 with
      | zero b=>have b:U t.hi-V s.hi=0:=b;have q2:=h.ends (s:=⟨s.lo,t.lo⟩) a rx r1 r3;exact .two hn2 r1 r2 (Zd r3 (Rat.le_of_lt n6)) Zb m2 rx mm (by have q4:U _=U s.lo:=q2.1;have z1:=h.anti _ _ n6;have z2:=h.anti _ _ n7;show U _-V m=2;omega)
      | one b=>have b:U t.hi-V s.hi=1:=b;omega
      | two b=>have b:U t.hi-V s.hi=2:=b;omega
     | two a=>have a:U s.lo-V t.lo=2:=a;omega
    ·rcases Zi.1 hx with hx | hx
     ·rw[a3 x hx];exact⟨gl.le (by omega),n9.le (by omega)⟩
     ·rcases Zi.1 hx with hx | hx
      ·simp at hx;subst hx;exact⟨gm.le (by omega),gm.le (by omega)⟩
      ·rw[b3 x hx];exact⟨n10.le (by omega),gh.le (by omega)⟩
theorem apart (h:Cnt c U V sep){a D M:Nat}(h0:0<D)(hD:D<2^a)(hM:M<2^a): ∀(k f j:Nat) (s t:Sp),k<f->a+j+k+2<=20000->Gd D M j s.lo->Gd D M j s.hi->Gd D M j t.lo->Gd D M j t.hi->s.lo<=s.hi->t.lo<=t.hi->U s.lo-V s.hi=1->U t.lo-V t.hi=1->U s.lo-V t.hi=2->
  (s.hi-s.lo)+(t.hi-t.lo)<sep*((2^k:Nat):Rat)->
  ∃s' t',J4 c f s t=some (s',t')/\U s'.lo-V s'.hi=1/\U t'.lo-V t'.hi=1/\s.lo<=s'.lo/\s'.lo<=s'.hi/\s'.hi<t'.lo/\t'.lo<=t'.hi/\t'.hi<=t.hi/\Gd D M (j+k) s'.lo/\Gd D M (j+k) s'.hi/\Gd D M (j+k) t'.lo/\Gd D M (j+k) t'.hi:=by
 intro k;induction k with
 | zero=>
  intro f j s t hf hj g1 g2 g3 g4 o1 o2 c1 c2 c3 hw;obtain⟨f,rfl⟩: ∃g,f=g+1:=⟨f-1,by omega⟩;have hw:(s.hi-s.lo)+(t.hi-t.lo)<sep:=by simpa using hw
  have nn:=h.nn t.hi;have tt:=h.two s.lo;have st:s.lo<=t.hi:=Zj.1 fun e=>by have:=h.anti _ _ e;omega
  have hfar:=h.far _ _ st (by omega);have e: ¬t.lo<=s.hi:=fun e=>by grind
  unfold J4;rw[decide_eq_false e];exact⟨s,t,rfl,c1,c2,Zb,o1,Rat.not_le.1 e,o2,Zb,g1,g2,g3,g4⟩
 | succ k ih=>
  intro f j s t hf hj g1 g2 g3 g4 o1 o2 c1 c2 c3 hw;obtain⟨f,rfl⟩: ∃g,f=g+1:=⟨f-1,by omega⟩;unfold J4;by_cases e:t.lo<=s.hi
  ·rw[decide_eq_true e];simp only[R7];obtain⟨s',a1,a2,a3,a4,a5,a6,a7⟩:=h.halve (bdG h0 hD hM (by omega) g1) (bdG h0 hD hM (by omega) g2) (bdG (j:=j+1) h0 hD hM (by omega) (g1.mid g2)) o1 c1;obtain⟨t',b1,b2,b3,b4,b5,b6,b7⟩:=h.halve (bdG h0 hD hM (by omega) g3) (bdG h0 hD hM (by omega) g4) (bdG (j:=j+1) h0 hD hM (by omega) (g3.mid g4)) o2 c2;obtain⟨i1,i2⟩:=a7 (Gd D M (j+1)) g1.up g2.up (g1.mid g2);obtain⟨i3,i4⟩:=b7 (Gd D M (j+1)) g3.up g4.up (g3.mid g4);have u1:=h.ends c1 a2 a3 a5;have u2:=h.ends c2 b2 b3 b5;have hw':(s'.hi-s'.lo)+(t'.hi-t'.lo)<sep*((2^k:Nat):Rat):=by
    rw[Zc]at hw;push_cast at hw⊢;grind
   obtain⟨s2,t2,r1,r2,r3,r4,r5,r6,r7,r8,r9,r10,r11,r12⟩:=ih f (j+1) s' t' (by omega) (by omega) i1 i2 i3 i4 a4 b4 a2 b2 (by omega) hw';rw[a1];simp only[Za];rw[b1];simp only[Za];rw[show j+(k+1)=j+1+k by omega];exact⟨s2,t2,r1,r2,r3,Zd a3 r4,r5,r6,r7,Zd r8 b5,r9,r10,r11,r12⟩
  ·rw[decide_eq_false e];exact⟨s,t,rfl,c1,c2,Zb,o1,Rat.not_le.1 e,o2,Zb,g1.ups _,g2.ups _,g3.ups _,g4.ups _⟩
end Cnt
end Go.Proofs
namespace Go.Proofs
open Go Go.Eng
theorem QTv (q:Rat):(Qa q==0)=decide (q=0):=by
 unfold Qa;by_cases h:q=0
 ·subst h;rfl
 ·have hn:q.num≠0:=fun e=>h (Rat.num_eq_zero.1 e);rw[if_neg hn,decide_eq_false h];split<;>rfl
theorem XZ {p:List Rat}(h:Qp p≠0):QJ p=p:=by
 unfold QJ;unfold Qp at h;cases hp:p.length with
 | zero=>have:p=[]:=Zh hp;subst this;simp at h
 | succ n=>
  rw[hp,Nat.add_sub_cancel]at h;unfold XG;rw[QTv,decide_eq_false h];simp only[R8];rw[<-hp,List.take_length]
theorem Vw {p:List Rat}:QJ (p++[0])=QJ p:=by
 unfold QJ;rw[show(p++[(0:Rat)]).length=p.length+1 by simp,XG,QTv];have e:(p++[(0:Rat)]).getD p.length 0=0:=by simp
 rw[e,decide_eq_true rfl];simp only[R7];have k: ∀n,n<=p.length->XG (p++[0]) n=XG p n:=by
  intro n;induction n with
  | zero=>intro _;rfl
  | succ n ih=>
   intro hn;unfold XG;have:(p++[(0:Rat)]).getD n 0=p.getD n 0:=by
    simp only[Ze];rw[List.getElem?_append_left (by omega)]
   rw[this,ih (by omega)]
 rw[k _ (Nat.le_refl _),List.take_append_of_le_length];have: ∀n,XG p n<=n:=by
  intro n;induction n with
  | zero=>exact Nat.le_refl _
  | succ n ih=>unfold XG;cases Qa (p.getD n 0)==0<;>simp<;>omega
 exact this _
def SzL (B:Nat)(l:List Rat):Prop:= ∀q∈l,Bd B q
theorem QXV {B:Nat}{l k:List Rat}:SzL B (l++k)↔SzL B l/\SzL B k:=by
 unfold SzL;simp only[Zi];exact⟨fun h=>⟨fun q hq=>h q (.inl hq),fun q hq=>h q (.inr hq)⟩,fun h q hq=>hq.elim (h.1 q) (h.2 q)⟩
theorem QQW {d:Rat}{B:Nat}(hd:Bd B d)(h0:d≠0)(hB:4*B+1<=100000): ∀(n f:Nat) (l tl:List Rat),l.length=n->n<f->SzL B l->KM [d] f (Zl n 0++tl) (QJ l)=some (l.map (fun q=>q/d)++tl,[]):=by
  intro n;induction n with
  | zero=>
    intro f l tl hl hf _;obtain⟨f,rfl⟩: ∃g,f=g+1:=⟨f-1,by omega⟩;have:l=[]:=Zh hl;subst this;rfl
  | succ n ih=>
    intro f l tl hl hf hs;obtain⟨l,c,rfl⟩: ∃l' c,l=l'++[c]:=⟨l.dropLast,l.getLast (by intro e;subst e;simp at hl),(List.dropLast_concat_getLast _).symm⟩;have hl':l.length=n:=by simpa using hl
    obtain⟨s1,s2⟩:=QXV.1 hs;have hc:Bd B c:=s2 c (by simp);by_cases h:c=0
    · subst h;rw[Vw,List.replicate_succ',Zg];rw[ih f l ([0]++tl) hl' (by omega) s1];simp[Rat.div_def]
    · have e1:Qp (l++[c])=c:=by simp[Qp]
      rw[XZ (by rw[e1];exact h)];obtain⟨f,rfl⟩: ∃g,f=g+1:=⟨f-1,by omega⟩;have hf:n<f:=by omega
      unfold KM;have e2:Zf [d].length (l++[c]).length=true:=by rw[Nat.ble_eq];simp
      rw[e2,e1];simp only[R7];have e3:Qp [d]=d:=rfl;have e4:(l++[c]).length-[d].length=n:=by simp[hl']
      rw[e3,e4,UC hc hd h0 (by omega)];simp only[Za];have hq:=XR hc hd h0;have hm:=Qg hq hd;have e5:(l++[c]).getD n 0=c:=by rw[Ze,List.getElem?_append_right (by omega),hl'];simp
      have e6:c-c/d*d=0:=by rw[Zk h0];grind
      unfold Vr;rw[XD hq hd (by omega)];simp only[Za];rw[e5,Y5 hc hm (by omega),e6];simp only[Za];unfold Vr;simp only[Za];have e7:(l++[c]).set n 0=l++[0]:=by rw[List.set_append_right _ _ (by omega),hl',Nat.sub_self];rfl
      have e8:(Zl (n+1) (0:Rat)++tl).set n (c/d)=Zl n 0++(c/d::tl):=by
        rw[List.replicate_succ',Zg,List.set_append_right _ _ (by simp),List.length_replicate,Nat.sub_self];rfl
      rw[e7,e8,Vw,ih f l _ hl' (by omega) s1];simp
theorem K8 {d:Rat}{B:Nat}{l:List Rat}(hd:Bd B d)(h0:d≠0)(hB:4*B+1<=100000)(hs:SzL B l)(hl:l.length<10)(hz:QJ l=l):Xu l [d]=some (l.map fun q=>q/d,[]):=by
 have:=QQW hd h0 hB l.length FU l [] rfl (by unfold FU;omega) hs;rw[List.append_nil,List.append_nil]at this;unfold Xu;rw[show(QJ l).length+1-[d].length=l.length by rw[hz];simp];exact this
theorem HQ {a b c e f:Rat}{B:Nat}(hs:SzL B [a,b,c,e,f])(hc:c≠0)(hf:f≠0)(hB:20*B+20<=100000):
    Xu [a,b,c] [e,f]=some ([(b-c/f*e)/f,c/f],QJ [a-(b-c/f*e)/f*e]):=by
  have ha:=hs a (by simp);have hb:=hs b (by simp);have hc':=hs c (by simp);have he:=hs e (by simp);have hf':=hs f (by simp);have q1:=XR hc' hf' hf;have q2:=Qg q1 he;have q3:=YX hb q2;have q4:=Qg q1 hf';have t3:QJ [a,b,c]=[a,b,c]:=XZ (by show c≠0;exact hc);unfold Xu;rw[t3,show FU=99997+1+1+1 from rfl];unfold KM;rw[show Zf [e,f].length [a,b,c].length=true from rfl];simp only[R7];rw[show Qp [a,b,c]=c from rfl,show Qp [e,f]=f from rfl,UC hc' hf' hf (by omega)];simp only[Za];rw[show[a,b,c].length-[e,f].length=1 from rfl];unfold Vr;rw[XD q1 he (by omega)]
  simp only[Za];rw[show[a,b,c].getD 1 0=b from rfl,Y5 hb q2 (by omega)];simp only[Za];unfold Vr;rw[XD q1 hf' (by omega)];simp only[Za];rw[show([a,b,c].set 1 (b-c/f*e)).getD (1+1) 0=c from rfl,Y5 hc' q4 (by omega)];simp only[Za];unfold Vr;simp only[Za];rw[Zk hf,show c-c=0 by grind];generalize hb':b-c/f*e=b' at*;rw[show([a,b,c].set 1 b').set (1+1) 0=[a,b']++[0]from rfl,Vw];rw[show(Zl ([a,b,c].length+1-[e,f].length) (0:Rat)).set 1 (c/f)=[0,c/f]from rfl];by_cases h:b'=0
  · subst h;rw[show[a,0]=[a]++[(0:Rat)]from rfl,Vw];have e0:(0:Rat)/f=0:=by simp[Rat.div_def]
    have e1:a-0*e=a:=by grind
    rw[e0,e1];unfold KM;have:Zf [e,f].length (QJ [a]).length=false:=by
      have:(QJ [a]).length<=1:=by unfold QJ;rw[List.length_take];simp;omega
      cases hb:Zf [e,f].length (QJ [a]).length with
      | false=>rfl
      | true=>have:=Nat.le_of_ble_eq_true hb;simp at this;omega
    rw[this];rfl
  · rw[XZ (show Qp [a,b']≠0 from h)];have q5:=XR q3 hf' hf;have q6:=Qg q5 he;have q7:=Qg q5 hf';unfold KM;rw[show Zf [e,f].length [a,b'].length=true from rfl];simp only[R7];rw[show Qp [a,b']=b' from rfl,show Qp [e,f]=f from rfl,UC q3 hf' hf (by omega)];simp only[Za];rw[show[a,b'].length-[e,f].length=0 from rfl];unfold Vr;rw[XD q5 he (by omega)];simp only[Za];rw[show[a,b'].getD 0 0=a from rfl,Y5 ha q6 (by omega)];simp only[Za];unfold Vr;rw[XD q5 hf' (by omega)];simp only[Za];rw[show([a,b'].set 0 (a-b'/f*e)).getD (0+1) 0=b' from rfl,Y5 q3 q7 (by omega)]
    simp only[Za];unfold Vr;simp only[Za];rw[Zk hf,show b'-b'=0 by grind];generalize a-b'/f*e=a';rw[show([a,b'].set 0 a').set (0+1) 0=[a']++[0]from rfl,Vw,show[0,c/f].set 0 (b'/f)=[b'/f,c/f]from rfl];have:Zf [e,f].length (QJ [a']).length=false:=by
      have:(QJ [a']).length<=1:=by unfold QJ;rw[List.length_take];simp;omega
      cases hb:Zf [e,f].length (QJ [a']).length with
      | false=>rfl
      | true=>have:=Nat.le_of_ble_eq_true hb;simp at this;omega
    unfold KM;rw[this];rfl
theorem QXW {d:Rat}{B:Nat}(hd:Bd B d)(h0:d≠0)(hB:2*B<=100000): ∀(l acc:List Rat),SzL B l->scF d l acc=some (acc++l.map fun q=>q/d):=by
 intro l;induction l with
 | nil=>intro acc _;simp[scF]
 | cons c l ih=>
  intro acc hs;unfold scF;rw[UC (hs c (by simp)) hd h0 (by omega)];simp only[Za];rw[ih _ fun q hq=>hs q (by simp[hq])];simp
theorem KN {B:Nat}{q:Rat}(h:Bd B q):Bd B (QX q):=by
 unfold QX;split
 ·exact QBg h
 ·exact h
theorem Up {q:Rat}(h:q≠0):QX q≠0:=by
 unfold QX;split
 ·intro e;apply h;grind
 ·exact h
theorem YR {B:Nat}{l:List Rat}(hs:SzL B l)(h0:Qp l≠0)(hB:2*B<=100000):Y3 l=some (l.map fun q=>q/QX (Qp l)):=by
 have hm:Qp l∈l:=by
  unfold Qp at h0⊢;cases h:l[l.length-1]? with
  | none=>rw[Ze,h]at h0;exact absurd rfl h0
  | some q=>rw[Ze,h];exact List.mem_of_getElem? h
 exact QXW (KN (hs _ hm)) (Up h0) hB l [] hs
theorem QQX (q:Rat):q.num<0↔q<0:=by
 constructor
 ·intro h;refine Rat.not_le.1 fun e=> ?_
  have:=Rat.num_nonneg.2 e;omega
 ·intro h;have: ¬0<=q.num:=fun e=>by
   have:=Rat.num_nonneg.1 e;grind
  omega
theorem WS (q:Rat):QX q=q/\0<=q∨QX q= -q/\q<0:=by
 unfold QX;by_cases h:q.num<0
 ·rw[if_pos h];exact .inr ⟨rfl,(QQX q).1 h⟩
 ·rw[if_neg h];exact .inl ⟨rfl,Rat.num_nonneg.1 (by omega)⟩
def Unit1 (s:Rat):Prop:=s=1∨s= -1
theorem Unit1.nz {s:Rat}(h:Unit1 s):s≠0:=by rcases h with rfl | rfl<;>decide
theorem Unit1.bd {s:Rat}(h:Unit1 s):Bd 1 s:=by rcases h with rfl | rfl<;>exact⟨by decide,by decide⟩
theorem Unit1.abs {s:Rat}(h:Unit1 s):QX s=1:=by rcases h with rfl | rfl<;>decide+kernel
theorem KE {q:Rat}(h:q≠0):Unit1 (q/QX q):=by
 rcases WS q with⟨e,h0⟩ | ⟨e,h0⟩
 ·rw[e];exact .inl (by grind)
 ·rw[e];refine .inr ?_;grind
theorem X9 {B:Nat}{s:Rat}(h:Unit1 s)(hB:1<=B):Bd B s:=h.bd.mono hB
theorem QXX {a b c:Rat}{B:Nat}(hs:SzL B [a,b,c])(hc:c≠0)(hB:B+2<=100000):GL [a,b,c]=some [b,2*c]:=by
 have b1:Bd 1 ((((1:Nat):Int):Rat)):=⟨by decide,by decide⟩;have b2:Bd 2 ((((2:Nat):Int):Rat)):=⟨by decide,by decide⟩;unfold GL;rw[show[a,b,c].drop 1=[b,c]from rfl];unfold Kb;rw[XD b1 (hs b (by simp)) (by omega)];simp only[Za];unfold Kb;rw[show(1+1:Nat)=2 from rfl,XD b2 (hs c (by simp)) (by omega)];simp only[Za];unfold Kb;have e1:(((1:Nat):Int):Rat)*b=b:=by show(1:Rat)*b=b;grind
 have e2:(((2:Nat):Int):Rat)*c=2*c:=rfl;rw[e1,e2];show some (QJ [b,2*c])=_
 rw[XZ (show Qp [b,2*c]≠0 from ?_)];show 2*c≠0
 grind
theorem QZe {a b:Rat}{B:Nat}(hs:SzL B [a,b])(hb:b≠0)(hB:B+2<=100000):GL [a,b]=some [b]:=by
 have b1:Bd 1 ((((1:Nat):Int):Rat)):=⟨by decide,by decide⟩;unfold GL;rw[show[a,b].drop 1=[b]from rfl];unfold Kb;rw[XD b1 (hs b (by simp)) (by omega)];simp only[Za];unfold Kb;have e1:(((1:Nat):Int):Rat)*b=b:=by show(1:Rat)*b=b;grind
 rw[e1];show some (QJ [b])=_
 rw[XZ (show Qp [b]≠0 from hb)]
theorem QXY {a b c:Rat}{B:Nat}(hs:SzL B [a,b,c])(hc:c≠0)(hd:a-b*b/(4*c)≠0)(hB:1<=B/\B<=1000):
    ∃t,t≠0/\Ws [a,b,c]=some [a*t,b*t,c*t]/\Unit1 (c*t)/\SzL (2*B+2) [a*t,b*t,c*t]:=by
  have ha:=hs a (by simp);have hb:=hs b (by simp);have hcc:=hs c (by simp);have b2:Bd 2 (2:Rat):=⟨by decide,by decide⟩;have h2c:Bd (B+2) (2*c):=(Qg b2 hcc).mono (by omega);have n2c:2*c≠0:=by grind
  have hs2:SzL (B+2) [b,2*c]:=by
    intro q hq;simp at hq;rcases hq with rfl | rfl
    · exact hb.mono (by omega)
    · exact h2c
  have hs5:SzL (B+2) [a,b,c,b,2*c]:=by
    intro q hq;simp only[List.mem_cons,Zm,or_false]at hq;rcases hq with rfl | rfl | rfl | rfl | rfl
    · exact ha.mono (by omega)
    · exact hb.mono (by omega)
    · exact hcc.mono (by omega)
    · exact hb.mono (by omega)
    · exact h2c
  have er:a-(b-c/(2*c)*b)/(2*c)*b=a-b*b/(4*c):=by grind
  have q1:=Qg (XR (YX hb (Qg (XR hcc h2c n2c) hb)) h2c n2c) hb;have hr:=YX ha q1;rw[er]at hr;unfold Ws;rw[QXX hs hc (by omega)];simp only[Za];rw[show FU=99997+1+1+1 from rfl];unfold Kc;rw[show Zf 1 [b,2*c].length=true from rfl];simp only[R7];rw[HQ hs5 hc n2c (by omega)];simp only[Za];rw[YR hs2 (show Qp [b,2*c]≠0 from n2c) (by omega)];simp only[Za,er];generalize a-b*b/(4*c)=r at*;rw[XZ (show Qp [r]≠0 from hd)];have u2:=KE n2c;rw[show Qp [b,2*c]=2*c from rfl,show[b,2*c].map (fun q=>q/QX (2*c))=[b/QX (2*c),2*c/QX (2*c)]from rfl]
  have hb':=XR hb (KN h2c) (Up n2c);generalize b/QX (2*c)=e at*;generalize 2*c/QX (2*c)=f at*;unfold Kc;rw[show Zf 1 [r].length=true from rfl];simp only[R7];have hsz:SzL (8*B+20) [e,f]:=by
    intro q hq;simp at hq;rcases hq with rfl | rfl
    · exact hb'.mono (by omega)
    · exact X9 u2 (by omega)
  rw[K8 (hr.mono (by omega:_<=8*B+20)) hd (by omega) hsz (by simp) (XZ (show Qp [e,f]≠0 from u2.nz))];simp only[Za];have hsr:SzL (8*B+20) [r]:=by intro q hq;simp at hq;subst hq;exact hr.mono (by omega)
  rw[YR hsr (show Qp [r]≠0 from hd) (by omega)];simp only[Za];rw[show Qp [r]=r from rfl,show[r].map (fun q=>q/QX r)=[r/QX r]from rfl];have us:=KE hd;generalize r/QX r=u at*;unfold Kc;rw[show Zf 1 ([]:List Rat).length=false from rfl];simp only[R8,Za];have hsB:SzL (B+1) [a,b,c]:=fun q hq=>(hs q hq).mono (by omega);rw[K8 (X9 us (by omega):Bd (B+1) u) us.nz (by omega) hsB (by simp) (XZ (show Qp [a,b,c]≠0 from hc))];simp only[Za];rw[show[a,b,c].map (fun q=>q/u)=[a/u,b/u,c/u]from rfl];have ncu:c/u≠0:=by have:=us.nz;grind
  rw[XZ (show Qp [a/u,b/u,c/u]≠0 from ncu)];have hsu:SzL (B+1) [a/u,b/u,c/u]:=by
    intro q hq;simp at hq;rcases hq with rfl | rfl | rfl
    · exact(XR ha us.bd us.nz)
    · exact(XR hb us.bd us.nz)
    · exact(XR hcc us.bd us.nz)
  rw[YR hsu (show Qp [a/u,b/u,c/u]≠0 from ncu) (by omega)];rw[show Qp [a/u,b/u,c/u]=c/u from rfl,show[a/u,b/u,c/u].map (fun q=>q/QX (c/u))=[a/u/QX (c/u),b/u/QX (c/u),c/u/QX (c/u)]from rfl];have hv:=KN (hsu (c/u) (by simp));have nv:=Up ncu;have uf:=KE ncu;have nu:=us.nz;have e1: ∀z:Rat,z/u/QX (c/u)=z*(1/(u*QX (c/u))):=fun z=>by grind
  refine⟨1/(u*QX (c/u)),by grind,by rw[e1,e1,e1],by rw[<-e1];exact uf,?_⟩;rw[<-e1,<-e1,<-e1];intro q hq;simp at hq;rcases hq with rfl | rfl | rfl
  · exact(XR (hsu (a/u) (by simp)) hv nv).mono (by omega)
  · exact(XR (hsu (b/u) (by simp)) hv nv).mono (by omega)
  · exact X9 uf (by omega)
theorem QTw {a b c:Rat}{B:Nat}(hs:SzL B [a,b,c])(hc:c≠0)(hd:a-b*b/(4*c)=0)(hB:1<=B/\B<=1000):
    ∃s,Unit1 s/\Ws [a,b,c]=some [b/(2*c)*s,s]/\Bd (2*B+3) (b/(2*c)*s):=by
  have ha:=hs a (by simp);have hb:=hs b (by simp);have hcc:=hs c (by simp);have b2:Bd 2 (2:Rat):=⟨by decide,by decide⟩;have h2c:Bd (B+2) (2*c):=(Qg b2 hcc).mono (by omega);have n2c:2*c≠0:=by grind
  have hs2:SzL (B+2) [b,2*c]:=by
    intro q hq;simp at hq;rcases hq with rfl | rfl
    · exact hb.mono (by omega)
    · exact h2c
  have hs5:SzL (B+2) [a,b,c,b,2*c]:=by
    intro q hq;simp only[List.mem_cons,Zm,or_false]at hq;rcases hq with rfl | rfl | rfl | rfl | rfl
    · exact ha.mono (by omega)
    · exact hb.mono (by omega)
    · exact hcc.mono (by omega)
    · exact hb.mono (by omega)
    · exact h2c
  have er:a-(b-c/(2*c)*b)/(2*c)*b=0:=by grind
  unfold Ws;rw[QXX hs hc (by omega)];simp only[Za];rw[show FU=99997+1+1+1 from rfl];unfold Kc;rw[show Zf 1 [b,2*c].length=true from rfl];simp only[R7];rw[HQ hs5 hc n2c (by omega)];simp only[Za];rw[YR hs2 (show Qp [b,2*c]≠0 from n2c) (by omega)];simp only[Za,er];rw[show QJ [(0:Rat)]=[]by decide];have u2:=KE n2c;rw[show Qp [b,2*c]=2*c from rfl,show[b,2*c].map (fun q=>q/QX (2*c))=[b/QX (2*c),2*c/QX (2*c)]from rfl];have hb':=XR hb (KN h2c) (Up n2c);have ee:b/QX (2*c)=b/(2*c)*(2*c/QX (2*c)):=by have:=Up n2c;grind
  generalize b/QX (2*c)=e at*;generalize 2*c/QX (2*c)=f at*;unfold Kc;rw[show Zf 1 ([]:List Rat).length=false from rfl];simp only[R8,Za];have nf:=u2.nz;have hs6:SzL (2*B+2) [a,b,c,e,f]:=by
    intro q hq;simp at hq;rcases hq with rfl | rfl | rfl | rfl | rfl
    · exact ha.mono (by omega)
    · exact hb.mono (by omega)
    · exact hcc.mono (by omega)
    · exact hb'.mono (by omega)
    · exact X9 u2 (by omega)
  rw[HQ hs6 hc nf (by omega)];simp only[Za];have e3:(b-c/f*e)/f=b/2/f:=by rw[ee];grind
  rw[e3];have ncf:c/f≠0:=by grind
  rw[XZ (show Qp [b/2/f,c/f]≠0 from ncf)];have hcf:=XR hcc u2.bd nf;have hbf:=XR (XR hb b2 (by decide)) u2.bd nf;have hs7:SzL (B+3) [b/2/f,c/f]:=by
    intro q hq;simp at hq;rcases hq with rfl | rfl
    · exact hbf
    · exact hcf.mono (by omega)
  rw[YR hs7 (show Qp [b/2/f,c/f]≠0 from ncf) (by omega)];rw[show Qp [b/2/f,c/f]=c/f from rfl,show[b/2/f,c/f].map (fun q=>q/QX (c/f))=[b/2/f/QX (c/f),c/f/QX (c/f)]from rfl];have uf:=KE ncf;have nv:=Up ncf;have e4:b/2/f/QX (c/f)=b/(2*c)*(c/f/QX (c/f)):=by grind
  refine⟨_,uf,by rw[e4],?_⟩;refine(Qg (XR hb h2c n2c) uf.bd).mono (by omega)
theorem QXZ {a b:Rat}{B:Nat}(hs:SzL B [a,b])(hb:b≠0)(hB:1<=B/\B<=1000): ∃s,Unit1 s/\Ws [a,b]=some [a/b*s,s]/\Bd (2*B+3) (a/b*s):=by
 have ha:=hs a (by simp);have hb':=hs b (by simp);have hs1:SzL B [b]:=fun q hq=>by simp at hq;subst hq;exact hb'
 unfold Ws;rw[QZe hs hb (by omega)];simp only[Za];rw[show FU=99997+1+1+1 from rfl];unfold Kc;rw[show Zf 1 [b].length=true from rfl];simp only[R7];rw[K8 hb' hb (by omega) hs (by simp) (XZ (show Qp [a,b]≠0 from hb))];simp only[Za];rw[YR hs1 (show Qp [b]≠0 from hb) (by omega)];simp only[Za];rw[show Qp [b]=b from rfl,show[b].map (fun q=>q/QX b)=[b/QX b]from rfl];have us:=KE hb;generalize b/QX b=u at*;unfold Kc;rw[show Zf 1 ([]:List Rat).length=false from rfl];simp only[R8,Za];have hsB:SzL (B+1) [a,b]:=fun q hq=>(hs q hq).mono (by omega);rw[K8 (X9 us (by omega):Bd (B+1) u) us.nz (by omega) hsB (by simp) (XZ (show Qp [a,b]≠0 from hb))]
 simp only[Za];rw[show[a,b].map (fun q=>q/u)=[a/u,b/u]from rfl];have nu:=us.nz;have nbu:b/u≠0:=by grind
 rw[XZ (show Qp [a/u,b/u]≠0 from nbu)];have hsu:SzL (B+1) [a/u,b/u]:=by
  intro q hq;simp at hq;rcases hq with rfl | rfl
  ·exact(XR ha us.bd us.nz)
  ·exact(XR hb' us.bd us.nz)
 rw[YR hsu (show Qp [a/u,b/u]≠0 from nbu) (by omega)];rw[show Qp [a/u,b/u]=b/u from rfl,show[a/u,b/u].map (fun q=>q/QX (b/u))=[a/u/QX (b/u),b/u/QX (b/u)]from rfl];have uf:=KE nbu;have nv:=Up nbu;have e4:a/u/QX (b/u)=a/b*(b/u/QX (b/u)):=by grind
 exact⟨_,uf,by rw[e4],(Qg (XR ha hb' hb) uf.bd).mono (by omega)⟩
theorem QXa {a s:Rat}{B:Nat}(ha:Bd B a)(hu:Unit1 s)(hB:1<=B/\B<=5000):Xm [a,s]=some [[a,s],[s]]:=by
  have hs:SzL B [a,s]:=by
    intro q hq;simp at hq;rcases hq with rfl | rfl
    · exact ha
    · exact X9 hu hB.1
  have hs1:SzL B [s]:=fun q hq=>by simp at hq;subst hq;exact X9 hu hB.1
  unfold Xm;rw[QZe hs hu.nz (by omega)];simp only[Za];rw[show FU=99997+1+1+1 from rfl];unfold chF;rw[show Zf 1 [s].length=true from rfl];simp only[R7];rw[YR hs1 (show Qp [s]≠0 from hu.nz) (by omega)];simp only[Za];rw[show Qp [s]=s from rfl,hu.abs,show[s].map (fun q=>q/1)=[s/1]from rfl,show s/1=s by grind,show[[a,s]].getD ([[a,s]].length-1) []=[a,s]from rfl];rw[K8 (X9 hu hB.1:Bd B s) hu.nz (by omega) hs (by simp) (XZ (show Qp [a,s]≠0 from hu.nz))];simp only[Za];rfl
theorem QXb {a b s:Rat}{B:Nat}(ha:Bd B a)(hb:Bd B b)(hu:Unit1 s)(hB:1<=B/\B<=2100)(hd:b*b/4-s*a≠0):
    ∃t,Unit1 t/\Xm [a,b,s]=some [[a,b,s],[b/2,s],[t]]/\(t*s=1↔0<b*b/4-s*a):=by
  have b2:Bd 2 (2:Rat):=⟨by decide,by decide⟩;have hss:s*s=1:=by rcases hu with rfl | rfl<;>decide+kernel
  have hs:SzL B [a,b,s]:=by
    intro q hq;simp at hq;rcases hq with rfl | rfl | rfl
    · exact ha
    · exact hb
    · exact X9 hu hB.1
  have hs2:SzL (B+2) [b,2*s]:=by
    intro q hq;simp at hq;rcases hq with rfl | rfl
    · exact hb.mono (by omega)
    · exact(Qg b2 hu.bd).mono (by omega)
  have n2:2*s≠0:=by have:=hu.nz;grind
  have a2:QX (2*s)=2:=by rcases hu with rfl | rfl<;>decide+kernel
  unfold Xm;rw[QXX hs hu.nz (by omega)];simp only[Za];rw[show FU=99996+1+1+1+1 from rfl];unfold chF;rw[show Zf 1 [b,2*s].length=true from rfl];simp only[R7];rw[YR hs2 (show Qp [b,2*s]≠0 from n2) (by omega)];simp only[Za];rw[show Qp [b,2*s]=2*s from rfl,a2,show[b,2*s].map (fun q=>q/2)=[b/2,2*s/2]from rfl,show 2*s/2=s by grind,show[[a,b,s]].getD ([[a,b,s]].length-1) []=[a,b,s]from rfl];have hb2:=XR hb b2 (by decide);have hs5:SzL (B+2) [a,b,s,b/2,s]:=by
    intro q hq;simp only[List.mem_cons,Zm,or_false]at hq;rcases hq with rfl | rfl | rfl | rfl | rfl
    · exact ha.mono (by omega)
    · exact hb.mono (by omega)
    · exact X9 hu (by omega)
    · exact hb2
    · exact X9 hu (by omega)
  rw[HQ hs5 hu.nz hu.nz (by omega)];simp only[Za];have er:a-(b-s/s*(b/2))/s*(b/2)= -(s*(b*b/4-s*a)):=by
    have:=hu.nz;grind
  rw[er];have hr:Bd (4*B+20) (-(s*(b*b/4-s*a))):=by
    have b4:Bd 3 (4:Rat):=⟨by decide,by decide⟩;exact(QBg (Qg hu.bd (YX (XR (Qg hb hb) b4 (by decide)) (Qg hu.bd ha)))).mono (by omega)
  have nz: -(s*(b*b/4-s*a))≠0:=by have:=hu.nz;grind
  rw[XZ (show Qp [-(s*(b*b/4-s*a))]≠0 from nz)];generalize ez: -(s*(b*b/4-s*a))=z at*;show ∃t,Unit1 t/\chF (99996+1+1+1) ([[a,b,s]]++[[b/2,s]]) [-z]=_/\_
  unfold chF;rw[show Zf 1 [-z].length=true from rfl];simp only[R7];have nz': -z≠0:=by grind
  have hsz:SzL (4*B+20) [-z]:=fun q hq=>by simp at hq;subst hq;exact QBg hr
  rw[YR hsz (show Qp [-z]≠0 from nz') (by omega)];simp only[Za];rw[show Qp [-z]= -z from rfl,show[-z].map (fun q=>q/QX (-z))=[-z/QX (-z)]from rfl];have ut:=KE nz';have key:(-z/QX (-z))*s=1↔0<b*b/4-s*a:=by
    have hz: -z=s*(b*b/4-s*a):=by rw[<-ez];grind
    rw[hz];generalize b*b/4-s*a=δ at*;rcases WS (s*δ)with⟨e1,e2⟩ | ⟨e1,e2⟩
    · rw[e1];rcases hu with rfl | rfl
      · constructor
        · intro _;grind
        · intro _;grind
      · constructor
        · intro h;exfalso;grind
        · intro h;exfalso;grind
    · rw[e1];rcases hu with rfl | rfl
      · constructor
        · intro h;exfalso;grind
        · intro h;exfalso;grind
      · constructor
        · intro _;grind
        · intro _;grind
  generalize-z/QX (-z)=t at*;refine⟨t,ut,?_,key⟩;rw[show([[a,b,s]]++[[b/2,s]]:List (List Rat)).getD (([[a,b,s]]++[[b/2,s]]:List (List Rat)).length-1) []=[b/2,s]from rfl];have hs3:SzL (B+2) [b/2,s]:=by
    intro q hq;simp at hq;rcases hq with rfl | rfl
    · exact hb2
    · exact X9 hu (by omega)
  rw[K8 (X9 ut (by omega):Bd (B+2) t) ut.nz (by omega) hs3 (by simp) (XZ (show Qp [b/2,s]≠0 from hu.nz))];simp only[Za];rfl
end Go.Proofs
