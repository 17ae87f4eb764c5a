/- Sets of all numbers between two numbers: plain laws. -/
import Derived.Test.YtfhfenokfkenoaaGreatDoorFL
open Rat renaming le_trans → Za, le_refl → Zc, not_le → Zd, mul_pos → Ze
open Classical renaming byContradiction → Zb
namespace Go.Proofs
open Go Go.Eng
structure Sp where
 lo:Rat
 hi:Rat
def Sp.has (s:Sp)(x:Rat):Prop:=s.lo<=x/\x<=s.hi
def Sp.sub (s t:Sp):Prop:=t.lo<=s.lo/\s.hi<=t.hi
def WG (a:Rat):Sp:=⟨a,a⟩
def U2 (s t:Sp):Sp:=⟨s.lo+t.lo,s.hi+t.hi⟩
def QGT (s t:Sp):Sp:=⟨s.lo-t.hi,s.hi-t.lo⟩
def YO (s t:Sp):Sp:=⟨XA (XA (XA (s.lo*t.lo) (s.lo*t.hi)) (s.hi*t.lo)) (s.hi*t.hi),XH (XH (XH (s.lo*t.lo) (s.lo*t.hi)) (s.hi*t.lo)) (s.hi*t.hi)⟩
def Jd (s:Sp)(x:Rat):Bool:=decide (s.lo<=x)&&decide (x<=s.hi)
def QBT (s:Sp):Sp:=⟨bif Jd s 0 then 0 else XA (s.lo*s.lo) (s.hi*s.hi),XH (s.lo*s.lo) (s.hi*s.hi)⟩
def Ju (s t:Sp):Sp:=⟨XA s.lo t.lo,XH s.hi t.hi⟩
def Ky (p:Rat)(d:Nat):Rat:=mkRat (p*(d:Rat)).floor d
def upR (p:Rat)(d:Nat):Rat:= -Ky (-p) d
def QGU (s:Sp)(d:Nat):Sp:=⟨Ky s.lo d,upR s.hi d⟩
def U3 (s:Sp):Sp:=⟨XH (QGU s 1000000).lo (-1),XA (QGU s 1000000).hi 1⟩
def Gl (a:Rat):Rat:=(1-a)/(1+a)
def GY (t:Sp):Sp:=⟨Gl (QBT t).hi,Gl (QBT t).lo⟩
def Wk (t:Sp):Sp:=Ju (WG (Q4 false t.lo)) (WG (Q4 false t.hi))
def Je (t:Sp)(s:Sp)(a:Rat):Sp:=bif Jd t a then Ju s (WG a)else s
def J7 (t:Sp):Sp:=Je t (Je t (Wk t) (-1)) 1
theorem YE (a b:Rat):XA a b<=a:=by unfold XA;split<;>grind
theorem JK (a b:Rat):XA a b<=b:=by unfold XA;split<;>grind
theorem Jy {a b c:Rat}(h1:c<=a)(h2:c<=b):c<=XA a b:=by unfold XA;split<;>assumption
theorem YF (a b:Rat):a<=XH a b:=by unfold XH;split<;>grind
theorem JL (a b:Rat):b<=XH a b:=by unfold XH;split<;>grind
theorem WQ {a b c:Rat}(h1:a<=c)(h2:b<=c):XH a b<=c:=by unfold XH;split<;>assumption
theorem Sp.has.ok {s:Sp}{x:Rat}(h:s.has x):s.lo<=s.hi:=Za h.1 h.2
theorem Sp.has.sub {s t:Sp}{x:Rat}(h:s.has x)(k:s.sub t):t.has x:=⟨Za k.1 h.1,Za h.2 k.2⟩
theorem Vv {s:Sp}{x:Rat}:Jd s x=true↔s.has x:=by
 unfold Jd Sp.has;simp
theorem Sp.lo_has {s:Sp}(h:s.lo<=s.hi):s.has s.lo:=⟨Zc,h⟩
theorem Sp.hi_has {s:Sp}(h:s.lo<=s.hi):s.has s.hi:=⟨h,Zc⟩
theorem XR (a:Rat):(WG a).has a:=⟨Zc,Zc⟩
theorem JM {s t:Sp}{x y:Rat}(h:s.has x)(k:t.has y):(U2 s t).has (x+y):=by
 obtain⟨h1,h2⟩:=h;obtain⟨k1,k2⟩:=k;exact⟨by show s.lo+t.lo<=_;grind,by show _<=s.hi+t.hi;grind⟩
theorem Vw {s t:Sp}{x y:Rat}(h:s.has x)(k:t.has y):(QGT s t).has (x-y):=by
 obtain⟨h1,h2⟩:=h;obtain⟨k1,k2⟩:=k;exact⟨by show s.lo-t.hi<=_;grind,by show _<=s.hi-t.lo;grind⟩
theorem WW {s t s' t':Sp}(h:s.sub s')(k:t.sub t'):(U2 s t).sub (U2 s' t'):=by
 obtain⟨h1,h2⟩:=h;obtain⟨k1,k2⟩:=k;exact⟨by show s'.lo+t'.lo<=s.lo+t.lo;grind,by show s.hi+t.hi<=s'.hi+t'.hi;grind⟩
theorem QCu {s t s' t':Sp}(h:s.sub s')(k:t.sub t'):(QGT s t).sub (QGT s' t'):=by
 obtain⟨h1,h2⟩:=h;obtain⟨k1,k2⟩:=k;exact⟨by show s'.lo-t'.hi<=s.lo-t.hi;grind,by show s.hi-t.lo<=s'.hi-t'.lo;grind⟩
theorem JA {a b:Rat}(h:0<=a)(k:0<=b):0<=a*b:=Rat.mul_nonneg h k
theorem QEM {p a b x y:Rat}(h1:p<=a*y)(h2:p<=b*y)(ha:a<=x)(hb:x<=b):p<=x*y:=by
 rcases @Rat.le_total 0 y with h | h
 ·have:=JA (show 0<=x-a by grind) h;grind
 ·have:=JA (show 0<=b-x by grind) (show 0<= -y by grind);grind
theorem QEN {p a b x y:Rat}(h1:a*y<=p)(h2:b*y<=p)(ha:a<=x)(hb:x<=b):x*y<=p:=by
 rcases @Rat.le_total 0 y with h | h
 ·have:=JA (show 0<=b-x by grind) h;grind
 ·have:=JA (show 0<=x-a by grind) (show 0<= -y by grind);grind
theorem QPO {p a b x y:Rat}(h1:p<=y*a)(h2:p<=y*b)(ha:a<=x)(hb:x<=b):p<=y*x:=by
 rw[Rat.mul_comm]at h1 h2⊢;exact QEM h1 h2 ha hb
theorem QPP {p a b x y:Rat}(h1:y*a<=p)(h2:y*b<=p)(ha:a<=x)(hb:x<=b):y*x<=p:=by
 rw[Rat.mul_comm]at h1 h2⊢;exact QEN h1 h2 ha hb
theorem Qt {s t:Sp}{x y:Rat}(h:s.has x)(k:t.has y):(YO s t).has (x*y):=by
 obtain⟨h1,h2⟩:=h;obtain⟨k1,k2⟩:=k;have tr:=fun {a b c:Rat} (h:a<=b) (k:b<=c)=>Za h k;have a1:=YE (XA (XA (s.lo*t.lo) (s.lo*t.hi)) (s.hi*t.lo)) (s.hi*t.hi);have a2:=JK (XA (XA (s.lo*t.lo) (s.lo*t.hi)) (s.hi*t.lo)) (s.hi*t.hi);have a3:=YE (XA (s.lo*t.lo) (s.lo*t.hi)) (s.hi*t.lo);have a4:=JK (XA (s.lo*t.lo) (s.lo*t.hi)) (s.hi*t.lo);have a5:=YE (s.lo*t.lo) (s.lo*t.hi);have a6:=JK (s.lo*t.lo) (s.lo*t.hi);have b1:=YF (XH (XH (s.lo*t.lo) (s.lo*t.hi)) (s.hi*t.lo)) (s.hi*t.hi);have b2:=JL (XH (XH (s.lo*t.lo) (s.lo*t.hi)) (s.hi*t.lo)) (s.hi*t.hi)
 have b3:=YF (XH (s.lo*t.lo) (s.lo*t.hi)) (s.hi*t.lo);have b4:=JL (XH (s.lo*t.lo) (s.lo*t.hi)) (s.hi*t.lo);have b5:=YF (s.lo*t.lo) (s.lo*t.hi);have b6:=JL (s.lo*t.lo) (s.lo*t.hi);refine⟨QPO (QEM (tr a1 (tr a3 a5)) (tr a1 a4) h1 h2) (QEM (tr a1 (tr a3 a6)) a2 h1 h2) k1 k2,QPP (QEN (tr (tr b5 b3) b1) (tr b4 b1) h1 h2) (QEN (tr (tr b6 b3) b1) b2 h1 h2) k1 k2⟩
theorem YG {s t s' t':Sp}(hs:s.lo<=s.hi)(ht:t.lo<=t.hi)(h:s.sub s')(k:t.sub t'):(YO s t).sub (YO s' t'):=by
 have l1:=(Sp.lo_has hs).sub h;have l2:=(Sp.hi_has hs).sub h;have m1:=(Sp.lo_has ht).sub k;have m2:=(Sp.hi_has ht).sub k;have c1:=Qt l1 m1;have c2:=Qt l1 m2;have c3:=Qt l2 m1;have c4:=Qt l2 m2;exact⟨Jy (Jy (Jy c1.1 c2.1) c3.1) c4.1,WQ (WQ (WQ c1.2 c2.2) c3.2) c4.2⟩
theorem KQ {s:Sp}{x:Rat}(h:s.has x):(QBT s).has (x*x):=by
 obtain⟨h1,h2⟩:=h;have hx:=UC x;have hm:x*x<=XH (s.lo*s.lo) (s.hi*s.hi):=by
  have b1:=YF (s.lo*s.lo) (s.hi*s.hi);have b2:=JL (s.lo*s.lo) (s.hi*s.hi);rcases @Rat.le_total 0 x with h | h
  ·have:=JA (show 0<=s.hi-x by grind) (show 0<=s.hi+x by grind);grind
  ·have:=JA (show 0<=x-s.lo by grind) (show 0<= -x-s.lo by grind);grind
 refine⟨?_,hm⟩;show(bif Jd s 0 then 0 else XA (s.lo*s.lo) (s.hi*s.hi))<=x*x
 cases hb:Jd s 0 with
 | true=>exact hx
 | false=>
  have hn: ¬s.has 0:=fun e=>by rw[Vv.2 e]at hb;cases hb
  have a1:=YE (s.lo*s.lo) (s.hi*s.hi);have a2:=JK (s.lo*s.lo) (s.hi*s.hi);show XA (s.lo*s.lo) (s.hi*s.hi)<=x*x
  by_cases h0:s.lo<=0
  ·have h3:s.hi<0:=Zd.1 fun e=>hn ⟨h0,e⟩;have:=JA (show 0<=s.hi-x by grind) (show 0<= -s.hi-x by grind);grind
  ·have h0:0<s.lo:=Zd.1 h0;have:=JA (show 0<=x-s.lo by grind) (show 0<=x+s.lo by grind);grind
theorem QPQ {s t:Sp}(hs:s.lo<=s.hi)(h:s.sub t):(QBT s).sub (QBT t):=by
 have c1:=KQ ((Sp.lo_has hs).sub h);have c2:=KQ ((Sp.hi_has hs).sub h);refine⟨?_,WQ c1.2 c2.2⟩;show(QBT t).lo<=bif Jd s 0 then 0 else _
 cases hb:Jd s 0 with
 | true=>
  have:=KQ ((Vv.1 hb).sub h);rw[Rat.zero_mul]at this;exact this.1
 | false=>exact Jy c1.1 c2.1
theorem G5 (s:Sp):0<=(QBT s).lo:=by
 show 0<=bif Jd s 0 then 0 else _
 cases Jd s 0 with
 | true=>exact Zc
 | false=>exact Jy (UC _) (UC _)
theorem QBU {s t s' t':Sp}(h:s.sub s')(k:t.sub t'):(Ju s t).sub (Ju s' t'):=
 ⟨Jy (Za (YE _ _) h.1) (Za (JK _ _) k.1),WQ (Za h.2 (YF _ _)) (Za k.2 (JL _ _))⟩
theorem U4 {s t:Sp}{x:Rat}(h:s.has x):(Ju s t).has x:=⟨Za (YE _ _) h.1,Za h.2 (YF _ _)⟩
theorem U5 {s t:Sp}{x:Rat}(h:t.has x):(Ju s t).has x:=⟨Za (JK _ _) h.1,Za h.2 (JL _ _)⟩
theorem QCv {s t u:Sp}(h:s.sub u)(k:t.sub u):(Ju s t).sub u:=⟨Jy h.1 k.1,WQ h.2 k.2⟩
theorem QBV {d:Nat}(hd:d≠0):(0:Rat)<(d:Rat):=by
 have:=Rat.natCast_pos.2 (Nat.pos_of_ne_zero hd);exact this
theorem QIr (n:Int){d:Nat}(hd:d≠0):mkRat n d*(d:Rat)=(n:Rat):=by
 rw[Rat.mkRat_eq_div,Rat.div_mul_cancel];have:=QBV hd;grind
theorem QGV (p:Rat){d:Nat}(hd:d≠0):Ky p d<=p:=by
 have h0:=QBV hd;have h1:=Rat.floor_le (p*(d:Rat));have h2:=QIr (p*(d:Rat)).floor hd;unfold Ky;generalize mkRat (p*(d:Rat)).floor d=m at*;rw[<-h2]at h1;apply Zb;intro hn;have:=Ze (show 0<m-p by have:=Zd.1 hn;grind) h0;grind
theorem QXs (p:Rat){d:Nat}(hd:d≠0):p<=upR p d:=by
 have:=QGV (-p) hd;unfold upR;grind
theorem QBW {p q:Rat}{d:Nat}(hd:d≠0)(h:p<=q):Ky p d<=Ky q d:=by
 have h0:=QBV hd;have h1:(p*(d:Rat)).floor<=(q*(d:Rat)).floor:=Rat.floor_monotone (QXd h (Rat.le_of_lt h0));have h2:=QIr (p*(d:Rat)).floor hd;have h3:=QIr (q*(d:Rat)).floor hd;have h4:((p*(d:Rat)).floor:Rat)<=((q*(d:Rat)).floor:Rat):=Rat.intCast_le_intCast.2 h1;unfold Ky;rw[<-h2,<-h3]at h4;generalize mkRat (p*(d:Rat)).floor d=m at*;generalize mkRat (q*(d:Rat)).floor d=n at*;apply Zb;intro hn;have:=Ze (show 0<m-n by have:=Zd.1 hn;grind) h0;grind
theorem QPR {p q:Rat}{d:Nat}(hd:d≠0)(h:p<=q):upR p d<=upR q d:=by
 have:=QBW (p:= -q) (q:= -p) hd (by grind);unfold upR;grind
theorem QMK {s:Sp}{x:Rat}{d:Nat}(hd:d≠0)(h:s.has x):(QGU s d).has x:=⟨Za (QGV _ hd) h.1,Za h.2 (QXs _ hd)⟩
theorem QML {s t:Sp}{d:Nat}(hd:d≠0)(h:s.sub t):(QGU s d).sub (QGU t d):=⟨QBW hd h.1,QPR hd h.2⟩
theorem QCw {s:Sp}{x:Rat}(h:s.has x)(h1: -1<=x)(h2:x<=1):(U3 s).has x:=by
 have:=QMK (d:=1000000) (by decide) h;exact⟨WQ this.1 h1,Jy this.2 h2⟩
theorem QMM {a b c:Rat}(h:a<=b):XH a c<=XH b c:=WQ (Za h (YF _ _)) (JL _ _)
theorem QMN {a b c:Rat}(h:a<=b):XA a c<=XA b c:=Jy (Za (YE _ _) h) (JK _ _)
theorem QCx {s t:Sp}(h:s.sub t):(U3 s).sub (U3 t):=by
 have:=QML (d:=1000000) (by decide) h;exact⟨QMM this.1,QMN this.2⟩
theorem QGW {a:Rat}(h:0<=a):Gl a*(1+a)=1-a:=Rat.div_mul_cancel (by grind)
theorem KR {a b:Rat}(ha:0<=a)(h:a<=b):Gl b<=Gl a:=by
 have h1:=QGW ha;have h2:=QGW (Za ha h);have hp:=Ze (show 0<1+a by grind) (show 0<1+b by grind);generalize Gl a=x at*;generalize Gl b=y at*;apply Zb;intro hn;have:=Ze (show 0<y-x by have:=Zd.1 hn;grind) hp;have e:(y-x)*((1+a)*(1+b))=(y*(1+b))*(1+a)-(x*(1+a))*(1+b):=by grind
 rw[e,h1,h2]at this;grind
theorem Vx {t:Sp}{x:Rat}(h:t.has x):(GY t).has (Xw false x):=by
 have:=KQ h;exact⟨KR (UC x) this.2,KR (G5 t) this.1⟩
theorem QMO {s t:Sp}(hs:s.lo<=s.hi)(h:s.sub t):(GY s).sub (GY t):=by
 have:=QPQ hs h;have h0:=(KQ (Sp.lo_has hs)).ok;exact⟨KR (Za (G5 s) h0) this.2,KR (G5 t) this.1⟩
theorem QT9 (x y:Rat):(Q4 false x-Q4 false y)*((1+x*x)*(1+y*y))=2*((x-y)*(1-x*y)):=by
 have h1:=Jc x;have h2:=Jc y;have e:(Q4 false x-Q4 false y)*((1+x*x)*(1+y*y))=(Q4 false x*(1+x*x))*(1+y*y)-(Q4 false y*(1+y*y))*(1+x*x):=by grind
 rw[e,h1,h2];grind
theorem QEO {x y:Rat}(h:(x-y)*(1-x*y)<=0):Q4 false x<=Q4 false y:=by
 have e:=QT9 x y;have hp:=Ze (show 0<1+x*x by have:=UC x;grind) (show 0<1+y*y by have:=UC y;grind);apply Zb;intro hn;have:=Ze (show 0<Q4 false x-Q4 false y by have:=Zd.1 hn;grind) hp;grind
theorem QKL:Q4 false 1=1:=by decide+kernel
theorem QPS:Q4 false (-1)= -1:=by decide+kernel
theorem UT (x:Rat):Q4 false x<=1:=by
 rw[<-QKL];apply QEO;have:=UC (x-1);grind
theorem G6 (x:Rat):Q4 false (-x)= -Q4 false x:=by
 have h1:=Jc x;have h2:=Jc (-x);have h:=sq1 x;refine US h ?_
 grind
theorem QGX (x:Rat): -1<=Q4 false x:=by
 have:=UT (-x);rw[G6]at this;grind
theorem QIs (x:Rat):Xw false x<=1:=by
 have:=KR (a:=0) Zc (UC x);have e:Gl 0=1:=by decide+kernel
 rw[e]at this;exact this
theorem QGY (x:Rat): -1<=Xw false x:=by
 have h:=Wy x;have hp:0<1+x*x:=by have:=UC x;grind
 apply Zb;intro hn;have:=Ze (show 0< -1-Xw false x by have:=Zd.1 hn;grind) hp;grind
theorem QPT {l h x p:Rat}(h1:l<=x)(h2:x<=h)(kl:Q4 false l<=p)(kh:Q4 false h<=p)(k1:l<=1->1<=h->1<=p):Q4 false x<=p:=by
  by_cases c1:l<=1
  · by_cases c2:1<=h
    · exact Za (UT x) (k1 c1 c2)
    · have c2:h<1:=Zd.1 c2;by_cases c3:x*h<=1
      · refine Za (QEO ?_) kh;have:=JA (show 0<=h-x by grind) (show 0<=1-x*h by grind);grind
      · have c3:1<x*h:=Zd.1 c3;refine Za (QEO ?_) kl;have hx:x<0:=by
          apply Zb;intro hn;have hn:0<=x:=Rat.not_lt.1 hn;have:=JA hn (show 0<=1-h by grind);grind
        have e1:=JA (show 0<= -x by grind) (show 0<=h-x by grind);have e2:=JA (show 0<= -x by grind) (show 0<=x-l by grind);have:=JA (show 0<=x-l by grind) (show 0<=x*l-1 by grind);grind
  · have c1:1<l:=Zd.1 c1;refine Za (QEO ?_) kl;have e1:=JA (show 0<=l by grind) (show 0<=x-l by grind);have e2:=JA (show 0<=l-1 by grind) (show 0<=l+1 by grind);have:=JA (show 0<=x-l by grind) (show 0<=x*l-1 by grind);grind
theorem QXt {l h x p:Rat}(h1:l<=x)(h2:x<=h)(kl:p<=Q4 false l)(kh:p<=Q4 false h)(k1:l<= -1-> -1<=h->p<= -1):p<=Q4 false x:=by
 have:=QPT (l:= -h) (h:= -l) (x:= -x) (p:= -p) (by grind) (by grind) (by rw[G6];grind) (by rw[G6];grind) (fun a b=>by have:=k1 (by grind) (by grind);grind);rw[G6]at this;grind
theorem Wz (t s:Sp)(a:Rat):s.sub (Je t s a):=by
 unfold Je;cases Jd t a with
 | true=>exact⟨YE _ _,YF _ _⟩
 | false=>exact⟨Zc,Zc⟩
theorem QBX {t s:Sp}{a:Rat}(h:t.has a):(Je t s a).has a:=by
 unfold Je;rw[Vv.2 h];exact U5 (XR a)
theorem JN {t:Sp}{x:Rat}(h:t.has x):(J7 t).has (Q4 false x):=by
 have s0:(Wk t).has (Q4 false t.lo):=U4 (XR _);have s1:(Wk t).has (Q4 false t.hi):=U5 (XR _);have k1:=Wz t (Wk t) (-1);have k2:=Wz t (Je t (Wk t) (-1)) 1;have a1:=(s0.sub k1).sub k2;have a2:=(s1.sub k1).sub k2;refine⟨QXt h.1 h.2 a1.1 a2.1 fun b1 b2=> ?_,QPT h.1 h.2 a1.2 a2.2 fun b1 b2=> ?_⟩
 ·exact((QBX ⟨b1,b2⟩:(Je t (Wk t) (-1)).has (-1)).sub k2).1
 ·exact(QBX ⟨b1,b2⟩:(J7 t).has 1).2
theorem QBY {x:Rat}{t:Sp}(h:t.has x):(WG x).sub t:=h
theorem Sp.sub.trans {s t u:Sp}(h:s.sub t)(k:t.sub u):s.sub u:=⟨Za k.1 h.1,Za h.2 k.2⟩
theorem QCy {t s u:Sp}{a:Rat}(h:s.sub u)(k:t.has a->u.has a):(Je t s a).sub u:=by
 unfold Je;cases hb:Jd t a with
 | true=>exact QCv h (QBY (k (Vv.1 hb)))
 | false=>exact h
theorem QMP {s t:Sp}(hs:s.lo<=s.hi)(h:s.sub t):(J7 s).sub (J7 t):=by
 refine QCy (QCy (QCv (QBY (JN ((Sp.lo_has hs).sub h))) (QBY (JN ((Sp.hi_has hs).sub h)))) fun k=> ?_) fun k=> ?_
 ·have:=JN (k.sub h);rw[QPS]at this;exact this
 ·have:=JN (k.sub h);rw[QKL]at this;exact this
end Go.Proofs
namespace Go.Proofs
open Go Go.Eng
structure LoV where
 x:Sp
 y:Sp
 c:Sp
 s:Sp
structure LoV.has (l:LoV)(f:FrV):Prop where
 x:l.x.has f.x
 y:l.y.has f.y
 c:l.c.has (Xw f.h f.t)
 s:l.s.has (Q4 f.h f.t)
structure LoV.sub (l m:LoV):Prop where
 x:l.x.sub m.x
 y:l.y.sub m.y
 c:l.c.sub m.c
 s:l.s.sub m.s
def loC (l:LoV)(t:Sp):Sp:=U3 (QGT (YO l.c (GY t)) (YO l.s (J7 t)))
def loS (l:LoV)(t:Sp):Sp:=U3 (U2 (YO l.s (GY t)) (YO l.c (J7 t)))
def Vb (l:LoV)(t:Sp):LoV:=⟨l.x,l.y,loC l t,loS l t⟩
def QGZ (n:LoV)(len:Rat):LoV:=⟨U2 n.x (YO (WG len) n.c),U2 n.y (YO (WG len) n.s),n.c,n.s⟩
def XL:LoV->List Qf->List Sp->List LoV
 | l,L::ls,t::ts=>Vb l t::XL (QGZ (Vb l t) L.len) ls ts
 | l,_,_=>[l]
def Xp (a:ArmV):LoV:=⟨WG a.x,WG a.y,WG (Xw a.half a.t),WG (Q4 a.half a.t)⟩
def HasQ (ts:List Sp)(qs:List Rat):Prop:=ts.length=qs.length/\ ∀(i:Nat) t q,ts[i]? =some t->qs[i]? =some q->t.has q
theorem QUA (h:Bool)(t:Rat): -1<=Xw h t/\Xw h t<=1:=by
 cases h with
 | true=>exact⟨Zc,by show(-1:Rat)<=1;decide+kernel⟩
 | false=>exact⟨QGY t,QIs t⟩
theorem QUB (h:Bool)(t:Rat): -1<=Q4 h t/\Q4 h t<=1:=by
 cases h with
 | true=>exact⟨by show(-1:Rat)<=0;decide+kernel,by show(0:Rat)<=1;decide+kernel⟩
 | false=>exact⟨QGX t,UT t⟩
theorem UU {l:LoV}{f:FrV}{t:Sp}{q:Rat}(h:l.has f)(k:t.has q):(Vb l t).has (Jt f ⟨0,0,false,q⟩):=by
 obtain⟨e1,e2⟩:=QT6 f q;obtain⟨c1,c2⟩:=QWE f.h f.t false q;have i1:=QUA (thH f.h f.t false q) (thT f.h f.t false q);have i2:=QUB (thH f.h f.t false q) (thT f.h f.t false q);refine⟨by rw[e1];exact h.x,by rw[e2];exact h.y,?_,?_⟩
 ·show(loC l t).has (Xw (thH f.h f.t false q) (thT f.h f.t false q))
  rw[c1]at i1⊢;exact QCw (Vw (Qt h.c (Vx k)) (Qt h.s (JN k))) i1.1 i1.2
 ·show(loS l t).has (Q4 (thH f.h f.t false q) (thT f.h f.t false q))
  rw[c2]at i2⊢;exact QCw (JM (Qt h.s (Vx k)) (Qt h.c (JN k))) i2.1 i2.2
theorem Ht {l:LoV}{f:FrV}(h:l.has f)(len:Rat):(QGZ l len).has (Jt f ⟨len,0,false,0⟩):=by
 obtain⟨c1,c2⟩:=Qag f len;refine⟨?_,?_,by rw[c1];exact h.c,by rw[c2];exact h.s⟩
 ·have e:(Jt f ⟨len,0,false,0⟩).x=f.x+len*Xw f.h f.t:=by show Gj f len 0=_;unfold Gj;grind
  rw[e];exact JM h.x (Qt (XR len) h.c)
 ·have e:(Jt f ⟨len,0,false,0⟩).y=f.y+len*Q4 f.h f.t:=by show Gk f len 0=_;unfold Gk;grind
  rw[e];exact JM h.y (Qt (XR len) h.s)
theorem HasQ.tail {t:Sp}{ts:List Sp}{q:Rat}{qs:List Rat}(h:HasQ (t::ts) (q::qs)):t.has q/\HasQ ts qs:=
 ⟨h.2 0 t q rfl rfl,by simpa using h.1,fun i t q h1 h2=>h.2 (i+1) t q h1 h2⟩
theorem Kp: ∀(ls:List Qf) (ts:List Sp) (qs:List Rat) (l:LoV) (b:FrV),l.has b->HasQ ts qs-> ∀(i:Nat) m f,(XL l ls ts)[i]? =some m->(WO b ls qs)[i]? =some f->m.has f:=by
 intro ls;induction ls with
 | nil=>
  intro ts qs l b h _ i m f hm hf;have e1:XL l [] ts=[l]:=by cases ts<;>rfl
  have e2:WO b [] qs=[b]:=by cases qs<;>rfl
  rw[e1]at hm;rw[e2]at hf;cases i with
  | zero=>cases hm;cases hf;exact h
  | succ i=>cases hm
 | cons L ls ih=>
  intro ts qs l b h hq i m f hm hf;match ts,qs,hq with
  | [],[],_=>
   cases i with
   | zero=>cases hm;cases hf;exact h
   | succ i=>cases hm
  | [],q::qs,hq=>exact absurd hq.1 (by simp)
  | t::ts,[],hq=>exact absurd hq.1 (by simp)
  | t::ts,q::qs,hq=>
   obtain⟨h1,h2⟩:=hq.tail;have hn:=UU h h1;cases i with
   | zero=>cases hm;cases hf;exact hn
   | succ i=>exact ih ts qs _ _ (Ht hn L.len) h2 i m f hm hf
theorem QBZ: ∀(ls:List Qf) (ts:List Sp) (l:LoV),ts.length=ls.length->(XL l ls ts).length=ls.length+1:=by
 intro ls;induction ls with
 | nil=>intro ts l _;cases ts<;>rfl
 | cons L ls ih=>
  intro ts l h;match ts,h with
  | t::ts,h=>simp only[XL,List.length_cons];rw[ih ts _ (by simpa using h)]
theorem UW: ∀(ls:List Qf) (qs:List Rat) (b:FrV),qs.length=ls.length->(WO b ls qs).length=ls.length+1:=by
 intro ls;induction ls with
 | nil=>intro qs b _;cases qs<;>rfl
 | cons L ls ih=>
  intro qs b h;match qs,h with
  | q::qs,h=>simp only[WO,List.length_cons];rw[ih qs _ (by simpa using h)]
theorem KS (a:ArmV):(Xp a).has (Wx a):=⟨XR _,XR _,XR _,XR _⟩
theorem QIt {l l':LoV}{f:FrV}{t t':Sp}{q:Rat}(h:l.has f)(k:t.has q)(hs:l.sub l')(ks:t.sub t'):(Vb l t).sub (Vb l' t'):=by
 have kc:=QMO k.ok ks;have kn:=QMP k.ok ks;have oc:=(Vx k).ok;have on:=(JN k).ok;exact⟨hs.x,hs.y,QCx (QCu (YG h.c.ok oc hs.c kc) (YG h.s.ok on hs.s kn)),QCx (WW (YG h.s.ok oc hs.s kc) (YG h.c.ok on hs.c kn))⟩
theorem QMQ {l l':LoV}{f:FrV}(h:l.has f)(hs:l.sub l')(len:Rat):(QGZ l len).sub (QGZ l' len):=by
 have o:(WG len).sub (WG len):=⟨Zc,Zc⟩;exact⟨WW hs.x (YG Zc h.c.ok o hs.c),WW hs.y (YG Zc h.s.ok o hs.s),hs.c,hs.s⟩
theorem QIu: ∀(ls:List Qf) (ts ts':List Sp) (qs:List Rat) (l l':LoV) (b:FrV),l.has b->HasQ ts qs->l.sub l'->ts.length=ts'.length->(∀(i:Nat) t t',ts[i]? =some t->ts'[i]? =some t'->t.sub t')->
  ∀(i:Nat) m m',(XL l ls ts)[i]? =some m->(XL l' ls ts')[i]? =some m'->m.sub m':=by
 intro ls;induction ls with
 | nil=>
  intro ts ts' qs l l' b _ _ h _ _ i m m' hm hm';have e1:XL l [] ts=[l]:=by cases ts<;>rfl
  have e2:XL l' [] ts'=[l']:=by cases ts'<;>rfl
  rw[e1]at hm;rw[e2]at hm';cases i with
  | zero=>cases hm;cases hm';exact h
  | succ i=>cases hm
 | cons L ls ih=>
  intro ts ts' qs l l' b hb hq h hl ht i m m' hm hm';match ts,ts',qs,hq,hl with
  | [],[],_,_,_=>
   cases i with
   | zero=>cases hm;cases hm';exact h
   | succ i=>cases hm
  | t::ts,t'::ts',[],hq,_=>exact absurd hq.1 (by simp)
  | t::ts,t'::ts',q::qs,hq,hl=>
   obtain⟨h1,h2⟩:=hq.tail;have hn:=UU hb h1;have hs:=QIt hb h1 h (ht 0 t t' rfl rfl);cases i with
   | zero=>cases hm;cases hm';exact hs
   | succ i=>exact ih ts ts' qs _ _ _ (Ht hn L.len) h2 (QMQ hn hs L.len) (by simpa using hl) (fun i t t' a b=>ht (i+1) t t' a b) i m m' hm hm'
end Go.Proofs
