/- Polynomials of a degree up to 2: Roots, Fine, within, side, plainly. -/
import Derived.Test.YtjdhppdpbkoihaaGreatDoorQD
open Rat renaming mul_nonneg → Za, mul_pos → Zc, not_lt → Zd
open Option renaming bind_some → Zb
namespace Go.Proofs
open Go Go.Eng
def Gm (M:Rat)(j:Nat)(x:Rat):Prop:=Gd M.den M.num.natAbs j x
theorem gm0 (M:Rat):Gm M 0 M/\Gm M 0 (-M):=by
 have e:(((M.den*2^0:Nat):Int):Rat)=((M.den:Int):Rat):=by rw[Nat.pow_zero,Nat.mul_one]
 refine⟨⟨M.num,by rw[e];exact HE M,by rw[Nat.pow_zero,Nat.mul_one];exact Nat.le_refl _⟩,⟨-M.num,?_,by rw[Nat.pow_zero,Nat.mul_one,Int.natAbs_neg];exact Nat.le_refl _⟩⟩;rw[e];have:=HE M;push_cast at this⊢;grind
theorem Gm.bd {M:Rat}{E j:Nat}{x:Rat}(h:Gm M j x)(hb:Bd E M):Bd (E+j) x:=Gd.bd h M.den_pos hb.2 hb.1
theorem QQb {M:Rat}{E:Nat}(hb:Bd E M)(h0:0<=M):M<((2^E:Nat):Rat):=by
 have h1:=HE M;have h2:(M.num:Rat)<((2^E:Nat):Rat):=by
  have:=hb.1;have h3:=Rat.num_nonneg.2 h0;exact_mod_cast (show M.num<((2^E:Nat):Int)by omega)
 have h3:(1:Rat)<=((M.den:Int):Rat):=by have:=M.den_pos;exact_mod_cast (show(1:Int)<=M.den by omega)
 have:=Rat.mul_le_mul_of_nonneg_left h3 h0;grind
structure WT (f:Rat->Rat)(U V:Rat->Int)(M:Rat)(j:Nat)(s:Sp):Prop where
  le:s.lo<=s.hi
  one:U s.lo-V s.hi=1
  gl:Gm M j s.lo
  gh:Gm M j s.hi
  wd:s.hi-s.lo<=2*M
theorem WT.up {f:Rat->Rat}{U V:Rat->Int}{M:Rat}{j k:Nat}{s:Sp}(h:WT f U V M j s)(hk:j<=k):WT f U V M k s:=⟨h.le,h.one,Gd.le h.gl hk,Gd.le h.gh hk,h.wd⟩
section
variable {p:List Rat}{f:Rat->Rat}{ch:List (List Rat)}{U V:Rat->Int}{sep M:Rat}{E:Nat}
theorem Rdy.inM (R:Rdy p f ch U V sep M E){u:Rat}(hu:f u=0): -M<=u/\u<=M:=by
 have h1:=(R.root u).2 hu;have h2:=R.cnt.le u;constructor
 ·refine Zd.1 fun e=> ?_
  have:=R.cnt.anti u (-M) e;have:=R.low u;omega
 ·refine Zd.1 fun e=> ?_
  have:=R.cnt.anti M u e;have:=R.high u;omega
theorem Rdy.width (R:Rdy p f ch U V sep M E)(i:Nat):2*M*((2^i:Nat):Rat)<sep*((2^(2*E+1+i):Nat):Rat):=by
 have h1:=QQb R.mbd (by have:=R.m1;grind);have h2:=R.sep;have e:((2^(2*E+1+i):Nat):Rat)=2*((2^E:Nat):Rat)*((2^E:Nat):Rat)*((2^i:Nat):Rat):=by
  have:2^(2*E+1+i)=2*2^E*2^E*2^i:=by
   rw[Nat.pow_add,Nat.pow_succ,Nat.two_mul,Nat.pow_add];generalize 2^E=z;rw[Nat.mul_comm (z*z) 2,Nat.mul_assoc 2 z z]
  exact_mod_cast congrArg (fun n:Nat=>(n:Rat)) this
 have h3:(0:Rat)<((2^i:Nat):Rat):=by exact_mod_cast Nat.two_pow_pos i
 have h4:(0:Rat)<((2^E:Nat):Rat):=by exact_mod_cast Nat.two_pow_pos E
 rw[e];generalize ((2^i:Nat):Rat)=z at*;generalize ((2^E:Nat):Rat)=w at*;have k1:=Zc (a:=w-M) (b:=2*z) (by grind) (by grind);have k2:=Za (a:=sep*w-1) (b:=2*w*z) (by grind) (Rat.le_of_lt (Zc (by grind) h3));grind
theorem Rdy.roots (R:Rdy p f ch U V sep M E)(hE:E<=2900): ∃L,Jt p=some L/\(L.length:Int)=U (-M)-V M/\(∀s∈L,WT f U V M (4*E+8) s)/\(∀u,f u=0-> ∃s∈L,s.lo<=u/\u<=s.hi)/\ ∀s t,L=[s,t]->s.hi<t.lo:=by
  have C:=R.cnt;have hm:=R.m1;have g0:=gm0 M;have hw:M- -M<sep*((2^(2*E+1):Nat):Rat):=by
    have:=R.width 0;rw[Nat.pow_zero]at this;have e:((1:Nat):Rat)=1:=rfl;rw[e]at this;grind
  obtain⟨L,h1,h2,h3⟩:=C.split M.den_pos R.mbd.2 R.mbd.1 (2*E+1) FU 0 [] ⟨-M,M⟩ (by unfold FU;omega) (by omega) g0.2 g0.1 (by show-M<=M;grind) hw;rw[List.nil_append]at h1;have start: ∀{R':List Sp},L.length<=1000->Xn ch (L.length-1) 1 L=some R'->Jt p=some R':=fun hl ha=>by
    unfold Jt;rw[R.rdy];simp only[Zb];rw[R.most];simp only[Zb];rw[h1];simp only[Zb];rw[Nat.ble_eq_true_of_le hl];exact ha
  cases h2 with
  | zero h=>
    have h:U (-M)-V M=0:=h;refine⟨[],start (by simp) rfl,by rw[h];rfl,by simp,fun u hu=> ?_,by simp⟩;exfalso;have a1:=R.inM hu;have a2:=(R.root u).2 hu;have a3:=C.le u;have a4:=C.uu a1.1;have a5:=C.vv a1.2;omega
  | @one x h k1 k2 k3 kx=>
    have h:U (-M)-V M=1:=h;have k1: -M<=x.lo:=k1;have k3:x.hi<=M:=k3;obtain⟨g1,g2⟩:=h3 x (by simp);refine⟨[x],start (by simp) rfl,by rw[h];rfl,fun s hs=> ?_,fun u hu=>⟨x,by simp,?_⟩,by simp⟩
    · simp at hs;subst hs;exact⟨k2,kx,Gd.le g1 (by omega),Gd.le g2 (by omega),by grind⟩
    · have a1:=R.inM hu;exact C.keep (s:=⟨-M,M⟩) h kx k1 k3 ((R.root u).2 hu) a1.1 a1.2
  | @two x y h k1 k2 k3 k4 k5 kx ky hxy=>
    have h:U (-M)-V M=2:=h;have k1: -M<=x.lo:=k1;have k5:y.hi<=M:=k5;obtain⟨g1,g2⟩:=h3 x (by simp);obtain⟨g3,g4⟩:=h3 y (by simp);have hw2:(x.hi-x.lo)+(y.hi-y.lo)<sep*((2^(2*E+1):Nat):Rat):=by grind
    obtain⟨x',y',r1,r2,r3,r4,r5,r6,r7,r8,q1,q2,q3,q4⟩:=C.apart M.den_pos R.mbd.2 R.mbd.1 (2*E+1) FU (0+(2*E+1)+1) x y (by unfold FU;omega) (by omega) g1 g2 g3 g4 k2 k4 kx ky hxy hw2;have hap:Xn ch ([x,y].length-1) 1 [x,y]=some [x',y']:=by
      show Xn ch (0+1) 1 [x,y]=_
      rw[Xn,show[x,y].getD (1-1) s0=x from rfl,show[x,y].getD 1 s0=y from rfl,r1];rfl
    have l1: -M<=x'.lo:=Rat.le_trans k1 r4;have l2:y'.hi<=M:=Rat.le_trans r8 k5;refine⟨[x',y'],start (by simp) hap,by rw[h];rfl,fun s hs=> ?_,fun u hu=> ?_,fun s t e=>by cases e;exact r6⟩
    · simp at hs;rcases hs with rfl | rfl
      · exact⟨r5,r2,Gd.le q1 (by omega),Gd.le q2 (by omega),by grind⟩
      · exact⟨r7,r3,Gd.le q3 (by omega),Gd.le q4 (by omega),by grind⟩
    · have a1:=R.inM hu;have a2:=(R.root u).2 hu;have a3:=C.le u;have d1:=C.uu l1;have d2:=C.vv l2;have d3:=C.anti _ _ r6;by_cases e1:u<x'.lo
      · have c1:=C.anti _ _ e1;have c2:=C.uu a1.1;omega
      · by_cases e2:u<=x'.hi
        · exact⟨x',by simp,Zd.1 e1,e2⟩
        · have c1:=C.anti _ _ (Rat.not_le.1 e2);by_cases e3:u<y'.lo
          · have c2:=C.anti _ _ e3;omega
          · by_cases e4:u<=y'.hi
            · exact⟨y',by simp,Zd.1 e3,e4⟩
            · have c2:=C.anti _ _ (Rat.not_le.1 e4);have c3:=C.vv a1.2;omega
theorem Rdy.fine (R:Rdy p f ch U V sep M E){j:Nat}{s:Sp}{den:Int}(hs:WT f U V M j s)(hd:1<=den/\den<9223372036854775808)(hj:2*E+j+70<=20000):
    ∃s',JB ⟨p,s⟩ den=some ⟨p,s'⟩/\WT f U V M (j+(E+64)) s'/\s.lo<=s'.lo/\s'.hi<=s.hi/\s'.hi-s'.lo<=1/(den:Rat)/\ ∀u,f u=0->s.lo<=u->u<=s.hi->s'.lo<=u/\u<=s'.hi:=by
  have C:=R.cnt;have hm:=QQb R.mbd (by have:=R.m1;grind);have d0:(0:Rat)<(den:Rat):=Rat.intCast_pos.2 (by omega);have d1:(den:Rat)<=((9223372036854775808:Int):Rat):=Rat.intCast_le_intCast.2 (by omega);have hw:s.hi-s.lo<=((1:Int):Rat)/(den:Rat)*((2^(E+64):Nat):Rat):=by
    have e:((2^(E+64):Nat):Rat)=2*((2^E:Nat):Rat)*((9223372036854775808:Int):Rat):=by
      have h1:2^(E+64)=2^E*18446744073709551616:=by rw[Nat.pow_add]
      rw[h1];generalize 2^E=z;have h2:((z*18446744073709551616:Nat):Rat)=(z:Rat)*((18446744073709551616:Nat):Rat):=Rat.natCast_mul _ _;rw[h2];have h3:((18446744073709551616:Nat):Rat)=2*((9223372036854775808:Int):Rat):=by decide+kernel
      rw[h3];grind
    have e1:((1:Int):Rat)=1:=rfl;rw[e,e1];have h0:=hs.wd;generalize ((9223372036854775808:Int):Rat)=y at*;have hz:(0:Rat)<((2^E:Nat):Rat):=by exact_mod_cast Nat.two_pow_pos E
    generalize ((2^E:Nat):Rat)=z at*;generalize (den:Rat)=d at*;have e2:1/d*(2*z*y)=2*z*(y/d):=by grind
    have e3:1<=y/d:=by
      refine Zd.1 fun k=> ?_
      have:=Zc (a:=1-y/d) (b:=d) (by grind) d0;have:(1-y/d)*d=d-y:=by grind
      grind
    have:=Za (a:=2*z) (b:=y/d-1) (by grind) (by grind);grind
  obtain⟨s',f1,f2,f3,f4,f5,f6,f7,f8⟩:=C.fine M.den_pos R.mbd.2 R.mbd.1 (E+64) FU j s (by unfold FU;omega) (by omega) hs.gl hs.gh hs.le hs.one hw;refine⟨s',?_,⟨f4,f2,f7,f8,by have:=hs.wd;grind⟩,f3,f5,f6,fun u hu h1 h2=>C.keep hs.one f2 f3 f5 ((R.root u).2 hu) h1 h2⟩;unfold JB Gl;rw[R.rdy];simp only[Zb];rw[C.cnt s ((hs.gl.bd R.mbd).mono (by omega)) ((hs.gh.bd R.mbd).mono (by omega)),hs.one];simp only[Zb,show((1:Int)==1)=true from rfl,R7];rw[f1];rfl
theorem Rdy.count (R:Rdy p f ch U V sep M E){s:Sp}(h1:Bd 20000 s.lo)(h2:Bd 20000 s.hi):J5 p s=some (U s.lo-V s.hi):=by
  unfold J5;rw[R.rdy];exact R.cnt.cnt s h1 h2
theorem QMX (a b:Rat):(XL a b=a∨XL a b=b)/\a<=XL a b/\b<=XL a b:=by
 unfold XL;split<;>refine⟨?_,?_,?_⟩<;>grind
theorem QMY (a b:Rat):(Q9 a b=a∨Q9 a b=b)/\Q9 a b<=a/\Q9 a b<=b:=by
 unfold Q9;split<;>refine⟨?_,?_,?_⟩<;>grind
theorem Rdy.within (R:Rdy p f ch U V sep M E){j:Nat}{s:Sp}{lo hi:Rat}(hs:WT f U V M j s)(hj:E+j<=20000)(h1:Bd 20000 lo)(h2:Bd 20000 hi): ∃b,XY ⟨p,s⟩ lo hi=some b/\ ∀u,f u=0->s.lo<=u->u<=s.hi->lo<=u->u<=hi->b=true:=by
  have C:=R.cnt;obtain⟨m1,m2,m3⟩:=QMX s.lo lo;obtain⟨n1,n2,n3⟩:=QMY s.hi hi;have b1:Bd 20000 (XL s.lo lo):=by rcases m1 with e | e<;>rw[e];exact(hs.gl.bd R.mbd).mono hj;exact h1
  have b2:Bd 20000 (Q9 s.hi hi):=by rcases n1 with e | e<;>rw[e];exact(hs.gh.bd R.mbd).mono hj;exact h2
  unfold XY;by_cases e:XL s.lo lo<=Q9 s.hi hi
  · rw[decide_eq_true e];simp only[R7];rw[R.count (s:=⟨XL s.lo lo,Q9 s.hi hi⟩) b1 b2];refine⟨_,rfl,fun u hu k1 k2 k3 k4=> ?_⟩;have l1:XL s.lo lo<=u:=by rcases m1 with e | e<;>rw[e]<;>assumption
    have l2:u<=Q9 s.hi hi:=by rcases n1 with e | e<;>rw[e]<;>assumption
    have a1:=C.uu l1;have a2:=C.vv l2;have a3:=C.uu m2;have a4:=C.vv n2;have a5:=(R.root u).2 hu;have a6:=C.le u;have a7:=hs.one;have:U (XL s.lo lo)-V (Q9 s.hi hi)=1:=by omega
    simp[this]
  · rw[decide_eq_false e];refine⟨false,rfl,fun u hu k1 k2 k3 k4=> ?_⟩;exfalso;apply e;have l1:XL s.lo lo<=u:=by rcases m1 with e | e<;>rw[e]<;>assumption
    have l2:u<=Q9 s.hi hi:=by rcases n1 with e | e<;>rw[e]<;>assumption
    exact Rat.le_trans l1 l2
end
end Go.Proofs
namespace Go.Proofs
open Go Go.Eng
theorem Wx {a b A B:Rat}(h1: -A<=a)(h2:a<=A)(h3: -B<=b)(h4:b<=B): -(A*B)<=a*b/\a*b<=A*B:=by
 have p1:=Za (a:=A-a) (b:=B-b) (by grind) (by grind);have p2:=Za (a:=A+a) (b:=B+b) (by grind) (by grind);have p3:=Za (a:=A-a) (b:=B+b) (by grind) (by grind);have p4:=Za (a:=A+a) (b:=B-b) (by grind) (by grind);constructor<;>grind
def sdV (x y u:Rat):Rat:=(-y*u+ -2*x)*u+y
def KO (x y:Rat):Rat:=x*x+y*y
def p0V (l m x y:Rat):Rat:=KO x y-(l+m)*(l+m)
def p2V (l m x y:Rat):Rat:=KO x y-(l-m)*(l-m)
def kV (l m x y:Rat):Rat:=KO x y+l*l-m*m
def q0V (l m x y:Rat):Rat:=kV l m x y-2*(l*x)
def q1V (l y:Rat):Rat:= -4*(l*y)
def q2V (l m x y:Rat):Rat:=kV l m x y+2*(l*x)
def fQ (l m x y u:Rat):Rat:=(q2V l m x y*u+q1V l y)*u+q0V l m x y
def fP (l m x y u:Rat):Rat:=(p2V l m x y*u+0)*u+p0V l m x y
structure Sol (l m x y t0 t1:Rat):Prop where
  l0:0<l
  m0:0<m
  q:fQ l m x y t0=0
  p:fP l m x y t1=0
  sd:sdV x y t0*(1+t1*t1)=(1+t0*t0)*(2*(m*t1))
section
variable {l m x y t0 t1:Rat}
theorem Sol.p2 (S:Sol l m x y t0 t1):p2V l m x y*(1+t1*t1)=4*(l*m)/\0<p2V l m x y/\p0V l m x y<=0:=by
 have e1:p2V l m x y-p0V l m x y=4*(l*m):=by unfold p2V p0V;grind
 have e2:=S.p;unfold fP at e2;have hlm:=Zc S.l0 S.m0;have n:=Q5 t1;have e3:p2V l m x y*(1+t1*t1)=4*(l*m):=by grind
 have h2:0<p2V l m x y:=by
  refine Rat.not_le.1 fun k=> ?_
  have:=Za (a:= -p2V l m x y) (b:=1+t1*t1) (by grind) (by grind);grind
 refine⟨e3,h2,?_⟩;have:=Za (Rat.le_of_lt h2) n;grind
theorem Sol.side_sq (S:Sol l m x y t0 t1){r:Rat}(hr:fQ l m x y r=0):(sdV x y r*(1+t1*t1))*(sdV x y r*(1+t1*t1))=((1+r*r)*(2*(m*t1)))*((1+r*r)*(2*(m*t1))):=by
  obtain⟨h1,h2,h3⟩:=S.p2;have l0:=S.l0;have e1:kV l m x y*(1+r*r)=2*l*(x*(1-r*r)+2*y*r):=by
    unfold fQ q2V q1V q0V at hr;grind
  have e2:(x*(1-r*r)+2*y*r)*(x*(1-r*r)+2*y*r)+sdV x y r*sdV x y r=KO x y*((1+r*r)*(1+r*r)):=by unfold sdV KO;grind
  have e3:4*(l*l)*KO x y-kV l m x y*kV l m x y= -(p0V l m x y*p2V l m x y):=by unfold kV p0V p2V;grind
  have e4:p0V l m x y= -(p2V l m x y*(t1*t1)):=by have:=S.p;unfold fP at this;grind
  generalize kV l m x y=k at*;generalize KO x y=far at*;generalize sdV x y r=g at*;generalize x*(1-r*r)+2*y*r=a at*;generalize p0V l m x y=p0 at*;generalize p2V l m x y=p2 at*;have e5:4*(l*l)*(g*g)=(1+r*r)*(1+r*r)*(4*(l*l)*far-k*k):=by
    have:k*k*((1+r*r)*(1+r*r))=4*(l*l)*(a*a):=by
      have h:k*(1+r*r)*(k*(1+r*r))=2*l*a*(2*l*a):=by rw[e1]
      grind
    grind
  rw[e3,e4]at e5;have e6:4*(l*l)*(g*g*((1+t1*t1)*(1+t1*t1)))=(1+r*r)*(1+r*r)*(t1*t1)*(16*(l*l)*(m*m)):=by
    have:(p2*(1+t1*t1))*(p2*(1+t1*t1))=16*(l*l)*(m*m):=by rw[h1];grind
    rw[<-this];grind
  have nl:4*(l*l)≠0:=by have:=Zc l0 l0;grind
  have e7:4*(l*l)*(g*g*((1+t1*t1)*(1+t1*t1))-(1+r*r)*(1+r*r)*(t1*t1)*(4*(m*m)))=0:=by grind
  rcases Rat.mul_eq_zero.1 e7 with h | h
  · exact absurd h nl
  · grind
theorem Sol.side_far (S:Sol l m x y t0 t1)(hm:1<=m)(h1:1/24<=QX t1/\QX t1<=2){r:Rat}(hr:fQ l m x y r=0):1+r*r<=20*sdV x y r∨20*sdV x y r<= -(1+r*r):=by
  have e:=S.side_sq hr;have n:=Q5 t1;have nr:=Q5 r;have key:1+t1*t1<=20*(2*(m*QX t1)):=by
    have e2:t1*t1=QX t1*QX t1:=by rcases WS t1 with⟨h,_⟩ | ⟨h,_⟩<;>rw[h]<;>grind
    have p1:=Za (a:=QX t1-1/24) (b:=2-QX t1) (by grind) (by grind);have p2:=Za (a:=m-1) (b:=QX t1) (by grind) (by grind);rw[e2];grind
  have e3:(sdV x y r*(1+t1*t1)-(1+r*r)*(2*(m*t1)))*(sdV x y r*(1+t1*t1)+(1+r*r)*(2*(m*t1)))=0:=by grind
  have e4:sdV x y r*(1+t1*t1)=(1+r*r)*(2*(m*QX t1))∨sdV x y r*(1+t1*t1)= -((1+r*r)*(2*(m*QX t1))):=by
    rcases Rat.mul_eq_zero.1 e3 with h | h<;>rcases WS t1 with⟨h2,_⟩ | ⟨h2,_⟩<;>rw[h2]<;>first | (left;grind) | (right;grind)
  have p3:=Za (a:=1+r*r) (b:=20*(2*(m*QX t1))-(1+t1*t1)) (by grind) (by grind);rcases e4 with h | h
  · left;refine Zd.1 fun k=> ?_
    have:=Zc (a:=(1+r*r)-20*sdV x y r) (b:=1+t1*t1) (by grind) (by grind);grind
  · right;refine Zd.1 fun k=> ?_
    have:=Zc (a:=20*sdV x y r+(1+r*r)) (b:=1+t1*t1) (by grind) (by grind);grind
theorem QMZ {x y r u:Rat}(hx: -5<=x/\x<=5)(hy: -5<=y/\y<=5)(h1:r-1/4096<=u)(h2:u<=r+1/4096)(hf:1+r*r<=20*sdV x y r∨20*sdV x y r<= -(1+r*r)):(0<sdV x y r/\0<sdV x y u)∨(sdV x y r<0/\sdV x y u<0):=by
  have nr:=Q5 r;have e:sdV x y u=sdV x y r-(u-r)*(2*x+2*(y*r)+y*(u-r)):=by unfold sdV;grind
  have r1: -(1+r*r)<=2*r/\2*r<=1+r*r:=by
    have:=Q5 (r+1);have:=Q5 (r-1);constructor<;>grind
  have a1:=Wx (a:=y) (b:=2*r) (A:=5) (B:=1+r*r) (by grind) (by grind) r1.1 r1.2;have a2:=Wx (a:=y) (b:=u-r) (A:=5) (B:=1) (by grind) (by grind) (by grind) (by grind);have a3:=Wx (a:=u-r) (b:=2*x+2*(y*r)+y*(u-r)) (A:=1/4096) (B:=20*(1+r*r)) (by grind) (by grind) (by grind) (by grind);rw[e];generalize (u-r)*(2*x+2*(y*r)+y*(u-r))=z at*;rcases hf with hf | hf
  · left;constructor<;>grind
  · right;constructor<;>grind
end
section
variable {q:List Rat}{f:Rat->Rat}{ch:List (List Rat)}{U V:Rat->Int}{sep M:Rat}{E:Nat}
variable {P:List Rat}{g:Rat->Rat}{chP:List (List Rat)}{UP VP:Rat->Int}{sepP MP:Rat}{EP:Nat}
theorem K9 (R:Rdy q f ch U V sep M E)(RP:Rdy P g chP UP VP sepP MP EP)(hev: ∀u,Bd 20000 u->X7 P u=some (g u)){j:Nat}{s:Sp}(hs:WT f U V M j s)(hj:2*E+j+70<=20000){t:Rat}(ht:f t=0)(t1:s.lo<=t)(t2:t<=s.hi){den:Int}(hd:1<=den/\den<9223372036854775808){k:Nat}:
    (UP s.lo=VP s.hi/\KD P (k+1) den ⟨q,s⟩=some (Qa (g t)))∨(UP s.lo≠VP s.hi/\ ∃s',WT f U V M (j+(E+64)) s'/\s'.lo<=t/\t<=s'.hi/\s'.hi-s'.lo<=1/(den:Rat)/\KD P (k+1) den ⟨q,s⟩=KD P k (den*16) ⟨q,s'⟩):=by
  have b1:Bd 20000 s.lo:=(hs.gl.bd R.mbd).mono (by omega);have b2:Bd 20000 s.hi:=(hs.gh.bd R.mbd).mono (by omega);rw[KD];show(_/\((J5 P s).bind _)=_)∨(_/\ ∃s',_/\_/\_/\_/\((J5 P s).bind _)=_)
  rw[RP.count b1 b2];simp only[Zb];by_cases e:UP s.lo=VP s.hi
  · refine .inl ⟨e,?_⟩;have:(UP s.lo-VP s.hi==0)=true:=by simp;omega
    rw[this];simp only[R7];rw[hev _ b1];simp only[Zb];rw[RP.keep s.lo s.hi t e t1 t2]
  · refine .inr ⟨e,?_⟩;have:(UP s.lo-VP s.hi==0)=false:=by
      cases h:UP s.lo-VP s.hi==0 with
      | false=>rfl
      | true=>simp at h;omega
    rw[this];simp only[R8];obtain⟨s',f1,f2,f3,f4,f5,f6⟩:=R.fine hs hd hj;obtain⟨g1,g2⟩:=f6 t ht t1 t2;refine⟨s',f2,g1,g2,f5,?_⟩;rw[f1];rfl
theorem QQc (R:Rdy q f ch U V sep M E)(RP:Rdy P g chP UP VP sepP MP EP)(hev: ∀u,Bd 20000 u->X7 P u=some (g u)){j:Nat}{s:Sp}(hs:WT f U V M j s)(hj:2*E+(j+3*(E+64))+70<=20000){t:Rat}(ht:f t=0)(t1:s.lo<=t)(t2:t<=s.hi)
    (hn: ∀u,t-1/4096<=u->u<=t+1/4096->(0<g t/\0<g u)∨(g t<0/\g u<0)):KD P 15 16 ⟨q,s⟩=some (Qa (g t)):=by
  rcases K9 R RP hev hs (by omega) ht t1 t2 (den:=16) (by decide) (k:=14)with⟨_,h⟩ | ⟨_,s1,a1,a2,a3,_,h⟩
  · exact h
  · rw[h];rcases K9 R RP hev a1 (by omega) ht a2 a3 (den:=16*16) (by decide) (k:=13)with⟨_,h⟩ | ⟨_,s2,b1,b2,b3,_,h⟩
    · exact h
    · rw[h];rcases K9 R RP hev b1 (by omega) ht b2 b3 (den:=16*16*16) (by decide) (k:=12)with⟨_,h⟩ | ⟨_,s3,c1,c2,c3,c4,h⟩
      · exact h
      · rw[h];have w:s3.hi-s3.lo<=1/4096:=by
          have:(1:Rat)/((16*16*16:Int):Rat)=1/4096:=by decide+kernel
          rw[this]at c4;exact c4
        have key:UP s3.lo=VP s3.hi:=by
          refine RP.same _ _ c1.le ?_
          have:=hn t (by grind) (by grind);rcases this with⟨h0,_⟩ | ⟨h0,_⟩
          · refine .inl fun u u1 u2=> ?_
            have:=hn u (by grind) (by grind);grind
          · refine .inr fun u u1 u2=> ?_
            have:=hn u (by grind) (by grind);grind
        rcases K9 R RP hev c1 (by omega) ht c2 c3 (den:=16*16*16*16) (by decide) (k:=11)with⟨_,h⟩ | ⟨k,_⟩
        · exact h
        · exact absurd key k
end
end Go.Proofs
