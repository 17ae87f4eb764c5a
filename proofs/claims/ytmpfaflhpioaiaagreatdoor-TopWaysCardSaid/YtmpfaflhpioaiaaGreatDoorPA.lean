/- Sets of all numbers between two numbers: plain laws. -/
import Derived.Test.YtmpfaflhpioaiaaGreatDoorFL
open _root_ renaming Rat → A, List → C
open Bool renaming false → B
open Rat renaming le_trans → D, le_refl → E, not_le → F, mul_pos → Ze
open List renaming length → G
open Classical renaming byContradiction → Zb
namespace Go.Proofs
open Go Go.Eng
structure Sp where
 lo:A
 hi:A
def Sp.has (s:Sp)(x:A):Prop:=s.lo<=x/\x<=s.hi
def Sp.sub (s t:Sp):Prop:=t.lo<=s.lo/\s.hi<=t.hi
def Wu (a:A):Sp:=⟨a,a⟩
def GQ (s t:Sp):Sp:=⟨s.lo+t.lo,s.hi+t.hi⟩
def bI (s t:Sp):Sp:=⟨s.lo-t.hi,s.hi-t.lo⟩
def JH (s t:Sp):Sp:=⟨Qx (Qx (Qx (s.lo*t.lo) (s.lo*t.hi)) (s.hi*t.lo)) (s.hi*t.hi),Q6 (Q6 (Q6 (s.lo*t.lo) (s.lo*t.hi)) (s.hi*t.lo)) (s.hi*t.hi)⟩
def WD (s:Sp)(x:A):Bool:=decide (s.lo<=x)&&decide (x<=s.hi)
def S9 (s:Sp):Sp:=⟨bif WD s 0 then 0 else Qx (s.lo*s.lo) (s.hi*s.hi),Q6 (s.lo*s.lo) (s.hi*s.hi)⟩
def WY (s t:Sp):Sp:=⟨Qx s.lo t.lo,Q6 s.hi t.hi⟩
def Vp (p:A)(d:Nat):A:=mkRat (p*(d:A)).floor d
def upR (p:A)(d:Nat):A:= -Vp (-p) d
def bM (s:Sp)(d:Nat):Sp:=⟨Vp s.lo d,upR s.hi d⟩
def GR (s:Sp):Sp:=⟨Q6 (bM s 1000000).lo (-1),Qx (bM s 1000000).hi 1⟩
def Sw (a:A):A:=(1-a)/(1+a)
def Tt (t:Sp):Sp:=⟨Sw (S9 t).hi,Sw (S9 t).lo⟩
def KQ (t:Sp):Sp:=WY (Wu (Q3 B t.lo)) (Wu (Q3 B t.hi))
def WE (t:Sp)(s:Sp)(a:A):Sp:=bif WD t a then WY s (Wu a)else s
def Wm (t:Sp):Sp:=WE t (WE t (KQ t) (-1)) 1
theorem Y7 (a b:A):Qx a b<=a:=by unfold Qx;split<;>grind
theorem Js (a b:A):Qx a b<=b:=by unfold Qx;split<;>grind
variable{a b c:A}
theorem Wd(h1:c<=a)(h:c<=b):c<=Qx a b:=by unfold Qx;split<;>assumption
theorem Y8 (a b:A):a<=Q6 a b:=by unfold Q6;split<;>grind
theorem Jt (a b:A):b<=Q6 a b:=by unfold Q6;split<;>grind
theorem W6(h1:a<=c)(h:b<=c):Q6 a b<=c:=by unfold Q6;split<;>assumption
variable{x:A}{s:Sp}
theorem Sp.has.ok(h:s.has x):s.lo<=s.hi:=D h.1 h.2
variable{t:Sp}
theorem Sp.has.sub(h:s.has x)(k:s.sub t):t.has x:=⟨D k.1 h.1,D h.2 k.2⟩
theorem Uw:WD s x=true↔s.has x:=by
 unfold WD Sp.has;simp
theorem Sp.lo_has(h:s.lo<=s.hi):s.has s.lo:=⟨E,h⟩
theorem Sp.hi_has(h:s.lo<=s.hi):s.has s.hi:=⟨h,E⟩
theorem Xh (a:A):(Wu a).has a:=⟨E,E⟩
variable{y:A}
theorem Ju(h:s.has x)(k:t.has y):(GQ s t).has (x+y):=by
 obtain⟨e,g⟩:=h;obtain⟨i,j⟩:=k;exact⟨by show s.lo+t.lo<=_;grind,by show _<=s.hi+t.hi;grind⟩
theorem Ux(h:s.has x)(k:t.has y):(bI s t).has (x-y):=by
 obtain⟨e,g⟩:=h;obtain⟨i,j⟩:=k;exact⟨by show s.lo-t.hi<=_;grind,by show _<=s.hi-t.lo;grind⟩
variable{s' t':Sp}
theorem KC(h:s.sub s')(k:t.sub t'):(GQ s t).sub (GQ s' t'):=by
 obtain⟨e,g⟩:=h;obtain⟨i,j⟩:=k;exact⟨by show s'.lo+t'.lo<=s.lo+t.lo;grind,by show s.hi+t.hi<=s'.hi+t'.hi;grind⟩
theorem QFL(h:s.sub s')(k:t.sub t'):(bI s t).sub (bI s' t'):=by
 obtain⟨e,g⟩:=h;obtain⟨i,j⟩:=k;exact⟨by show s'.lo-t'.hi<=s.lo-t.hi;grind,by show s.hi-t.lo<=s'.hi-t'.lo;grind⟩
theorem Ji(h:0<=a)(k:0<=b):0<=a*b:=A.mul_nonneg h k
variable{p:A}
theorem l9(h1:p<=a*y)(e:p<=b*y)(g:a<=x)(i:x<=b):p<=x*y:=by
 rcases @A.le_total 0 y with h | h
 ·have:=Ji (j4:0<=x-a) h;grind
 ·have:=Ji (j4:0<=b-x) (j4:0<= -y);grind
theorem nT(h1:a*y<=p)(e:b*y<=p)(g:a<=x)(i:x<=b):x*y<=p:=by
 rcases @A.le_total 0 y with h | h
 ·have:=Ji (j4:0<=b-x) h;grind
 ·have:=Ji (j4:0<=x-a) (j4:0<= -y);grind
theorem QUv(h1:p<=y*a)(h:p<=y*b)(e:a<=x)(g:x<=b):p<=y*x:=by
 rw[A.mul_comm]at h1 h⊢;exact l9 h1 h e g
theorem QUw(h1:y*a<=p)(h:y*b<=p)(e:a<=x)(g:x<=b):y*x<=p:=by
 rw[A.mul_comm]at h1 h⊢;exact nT h1 h e g
theorem Q1(h:s.has x)(k:t.has y):(JH s t).has (x*y):=by
 obtain⟨g,i⟩:=h;obtain⟨r,v⟩:=k;have e:=fun {a b c:A} (h:a<=b) (k:b<=c)=>D h k;have j:=Y7 (Qx (Qx (s.lo*t.lo) (s.lo*t.hi)) (s.hi*t.lo)) (s.hi*t.hi);have w:=Js (Qx (Qx (s.lo*t.lo) (s.lo*t.hi)) (s.hi*t.lo)) (s.hi*t.hi);have n:=Y7 (Qx (s.lo*t.lo) (s.lo*t.hi)) (s.hi*t.lo);have z:=Js (Qx (s.lo*t.lo) (s.lo*t.hi)) (s.hi*t.lo);have C:=Y7 (s.lo*t.lo) (s.lo*t.hi);have E:=Js (s.lo*t.lo) (s.lo*t.hi);have m:=Y8 (Q6 (Q6 (s.lo*t.lo) (s.lo*t.hi)) (s.hi*t.lo)) (s.hi*t.hi);have F:=Jt (Q6 (Q6 (s.lo*t.lo) (s.lo*t.hi)) (s.hi*t.lo)) (s.hi*t.hi)
 have o:=Y8 (Q6 (s.lo*t.lo) (s.lo*t.hi)) (s.hi*t.lo);have G:=Jt (Q6 (s.lo*t.lo) (s.lo*t.hi)) (s.hi*t.lo);have H:=Y8 (s.lo*t.lo) (s.lo*t.hi);have I:=Jt (s.lo*t.lo) (s.lo*t.hi);refine⟨QUv (l9 (e j (e n C)) (e j z) g i) (l9 (e j (e n E)) w g i) r v,QUw (nT (e (e H o) m) (e G m) g i) (nT (e (e I o) m) F g i) r v⟩
theorem Y9(m:s.lo<=s.hi)(n:t.lo<=t.hi)(h:s.sub s')(k:t.sub t'):(JH s t).sub (JH s' t'):=by
 have o:=(Sp.lo_has m).sub h;have r:=(Sp.hi_has m).sub h;have v:=(Sp.lo_has n).sub k;have w:=(Sp.hi_has n).sub k;have e:=Q1 o v;have g:=Q1 o w;have i:=Q1 r v;have j:=Q1 r w;exact⟨Wd (Wd (Wd e.1 g.1) i.1) j.1,W6 (W6 (W6 e.2 g.2) i.2) j.2⟩
theorem VH(h:s.has x):(S9 s).has (x*x):=by
 obtain⟨w,z⟩:=h;have m:=HI x;have j:x*x<=Q6 (s.lo*s.lo) (s.hi*s.hi):=by
  have r:=Y8 (s.lo*s.lo) (s.hi*s.hi);have v:=Jt (s.lo*s.lo) (s.hi*s.hi);rcases @A.le_total 0 x with h | h
  ·have:=Ji (j4:0<=s.hi-x) (j4:0<=s.hi+x);grind
  ·have:=Ji (j4:0<=x-s.lo) (j4:0<= -x-s.lo);grind
 refine⟨?_,j⟩;show(bif WD s 0 then 0 else Qx (s.lo*s.lo) (s.hi*s.hi))<=x*x
 cases i:WD s 0 with
 | true=>exact m
 | false=>
  have k: ¬s.has 0:=fun e=>by rw[Uw.2 e]at i;cases i
  have n:=Y7 (s.lo*s.lo) (s.hi*s.hi);have o:=Js (s.lo*s.lo) (s.hi*s.hi);show Qx (s.lo*s.lo) (s.hi*s.hi)<=x*x
  by_cases g:s.lo<=0
  ·have C:s.hi<0:=F.1 fun e=>k ⟨g,e⟩;have:=Ji (j4:0<=s.hi-x) (j4:0<= -s.hi-x);grind
  ·have g:0<s.lo:=F.1 g;have:=Ji (j4:0<=x-s.lo) (j4:0<=x+s.lo);grind
theorem QUx(i:s.lo<=s.hi)(h:s.sub t):(S9 s).sub (S9 t):=by
 have e:=VH ((Sp.lo_has i).sub h);have g:=VH ((Sp.hi_has i).sub h);refine⟨?_,W6 e.2 g.2⟩;show(S9 t).lo<=bif WD s 0 then 0 else _
 cases j:WD s 0 with
 | true=>
  have:=VH ((Uw.1 j).sub h);rw[A.zero_mul]at this;exact this.1
 | false=>exact Wd e.1 g.1
theorem eD (s:Sp):0<=(S9 s).lo:=by
 show 0<=bif WD s 0 then 0 else _
 cases WD s 0 with
 | true=>exact E
 | false=>exact Wd (HI _) (HI _)
theorem QDK(h:s.sub s')(k:t.sub t'):(WY s t).sub (WY s' t'):=
 ⟨Wd (D (Y7 _ _) h.1) (D (Js _ _) k.1),W6 (D h.2 (Y8 _ _)) (D k.2 (Jt _ _))⟩
theorem GS(h:s.has x):(WY s t).has x:=⟨D (Y7 _ _) h.1,D h.2 (Y8 _ _)⟩
theorem GU(h:t.has x):(WY s t).has x:=⟨D (Js _ _) h.1,D h.2 (Jt _ _)⟩
variable{u:Sp}
theorem QFM(h:s.sub u)(k:t.sub u):(WY s t).sub u:=⟨Wd h.1 k.1,W6 h.2 k.2⟩
variable{d:Nat}
theorem qT(h:d≠0):(0:A)<(d:A):=by
 have:=A.natCast_pos.2 (Nat.pos_of_ne_zero h);exact this
theorem sc (n:Int)(h:d≠0):mkRat n d*(d:A)=(n:A):=by
 rw[A.mkRat_eq_div,A.div_mul_cancel];have:=qT h;grind
theorem wR (p:A)(h:d≠0):Vp p d<=p:=by
 have e:=qT h;have g:=A.floor_le (p*(d:A));have i:=sc (p*(d:A)).floor h;unfold Vp;generalize mkRat (p*(d:A)).floor d=m at*;rw[<-i]at g;apply Zb;intro j;have:=Ze (show 0<m-p by have:=F.1 j;grind) e;grind
theorem QgJ (p:A)(h:d≠0):p<=upR p d:=by
 have:=wR (-p) h;unfold upR;grind
variable{q:A}
theorem zR(e:d≠0)(h:p<=q):Vp p d<=Vp q d:=by
 have g:=qT e;have i:(p*(d:A)).floor<=(q*(d:A)).floor:=A.floor_monotone (Qf3 h (A.le_of_lt g));have j:=sc (p*(d:A)).floor e;have k:=sc (q*(d:A)).floor e;have o:((p*(d:A)).floor:A)<=((q*(d:A)).floor:A):=A.intCast_le_intCast.2 i;unfold Vp;rw[<-j,<-k]at o;generalize mkRat (p*(d:A)).floor d=m at*;generalize mkRat (q*(d:A)).floor d=n at*;apply Zb;intro r;have:=Ze (show 0<m-n by have:=F.1 r;grind) g;grind
theorem QUy(e:d≠0)(h:p<=q):upR p d<=upR q d:=by
 have:=zR (p:= -q) (q:= -p) e j4;unfold upR;grind
theorem QQ2(e:d≠0)(h:s.has x):(bM s d).has x:=⟨D (wR _ e) h.1,D h.2 (QgJ _ e)⟩
theorem QQ3(e:d≠0)(h:s.sub t):(bM s d).sub (bM t d):=⟨zR e h.1,QUy e h.2⟩
theorem QFN(h:s.has x)(h1: -1<=x)(e:x<=1):(GR s).has x:=by
 have:=QQ2 (d:=1000000) o8 h;exact⟨W6 this.1 h1,Wd this.2 e⟩
theorem QQ4(h:a<=b):Q6 a c<=Q6 b c:=W6 (D h (Y8 _ _)) (Jt _ _)
theorem QQ5(h:a<=b):Qx a c<=Qx b c:=Wd (D (Y7 _ _) h) (Js _ _)
theorem uz(h:s.sub t):(GR s).sub (GR t):=by
 have:=QQ3 (d:=1000000) o8 h;exact⟨QQ4 this.1,QQ5 this.2⟩
theorem QJa(h:0<=a):Sw a*(1+a)=1-a:=A.div_mul_cancel j4
theorem VI(g:0<=a)(h:a<=b):Sw b<=Sw a:=by
 have i:=QJa g;have j:=QJa (D g h);have m:=Ze (j4:0<1+a) (j4:0<1+b);generalize Sw a=x at*;generalize Sw b=y at*;apply Zb;intro k;have:=Ze (show 0<y-x by have:=F.1 k;grind) m;have e:(y-x)*((1+a)*(1+b))=(y*(1+b))*(1+a)-(x*(1+a))*(1+b):=j4
 rw[e,i,j]at this;grind
theorem Uy(h:t.has x):(Tt t).has (Xy B x):=by
 have:=VH h;exact⟨VI (HI x) this.2,VI (eD t) this.1⟩
theorem QQ6(e:s.lo<=s.hi)(h:s.sub t):(Tt s).sub (Tt t):=by
 have:=QUx e h;have g:=(VH (Sp.lo_has e)).ok;exact⟨VI (D (eD s) g) this.2,VI (eD t) this.1⟩
theorem Qa4 (x y:A):(Q3 B x-Q3 B y)*((1+x*x)*(1+y*y))=2*((x-y)*(1-x*y)):=by
 have h:=WC x;have g:=WC y;have e:(Q3 B x-Q3 B y)*((1+x*x)*(1+y*y))=(Q3 B x*(1+x*x))*(1+y*y)-(Q3 B y*(1+y*y))*(1+x*x):=j4
 rw[e,h,g];grind
theorem eB(h:(x-y)*(1-x*y)<=0):Q3 B x<=Q3 B y:=by
 have e:=Qa4 x y;have i:=Ze (show 0<1+x*x by have:=HI x;grind) (show 0<1+y*y by have:=HI y;grind);apply Zb;intro g;have:=Ze (show 0<Q3 B x-Q3 B y by have:=F.1 g;grind) i;grind
theorem QOO:Q3 B 1=1:=j5
theorem QUz:Q3 B (-1)= -1:=j5
theorem Hf (x:A):Q3 B x<=1:=by
 rw[<-QOO];apply eB;have:=HI (x-1);grind
theorem dC (x:A):Q3 B (-x)= -Q3 B x:=by
 have e:=WC x;have g:=WC (-x);have h:=sq1 x;refine He h ?_
 grind
theorem QJb (x:A): -1<=Q3 B x:=by
 have:=Hf (-x);rw[dC]at this;grind
theorem QME (x:A):Xy B x<=1:=by
 have:=VI (a:=0) E (HI x);have e:Sw 0=1:=j5
 rw[e]at this;exact this
theorem QJc (x:A): -1<=Xy B x:=by
 have h:=Kn x;have g:0<1+x*x:=by have:=HI x;grind
 apply Zb;intro e;have:=Ze (show 0< -1-Xy B x by have:=F.1 e;grind) g;grind
theorem QU0{l h:A}(h1:l<=x)(v:x<=h)(k:Q3 B l<=p)(r:Q3 B h<=p)(o:l<=1->1<=h->1<=p):Q3 B x<=p:=by
  by_cases e:l<=1
  · by_cases g:1<=h
    · exact D (Hf x) (o e g)
    · have g:h<1:=F.1 g;by_cases j:x*h<=1
      · refine D (eB ?_) r;have:=Ji (j4:0<=h-x) (j4:0<=1-x*h);grind
      · have j:1<x*h:=F.1 j;refine D (eB ?_) k;have w:x<0:=by
          apply Zb;intro i;have i:0<=x:=A.not_lt.1 i;have:=Ji i (j4:0<=1-h);grind
        have m:=Ji (j4:0<= -x) (j4:0<=h-x);have n:=Ji (j4:0<= -x) (j4:0<=x-l);have:=Ji (j4:0<=x-l) (j4:0<=x*l-1);grind
  · have e:1<l:=F.1 e;refine D (eB ?_) k;have m:=Ji (j4:0<=l) (j4:0<=x-l);have n:=Ji (j4:0<=l-1) (j4:0<=l+1);have:=Ji (j4:0<=x-l) (j4:0<=x*l-1);grind
theorem QgK{l h:A}(h1:l<=x)(e:x<=h)(i:p<=Q3 B l)(g:p<=Q3 B h)(k:l<= -1-> -1<=h->p<= -1):p<=Q3 B x:=by
 have:=QU0 (l:= -h) (h:= -l) (x:= -x) (p:= -p) j4 j4 (by rw[dC];grind) (by rw[dC];grind) (fun a b=>by have:=k j4 j4;grind);rw[dC]at this;grind
theorem Ko (t s:Sp)(a:A):s.sub (WE t s a):=by
 unfold WE;cases WD t a with
 | true=>exact⟨Y7 _ _,Y8 _ _⟩
 | false=>exact⟨E,E⟩
theorem QDN(h:t.has a):(WE t s a).has a:=by
 unfold WE;rw[Uw.2 h];exact GU (Xh a)
theorem Jv(h:t.has x):(Wm t).has (Q3 B x):=by
 have s0:(KQ t).has (Q3 B t.lo):=GS (Xh _);have n:(KQ t).has (Q3 B t.hi):=GU (Xh _);have m:=Ko t (KQ t) (-1);have k:=Ko t (WE t (KQ t) (-1)) 1;have i:=(s0.sub m).sub k;have j:=(n.sub m).sub k;refine⟨QgK h.1 h.2 i.1 j.1 fun e g=> ?_,QU0 h.1 h.2 i.2 j.2 fun e g=> ?_⟩
 ·exact((QDN ⟨e,g⟩:(WE t (KQ t) (-1)).has (-1)).sub k).1
 ·exact(QDN ⟨e,g⟩:(Wm t).has 1).2
theorem iw(h:t.has x):(Wu x).sub t:=h
theorem Sp.sub.trans(h:s.sub t)(k:t.sub u):s.sub u:=⟨D k.1 h.1,D h.2 k.2⟩
theorem uS(h:s.sub u)(k:t.has a->u.has a):(WE t s a).sub u:=by
 unfold WE;cases e:WD t a with
 | true=>exact QFM h (iw (k (Uw.1 e)))
 | false=>exact h
theorem QQ7(e:s.lo<=s.hi)(h:s.sub t):(Wm s).sub (Wm t):=by
 refine uS (uS (QFM (iw (Jv ((Sp.lo_has e).sub h))) (iw (Jv ((Sp.hi_has e).sub h)))) fun k=> ?_) fun k=> ?_
 ·have:=Jv (k.sub h);rw[QUz]at this;exact this
 ·have:=Jv (k.sub h);rw[QOO]at this;exact this
structure LoV where
 x:Sp
 y:Sp
 c:Sp
 s:Sp
structure LoV.has (l:LoV)(f:FrV):Prop where
 x:l.x.has f.x
 y:l.y.has f.y
 c:l.c.has (Xy f.h f.t)
 s:l.s.has (Q3 f.h f.t)
structure LoV.sub (l m:LoV):Prop where
 x:l.x.sub m.x
 y:l.y.sub m.y
 c:l.c.sub m.c
 s:l.s.sub m.s
def loC (l:LoV)(t:Sp):Sp:=GR (bI (JH l.c (Tt t)) (JH l.s (Wm t)))
def loS (l:LoV)(t:Sp):Sp:=GR (GQ (JH l.s (Tt t)) (JH l.c (Wm t)))
def UU (l:LoV)(t:Sp):LoV:=⟨l.x,l.y,loC l t,loS l t⟩
def bn (n:LoV)(len:A):LoV:=⟨GQ n.x (JH (Wu len) n.c),GQ n.y (JH (Wu len) n.s),n.c,n.s⟩
def XX:LoV->C QV->C Sp->C LoV
 | l,L::e,t::g=>UU l t::XX (bn (UU l t) L.len) e g
 | l,_,_=>[l]
def Xz (a:ArmV):LoV:=⟨Wu a.x,Wu a.y,Wu (Xy a.half a.t),Wu (Q3 a.half a.t)⟩
def HasQ (g:C Sp)(e:C A):Prop:=G g=G e/\ ∀(i:Nat) t q,g[i]? =some t->e[i]? =some q->t.has q
theorem Qa5 (h:Bool)(t:A): -1<=Xy h t/\Xy h t<=1:=by
 cases h with
 | true=>exact⟨E,by show(-1:A)<=1;decide+kernel⟩
 | false=>exact⟨QJc t,QME t⟩
theorem Qa6 (h:Bool)(t:A): -1<=Q3 h t/\Q3 h t<=1:=by
 cases h with
 | true=>exact⟨by show(-1:A)<=0;decide+kernel,by show(0:A)<=1;decide+kernel⟩
 | false=>exact⟨QJb t,Hf t⟩
variable{f:FrV}{l:LoV}
theorem Hg(h:l.has f)(k:t.has q):(UU l t).has (Y0 f ⟨0,0,B,q⟩):=by
 obtain⟨m,n⟩:=Qa2 f q;obtain⟨g,j⟩:=xV f.h f.t B q;have i:=Qa5 (thH f.h f.t B q) (thT f.h f.t B q);have e:=Qa6 (thH f.h f.t B q) (thT f.h f.t B q);refine⟨by rw[m];exact h.x,by rw[n];exact h.y,?_,?_⟩
 ·show(loC l t).has (Xy (thH f.h f.t B q) (thT f.h f.t B q))
  rw[g]at i⊢;exact QFN (Ux (Q1 h.c (Uy k)) (Q1 h.s (Jv k))) i.1 i.2
 ·show(loS l t).has (Q3 (thH f.h f.t B q) (thT f.h f.t B q))
  rw[j]at e⊢;exact QFN (Ju (Q1 h.s (Uy k)) (Q1 h.c (Jv k))) e.1 e.2
theorem fX(h:l.has f)(len:A):(bn l len).has (Y0 f ⟨len,0,B,0⟩):=by
 obtain⟨g,i⟩:=Qja f len;refine⟨?_,?_,by rw[g];exact h.c,by rw[i];exact h.s⟩
 ·have e:(Y0 f ⟨len,0,B,0⟩).x=f.x+len*Xy f.h f.t:=by show Vu f len 0=_;unfold Vu;grind
  rw[e];exact Ju h.x (Q1 (Xh len) h.c)
 ·have e:(Y0 f ⟨len,0,B,0⟩).y=f.y+len*Q3 f.h f.t:=by show Vv f len 0=_;unfold Vv;grind
  rw[e];exact Ju h.y (Q1 (Xh len) h.s)
theorem HasQ.tail{g:C Sp}{e:C A}(h:HasQ (t::g) (q::e)):t.has q/\HasQ g e:=
 ⟨h.2 0 t q rfl rfl,(j9 h.1),fun i t q j k=>h.2 (i+1) t q j k⟩
theorem KR: ∀(o:C QV) (g:C Sp) (e:C A) (l:LoV) (b:FrV),l.has b->HasQ g e-> ∀(i:Nat) m f,(XX l o g)[i]? =some m->(XH b o e)[i]? =some f->m.has f:=by
 intro o;induction o with
 | nil=>
  intro g e l b h _ i m f j n;have v:XX l [] g=[l]:=by cases g<;>rfl
  have w:XH b [] e=[b]:=by cases e<;>rfl
  rw[v]at j;rw[w]at n;cases i with
  | zero=>cases j;cases n;exact h
  | succ i=>cases j
 | cons L o E=>
  intro g e l b h k i m f j n;match g,e,k with
  | [],[],_=>
   cases i with
   | zero=>cases j;cases n;exact h
   | succ i=>cases j
  | [],q::e,k=>exact absurd k.1 o6
  | t::g,[],k=>exact absurd k.1 o6
  | t::g,q::e,k=>
   obtain⟨z,D⟩:=k.tail;have r:=Hg h z;cases i with
   | zero=>cases j;cases n;exact r
   | succ i=>exact E g e _ _ (fX r L.len) D i m f j n
theorem Hh: ∀(g:C QV) (e:C Sp) (l:LoV),G e=G g->(XX l g e).length=G g+1:=by
 intro g;induction g with
 | nil=>intro e l _;cases e<;>rfl
 | cons L g i=>
  intro e l h;match e,h with
  | t::e,h=>simp only[XX,C.length_cons];rw[i e _ ((j9 h))]
theorem Hi: ∀(g:C QV) (e:C A) (b:FrV),G e=G g->(XH b g e).length=G g+1:=by
 intro g;induction g with
 | nil=>intro e b _;cases e<;>rfl
 | cons L g i=>
  intro e b h;match e,h with
  | q::e,h=>simp only[XH,C.length_cons];rw[i e _ ((j9 h))]
theorem KS (a:ArmV):(Xz a).has (Xs a):=⟨Xh _,Xh _,Xh _,Xh _⟩
theorem QMF{j:LoV}(h:l.has f)(k:t.has q)(e:l.sub j)(ks:t.sub t'):(UU l t).sub (UU j t'):=by
 have g:=QQ6 k.ok ks;have i:=QQ7 k.ok ks;have o:=(Uy k).ok;have m:=(Jv k).ok;exact⟨e.x,e.y,uz (QFL (Y9 h.c.ok o e.c g) (Y9 h.s.ok m e.s i)),uz (KC (Y9 h.s.ok o e.s g) (Y9 h.c.ok m e.c i))⟩
theorem QQ8{g:LoV}(h:l.has f)(e:l.sub g)(len:A):(bn l len).sub (bn g len):=by
 have o:(Wu len).sub (Wu len):=⟨E,E⟩;exact⟨KC e.x (Y9 E h.c.ok o e.c),KC e.y (Y9 E h.s.ok o e.s),e.c,e.s⟩
theorem QMG: ∀(v:C QV) (j e:C Sp) (o:C A) (l n:LoV) (b:FrV),l.has b->HasQ j o->l.sub n->G j=G e->(∀(i:Nat) t t',j[i]? =some t->e[i]? =some t'->t.sub t')->
  ∀(i:Nat) m w,(XX l v j)[i]? =some m->(XX n v e)[i]? =some w->m.sub w:=by
 intro v;induction v with
 | nil=>
  intro j e o l n b _ _ h _ _ i m w k g;have J:XX l [] j=[l]:=by cases j<;>rfl
  have K:XX n [] e=[n]:=by cases e<;>rfl
  rw[J]at k;rw[K]at g;cases i with
  | zero=>cases k;cases g;exact h
  | succ i=>cases k
 | cons L v N=>
  intro j e o l n b E r h z I i m w k g;match j,e,o,r,z with
  | [],[],_,_,_=>
   cases i with
   | zero=>cases k;cases g;exact h
   | succ i=>cases k
  | t::j,t'::e,[],r,_=>exact absurd r.1 o6
  | t::j,t'::e,q::o,r,z=>
   obtain⟨D,M⟩:=r.tail;have F:=Hg E D;have H:=QMF E D h (I 0 t t' rfl rfl);cases i with
   | zero=>cases k;cases g;exact H
   | succ i=>exact N j e o _ _ _ (fX F L.len) M (QQ8 F H L.len) ((j9 z)) (fun i t t' a b=>I (i+1) t t' a b) i m w k g
end Go.Proofs
