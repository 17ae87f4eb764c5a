/- Both ways to a point that a configuration reaches are found. -/
import Derived.Test.YtjdhppdpbkoihaaGreatDoorQE
open Option renaming bind_some → Za
open Rat renaming mul_eq_zero → Zb, mul_nonneg → Zd, mul_pos → Ze
open List renaming mem_cons → Zc, append_assoc → Zf, append_nil → Zg
namespace Go.Proofs
open Go Go.Eng
def CS (lo hi:Rat)(g:Rat->Rat):Prop:=(∀u,lo<=u->u<=hi->0<g u)∨(∀u,lo<=u->u<=hi->g u<0)
theorem QJO {a b:Rat}(ha:a<0)(hb:b<0):0<a*b:=by
 have:=Ze (a:= -a) (b:= -b) (by grind) (by grind);grind
theorem QQd {a b:Rat}(ha:0<a)(hb:b<0):a*b<0:=by
 have:=Ze (a:=a) (b:= -b) ha (by grind);grind
theorem CS.mul {lo hi:Rat}{g h:Rat->Rat}(hg:CS lo hi g)(hh:CS lo hi h):CS lo hi fun u=>g u*h u:=by
 rcases hg with hg | hg<;>rcases hh with hh | hh
 ·exact .inl fun u a b=>Ze (hg u a b) (hh u a b)
 ·exact .inr fun u a b=>QQd (hg u a b) (hh u a b)
 ·exact .inr fun u a b=>by have:=QQd (hh u a b) (hg u a b);show g u*h u<0;grind
 ·exact .inl fun u a b=>QJO (hg u a b) (hh u a b)
theorem CS.lin {lo hi r:Rat}(h: ¬(lo<=r/\r<=hi)):CS lo hi fun u=>u-r:=by
 by_cases h1:lo<=r
 ·exact .inr fun u a b=>by have:=Rat.not_le.1 fun k=>h ⟨h1,k⟩;show u-r<0;grind
 ·exact .inl fun u a b=>by have:=Rat.not_le.1 h1;show 0<u-r;grind
theorem CS.num {lo hi c:Rat}(h:c≠0):CS lo hi fun _=>c:=by
 by_cases h1:0<c
 ·exact .inl fun _ _ _=>h1
 ·exact .inr fun _ _ _=>by show c<0;grind
theorem QMa {a b c t lo hi:Rat}(h0:(c*t+b)*t+a=0)(hn: ¬(a=0/\b=0/\c=0))(hr: ∀r,(c*r+b)*r+a=0-> ¬(lo<=r/\r<=hi)):CS lo hi fun u=>(c*u+b)*u+a:=by
  by_cases hc:c=0
  · subst hc;have hb:b≠0:=fun e=>by subst e;apply hn;refine⟨by grind,rfl,rfl⟩
    have e:(fun u=>(0*u+b)*u+a)=fun u=>b*(u-t):=by funext u;grind
    rw[e];exact(CS.num hb).mul (CS.lin (hr t h0))
  · have e:(fun u=>(c*u+b)*u+a)=fun u=>c*(u-t)*(u-(-(b/c)-t)):=by
      funext u;have:b=c*(b/c):=by grind
      grind
    have h2:=hr (-(b/c)-t) (by refine Eq.trans (congrFun e (-(b/c)-t)) ?_;show c*(-(b/c)-t-t)*(-(b/c)-t-(-(b/c)-t))=0;grind);rw[e];exact((CS.num hc).mul (CS.lin (hr t h0))).mul (CS.lin h2)
section
variable {a b c:Rat}{ch:List (List Rat)}{U V:Rat->Int}{sep M:Rat}{E j:Nat}
theorem Rdy.has (R:Rdy [a,b,c] (fun u=>(c*u+b)*u+a) ch U V sep M E)(hn: ¬(a=0/\b=0/\c=0)){t:Rat}(h0:(c*t+b)*t+a=0){s:Sp}(hs:WT (fun u=>(c*u+b)*u+a) U V M j s): ∃r,(c*r+b)*r+a=0/\s.lo<=r/\r<=s.hi:=by
  refine Classical.byContradiction fun k=> ?_
  have h1:=R.same s.lo s.hi hs.le (QMa h0 hn fun r hr hi=>k ⟨r,hr,hi⟩);have h2:=hs.one;omega
end
section
variable {p:List Rat}{f:Rat->Rat}{ch:List (List Rat)}{U V:Rat->Int}{sep M:Rat}{E j:Nat}
theorem Rdy.uniq (R:Rdy p f ch U V sep M E){s:Sp}(hs:WT f U V M j s){u v:Rat}(huv:u<v)(hu:f u=0)(hv:f v=0)(h1:s.lo<=u)(h2:v<=s.hi):False:=by
  have C:=R.cnt;have a1:=(R.root u).2 hu;have a2:=(R.root v).2 hv;have a3:=C.le u;have a4:=C.le v;have a5:=C.anti _ _ huv;have a6:=C.uu h1;have a7:=C.vv h2;have:=hs.one;omega
theorem Rdy.len2 (R:Rdy p f ch U V sep M E){L:List Sp}(h:(L.length:Int)=U (-M)-V M):L.length<=2:=by
 have:=R.cnt.two (-M);have:=R.cnt.nn M;omega
theorem Rdy.len1 (R:Rdy p f ch U V sep M E)(hd:dsc p=0){L:List Sp}(h:(L.length:Int)=U (-M)-V M):L.length<=1:=by
 rcases R.tw with k | k
 ·have:=k (-M) M;omega
 ·rw[hd]at k;exact absurd k (by decide)
theorem Rdy.pair (R:Rdy p f ch U V sep M E){L:List Sp}(hl:(L.length:Int)=U (-M)-V M)(ho: ∀s∈L,WT f U V M j s)(hr: ∀u,f u=0-> ∃s∈L,s.lo<=u/\u<=s.hi)(hs: ∀s t,L=[s,t]->s.hi<t.lo){z:Rat}(hz:0<z)(h1:f z=0)(h2:f (-z)=0):
    ∃s t,L=[s,t]/\(s.lo<= -z/\ -z<=s.hi)/\t.lo<=z/\z<=t.hi:=by
  have hlen:=R.len2 hl;obtain⟨s1,m1,a1,a2⟩:=hr z h1;obtain⟨s2,m2,b1,b2⟩:=hr (-z) h2;match L,hlen,hs,ho,m1,m2 with
  | [],_,_,_,m1,_=>simp at m1
  | [s],_,_,ho,m1,m2=>
    simp at m1 m2;subst m1 m2;exact absurd (R.uniq (ho _ (by simp)) (show-z<z by grind) h2 h1 b1 a2) (fun h=>h)
  | [s,t],_,hs,ho,m1,m2=>
    have hst:=hs s t rfl;simp at m1 m2;rcases m1 with rfl | rfl<;>rcases m2 with rfl | rfl
    · exact absurd (R.uniq (ho _ (by simp)) (show-z<z by grind) h2 h1 b1 a2) (fun h=>h)
    · exfalso;grind
    · exact⟨_,_,rfl,⟨b1,b2⟩,a1,a2⟩
    · exact absurd (R.uniq (ho _ (by simp)) (show-z<z by grind) h2 h1 b1 a2) (fun h=>h)
end
end Go.Proofs
namespace Go.Proofs
open Go Go.Eng
structure Szs (l m x y:Rat):Prop where
  l:Bd 3 l
  m:Bd 3 m
  x:Bd 28 x
  y:Bd 28 y
section
variable {l m x y t0 t1:Rat}
theorem Szs.far (z:Szs l m x y):Kf x y=some (KO x y)/\Bd 113 (KO x y):=by
 have k1:=Qg z.x z.x;have k2:=Qg z.y z.y;refine⟨?_,XV k1 k2⟩;unfold Kf;rw[XD z.x z.x (by omega)];simp only[Za];rw[XD z.y z.y (by omega)];simp only[Za];rw[Xo k1 k2 (by omega)];rfl
theorem Szs.p (z:Szs l m x y):Gn l m (KO x y)=some [p0V l m x y,0,p2V l m x y]/\SzL 200 [p0V l m x y,0,p2V l m x y]:=by
 have f:=z.far.2;have a:=XV z.l z.m;have a2:=Qg a a;have b:=YX z.l z.m;have b2:=Qg b b;have r0:=YX f a2;have r2:=YX f b2;constructor
 ·unfold Gn sqZ;rw[Xo z.l z.m (by omega)];simp only[Za];rw[XD a a (by omega)];simp only[Za];rw[Y5 f a2 (by omega)];simp only[Za];rw[Y5 z.l z.m (by omega)];simp only[Za];rw[XD b b (by omega)];simp only[Za];rw[Y5 f b2 (by omega)];rfl
 ·intro q hq;simp at hq;rcases hq with rfl | rfl | rfl
  ·exact r0.mono (by omega)
  ·exact⟨by decide+kernel,by decide+kernel⟩
  ·exact r2.mono (by omega)
theorem Szs.q (z:Szs l m x y):Gp l m x y (KO x y)=some [q0V l m x y,q1V l y,q2V l m x y]/\SzL 200 [q0V l m x y,q1V l y,q2V l m x y]:=by
 have f:=z.far.2;have l2:=Qg z.l z.l;have fl:=XV f l2;have m2:=Qg z.m z.m;have k:=YX fl m2;have lx:=Qg z.l z.x;have c2:Bd 2 ((2:Int):Rat):=⟨by decide+kernel,by decide+kernel⟩;have c4:Bd 3 ((-4:Int):Rat):=⟨by decide+kernel,by decide+kernel⟩;have u:=Qg c2 lx;have ly:=Qg z.l z.y;have r0:=YX k u;have r1:=Qg c4 ly;have r2:=XV k u;constructor
 ·unfold Gp sqZ;rw[XD z.l z.l (by omega)];simp only[Za];rw[Xo f l2 (by omega)];simp only[Za];rw[XD z.m z.m (by omega)];simp only[Za];rw[Y5 fl m2 (by omega)];simp only[Za];rw[XD z.l z.x (by omega)];simp only[Za];rw[XD c2 lx (by omega)];simp only[Za];rw[Y5 k u (by omega)];simp only[Za];rw[XD z.l z.y (by omega)];simp only[Za];rw[XD c4 ly (by omega)];simp only[Za];rw[Xo k u (by omega)];rfl
 ·intro q hq;simp at hq;rcases hq with rfl | rfl | rfl
  ·exact r0.mono (by omega)
  ·exact r1.mono (by omega)
  ·exact r2.mono (by omega)
theorem Szs.side (z:Szs l m x y):YV (((-2:Int)):Rat) x=some (-2*x)/\SzL 200 [y,-2*x,-y]/\ ∀u,Bd 20000 u->X7 [y,-2*x,-y] u=some (sdV x y u):=by
 have c2:Bd 2 ((-2:Int):Rat):=⟨by decide+kernel,by decide+kernel⟩;have a:=Qg c2 z.x;have a':Bd 200 (-2*x):=a.mono (by omega);have b':=(QBg z.y).mono (show 28<=200 by omega);have y':=z.y.mono (show 28<=200 by omega);refine⟨XD c2 z.x (by omega),fun q hq=> ?_,fun u hu=> ?_⟩
 ·simp at hq;rcases hq with rfl | rfl | rfl
  ·exact y'
  ·exact a'
  ·exact b'
 ·exact ev3 y' a' b' hu (by omega)
theorem Sol.q_ne (S:Sol l m x y t0 t1): ¬(q0V l m x y=0/\q1V l y=0/\q2V l m x y=0):=by
  rintro⟨h0,h1,h2⟩;have l0:=S.l0;have m0:=S.m0;unfold q0V at h0;unfold q2V at h2;unfold q1V at h1;have hx:l*x=0:=by grind
  have hy:l*y=0:=by grind
  have hk:kV l m x y=0:=by grind
  have hx:x=0:=(Zb.1 hx).resolve_left (by grind);have hy:y=0:=(Zb.1 hy).resolve_left (by grind);subst hx hy;have e:(l-m)*(l+m)=0:=by unfold kV KO at hk;grind
  have e:l-m=0:=(Zb.1 e).resolve_right (by grind);have:=S.p2.2.1;unfold p2V KO at this;rw[e]at this;grind
theorem Sol.side_ne (S:Sol l m x y t0 t1)(h:t1≠0): ¬(y=0/\ -2*x=0/\ -y=0):=by
 rintro⟨h0,h1,h2⟩;have hx:x=0:=by grind
 subst h0 hx;have e:=S.sd;have m0:=S.m0;have n:=Q5 t0;have e2:(1+t0*t0)*(2*(m*t1))=0:=by rw[<-e];unfold sdV;grind
 rcases Zb.1 e2 with h | h
 ·grind
 ·have:m*t1=0:=by grind
  rcases Zb.1 this with h | h<;>grind
theorem Sol.other (S:Sol l m x y t0 t1){r0 r1:Rat}(h0:fQ l m x y r0=0)(h1:r1*r1=t1*t1)(hs:(0<sdV x y r0/\0<=r1)∨(sdV x y r0<0/\r1<=0)∨r1=0):Sol l m x y r0 r1:=by
  have e:=S.side_sq h0;have n:=Q5 t1;have nr:=Q5 r0;refine⟨S.l0,S.m0,h0,?_,?_⟩
  · have:=S.p;unfold fP at this⊢;grind
  · rw[<-h1]at e n;have e2:(sdV x y r0*(1+r1*r1)-(1+r0*r0)*(2*(m*r1)))*(sdV x y r0*(1+r1*r1)+(1+r0*r0)*(2*(m*r1)))=0:=by
      have e3:(1+r0*r0)*(2*(m*t1))*((1+r0*r0)*(2*(m*t1)))=(1+r0*r0)*(2*(m*r1))*((1+r0*r0)*(2*(m*r1))):=by grind
      grind
    rcases Zb.1 e2 with h | h
    · grind
    · have m0:=S.m0;rcases hs with⟨a,b⟩ | ⟨a,b⟩ | a
      · have p1:=Ze (a:=sdV x y r0) (b:=1+r1*r1) a (by grind);have p2:=Zd (a:=1+r0*r0) (b:=2*(m*r1)) (by grind) (by have:=Zd (Rat.le_of_lt m0) b;grind);grind
      · have p1:=Ze (a:= -sdV x y r0) (b:=1+r1*r1) (by grind) (by grind);have p2:=Zd (a:=1+r0*r0) (b:=2*(m* -r1)) (by grind) (by have:=Zd (Rat.le_of_lt m0) (show 0<= -r1 by grind);grind);grind
      · subst a;grind
theorem Sol.dsc0 (S:Sol l m x y t0 0):dsc [q0V l m x y,q1V l y,q2V l m x y]=0/\dsc [p0V l m x y,0,p2V l m x y]=0:=by
 have e3:4*(l*l)*KO x y-kV l m x y*kV l m x y= -(p0V l m x y*p2V l m x y):=by unfold kV p0V p2V;grind
 have e4:p0V l m x y=0:=by have:=S.p;unfold fP at this;grind
 constructor
 ·show q1V l y*q1V l y-4*q0V l m x y*q2V l m x y=0
  unfold q1V q0V q2V;rw[e4]at e3;unfold KO at e3;grind
 ·show(0:Rat)*0-4*p0V l m x y*p2V l m x y=0
  rw[e4];grind
end
end Go.Proofs
namespace Go.Proofs
open Go Go.Eng
def QC9 (q:List Rat)(x y:Rat)(second:List Sp)(s:Sp):Option Sp:=bif Nat.beq second.length 2 then(QGO ⟨q,s⟩ x y).bind fun n=>some (bif decide (0<n)then second.getD 1 s0 else second.getD 0 s0)else some (second.getD 0 s0)
theorem QMb {q p:List Rat}{x y:Rat}{second:List Sp}{Pk:Sp->Sp->Prop}: ∀{first:List Sp} {acc:List (RtV×RtV)},(∀s∈first,∃t,QC9 q x y second s=some t/\Pk s t)->
  ∃rs,Ju q p x y second first acc=some (acc++rs)/\rs.length=first.length/\(∀r∈rs,∃s t,r=(⟨q,s⟩,⟨p,t⟩)/\s∈first/\Pk s t)/\ ∀s∈first,∃t,((⟨q,s⟩,⟨p,t⟩):RtV×RtV)∈rs/\Pk s t:=by
 intro first
 induction first with
 | nil=>exact fun {acc} _=>⟨[],by rw[Ju,Zg],rfl,by simp,by simp⟩
 | cons s l ih=>
  intro acc h;obtain⟨t,h1,h2⟩:=h s (by simp);obtain⟨rs,k1,k2,k3,k4⟩:=ih (acc:=acc++[(⟨q,s⟩,⟨p,t⟩)]) (fun s hs=>h s (by simp[hs]));refine⟨(⟨q,s⟩,⟨p,t⟩)::rs,?_,by simp[k2],fun r hr=> ?_,fun s' hs=> ?_⟩
  ·rw[Zf]at k1;rw[Ju];unfold QC9 at h1;cases hb:Nat.beq second.length 2 with
   | true=>
    rw[hb]at h1;simp only[R7]at h1⊢;obtain⟨n,e,h1⟩:=Option.bind_eq_some_iff.1 h1;rw[e];simp only[Za];cases h1
    exact k1
   | false=>
    rw[hb]at h1;simp only[R8]at h1⊢;cases h1
    exact k1
  ·rcases Zc.1 hr with rfl | hr
   ·exact⟨s,t,rfl,by simp,h2⟩
   ·obtain⟨a,b,e,m,k⟩:=k3 r hr;exact⟨a,b,e,by simp[m],k⟩
  ·rcases Zc.1 hs with rfl | hs
   ·exact⟨t,by simp,h2⟩
   ·obtain⟨t',m,k⟩:=k4 s' hs;exact⟨t',by simp[m],k⟩
theorem QKh {a0 b0 a1 b1:Rat}: ∀{l acc:List (RtV×RtV)},(∀r∈l,∃u v,XY r.1 a0 b0=some u/\XY r.2 a1 b1=some v)->
  ∃R,inF a0 b0 a1 b1 l acc=some (acc++R)/\R.length<=l.length/\(∀r∈R,r∈l)/\ ∀r∈l,XY r.1 a0 b0=some true->XY r.2 a1 b1=some true->r∈R:=by
 intro l;induction l with
 | nil=>exact fun {acc} _=>⟨[],by rw[inF,Zg],Nat.le_refl _,by simp,by simp⟩
 | cons s l ih=>
  intro acc h;obtain⟨u,v,h1,h2⟩:=h s (by simp);have hl: ∀r∈l,∃u v,XY r.1 a0 b0=some u/\XY r.2 a1 b1=some v:=fun r hr=>h r (by simp[hr]);have skip:(u=true->v=true->False)-> ∃R,inF a0 b0 a1 b1 l acc=some (acc++R)/\R.length<=(s::l).length/\(∀r∈R,r∈s::l)/\ ∀r∈s::l,XY r.1 a0 b0=some true->XY r.2 a1 b1=some true->r∈R:=fun hn=>by
   obtain⟨R,k1,k2,k3,k4⟩:=ih (acc:=acc) hl;refine⟨R,k1,by simp;omega,fun r hr=>by simp[k3 r hr],fun r hr e1 e2=> ?_⟩;rcases Zc.1 hr with rfl | hr
   ·rw[h1]at e1;rw[h2]at e2;exact absurd (hn (Option.some.inj e1) (Option.some.inj e2)) (fun h=>h)
   ·exact k4 r hr e1 e2
  rw[inF,h1];simp only[Za];cases u with
  | false=>exact skip (by simp)
  | true=>
   simp only[R7];rw[h2];simp only[Za];cases v with
   | false=>exact skip (by simp)
   | true=>
    simp only[R7];obtain⟨R,k1,k2,k3,k4⟩:=ih (acc:=acc++[s]) hl;refine⟨s::R,by rw[k1,Zf];rfl,by simp;omega,fun r hr=> ?_,fun r hr e1 e2=> ?_⟩
    ·rcases Zc.1 hr with rfl | hr
     ·simp
     ·simp[k3 r hr]
    ·rcases Zc.1 hr with rfl | hr
     ·simp
     ·simp[k4 r hr e1 e2]
theorem QQe {Fn:RtV×RtV->List Sp->Prop}: ∀{l:List (RtV×RtV)} {acc:List (List Sp)},(∀r∈l,∃a b,JB r.1 1000=some a/\JB r.2 1000=some b/\Fn r [a.s,b.s])->
  ∃O,QPC l acc=some (acc++O)/\O.length=l.length/\(∀o∈O,∃r∈l,Fn r o)/\ ∀r∈l,∃o∈O,Fn r o:=by
 intro l;induction l with
 | nil=>exact fun {acc} _=>⟨[],by rw[QPC,Zg],rfl,by simp,by simp⟩
 | cons s l ih=>
  intro acc h;obtain⟨a,b,h1,h2,h3⟩:=h s (by simp);obtain⟨O,k1,k2,k3,k4⟩:=ih (acc:=acc++[[a.s,b.s]]) (fun r hr=>h r (by simp[hr]));rw[QPC,h1];simp only[Za];rw[h2];simp only[Za];refine⟨[a.s,b.s]::O,by rw[k1,Zf];rfl,by simp[k2],fun o ho=> ?_,fun r hr=> ?_⟩
  ·rcases Zc.1 ho with rfl | ho
   ·exact⟨s,by simp,h3⟩
   ·obtain⟨r,m,k⟩:=k3 o ho;exact⟨r,by simp[m],k⟩
  ·rcases Zc.1 hr with rfl | hr
   ·exact⟨_,by simp,h3⟩
   ·obtain⟨o,m,k⟩:=k4 r hr;exact⟨o,by simp[m],k⟩
section
variable {l m x y t0 t1:Rat}
theorem Sol.same (S:Sol l m x y t0 t1){r1:Rat}(S':Sol l m x y t0 r1)(h:r1*r1=t1*t1):r1=t1:=by
 have e1:=S.sd;have e2:=S'.sd;have m0:=S.m0;have n:=Q5 t0;rw[h,e1]at e2;have e3:(1+t0*t0)*(2*(m*(r1-t1)))=0:=by grind
 rcases Zb.1 e3 with h | h
 ·grind
 ·have h:m*(r1-t1)=0:=by grind
  rcases Zb.1 h with h | h<;>grind
def PkS (l m x y t0 t1:Rat)(U V:Rat->Int)(M:Rat)(j:Nat)(s t:Sp):Prop:=WT (fP l m x y) U V M j t/\(∃r0 r1,(s.lo<=r0/\r0<=s.hi)/\(t.lo<=r1/\r1<=t.hi)/\Sol l m x y r0 r1)/\(s.lo<=t0->t0<=s.hi->t.lo<=t1/\t1<=t.hi)
theorem QXf:(fun u=>(q2V l m x y*u+q1V l y)*u+q0V l m x y)=fQ l m x y:=rfl
theorem QXg:(fun u=>(p2V l m x y*u+0)*u+p0V l m x y)=fP l m x y:=rfl
theorem QXh:(fun u=>(-y*u+ -2*x)*u+y)=sdV x y:=rfl
theorem Sol.solve (S:Sol l m x y t0 t1)(z:Szs l m x y)(hm:1<=m)(hx: -5<=x/\x<=5)(hy: -5<=y/\y<=5)(ht:t1=0∨1/24<=QX t1/\QX t1<=2):
    ∃ch U V sep M ch' U' V' sep' M',Rdy [q0V l m x y,q1V l y,q2V l m x y] (fQ l m x y) ch U V sep M 1440/\Rdy [p0V l m x y,0,p2V l m x y] (fP l m x y) ch' U' V' sep' M' 1440/\ ∃rs,YW l m x y=some rs/\rs.length<=2/\(t1=0->rs.length<=1)/\
      (∀r∈rs,∃s t,r=(⟨[q0V l m x y,q1V l y,q2V l m x y],s⟩,⟨[p0V l m x y,0,p2V l m x y],t⟩)/\WT (fQ l m x y) U V M 5768 s/\PkS l m x y t0 t1 U' V' M' 5768 s t)/\
      ∃r∈rs,(r.1.s.lo<=t0/\t0<=r.1.s.hi)/\r.2.s.lo<=t1/\t1<=r.2.s.hi:=by
  obtain⟨ch,U,V,sep,M,R⟩:=QEu z.q.2 S.q_ne (by omega);obtain⟨ch',U',V',sep',M',R'⟩:=QEu z.p.2 (fun h=>by have:=S.p2.2.1;have:=h.2.2;grind) (by omega);rw[QXf]at R;rw[QXg]at R';refine⟨ch,U,V,sep,M,ch',U',V',sep',M',R,R',?_⟩;obtain⟨first,f1,f2,f3,f4,f5⟩:=R.roots (by omega);obtain⟨second,g1,g2,g3,g4,g5⟩:=R'.roots (by omega);have hp0:=S.p2.2.2;have hp2:=S.p2.2.1;have key: ∀s∈first,∃t,QC9 [q0V l m x y,q1V l y,q2V l m x y] x y second s=some t/\PkS l m x y t0 t1 U' V' M' 5768 s t:=by
    by_cases h0:t1=0
    · subst h0;obtain⟨a,ha,a1,a2⟩:=g4 0 S.p;have hl:=R'.len1 S.dsc0.2 g2;obtain rfl:second=[a]:=by
        match second,hl,ha with
        | [],_,ha=>simp at ha
        | [b],_,ha=>simp at ha;rw[ha]
      intro s hs;refine⟨a,rfl,g3 a (by simp),?_,fun _ _=>⟨a1,a2⟩⟩;obtain⟨r,h1,h2,h3⟩:=R.has S.q_ne S.q (f3 s hs);exact⟨r,0,⟨h2,h3⟩,⟨a1,a2⟩,S.other h1 rfl (.inr (.inr rfl))⟩
    · have ht:=ht.resolve_left h0;have hz:0<QX t1:=by grind
      have ez:QX t1*QX t1=t1*t1:=by rcases WS t1 with⟨e,_⟩ | ⟨e,_⟩<;>rw[e]<;>grind
      have hp:=S.p;obtain⟨a,b,rfl,ha,hb⟩:=R'.pair g2 g3 g4 g5 hz (by unfold fP at hp⊢;grind) (by unfold fP at hp⊢;grind);obtain⟨c1,c2,c3⟩:=z.side;obtain⟨ch2,U2,V2,sep2,M2,R2⟩:=QEu c2 (S.side_ne h0) (by omega);rw[QXh]at R2;have one: ∀s∈first,∀r,fQ l m x y r=0->s.lo<=r->r<=s.hi-> ∃t r1,QC9 [q0V l m x y,q1V l y,q2V l m x y] x y [a,b] s=some t/\WT (fP l m x y) U' V' M' 5768 t/\(t.lo<=r1/\r1<=t.hi)/\r1*r1=t1*t1/\Sol l m x y r r1:=fun s hs r h1 h2 h3=>by
        have hf:=S.side_far hm ht h1;have nr:=Q5 r;have hsd:QGO ⟨[q0V l m x y,q1V l y,q2V l m x y],s⟩ x y=some (Qa (sdV x y r)):=by
          unfold QGO;rw[c1];exact QQc R R2 c3 (f3 s hs) (by omega) h1 h2 h3 fun u k1 k2=>QMZ hx hy k1 k2 hf
        rcases hf with hf | hf
        · have e:Qa (sdV x y r)=1:=by
            rcases Q1 (sdV x y r)with⟨e,_⟩ | ⟨_,e⟩ | ⟨_,e⟩
            · exact e
            · grind
            · grind
          refine⟨b,QX t1,?_,g3 b (by simp),hb,ez,S.other h1 ez (.inl ⟨by grind,by grind⟩)⟩;unfold QC9;rw[hsd,e];rfl
        · have e:Qa (sdV x y r)= -1:=by
            rcases Q1 (sdV x y r)with⟨_,e⟩ | ⟨_,e⟩ | ⟨e,_⟩
            · grind
            · grind
            · exact e
          refine⟨a,-QX t1,?_,g3 a (by simp),ha,by grind,S.other h1 (by grind) (.inr (.inl ⟨by grind,by grind⟩))⟩;unfold QC9;rw[hsd,e];rfl
      intro s hs;by_cases hi:s.lo<=t0/\t0<=s.hi
      · obtain⟨t,r1,k1,k2,k3,k4,k5⟩:=one s hs t0 S.q hi.1 hi.2;have e:=S.same k5 k4;subst e;exact⟨t,k1,k2,⟨t0,r1,hi,k3,k5⟩,fun _ _=>k3⟩
      · obtain⟨r,h1,h2,h3⟩:=R.has S.q_ne S.q (f3 s hs);obtain⟨t,r1,k1,k2,k3,k4,k5⟩:=one s hs r h1 h2 h3;exact⟨t,k1,k2,⟨r,r1,⟨h2,h3⟩,k3,k5⟩,fun a b=>absurd ⟨a,b⟩ hi⟩
  obtain⟨rs,k1,k2,k3,k4⟩:=QMb (p:=[p0V l m x y,0,p2V l m x y]) (acc:=[]) key;refine⟨rs,?_,by rw[k2];exact R.len2 f2,fun e=>by rw[k2];subst e;exact R.len1 S.dsc0.1 f2,fun r hr=> ?_,?_⟩
  · unfold YW;rw[z.far.1];simp only[Za];rw[z.p.1];simp only[Za];have hb:(decide (0<Qa ([p0V l m x y,0,p2V l m x y].getD 0 0)) || decide (Qa ([p0V l m x y,0,p2V l m x y].getD 2 0)<=0))=false:=by
      show(decide (0<Qa (p0V l m x y)) || decide (Qa (p2V l m x y)<=0))=false
      have e1: ¬0<Qa (p0V l m x y):=by
        rcases Q1 (p0V l m x y)with⟨_,e⟩ | ⟨e,_⟩ | ⟨e,_⟩
        · grind
        · omega
        · omega
      have e2: ¬Qa (p2V l m x y)<=0:=by
        rcases Q1 (p2V l m x y)with⟨e,_⟩ | ⟨_,e⟩ | ⟨_,e⟩
        · omega
        · grind
        · grind
      simp[e1,e2]
    rw[hb];simp only[R8];rw[z.q.1];simp only[Za];rw[f1];simp only[Za];rw[g1];simp only[Za];have:Nat.ble 1 second.length=true:=by
      obtain⟨a,ha,_⟩:=g4 t1 S.p;exact Nat.ble_eq_true_of_le (List.length_pos_of_mem ha)
    rw[this];exact k1
  · obtain⟨s,t,e,hs,hk⟩:=k3 r hr;exact⟨s,t,e,f3 s hs,hk⟩
  · obtain⟨s,hs,h1,h2⟩:=f4 t0 S.q;obtain⟨t,ht,hk⟩:=k4 s hs;exact⟨_,ht,⟨h1,h2⟩,hk.2.2 h1 h2⟩
def FnS (l m x y:Rat)(r:RtV×RtV)(o:List Sp):Prop:= ∃a b,o=[a,b]/\(∀u,fQ l m x y u=0->r.1.s.lo<=u->u<=r.1.s.hi->a.lo<=u/\u<=a.hi)/\(∀u,fP l m x y u=0->r.2.s.lo<=u->u<=r.2.s.hi->b.lo<=u/\u<=b.hi)/\a.hi-a.lo<=1/((1000:Int):Rat)/\b.hi-b.lo<=1/((1000:Int):Rat)
theorem Sol.two (S:Sol l m x y t0 t1)(z:Szs l m x y)(hm:1<=m)(hx: -5<=x/\x<=5)(hy: -5<=y/\y<=5)(ht:t1=0∨1/24<=QX t1/\QX t1<=2){a0 b0 a1 b1:Rat}(hb:(Bd 20000 a0/\Bd 20000 b0)/\Bd 20000 a1/\Bd 20000 b1)(h0:a0<=t0/\t0<=b0)(h1:a1<=t1/\t1<=b1):
    ∃rs R O,YW l m x y=some rs/\inF a0 b0 a1 b1 rs []=some R/\QPC R []=some O/\O.length<=2/\(t1=0->O.length<=1)/\(∃a b,[a,b]∈O/\(a.lo<=t0/\t0<=a.hi)/\b.lo<=t1/\t1<=b.hi)/\
      ∀o∈O,∃a b r0 r1,o=[a,b]/\(a.lo<=r0/\r0<=a.hi)/\(b.lo<=r1/\r1<=b.hi)/\a.hi-a.lo<=1/((1000:Int):Rat)/\b.hi-b.lo<=1/((1000:Int):Rat)/\Sol l m x y r0 r1:=by
  obtain⟨ch,U,V,sep,M,ch',U',V',sep',M',RQ,RP,rs,e1,e2,e3,e4,r,hr,e5,e6⟩:=S.solve z hm hx hy ht;have hin: ∀r∈rs,∃u v,XY r.1 a0 b0=some u/\XY r.2 a1 b1=some v:=fun r hr=>by
    obtain⟨s,t,rfl,k1,k2,_⟩:=e4 r hr;obtain⟨u,hu,_⟩:=RQ.within k1 (by omega) hb.1.1 hb.1.2;obtain⟨v,hv,_⟩:=RP.within k2 (by omega) hb.2.1 hb.2.2;exact⟨u,v,hu,hv⟩
  obtain⟨R,i1,i2,i3,i4⟩:=QKh (acc:=[]) hin;have hrR:r∈R:=by
    obtain⟨s,t,rfl,k1,k2,_⟩:=e4 r hr;obtain⟨u,hu,hu2⟩:=RQ.within k1 (by omega) hb.1.1 hb.1.2;obtain⟨v,hv,hv2⟩:=RP.within k2 (by omega) hb.2.1 hb.2.2;have:=hu2 t0 S.q e5.1 e5.2 h0.1 h0.2;have:=hv2 t1 S.p e6.1 e6.2 h1.1 h1.2;subst u v;exact i4 _ hr hu hv
  have hout: ∀r∈R,∃a b,JB r.1 1000=some a/\JB r.2 1000=some b/\FnS l m x y r [a.s,b.s]:=fun r hr=>by
    obtain⟨s,t,rfl,k1,k2,_⟩:=e4 r (i3 r hr);obtain⟨a,a1,a2,a3,a4,a5,a6⟩:=RQ.fine k1 (den:=1000) (by decide) (by omega);obtain⟨b,b1,b2,b3,b4,b5,b6⟩:=RP.fine k2 (den:=1000) (by decide) (by omega);exact⟨_,_,a1,b1,a,b,rfl,a6,b6,a5,b5⟩
  obtain⟨O,o1,o2,o3,o4⟩:=QQe (acc:=[]) hout;refine⟨rs,R,O,e1,i1,o1,by omega,fun h=>by have:=e3 h;omega,?_,fun o ho=> ?_⟩
  · obtain⟨o,ho,a,b,rfl,k1,k2,_⟩:=o4 r hrR;exact⟨a,b,ho,k1 t0 S.q e5.1 e5.2,k2 t1 S.p e6.1 e6.2⟩
  · obtain⟨r,hr,a,b,rfl,k1,k2,k3,k4⟩:=o3 o ho;obtain⟨s,t,rfl,_,_,⟨r0,r1,c1,c2,c3⟩,_⟩:=e4 r (i3 r hr);exact⟨a,b,r0,r1,rfl,k1 r0 c3.q c1.1 c1.2,k2 r1 c3.p c2.1 c2.2,k3,k4,c3⟩
end
end Go.Proofs
