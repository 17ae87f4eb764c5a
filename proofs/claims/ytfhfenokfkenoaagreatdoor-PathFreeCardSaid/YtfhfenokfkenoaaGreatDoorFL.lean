/- Cosine and sine of turns one after the other; points of frames one after the other: plain laws. -/
import Derived.Test.YtfhfenokfkenoaaGreatDoorFC
open Rat renaming div_mul_cancel → Za, mul_eq_zero → Zb
namespace Go.Proofs
open Go Go.Eng
theorem Wy (t:Rat):Xw false t*(1+t*t)=1-t*t:=by
 show(1-t*t)/(1+t*t)*(1+t*t)=_
 exact Za (sq1 t)
theorem Jc (t:Rat):Q4 false t*(1+t*t)=t+t:=by
 show(t+t)/(1+t*t)*(1+t*t)=_
 exact Za (sq1 t)
theorem US {a b d:Rat}(hd:d≠0)(h:a*d=b*d):a=b:=by
 have:(a-b)*d=0:=by grind
 rcases Zb.1 this with h | h
 ·grind
 ·exact absurd h hd
theorem Qad {w d a:Rat}(h:w*d=a):(1+w*w)*(d*d)=d*d+a*a:=by rw[<-h];grind
theorem Qae {w d a c:Rat}(h:w*d=a)(hc:c*(1+w*w)=1-w*w):c*(d*d+a*a)=d*d-a*a:=by rw[<-Qad h,<-h];grind
theorem Qaf {w d a s:Rat}(h:w*d=a)(hs:s*(1+w*w)=w+w):s*(d*d+a*a)=2*(a*d):=by rw[<-Qad h,<-h];grind
theorem QT4 (a b c d x y:Rat):(a*b-c*d)*(x*y)=(a*x)*(b*y)-(c*x)*(d*y):=by grind
theorem QT5 (a b c d x y:Rat):(a*b+c*d)*(x*y)=(a*x)*(b*y)+(c*x)*(d*y):=by grind
theorem QPJ (u:Rat):Xw (QMH u) (QIm u)= -Xw false u/\Q4 (QMH u) (QIm u)= -Q4 false u:=by
 by_cases h:u=0
 ·subst h;decide+kernel
 ·have e:QMH u=false:=decide_eq_false h;have ev:QIm u*u= -1:=by
   unfold QIm;rw[e];show((-1:Int):Rat)/u*u=_
   rw[Za h];rfl
  rw[e];generalize QIm u=v at ev;have c1:=Wy u;have s1:=Jc u;have c2:=Wy v;have s2:=Jc v;have hu:=sq1 u;have hv:=sq1 v;have k:(1+v*v)*(u*u)=1+u*u:=by grind
  generalize Xw false u=cu at*;generalize Q4 false u=su at*;generalize Xw false v=cv at*;generalize Q4 false v=sv at*;refine⟨US hu ?_,US hu ?_⟩
  ·rw[<-k];grind
  ·rw[<-k];grind
theorem QWE (h:Bool)(t:Rat)(g:Bool)(u:Rat):Xw (thH h t g u) (thT h t g u)=Xw h t*Xw g u-Q4 h t*Q4 g u/\Q4 (thH h t g u) (thT h t g u)=Q4 h t*Xw g u+Xw h t*Q4 g u:=by
 have ct: ∀x:Rat,Xw true x= -1:=fun _=>rfl;have st: ∀x:Rat,Q4 true x=0:=fun _=>rfl;cases h<;>cases g
 ·by_cases hz:1-t*u=0
  ·have e:decide (1-t*u=0)=true:=decide_eq_true hz;simp only[thH,thT,Bool.and_self,R8,e,R7,ct,st];have c1:=Wy u;have s1:=Jc u;have c2:=Wy t;have s2:=Jc t;have hu:=sq1 u;have hv:=sq1 t;have hd:(1+t*t)*(1+u*u)≠0:=fun e=>(Zb.1 e).elim hv hu;generalize Xw false u=cu at*;generalize Q4 false u=su at*;generalize Xw false t=cv at*;generalize Q4 false t=sv at*;refine⟨US hd ?_,US hd ?_⟩<;>grind
  ·have e:decide (1-t*u=0)=false:=decide_eq_false hz;simp only[thH,thT,Bool.and_self,R8,e];have ew:(t+u)/(1-t*u)*(1-t*u)=t+u:=Za hz;generalize (t+u)/(1-t*u)=w at*;have c1:=Wy u;have s1:=Jc u;have c2:=Wy t;have s2:=Jc t;have c3:=Wy w;have s3:=Jc w;have hu:=sq1 u;have hv:=sq1 t;have hd:(1+t*t)*(1+u*u)≠0:=fun e=>(Zb.1 e).elim hv hu;have kd:(1-t*u)*(1-t*u)+(t+u)*(t+u)=(1+t*t)*(1+u*u):=by clear c1 s1 c2 s2 c3 s3 ew hd hu hv hz e;grind
   have k1:=Qae ew c3;have k2:=Qaf ew s3;rw[kd]at k1 k2;generalize Xw false u=cu at*;generalize Q4 false u=su at*;generalize Xw false t=cv at*;generalize Q4 false t=sv at*;generalize Xw false w=cw at*;generalize Q4 false w=sw at*;refine⟨US hd ?_,US hd ?_⟩
   ·rw[k1,QT4,c1,c2,s1,s2];clear c1 c2 s1 s2 k1 k2 kd hd hu hv hz ew c3 s3 e;grind
   ·rw[k2,QT5,c1,c2,s1,s2];clear c1 c2 s1 s2 k1 k2 kd hd hu hv hz ew c3 s3 e;grind
 ·simp only[thH,thT,Bool.and_true,R8,R7,ct,st];obtain⟨h1,h2⟩:=QPJ (Jl false t);rw[h1,h2];show-Xw false t=_/\ -Q4 false t=_
  constructor<;>grind
 ·simp only[thH,thT,Bool.and_false,R8,R7,ct,st];obtain⟨h1,h2⟩:=QPJ (Jl false u);rw[h1,h2];show-Xw false u=_/\ -Q4 false u=_
  constructor<;>grind
 ·simp only[thH,thT,Bool.and_self,R7,ct,st];decide+kernel
end Go.Proofs
namespace Go.Proofs
open Go Go.Eng
def crs (u w:Rat×Rat):Rat:=u.1*w.2-u.2*w.1
def hit (u:Rat×Rat)(ws:List (Rat×Rat)):Bool:=ws.any fun w=> !(decide (crs u w=0))
def plV (f:FrV)(p:Rat×Rat):Rat×Rat:=(Gj f p.1 p.2,Gk f p.1 p.2)
theorem QXd {a b c:Rat}(h:a<=b)(hc:0<=c):a*c<=b*c:=by
 have:=Rat.mul_nonneg (show 0<=b-a by grind) hc;grind
theorem QT6 (b:FrV)(q:Rat):(Jt b ⟨0,0,false,q⟩).x=b.x/\(Jt b ⟨0,0,false,q⟩).y=b.y:=⟨Qaa b,Qab b⟩
theorem Qag (f:FrV)(l:Rat):Xw (Jt f ⟨l,0,false,0⟩).h (Jt f ⟨l,0,false,0⟩).t=Xw f.h f.t/\Q4 (Jt f ⟨l,0,false,0⟩).h (Jt f ⟨l,0,false,0⟩).t=Q4 f.h f.t:=by
 obtain⟨h1,h2⟩:=QWE f.h f.t false 0;have e1:Xw false 0=1:=by decide+kernel
 have e2:Q4 false 0=0:=by decide+kernel
 rw[e1,e2]at h1 h2;exact⟨h1.trans (by grind),h2.trans (by grind)⟩
theorem QXe (f:FrV)(a b c:Rat×Rat):lft (plV f a) (plV f b) (plV f c)=lft a b c:=by
 have:=cs1 f.h f.t;unfold lft plV Gj Gk;simp only;generalize Xw f.h f.t=cq at*;generalize Q4 f.h f.t=sq at*;grind
theorem QT7 {l:List (Rat×Rat)}(f:FrV)(h:QX l):QX (l.map (plV f)):=by
 refine⟨by simpa using h.lo,by simpa using h.hi,fun i k a b c h2 hk ha hb hc=> ?_⟩;simp only[List.length_map,List.getElem?_map,Option.map_eq_some_iff]at hk ha hb hc;obtain⟨a',ha,rfl⟩:=ha;obtain⟨b',hb,rfl⟩:=hb;obtain⟨c',hc,rfl⟩:=hc;rw[QXe];exact h.left i k a' b' c' h2 hk ha hb hc
def hPl (f:FrV)(p:Rat×Rat):Rat:=f.x*(p.1*Q4 f.h f.t+p.2*Xw f.h f.t)-f.y*(p.1*Xw f.h f.t-p.2*Q4 f.h f.t)
end Go.Proofs
