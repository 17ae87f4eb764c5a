/- Cosine and sine of turns one after the other; points of frames one after the other: plain laws. -/
import Derived.Test.YtnbkdgmgbaangaaGreatDoorFC
open Rat renaming div_mul_cancel → Za, mul_eq_zero → Zb
namespace Go.Proofs
open Go Go.Eng
theorem Kc (t:Rat):Q3 false t*(1+t*t)=1-t*t:=by
 show(1-t*t)/(1+t*t)*(1+t*t)=_
 exact Za (sq1 t)
theorem Kd (t:Rat):Q0 false t*(1+t*t)=t+t:=by
 show(t+t)/(1+t*t)*(1+t*t)=_
 exact Za (sq1 t)
theorem Ho {a b d:Rat}(hd:d≠0)(h:a*d=b*d):a=b:=by
 have:(a-b)*d=0:=by grind
 rcases Zb.1 this with h | h
 ·grind
 ·exact absurd h hd
theorem QcZ {w d a:Rat}(h:w*d=a):(1+w*w)*(d*d)=d*d+a*a:=by rw[<-h];grind
theorem Qca {w d a c:Rat}(h:w*d=a)(hc:c*(1+w*w)=1-w*w):c*(d*d+a*a)=d*d-a*a:=by rw[<-QcZ h,<-h];grind
theorem Qcb {w d a s:Rat}(h:w*d=a)(hs:s*(1+w*w)=w+w):s*(d*d+a*a)=2*(a*d):=by rw[<-QcZ h,<-h];grind
theorem QUv (a b c d x y:Rat):(a*b-c*d)*(x*y)=(a*x)*(b*y)-(c*x)*(d*y):=by grind
theorem QUw (a b c d x y:Rat):(a*b+c*d)*(x*y)=(a*x)*(b*y)+(c*x)*(d*y):=by grind
theorem QQh (u:Rat):Q3 (Us u) (UN u)= -Q3 false u/\Q0 (Us u) (UN u)= -Q0 false u:=by
 by_cases h:u=0
 ·subst h;decide+kernel
 ·have e:Us u=false:=decide_eq_false h;have ev:UN u*u= -1:=by
   unfold UN;rw[e];show((-1:Int):Rat)/u*u=_
   rw[Za h];rfl
  rw[e];generalize UN u=v at ev;have c1:=Kc u;have s1:=Kd u;have c2:=Kc v;have s2:=Kd v;have hu:=sq1 u;have hv:=sq1 v;have k:(1+v*v)*(u*u)=1+u*u:=by grind
  generalize Q3 false u=cu at*;generalize Q0 false u=su at*;generalize Q3 false v=cv at*;generalize Q0 false v=sv at*;refine⟨Ho hu ?_,Ho hu ?_⟩
  ·rw[<-k];grind
  ·rw[<-k];grind
theorem QLw (h:Bool)(t:Rat)(g:Bool)(u:Rat):Q3 (thH h t g u) (thT h t g u)=Q3 h t*Q3 g u-Q0 h t*Q0 g u/\Q0 (thH h t g u) (thT h t g u)=Q0 h t*Q3 g u+Q3 h t*Q0 g u:=by
 have ct: ∀x:Rat,Q3 true x= -1:=fun _=>rfl;have st: ∀x:Rat,Q0 true x=0:=fun _=>rfl;cases h<;>cases g
 ·by_cases hz:1-t*u=0
  ·have e:decide (1-t*u=0)=true:=decide_eq_true hz;simp only[thH,thT,Bool.and_self,R8,e,R7,ct,st];have c1:=Kc u;have s1:=Kd u;have c2:=Kc t;have s2:=Kd t;have hu:=sq1 u;have hv:=sq1 t;have hd:(1+t*t)*(1+u*u)≠0:=fun e=>(Zb.1 e).elim hv hu;generalize Q3 false u=cu at*;generalize Q0 false u=su at*;generalize Q3 false t=cv at*;generalize Q0 false t=sv at*;refine⟨Ho hd ?_,Ho hd ?_⟩<;>grind
  ·have e:decide (1-t*u=0)=false:=decide_eq_false hz;simp only[thH,thT,Bool.and_self,R8,e];have ew:(t+u)/(1-t*u)*(1-t*u)=t+u:=Za hz;generalize (t+u)/(1-t*u)=w at*;have c1:=Kc u;have s1:=Kd u;have c2:=Kc t;have s2:=Kd t;have c3:=Kc w;have s3:=Kd w;have hu:=sq1 u;have hv:=sq1 t;have hd:(1+t*t)*(1+u*u)≠0:=fun e=>(Zb.1 e).elim hv hu;have kd:(1-t*u)*(1-t*u)+(t+u)*(t+u)=(1+t*t)*(1+u*u):=by clear c1 s1 c2 s2 c3 s3 ew hd hu hv hz e;grind
   have k1:=Qca ew c3;have k2:=Qcb ew s3;rw[kd]at k1 k2;generalize Q3 false u=cu at*;generalize Q0 false u=su at*;generalize Q3 false t=cv at*;generalize Q0 false t=sv at*;generalize Q3 false w=cw at*;generalize Q0 false w=sw at*;refine⟨Ho hd ?_,Ho hd ?_⟩
   ·rw[k1,QUv,c1,c2,s1,s2];clear c1 c2 s1 s2 k1 k2 kd hd hu hv hz ew c3 s3 e;grind
   ·rw[k2,QUw,c1,c2,s1,s2];clear c1 c2 s1 s2 k1 k2 kd hd hu hv hz ew c3 s3 e;grind
 ·simp only[thH,thT,Bool.and_true,R8,R7,ct,st];obtain⟨h1,h2⟩:=QQh (XO false t);rw[h1,h2];show-Q3 false t=_/\ -Q0 false t=_
  constructor<;>grind
 ·simp only[thH,thT,Bool.and_false,R8,R7,ct,st];obtain⟨h1,h2⟩:=QQh (XO false u);rw[h1,h2];show-Q3 false u=_/\ -Q0 false u=_
  constructor<;>grind
 ·simp only[thH,thT,Bool.and_self,R7,ct,st];decide+kernel
end Go.Proofs
namespace Go.Proofs
open Go Go.Eng
def crs (u w:Rat×Rat):Rat:=u.1*w.2-u.2*w.1
def hit (u:Rat×Rat)(ws:List (Rat×Rat)):Bool:=ws.any fun w=> !(decide (crs u w=0))
end Go.Proofs
