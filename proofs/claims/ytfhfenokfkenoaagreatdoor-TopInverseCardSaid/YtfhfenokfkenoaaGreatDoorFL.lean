/- Cosine and sine of turns one after the other; points of frames one after the other: plain laws. -/
import Derived.Test.YtfhfenokfkenoaaGreatDoorFC
open Rat renaming div_mul_cancel → Za, mul_eq_zero → Zb
namespace Go.Proofs
open Go Go.Eng
theorem W9 (t:Rat):Qn false t*(1+t*t)=1-t*t:=by
 show(1-t*t)/(1+t*t)*(1+t*t)=_
 exact Za (sq1 t)
theorem Jt (t:Rat):Qa false t*(1+t*t)=t+t:=by
 show(t+t)/(1+t*t)*(1+t*t)=_
 exact Za (sq1 t)
theorem Uu {a b d:Rat}(hd:d≠0)(h:a*d=b*d):a=b:=by
 have:(a-b)*d=0:=by grind
 rcases Zb.1 this with h | h
 ·grind
 ·exact absurd h hd
theorem QbT {w d a:Rat}(h:w*d=a):(1+w*w)*(d*d)=d*d+a*a:=by rw[<-h];grind
theorem QbU {w d a c:Rat}(h:w*d=a)(hc:c*(1+w*w)=1-w*w):c*(d*d+a*a)=d*d-a*a:=by rw[<-QbT h,<-h];grind
theorem QbV {w d a s:Rat}(h:w*d=a)(hs:s*(1+w*w)=w+w):s*(d*d+a*a)=2*(a*d):=by rw[<-QbT h,<-h];grind
theorem QUD (a b c d x y:Rat):(a*b-c*d)*(x*y)=(a*x)*(b*y)-(c*x)*(d*y):=by grind
theorem QUE (a b c d x y:Rat):(a*b+c*d)*(x*y)=(a*x)*(b*y)+(c*x)*(d*y):=by grind
theorem QPb (u:Rat):Qn (HO u) (Ut u)= -Qn false u/\Qa (HO u) (Ut u)= -Qa false u:=by
 by_cases h:u=0
 ·subst h;decide+kernel
 ·have e:HO u=false:=decide_eq_false h;have ev:Ut u*u= -1:=by
   unfold Ut;rw[e];show((-1:Int):Rat)/u*u=_
   rw[Za h];rfl
  rw[e];generalize Ut u=v at ev;have c1:=W9 u;have s1:=Jt u;have c2:=W9 v;have s2:=Jt v;have hu:=sq1 u;have hv:=sq1 v;have k:(1+v*v)*(u*u)=1+u*u:=by grind
  generalize Qn false u=cu at*;generalize Qa false u=su at*;generalize Qn false v=cv at*;generalize Qa false v=sv at*;refine⟨Uu hu ?_,Uu hu ?_⟩
  ·rw[<-k];grind
  ·rw[<-k];grind
theorem QDK (h:Bool)(t:Rat)(g:Bool)(u:Rat):Qn (thH h t g u) (thT h t g u)=Qn h t*Qn g u-Qa h t*Qa g u/\Qa (thH h t g u) (thT h t g u)=Qa h t*Qn g u+Qn h t*Qa g u:=by
 have ct: ∀x:Rat,Qn true x= -1:=fun _=>rfl;have st: ∀x:Rat,Qa true x=0:=fun _=>rfl;cases h<;>cases g
 ·by_cases hz:1-t*u=0
  ·have e:decide (1-t*u=0)=true:=decide_eq_true hz;simp only[thH,thT,Bool.and_self,R8,e,R7,ct,st];have c1:=W9 u;have s1:=Jt u;have c2:=W9 t;have s2:=Jt t;have hu:=sq1 u;have hv:=sq1 t;have hd:(1+t*t)*(1+u*u)≠0:=fun e=>(Zb.1 e).elim hv hu;generalize Qn false u=cu at*;generalize Qa false u=su at*;generalize Qn false t=cv at*;generalize Qa false t=sv at*;refine⟨Uu hd ?_,Uu hd ?_⟩<;>grind
  ·have e:decide (1-t*u=0)=false:=decide_eq_false hz;simp only[thH,thT,Bool.and_self,R8,e];have ew:(t+u)/(1-t*u)*(1-t*u)=t+u:=Za hz;generalize (t+u)/(1-t*u)=w at*;have c1:=W9 u;have s1:=Jt u;have c2:=W9 t;have s2:=Jt t;have c3:=W9 w;have s3:=Jt w;have hu:=sq1 u;have hv:=sq1 t;have hd:(1+t*t)*(1+u*u)≠0:=fun e=>(Zb.1 e).elim hv hu;have kd:(1-t*u)*(1-t*u)+(t+u)*(t+u)=(1+t*t)*(1+u*u):=by clear c1 s1 c2 s2 c3 s3 ew hd hu hv hz e;grind
   have k1:=QbU ew c3;have k2:=QbV ew s3;rw[kd]at k1 k2;generalize Qn false u=cu at*;generalize Qa false u=su at*;generalize Qn false t=cv at*;generalize Qa false t=sv at*;generalize Qn false w=cw at*;generalize Qa false w=sw at*;refine⟨Uu hd ?_,Uu hd ?_⟩
   ·rw[k1,QUD,c1,c2,s1,s2];clear c1 c2 s1 s2 k1 k2 kd hd hu hv hz ew c3 s3 e;grind
   ·rw[k2,QUE,c1,c2,s1,s2];clear c1 c2 s1 s2 k1 k2 kd hd hu hv hz ew c3 s3 e;grind
 ·simp only[thH,thT,Bool.and_true,R8,R7,ct,st];obtain⟨h1,h2⟩:=QPb (XX false t);rw[h1,h2];show-Qn false t=_/\ -Qa false t=_
  constructor<;>grind
 ·simp only[thH,thT,Bool.and_false,R8,R7,ct,st];obtain⟨h1,h2⟩:=QPb (XX false u);rw[h1,h2];show-Qn false u=_/\ -Qa false u=_
  constructor<;>grind
 ·simp only[thH,thT,Bool.and_self,R7,ct,st];decide+kernel
end Go.Proofs
namespace Go.Proofs
open Go Go.Eng
def crs (u w:Rat×Rat):Rat:=u.1*w.2-u.2*w.1
def hit (u:Rat×Rat)(ws:List (Rat×Rat)):Bool:=ws.any fun w=> !(decide (crs u w=0))
def plV (f:FrV)(p:Rat×Rat):Rat×Rat:=(VM f p.1 p.2,VN f p.1 p.2)
theorem QUF (b:FrV)(q:Rat):(Xn b ⟨0,0,false,q⟩).x=b.x/\(Xn b ⟨0,0,false,q⟩).y=b.y:=⟨QbK b,QbL b⟩
theorem QbW (f:FrV)(l:Rat):Qn (Xn f ⟨l,0,false,0⟩).h (Xn f ⟨l,0,false,0⟩).t=Qn f.h f.t/\Qa (Xn f ⟨l,0,false,0⟩).h (Xn f ⟨l,0,false,0⟩).t=Qa f.h f.t:=by
 obtain⟨h1,h2⟩:=QDK f.h f.t false 0;have e1:Qn false 0=1:=by decide+kernel
 have e2:Qa false 0=0:=by decide+kernel
 rw[e1,e2]at h1 h2;exact⟨h1.trans (by grind),h2.trans (by grind)⟩
end Go.Proofs
