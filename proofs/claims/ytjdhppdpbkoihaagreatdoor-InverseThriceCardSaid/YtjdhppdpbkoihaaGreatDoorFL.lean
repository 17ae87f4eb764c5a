/- Cosine and sine of turns one after the other; points of frames one after the other: plain laws. -/
import Derived.Test.YtjdhppdpbkoihaaGreatDoorFC
open Rat renaming div_mul_cancel → Za, mul_eq_zero → Zb
namespace Go.Proofs
open Go Go.Eng
theorem KB (t:Rat):QK false t*(1+t*t)=1-t*t:=by
 show(1-t*t)/(1+t*t)*(1+t*t)=_
 exact Za (sq1 t)
theorem WZ (t:Rat):QO false t*(1+t*t)=t+t:=by
 show(t+t)/(1+t*t)*(1+t*t)=_
 exact Za (sq1 t)
theorem K4 {a b d:Rat}(hd:d≠0)(h:a*d=b*d):a=b:=by
 have:(a-b)*d=0:=by grind
 rcases Zb.1 this with h | h
 ·grind
 ·exact absurd h hd
theorem QYx {w d a:Rat}(h:w*d=a):(1+w*w)*(d*d)=d*d+a*a:=by rw[<-h];grind
theorem QYy {w d a c:Rat}(h:w*d=a)(hc:c*(1+w*w)=1-w*w):c*(d*d+a*a)=d*d-a*a:=by rw[<-QYx h,<-h];grind
theorem QYz {w d a s:Rat}(h:w*d=a)(hs:s*(1+w*w)=w+w):s*(d*d+a*a)=2*(a*d):=by rw[<-QYx h,<-h];grind
theorem QSp (a b c d x y:Rat):(a*b-c*d)*(x*y)=(a*x)*(b*y)-(c*x)*(d*y):=by grind
theorem QSq (a b c d x y:Rat):(a*b+c*d)*(x*y)=(a*x)*(b*y)+(c*x)*(d*y):=by grind
theorem QOk (u:Rat):QK (HC u) (UM u)= -QK false u/\QO (HC u) (UM u)= -QO false u:=by
 by_cases h:u=0
 ·subst h;decide+kernel
 ·have e:HC u=false:=decide_eq_false h;have ev:UM u*u= -1:=by
   unfold UM;rw[e];show((-1:Int):Rat)/u*u=_
   rw[Za h];rfl
  rw[e];generalize UM u=v at ev;have c1:=KB u;have s1:=WZ u;have c2:=KB v;have s2:=WZ v;have hu:=sq1 u;have hv:=sq1 v;have k:(1+v*v)*(u*u)=1+u*u:=by grind
  generalize QK false u=cu at*;generalize QO false u=su at*;generalize QK false v=cv at*;generalize QO false v=sv at*;refine⟨K4 hu ?_,K4 hu ?_⟩
  ·rw[<-k];grind
  ·rw[<-k];grind
theorem JK (h:Bool)(t:Rat)(g:Bool)(u:Rat):QK (thH h t g u) (thT h t g u)=QK h t*QK g u-QO h t*QO g u/\QO (thH h t g u) (thT h t g u)=QO h t*QK g u+QK h t*QO g u:=by
 have ct: ∀x:Rat,QK true x= -1:=fun _=>rfl;have st: ∀x:Rat,QO true x=0:=fun _=>rfl;cases h<;>cases g
 ·by_cases hz:1-t*u=0
  ·have e:decide (1-t*u=0)=true:=decide_eq_true hz;simp only[thH,thT,Bool.and_self,R8,e,R7,ct,st];have c1:=KB u;have s1:=WZ u;have c2:=KB t;have s2:=WZ t;have hu:=sq1 u;have hv:=sq1 t;have hd:(1+t*t)*(1+u*u)≠0:=fun e=>(Zb.1 e).elim hv hu;generalize QK false u=cu at*;generalize QO false u=su at*;generalize QK false t=cv at*;generalize QO false t=sv at*;refine⟨K4 hd ?_,K4 hd ?_⟩<;>grind
  ·have e:decide (1-t*u=0)=false:=decide_eq_false hz;simp only[thH,thT,Bool.and_self,R8,e];have ew:(t+u)/(1-t*u)*(1-t*u)=t+u:=Za hz;generalize (t+u)/(1-t*u)=w at*;have c1:=KB u;have s1:=WZ u;have c2:=KB t;have s2:=WZ t;have c3:=KB w;have s3:=WZ w;have hu:=sq1 u;have hv:=sq1 t;have hd:(1+t*t)*(1+u*u)≠0:=fun e=>(Zb.1 e).elim hv hu;have kd:(1-t*u)*(1-t*u)+(t+u)*(t+u)=(1+t*t)*(1+u*u):=by clear c1 s1 c2 s2 c3 s3 ew hd hu hv hz e;grind
   have k1:=QYy ew c3;have k2:=QYz ew s3;rw[kd]at k1 k2;generalize QK false u=cu at*;generalize QO false u=su at*;generalize QK false t=cv at*;generalize QO false t=sv at*;generalize QK false w=cw at*;generalize QO false w=sw at*;refine⟨K4 hd ?_,K4 hd ?_⟩
   ·rw[k1,QSp,c1,c2,s1,s2];clear c1 c2 s1 s2 k1 k2 kd hd hu hv hz ew c3 s3 e;grind
   ·rw[k2,QSq,c1,c2,s1,s2];clear c1 c2 s1 s2 k1 k2 kd hd hu hv hz ew c3 s3 e;grind
 ·simp only[thH,thT,Bool.and_true,R8,R7,ct,st];obtain⟨h1,h2⟩:=QOk (XX false t);rw[h1,h2];show-QK false t=_/\ -QO false t=_
  constructor<;>grind
 ·simp only[thH,thT,Bool.and_false,R8,R7,ct,st];obtain⟨h1,h2⟩:=QOk (XX false u);rw[h1,h2];show-QK false u=_/\ -QO false u=_
  constructor<;>grind
 ·simp only[thH,thT,Bool.and_self,R7,ct,st];decide+kernel
theorem QGI (f g:FrV)(x y:Rat):H9 (Qt f g) x y=H9 f (H9 g x y) (GA g x y)/\GA (Qt f g) x y=GA f (H9 g x y) (GA g x y):=by
 obtain⟨h1,h2⟩:=JK f.h f.t g.h g.t;have e1:QK (Qt f g).h (Qt f g).t=QK f.h f.t*QK g.h g.t-QO f.h f.t*QO g.h g.t:=h1;have e2:QO (Qt f g).h (Qt f g).t=QO f.h f.t*QK g.h g.t+QK f.h f.t*QO g.h g.t:=h2;unfold H9 GA;rw[e1,e2];show H9 f g.x g.y+_=_/\GA f g.x g.y+_=_
 unfold H9 GA;constructor<;>grind
end Go.Proofs
namespace Go.Proofs
open Go Go.Eng
def crs (u w:Rat×Rat):Rat:=u.1*w.2-u.2*w.1
def hit (u:Rat×Rat)(ws:List (Rat×Rat)):Bool:=ws.any fun w=> !(decide (crs u w=0))
end Go.Proofs
