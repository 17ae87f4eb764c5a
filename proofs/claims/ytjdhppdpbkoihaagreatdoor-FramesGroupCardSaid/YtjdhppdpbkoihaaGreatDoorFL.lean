/- Cosine and sine of turns one after the other; points of frames one after the other: plain laws. -/
import Derived.Test.YtjdhppdpbkoihaaGreatDoorFC
open Rat renaming div_mul_cancel → Za, mul_eq_zero → Zb
namespace Go.Proofs
open Go Go.Eng
theorem J3 (t:Rat):Q7 false t*(1+t*t)=1-t*t:=by
 show(1-t*t)/(1+t*t)*(1+t*t)=_
 exact Za (sq1 t)
theorem Jc (t:Rat):XA false t*(1+t*t)=t+t:=by
 show(t+t)/(1+t*t)*(1+t*t)=_
 exact Za (sq1 t)
theorem We {a b d:Rat}(hd:d≠0)(h:a*d=b*d):a=b:=by
 have:(a-b)*d=0:=by grind
 rcases Zb.1 this with h | h
 ·grind
 ·exact absurd h hd
theorem QTv {w d a:Rat}(h:w*d=a):(1+w*w)*(d*d)=d*d+a*a:=by rw[<-h];grind
theorem QTw {w d a c:Rat}(h:w*d=a)(hc:c*(1+w*w)=1-w*w):c*(d*d+a*a)=d*d-a*a:=by rw[<-QTv h,<-h];grind
theorem QTx {w d a s:Rat}(h:w*d=a)(hs:s*(1+w*w)=w+w):s*(d*d+a*a)=2*(a*d):=by rw[<-QTv h,<-h];grind
theorem QN2 (a b c d x y:Rat):(a*b-c*d)*(x*y)=(a*x)*(b*y)-(c*x)*(d*y):=by grind
theorem QN3 (a b c d x y:Rat):(a*b+c*d)*(x*y)=(a*x)*(b*y)+(c*x)*(d*y):=by grind
theorem QKd (u:Rat):Q7 (Vi u) (Kv u)= -Q7 false u/\XA (Vi u) (Kv u)= -XA false u:=by
 by_cases h:u=0
 ·subst h;decide+kernel
 ·have e:Vi u=false:=decide_eq_false h;have ev:Kv u*u= -1:=by
   unfold Kv;rw[e];show((-1:Int):Rat)/u*u=_
   rw[Za h];rfl
  rw[e];generalize Kv u=v at ev;have c1:=J3 u;have s1:=Jc u;have c2:=J3 v;have s2:=Jc v;have hu:=sq1 u;have hv:=sq1 v;have k:(1+v*v)*(u*u)=1+u*u:=by grind
  generalize Q7 false u=cu at*;generalize XA false u=su at*;generalize Q7 false v=cv at*;generalize XA false v=sv at*;refine⟨We hu ?_,We hu ?_⟩
  ·rw[<-k];grind
  ·rw[<-k];grind
theorem YO (h:Bool)(t:Rat)(g:Bool)(u:Rat):Q7 (thH h t g u) (thT h t g u)=Q7 h t*Q7 g u-XA h t*XA g u/\XA (thH h t g u) (thT h t g u)=XA h t*Q7 g u+Q7 h t*XA g u:=by
 have ct: ∀x:Rat,Q7 true x= -1:=fun _=>rfl;have st: ∀x:Rat,XA true x=0:=fun _=>rfl;cases h<;>cases g
 ·by_cases hz:1-t*u=0
  ·have e:decide (1-t*u=0)=true:=decide_eq_true hz;simp only[thH,thT,Bool.and_self,R8,e,R7,ct,st];have c1:=J3 u;have s1:=Jc u;have c2:=J3 t;have s2:=Jc t;have hu:=sq1 u;have hv:=sq1 t;have hd:(1+t*t)*(1+u*u)≠0:=fun e=>(Zb.1 e).elim hv hu;generalize Q7 false u=cu at*;generalize XA false u=su at*;generalize Q7 false t=cv at*;generalize XA false t=sv at*;refine⟨We hd ?_,We hd ?_⟩<;>grind
  ·have e:decide (1-t*u=0)=false:=decide_eq_false hz;simp only[thH,thT,Bool.and_self,R8,e];have ew:(t+u)/(1-t*u)*(1-t*u)=t+u:=Za hz;generalize (t+u)/(1-t*u)=w at*;have c1:=J3 u;have s1:=Jc u;have c2:=J3 t;have s2:=Jc t;have c3:=J3 w;have s3:=Jc w;have hu:=sq1 u;have hv:=sq1 t;have hd:(1+t*t)*(1+u*u)≠0:=fun e=>(Zb.1 e).elim hv hu;have kd:(1-t*u)*(1-t*u)+(t+u)*(t+u)=(1+t*t)*(1+u*u):=by clear c1 s1 c2 s2 c3 s3 ew hd hu hv hz e;grind
   have k1:=QTw ew c3;have k2:=QTx ew s3;rw[kd]at k1 k2;generalize Q7 false u=cu at*;generalize XA false u=su at*;generalize Q7 false t=cv at*;generalize XA false t=sv at*;generalize Q7 false w=cw at*;generalize XA false w=sw at*;refine⟨We hd ?_,We hd ?_⟩
   ·rw[k1,QN2,c1,c2,s1,s2];clear c1 c2 s1 s2 k1 k2 kd hd hu hv hz ew c3 s3 e;grind
   ·rw[k2,QN3,c1,c2,s1,s2];clear c1 c2 s1 s2 k1 k2 kd hd hu hv hz ew c3 s3 e;grind
 ·simp only[thH,thT,Bool.and_true,R8,R7,ct,st];obtain⟨h1,h2⟩:=QKd (XD false t);rw[h1,h2];show-Q7 false t=_/\ -XA false t=_
  constructor<;>grind
 ·simp only[thH,thT,Bool.and_false,R8,R7,ct,st];obtain⟨h1,h2⟩:=QKd (XD false u);rw[h1,h2];show-Q7 false u=_/\ -XA false u=_
  constructor<;>grind
 ·simp only[thH,thT,Bool.and_self,R7,ct,st];decide+kernel
theorem Vj (f g:FrV)(x y:Rat):YE (Qw f g) x y=YE f (YE g x y) (YF g x y)/\YF (Qw f g) x y=YF f (YE g x y) (YF g x y):=by
 obtain⟨h1,h2⟩:=YO f.h f.t g.h g.t;have e1:Q7 (Qw f g).h (Qw f g).t=Q7 f.h f.t*Q7 g.h g.t-XA f.h f.t*XA g.h g.t:=h1;have e2:XA (Qw f g).h (Qw f g).t=XA f.h f.t*Q7 g.h g.t+Q7 f.h f.t*XA g.h g.t:=h2;unfold YE YF;rw[e1,e2];show YE f g.x g.y+_=_/\YF f g.x g.y+_=_
 unfold YE YF;constructor<;>grind
end Go.Proofs
namespace Go.Proofs
open Go Go.Eng
def crs (u w:Rat×Rat):Rat:=u.1*w.2-u.2*w.1
def hit (u:Rat×Rat)(ws:List (Rat×Rat)):Bool:=ws.any fun w=> !(decide (crs u w=0))
def KQ (l:List (Rat×Rat)):Nat->Rat
 | 0=>0
 | i+1=>KQ l i+crs (l.getD i (0,0)) (l.getD ((i+1) % l.length) (0,0))
end Go.Proofs
