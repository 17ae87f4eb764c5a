/- Cosine and sine of turns one after the other; points of frames one after the other: plain laws. -/
import Derived.Test.YtfhfenokfkenoaaGreatDoorFC
open Rat renaming div_mul_cancel → Za, mul_eq_zero → Zb
namespace Go.Proofs
open Go Go.Eng
theorem W7 (t:Rat):Qt false t*(1+t*t)=1-t*t:=by
 show(1-t*t)/(1+t*t)*(1+t*t)=_
 exact Za (sq1 t)
theorem Jk (t:Rat):Qd false t*(1+t*t)=t+t:=by
 show(t+t)/(1+t*t)*(1+t*t)=_
 exact Za (sq1 t)
theorem Ui {a b d:Rat}(hd:d≠0)(h:a*d=b*d):a=b:=by
 have:(a-b)*d=0:=by grind
 rcases Zb.1 this with h | h
 ·grind
 ·exact absurd h hd
theorem Qfw {w d a:Rat}(h:w*d=a):(1+w*w)*(d*d)=d*d+a*a:=by rw[<-h];grind
theorem Qfx {w d a c:Rat}(h:w*d=a)(hc:c*(1+w*w)=1-w*w):c*(d*d+a*a)=d*d-a*a:=by rw[<-Qfw h,<-h];grind
theorem Qfy {w d a s:Rat}(h:w*d=a)(hs:s*(1+w*w)=w+w):s*(d*d+a*a)=2*(a*d):=by rw[<-Qfw h,<-h];grind
theorem QXS (a b c d x y:Rat):(a*b-c*d)*(x*y)=(a*x)*(b*y)-(c*x)*(d*y):=by grind
theorem QXT (a b c d x y:Rat):(a*b+c*d)*(x*y)=(a*x)*(b*y)+(c*x)*(d*y):=by grind
theorem QSY (u:Rat):Qt (HF u) (Uh u)= -Qt false u/\Qd (HF u) (Uh u)= -Qd false u:=by
 by_cases h:u=0
 ·subst h;decide+kernel
 ·have e:HF u=false:=decide_eq_false h;have ev:Uh u*u= -1:=by
   unfold Uh;rw[e];show((-1:Int):Rat)/u*u=_
   rw[Za h];rfl
  rw[e];generalize Uh u=v at ev;have c1:=W7 u;have s1:=Jk u;have c2:=W7 v;have s2:=Jk v;have hu:=sq1 u;have hv:=sq1 v;have k:(1+v*v)*(u*u)=1+u*u:=by grind
  generalize Qt false u=cu at*;generalize Qd false u=su at*;generalize Qt false v=cv at*;generalize Qd false v=sv at*;refine⟨Ui hu ?_,Ui hu ?_⟩
  ·rw[<-k];grind
  ·rw[<-k];grind
theorem QNa (h:Bool)(t:Rat)(g:Bool)(u:Rat):Qt (thH h t g u) (thT h t g u)=Qt h t*Qt g u-Qd h t*Qd g u/\Qd (thH h t g u) (thT h t g u)=Qd h t*Qt g u+Qt h t*Qd g u:=by
 have ct: ∀x:Rat,Qt true x= -1:=fun _=>rfl;have st: ∀x:Rat,Qd true x=0:=fun _=>rfl;cases h<;>cases g
 ·by_cases hz:1-t*u=0
  ·have e:decide (1-t*u=0)=true:=decide_eq_true hz;simp only[thH,thT,Bool.and_self,R8,e,R7,ct,st];have c1:=W7 u;have s1:=Jk u;have c2:=W7 t;have s2:=Jk t;have hu:=sq1 u;have hv:=sq1 t;have hd:(1+t*t)*(1+u*u)≠0:=fun e=>(Zb.1 e).elim hv hu;generalize Qt false u=cu at*;generalize Qd false u=su at*;generalize Qt false t=cv at*;generalize Qd false t=sv at*;refine⟨Ui hd ?_,Ui hd ?_⟩<;>grind
  ·have e:decide (1-t*u=0)=false:=decide_eq_false hz;simp only[thH,thT,Bool.and_self,R8,e];have ew:(t+u)/(1-t*u)*(1-t*u)=t+u:=Za hz;generalize (t+u)/(1-t*u)=w at*;have c1:=W7 u;have s1:=Jk u;have c2:=W7 t;have s2:=Jk t;have c3:=W7 w;have s3:=Jk w;have hu:=sq1 u;have hv:=sq1 t;have hd:(1+t*t)*(1+u*u)≠0:=fun e=>(Zb.1 e).elim hv hu;have kd:(1-t*u)*(1-t*u)+(t+u)*(t+u)=(1+t*t)*(1+u*u):=by clear c1 s1 c2 s2 c3 s3 ew hd hu hv hz e;grind
   have k1:=Qfx ew c3;have k2:=Qfy ew s3;rw[kd]at k1 k2;generalize Qt false u=cu at*;generalize Qd false u=su at*;generalize Qt false t=cv at*;generalize Qd false t=sv at*;generalize Qt false w=cw at*;generalize Qd false w=sw at*;refine⟨Ui hd ?_,Ui hd ?_⟩
   ·rw[k1,QXS,c1,c2,s1,s2];clear c1 c2 s1 s2 k1 k2 kd hd hu hv hz ew c3 s3 e;grind
   ·rw[k2,QXT,c1,c2,s1,s2];clear c1 c2 s1 s2 k1 k2 kd hd hu hv hz ew c3 s3 e;grind
 ·simp only[thH,thT,Bool.and_true,R8,R7,ct,st];obtain⟨h1,h2⟩:=QSY (XT false t);rw[h1,h2];show-Qt false t=_/\ -Qd false t=_
  constructor<;>grind
 ·simp only[thH,thT,Bool.and_false,R8,R7,ct,st];obtain⟨h1,h2⟩:=QSY (XT false u);rw[h1,h2];show-Qt false u=_/\ -Qd false u=_
  constructor<;>grind
 ·simp only[thH,thT,Bool.and_self,R7,ct,st];decide+kernel
end Go.Proofs
namespace Go.Proofs
open Go Go.Eng
def crs (u w:Rat×Rat):Rat:=u.1*w.2-u.2*w.1
def hit (u:Rat×Rat)(ws:List (Rat×Rat)):Bool:=ws.any fun w=> !(decide (crs u w=0))
theorem QXU (b:FrV)(q:Rat):(XZ b ⟨0,0,false,q⟩).x=b.x/\(XZ b ⟨0,0,false,q⟩).y=b.y:=⟨Qfu b,Qfv b⟩
theorem Qfz (f:FrV)(l:Rat):Qt (XZ f ⟨l,0,false,0⟩).h (XZ f ⟨l,0,false,0⟩).t=Qt f.h f.t/\Qd (XZ f ⟨l,0,false,0⟩).h (XZ f ⟨l,0,false,0⟩).t=Qd f.h f.t:=by
 obtain⟨h1,h2⟩:=QNa f.h f.t false 0;have e1:Qt false 0=1:=by decide+kernel
 have e2:Qd false 0=0:=by decide+kernel
 rw[e1,e2]at h1 h2;exact⟨h1.trans (by grind),h2.trans (by grind)⟩
end Go.Proofs
