/- Cosine and sine of turns one after the other; points of frames one after the other: plain laws. -/
import Derived.Test.YtfhfenokfkenoaaGreatDoorFC
open Rat renaming div_mul_cancel → Za, mul_eq_zero → Zb
namespace Go.Proofs
open Go Go.Eng
theorem Kk (t:Rat):Qz false t*(1+t*t)=1-t*t:=by
 show(1-t*t)/(1+t*t)*(1+t*t)=_
 exact Za (sq1 t)
theorem Kl (t:Rat):Qv false t*(1+t*t)=t+t:=by
 show(t+t)/(1+t*t)*(1+t*t)=_
 exact Za (sq1 t)
theorem UO {a b d:Rat}(hd:d≠0)(h:a*d=b*d):a=b:=by
 have:(a-b)*d=0:=by grind
 rcases Zb.1 this with h | h
 ·grind
 ·exact absurd h hd
theorem QZW {w d a:Rat}(h:w*d=a):(1+w*w)*(d*d)=d*d+a*a:=by rw[<-h];grind
theorem QZX {w d a c:Rat}(h:w*d=a)(hc:c*(1+w*w)=1-w*w):c*(d*d+a*a)=d*d-a*a:=by rw[<-QZW h,<-h];grind
theorem QZY {w d a s:Rat}(h:w*d=a)(hs:s*(1+w*w)=w+w):s*(d*d+a*a)=2*(a*d):=by rw[<-QZW h,<-h];grind
theorem QSj (a b c d x y:Rat):(a*b-c*d)*(x*y)=(a*x)*(b*y)-(c*x)*(d*y):=by grind
theorem QSk (a b c d x y:Rat):(a*b+c*d)*(x*y)=(a*x)*(b*y)+(c*x)*(d*y):=by grind
theorem QON (u:Rat):Qz (Up u) (UN u)= -Qz false u/\Qv (Up u) (UN u)= -Qv false u:=by
 by_cases h:u=0
 ·subst h;decide+kernel
 ·have e:Up u=false:=decide_eq_false h;have ev:UN u*u= -1:=by
   unfold UN;rw[e];show((-1:Int):Rat)/u*u=_
   rw[Za h];rfl
  rw[e];generalize UN u=v at ev;have c1:=Kk u;have s1:=Kl u;have c2:=Kk v;have s2:=Kl v;have hu:=sq1 u;have hv:=sq1 v;have k:(1+v*v)*(u*u)=1+u*u:=by grind
  generalize Qz false u=cu at*;generalize Qv false u=su at*;generalize Qz false v=cv at*;generalize Qv false v=sv at*;refine⟨UO hu ?_,UO hu ?_⟩
  ·rw[<-k];grind
  ·rw[<-k];grind
theorem QCZ (h:Bool)(t:Rat)(g:Bool)(u:Rat):Qz (thH h t g u) (thT h t g u)=Qz h t*Qz g u-Qv h t*Qv g u/\Qv (thH h t g u) (thT h t g u)=Qv h t*Qz g u+Qz h t*Qv g u:=by
 have ct: ∀x:Rat,Qz true x= -1:=fun _=>rfl;have st: ∀x:Rat,Qv true x=0:=fun _=>rfl;cases h<;>cases g
 ·by_cases hz:1-t*u=0
  ·have e:decide (1-t*u=0)=true:=decide_eq_true hz;simp only[thH,thT,Bool.and_self,R8,e,R7,ct,st];have c1:=Kk u;have s1:=Kl u;have c2:=Kk t;have s2:=Kl t;have hu:=sq1 u;have hv:=sq1 t;have hd:(1+t*t)*(1+u*u)≠0:=fun e=>(Zb.1 e).elim hv hu;generalize Qz false u=cu at*;generalize Qv false u=su at*;generalize Qz false t=cv at*;generalize Qv false t=sv at*;refine⟨UO hd ?_,UO hd ?_⟩<;>grind
  ·have e:decide (1-t*u=0)=false:=decide_eq_false hz;simp only[thH,thT,Bool.and_self,R8,e];have ew:(t+u)/(1-t*u)*(1-t*u)=t+u:=Za hz;generalize (t+u)/(1-t*u)=w at*;have c1:=Kk u;have s1:=Kl u;have c2:=Kk t;have s2:=Kl t;have c3:=Kk w;have s3:=Kl w;have hu:=sq1 u;have hv:=sq1 t;have hd:(1+t*t)*(1+u*u)≠0:=fun e=>(Zb.1 e).elim hv hu;have kd:(1-t*u)*(1-t*u)+(t+u)*(t+u)=(1+t*t)*(1+u*u):=by clear c1 s1 c2 s2 c3 s3 ew hd hu hv hz e;grind
   have k1:=QZX ew c3;have k2:=QZY ew s3;rw[kd]at k1 k2;generalize Qz false u=cu at*;generalize Qv false u=su at*;generalize Qz false t=cv at*;generalize Qv false t=sv at*;generalize Qz false w=cw at*;generalize Qv false w=sw at*;refine⟨UO hd ?_,UO hd ?_⟩
   ·rw[k1,QSj,c1,c2,s1,s2];clear c1 c2 s1 s2 k1 k2 kd hd hu hv hz ew c3 s3 e;grind
   ·rw[k2,QSk,c1,c2,s1,s2];clear c1 c2 s1 s2 k1 k2 kd hd hu hv hz ew c3 s3 e;grind
 ·simp only[thH,thT,Bool.and_true,R8,R7,ct,st];obtain⟨h1,h2⟩:=QON (XP false t);rw[h1,h2];show-Qz false t=_/\ -Qv false t=_
  constructor<;>grind
 ·simp only[thH,thT,Bool.and_false,R8,R7,ct,st];obtain⟨h1,h2⟩:=QON (XP false u);rw[h1,h2];show-Qz false u=_/\ -Qv false u=_
  constructor<;>grind
 ·simp only[thH,thT,Bool.and_self,R7,ct,st];decide+kernel
end Go.Proofs
namespace Go.Proofs
open Go Go.Eng
def YB (tip:FrV)(u v:Rat)(fs:List FrV):List Rat:=fs.map fun g=>(tip.x-g.x)*v-(tip.y-g.y)*u
def XU (tip:FrV)(fs:List FrV):List (Rat×Rat):=fs.map fun g=>(-(tip.y-g.y),tip.x-g.x)
def YO (q v:Rat):Rat:=(((2:Int):Rat)*v)/(((1:Int):Rat)+q*q)
def Uq:List Rat->List Rat->Rat->Rat
 | t::ts,r::rs,s=>Uq ts rs (s+t*r)
 | _,_,s=>s
def Ky:List (Rat×Rat)->List Rat->Rat->Rat->Rat×Rat
 | c::cs,w::ws,a,b=>Ky cs ws (a+c.1*w) (b+c.2*w)
 | _,_,a,b=>(a,b)
def crs (u w:Rat×Rat):Rat:=u.1*w.2-u.2*w.1
def hit (u:Rat×Rat)(ws:List (Rat×Rat)):Bool:=ws.any fun w=> !(decide (crs u w=0))
def nzb (u:Rat×Rat):Bool:= !(decide (u.1=0)) || !(decide (u.2=0))
def prs (l:List (Rat×Rat))(i:Nat):Bool:=(List.range i).any fun k=>match l[k]? with
 | some u=>hit u (l.take k)
 | none=>false
def nzs (l:List (Rat×Rat))(i:Nat):Bool:=(l.take i).any nzb
def rk (p n:Bool):Int:=bif p then 2 else bif n then 1 else 0
def YP (l:List (Rat×Rat)):Int:=rk (prs l l.length) (nzs l l.length)
theorem QJV (q:Rat):YO q 1≠0:=by
 unfold YO;have h:((1:Int):Rat)+q*q≠0:=sq1 q;intro e;have:(((2:Int):Rat)*1)/(((1:Int):Rat)+q*q)*(((1:Int):Rat)+q*q)=0:=by rw[e,Rat.zero_mul]
 rw[Za h]at this;exact absurd this (by decide+kernel)
theorem QOO (q v:Rat):YO q v=v*YO q 1:=by
 unfold YO;rw[Rat.div_def,Rat.div_def];generalize (((1:Int):Rat)+q*q)⁻¹=d;grind
theorem QOP (q w:Rat):YO q (w/YO q 1)=w:=by
 rw[QOO,Za (QJV q)]
end Go.Proofs
