/- Cosine and sine of turns one after the other; points of frames one after the other: plain laws. -/
import Derived.Test.YtmpfaflhpioaiaaGreatDoorF1
open Bool renaming false → A
open _root_ renaming Rat → B, List → C, Bool → D
open Rat renaming div_mul_cancel → Za, mul_eq_zero → Zb
namespace Go.Proofs
open Go Go.Eng
theorem Kn (t:B):Xy A t*(1+t*t)=1-t*t:=by
 show(1-t*t)/(1+t*t)*(1+t*t)=_
 exact Za (sq1 t)
theorem WC (t:B):Q3 A t*(1+t*t)=t+t:=by
 show(t+t)/(1+t*t)*(1+t*t)=_
 exact Za (sq1 t)
variable{a d:B}
theorem He{b:B}(c:d≠0)(h:a*d=b*d):a=b:=by
 have:(a-b)*d=0:=j4
 rcases Zb.1 this with h | h
 ·grind
 ·exact absurd h c
variable{w:B}
theorem tZ(h:w*d=a):(1+w*w)*(d*d)=d*d+a*a:=by rw[<-h];grind
theorem QjY{c:B}(h:w*d=a)(b:c*(1+w*w)=1-w*w):c*(d*d+a*a)=d*d-a*a:=by rw[<-tZ h,<-h];grind
theorem QjZ{s:B}(h:w*d=a)(b:s*(1+w*w)=w+w):s*(d*d+a*a)=2*(a*d):=by rw[<-tZ h,<-h];grind
theorem Qa0 (a b c d x y:B):(a*b-c*d)*(x*y)=(a*x)*(b*y)-(c*x)*(d*y):=j4
theorem Qa1 (a b c d x y:B):(a*b+c*d)*(x*y)=(a*x)*(b*y)+(c*x)*(d*y):=j4
theorem xW (u:B):Xy (GL u) (Hd u)= -Xy A u/\Q3 (GL u) (Hd u)= -Q3 A u:=by
 by_cases h:u=0
 ·subst h;decide+kernel
 ·have e:GL u=A:=decide_eq_false h;have c:Hd u*u= -1:=by
   unfold Hd;rw[e];show((-1:Int):B)/u*u=_
   rw[Za h];rfl
  rw[e];generalize Hd u=v at c;have f:=Kn u;have s:=WC u;have g:=Kn v;have m:=WC v;have b:=sq1 u;have l:=sq1 v;have k:(1+v*v)*(u*u)=1+u*u:=j4
  generalize Xy A u=i at*;generalize Q3 A u=n at*;generalize Xy A v=j at*;generalize Q3 A v=o at*;refine⟨He b ?_,He b ?_⟩
  ·rw[<-k];grind
  ·rw[<-k];grind
theorem xV (h:D)(t:B)(g:D)(u:B):Xy (thH h t g u) (thT h t g u)=Xy h t*Xy g u-Q3 h t*Q3 g u/\Q3 (thH h t g u) (thT h t g u)=Q3 h t*Xy g u+Xy h t*Q3 g u:=by
 have o: ∀x:B,Xy true x= -1:=fun _=>rfl;have v: ∀x:B,Q3 true x=0:=fun _=>rfl;cases h<;>cases g
 ·by_cases k:1-t*u=0
  ·have e:decide (1-t*u=0)=true:=decide_eq_true k;simp only[thH,thT,D.and_self,R8,e,R7,o,v];have c:=Kn u;have s:=WC u;have f:=Kn t;have l:=WC t;have i:=sq1 u;have j:=sq1 t;have b:(1+t*t)*(1+u*u)≠0:=fun e=>(Zb.1 e).elim j i;generalize Xy A u=E at*;generalize Q3 A u=G at*;generalize Xy A t=F at*;generalize Q3 A t=H at*;refine⟨He b ?_,He b ?_⟩<;>grind
  ·have e:decide (1-t*u=0)=A:=decide_eq_false k;simp only[thH,thT,D.and_self,R8,e];have m:(t+u)/(1-t*u)*(1-t*u)=t+u:=Za k;generalize (t+u)/(1-t*u)=w at*;have c:=Kn u;have s:=WC u;have f:=Kn t;have l:=WC t;have n:=Kn w;have r:=WC w;have i:=sq1 u;have j:=sq1 t;have b:(1+t*t)*(1+u*u)≠0:=fun e=>(Zb.1 e).elim j i;have C:(1-t*u)*(1-t*u)+(t+u)*(t+u)=(1+t*t)*(1+u*u):=by clear c s f l n r m b i j k e;grind
   have p:=QjY m n;have q:=QjZ m r;rw[C]at p q;generalize Xy A u=E at*;generalize Q3 A u=G at*;generalize Xy A t=F at*;generalize Q3 A t=H at*;generalize Xy A w=I at*;generalize Q3 A w=J at*;refine⟨He b ?_,He b ?_⟩
   ·rw[p,Qa0,c,f,s,l];clear c f s l p q C b i j k m n r e;grind
   ·rw[q,Qa1,c,f,s,l];clear c f s l p q C b i j k m n r e;grind
 ·simp only[thH,thT,D.and_true,R8,R7,o,v];obtain⟨y,z⟩:=xW (Xu A t);rw[y,z];show-Xy A t=_/\ -Q3 A t=_
  constructor<;>grind
 ·simp only[thH,thT,D.and_false,R8,R7,o,v];obtain⟨y,z⟩:=xW (Xu A u);rw[y,z];show-Xy A u=_/\ -Q3 A u=_
  constructor<;>grind
 ·simp only[thH,thT,D.and_self,R7,o,v];decide+kernel
def crs (u w:B×B):B:=u.1*w.2-u.2*w.1
def hit (u:B×B)(ws:C (B×B)):D:=ws.any fun w=> !(decide (crs u w=0))
def plV (f:FrV)(p:B×B):B×B:=(Vu f p.1 p.2,Vv f p.1 p.2)
theorem Qf3{b c:B}(h:a<=b)(e:0<=c):a*c<=b*c:=by
 have:=B.mul_nonneg (j4:0<=b-a) e;grind
theorem Qa2 (b:FrV)(q:B):(Y0 b ⟨0,0,A,q⟩).x=b.x/\(Y0 b ⟨0,0,A,q⟩).y=b.y:=⟨QjQ b,QjR b⟩
theorem Qja (f:FrV)(l:B):Xy (Y0 f ⟨l,0,A,0⟩).h (Y0 f ⟨l,0,A,0⟩).t=Xy f.h f.t/\Q3 (Y0 f ⟨l,0,A,0⟩).h (Y0 f ⟨l,0,A,0⟩).t=Q3 f.h f.t:=by
 obtain⟨h,b⟩:=xV f.h f.t A 0;have e:Xy A 0=1:=j5
 have c:Q3 A 0=0:=j5
 rw[e,c]at h b;exact⟨h.trans j4,b.trans j4⟩
theorem Qf4 (f:FrV)(a b c:B×B):lft (plV f a) (plV f b) (plV f c)=lft a b c:=by
 have:=cs1 f.h f.t;unfold lft plV Vu Vv;simp only;generalize Xy f.h f.t=e at*;generalize Q3 f.h f.t=s at*;grind
theorem vV {l:C (B×B)}(f:FrV)(h:QY l):QY (l.map (plV f)):=by
 refine⟨(j9 h.lo),(j9 h.hi),fun i k a b c q m e g j=> ?_⟩;simp only[C.length_map,C.getElem?_map,Option.map_eq_some_iff]at m e g j;obtain⟨n,e,rfl⟩:=e;obtain⟨o,g,rfl⟩:=g;obtain⟨p,j,rfl⟩:=j;rw[Qf4];exact h.left i k n o p q m e g j
def hPl (f:FrV)(p:B×B):B:=f.x*(p.1*Q3 f.h f.t+p.2*Xy f.h f.t)-f.y*(p.1*Xy f.h f.t-p.2*Q3 f.h f.t)
end Go.Proofs
namespace Go.Proofs
open Go Go.Eng
structure TqX where
 fs:C FrV
 f:FrV
 i:Nat
structure TqI (a:ArmV)(qs:C B)(x:TqX):Prop where
 eq:x.fs++[x.f]=XH (Xs a) a.za qs
 len:x.fs.length=a.za.length
 le:x.i<=a.za.length
def sVv (n:Nat)(l:C (B×B)):AV:= .x A [.s 6 (l.map (QS n))]
def Qjb:LC:=L95
theorem Qf5:QF Qjb:=QeB
theorem QUk {b:Type}{l:C b}{i:Nat}{a:b}(h:l[i]? =some a):l.drop i=a::l.drop (i+1):=by
 obtain⟨c,e⟩:=C.getElem?_eq_some_iff.1 h
 rw[C.drop_eq_getElem_cons c,e]
def Qjc:LC:=Qjb
theorem Qf6:QF Qjc:=Qf5
def Qjd:LC:=Qjc
theorem Qf7:QF Qjd:=Qf6
def Qje:LC:=Qjd
theorem Qf8:QF Qje:=Qf7
def Qjf:LC:=Qje
theorem Qf9:QF Qjf:=Qf8
def Qjg:LC:=Qjf
theorem QgA:QF Qjg:=Qf9
def Qjh:LC:=Qjg
theorem QgB:QF Qjh:=QgA
def qU:LC:=Qjh
noncomputable def Qla:Qd:=mkT qU M79 X4
theorem QgD:QF qU:=QgB
end Go.Proofs
