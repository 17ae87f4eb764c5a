/- The third joint, plainly. -/
import Derived.Test.YtjdhppdpbkoihaaGreatDoorIF
import Derived.Test.YtjdhppdpbkoihaaGreatDoorFG
import Derived.Test.YtjdhppdpbkoihaaGreatDoorTH
open Rat renaming mul_nonneg → Za, intCast_le_intCast → Zb, mul_eq_zero → Zc, intCast_mul → Zd, mul_pos → Zf, le_of_lt → Zh, div_mul_cancel → Zi, not_lt → Zj, mul_le_mul_of_nonneg_right → Zk, le_refl → Zl, intCast_sub → Zm, intCast_add → Zn
open Option renaming bind_some → Ze
open Classical renaming byContradiction → Zg
namespace Go.Proofs
open Go Go.Eng
section
variable {l m x y r0 r1:Rat}
theorem Sol.at (S:Sol l m x y r0 r1):x=l*QK false r0+m*(QK false r0*QK false r1-QO false r0*QO false r1)/\y=l*QO false r0+m*(QO false r0*QK false r1+QK false r0*QO false r1):=by
  obtain⟨k1,k2⟩:=YY r0;obtain⟨k3,k4⟩:=YY r1;have e0:=cs1 false r0;have n0:=Q5 r0;have n1:=Q5 r1;have l0:=S.l0;have h1:=S.q;have h2:=S.p;have h3:=S.sd;unfold fQ q2V q1V q0V at h1;unfold fP p2V p0V at h2;unfold sdV at h3;generalize QK false r0=c0 at*;generalize QO false r0=s0 at*;generalize QK false r1=c1 at*;generalize QO false r1=s1 at*;have a1:(1+r0*r0)*(kV l m x y-2*l*(x*c0+y*s0))=0:=by
    have:(1+r0*r0)*(kV l m x y-2*l*(x*c0+y*s0))=kV l m x y*(1+r0*r0)-2*l*(x*(c0*(1+r0*r0))+y*(s0*(1+r0*r0))):=by grind
    rw[this,k1,k2];grind
  have a2:(1+r1*r1)*(KO x y-(l*l+m*m+2*l*m*c1))=0:=by
    have:(1+r1*r1)*(KO x y-(l*l+m*m+2*l*m*c1))=(KO x y-(l*l+m*m))*(1+r1*r1)-2*l*m*(c1*(1+r1*r1)):=by grind
    rw[this,k3];grind
  have a3:(1+r0*r0)*(1+r1*r1)*(y*c0-x*s0-m*s1)=0:=by
    have:(1+r0*r0)*(1+r1*r1)*(y*c0-x*s0-m*s1)=(y*(c0*(1+r0*r0))-x*(s0*(1+r0*r0)))*(1+r1*r1)-(1+r0*r0)*(m*(s1*(1+r1*r1))):=by grind
    rw[this,k1,k2,k4];grind
  have z0:1+r0*r0≠0:=by grind
  have z1:1+r1*r1≠0:=by grind
  have b1:=(Zc.1 a1).resolve_left z0;have b2:=(Zc.1 a2).resolve_left z1;have b3:=(Zc.1 ((Zc.1 (by rw[Rat.mul_assoc]at a3;exact a3)).resolve_left z0)).resolve_left z1;have b4:l*(x*c0+y*s0-l-m*c1)=0:=by
    unfold kV at b1;grind
  have b5:=(Zc.1 b4).resolve_left (by grind);have f1:x=x*(c0*c0+s0*s0):=by rw[e0];grind
  have f2:y=y*(c0*c0+s0*s0):=by rw[e0];grind
  have f3:x*c0+y*s0=l+m*c1:=by grind
  have f4:y*c0-x*s0=m*s1:=by grind
  constructor
  · rw[f1];have:x*(c0*c0+s0*s0)=(x*c0+y*s0)*c0-(y*c0-x*s0)*s0:=by grind
    rw[this,f3,f4];grind
  · rw[f2];have:y*(c0*c0+s0*s0)=(x*c0+y*s0)*s0+(y*c0-x*s0)*c0:=by grind
    rw[this,f3,f4];grind
end
def nV (r0 r1:Rat)(h:Bool)(t:Rat):Rat:=bif h then 1-r0*r1 else t*(1-r0*r1)-(r0+r1)
def dV (r0 r1:Rat)(h:Bool)(t:Rat):Rat:=bif h then r0+r1 else(1-r0*r1)+t*(r0+r1)
def cT3 (r0 r1:Rat)(h:Bool)(t:Rat):Rat:=QK h t*(QK false r0*QK false r1-QO false r0*QO false r1)+QO h t*(QO false r0*QK false r1+QK false r0*QO false r1)
def sT3 (r0 r1:Rat)(h:Bool)(t:Rat):Rat:=QO h t*(QK false r0*QK false r1-QO false r0*QO false r1)-QK h t*(QO false r0*QK false r1+QK false r0*QO false r1)
section
variable {r0 r1 t:Rat}{h:Bool}
theorem QQh (hg:h=true->t=0):nV r0 r1 h t*nV r0 r1 h t+dV r0 r1 h t*dV r0 r1 h t=(1+t*t)*((1+r0*r0)*(1+r1*r1))/\
  dV r0 r1 h t*dV r0 r1 h t-nV r0 r1 h t*nV r0 r1 h t=(1+t*t)*((1+r0*r0)*(1+r1*r1))*cT3 r0 r1 h t/\2*nV r0 r1 h t*dV r0 r1 h t=(1+t*t)*((1+r0*r0)*(1+r1*r1))*sT3 r0 r1 h t:=by
 obtain⟨k1,k2⟩:=YY r0;obtain⟨k3,k4⟩:=YY r1;unfold cT3 sT3;cases h with
 | true=>
  have h0:=hg rfl;subst h0;have ct:QK true 0= -1:=rfl;have st:QO true 0=0:=rfl;rw[ct,st];unfold nV dV;simp only[R7];generalize QK false r0=c0 at*;generalize QO false r0=s0 at*;generalize QK false r1=c1 at*;generalize QO false r1=s1 at*;refine⟨by grind,?_,?_⟩
  ·have:(1+0*0)*((1+r0*r0)*(1+r1*r1))*(-1*(c0*c1-s0*s1)+0*(s0*c1+c0*s1))= -((c0*(1+r0*r0))*(c1*(1+r1*r1))-(s0*(1+r0*r0))*(s1*(1+r1*r1))):=by grind
   rw[this,k1,k2,k3,k4];grind
  ·have:(1+0*0)*((1+r0*r0)*(1+r1*r1))*(0*(c0*c1-s0*s1)- -1*(s0*c1+c0*s1))=(s0*(1+r0*r0))*(c1*(1+r1*r1))+(c0*(1+r0*r0))*(s1*(1+r1*r1)):=by grind
   rw[this,k1,k2,k3,k4];grind
 | false=>
  obtain⟨k5,k6⟩:=YY t;unfold nV dV;simp only[R8];generalize QK false r0=c0 at*;generalize QO false r0=s0 at*;generalize QK false r1=c1 at*;generalize QO false r1=s1 at*;generalize QK false t=c at*;generalize QO false t=s at*;refine⟨by grind,?_,?_⟩
  ·have:(1+t*t)*((1+r0*r0)*(1+r1*r1))*(c*(c0*c1-s0*s1)+s*(s0*c1+c0*s1))=(c*(1+t*t))*((c0*(1+r0*r0))*(c1*(1+r1*r1))-(s0*(1+r0*r0))*(s1*(1+r1*r1)))+(s*(1+t*t))*((s0*(1+r0*r0))*(c1*(1+r1*r1))+(c0*(1+r0*r0))*(s1*(1+r1*r1))):=by grind
   rw[this,k1,k2,k3,k4,k5,k6];grind
  ·have:(1+t*t)*((1+r0*r0)*(1+r1*r1))*(s*(c0*c1-s0*s1)-c*(s0*c1+c0*s1))=(s*(1+t*t))*((c0*(1+r0*r0))*(c1*(1+r1*r1))-(s0*(1+r0*r0))*(s1*(1+r1*r1)))-(c*(1+t*t))*((s0*(1+r0*r0))*(c1*(1+r1*r1))+(c0*(1+r0*r0))*(s1*(1+r1*r1))):=by grind
   rw[this,k1,k2,k3,k4,k5,k6];grind
theorem QKj:0<(1+t*t)*((1+r0*r0)*(1+r1*r1)):=by
 have a:=Q5 t;have b:=Q5 r0;have c:=Q5 r1;exact Zf (by grind) (Zf (by grind) (by grind))
theorem QB7 (hg:h=true->t=0)(hd:dV r0 r1 h t≠0):QK false (nV r0 r1 h t/dV r0 r1 h t)=cT3 r0 r1 h t/\QO false (nV r0 r1 h t/dV r0 r1 h t)=sT3 r0 r1 h t:=by
  obtain⟨e1,e2,e3⟩:=QQh (r0:=r0) (r1:=r1) hg;have hp:=QKj (r0:=r0) (r1:=r1) (t:=t);obtain⟨k1,k2⟩:=YY (nV r0 r1 h t/dV r0 r1 h t);generalize nV r0 r1 h t=n at*;generalize dV r0 r1 h t=d at*;generalize (1+t*t)*((1+r0*r0)*(1+r1*r1))=H at*;have hq:n/d*d=n:=Zi hd;generalize n/d=q at*;generalize QK false q=c at*;generalize QO false q=s at*;have f1:H*(c-cT3 r0 r1 h t)=0:=by
    have:H*c=d*d-n*n:=by
      rw[<-e1,<-hq];have:(q*d*(q*d)+d*d)*c=d*d*(c*(1+q*q)):=by grind
      rw[this,k1];grind
    grind
  have f2:H*(s-sT3 r0 r1 h t)=0:=by
    have:H*s=2*n*d:=by
      rw[<-e1,<-hq];have:(q*d*(q*d)+d*d)*s=d*d*(s*(1+q*q)):=by grind
      rw[this,k2];grind
    grind
  have g1:=(Zc.1 f1).resolve_left (by grind);have g2:=(Zc.1 f2).resolve_left (by grind);constructor<;>grind
theorem QDA (hg:h=true->t=0)(hd:dV r0 r1 h t=0):cT3 r0 r1 h t= -1/\sT3 r0 r1 h t=0:=by
 obtain⟨e1,e2,e3⟩:=QQh (r0:=r0) (r1:=r1) hg;have hp:=QKj (r0:=r0) (r1:=r1) (t:=t);rw[hd]at e1 e2 e3;generalize nV r0 r1 h t=n at*;generalize (1+t*t)*((1+r0*r0)*(1+r1*r1))=H at*;have f1:H*(cT3 r0 r1 h t+1)=0:=by grind
 have f2:H*sT3 r0 r1 h t=0:=by grind
 have g1:=(Zc.1 f1).resolve_left (by grind);have g2:=(Zc.1 f2).resolve_left (by grind);exact⟨by grind,g2⟩
theorem HT {a b:Rat}(hc:QK false a=QK false b)(hs:QO false a=QO false b):a=b:=(QGL (h:=false) (g:=false) (fun h=>by cases h) (fun h=>by cases h) hc hs).2
theorem QJP (a:Rat):QK false a≠ -1:=fun e=>by
 have k:=(YY a).1;rw[e]at k;have:=Q5 a;grind
theorem QGi (hg:h=true->t=0)(hd:dV r0 r1 h t≠0)(b:Rat):(QK false b=cT3 r0 r1 h t/\QO false b=sT3 r0 r1 h t)↔nV r0 r1 h t/dV r0 r1 h t=b:=by
  obtain⟨e1,e2⟩:=QB7 hg hd;rw[<-e1,<-e2];exact⟨fun h=>(HT h.1 h.2).symm,fun h=>by rw[h];exact⟨rfl,rfl⟩⟩
theorem QJQ (hg:h=true->t=0)(u:Rat):(QK true u=cT3 r0 r1 h t/\QO true u=sT3 r0 r1 h t)↔dV r0 r1 h t=0:=by
 constructor
 ·intro e;refine Zg fun hd=> ?_
  have:=(QB7 (r0:=r0) (r1:=r1) hg hd).1;rw[<-e.1]at this;exact QJP _ this
 ·intro hd;obtain⟨e1,e2⟩:=QDA (r0:=r0) (r1:=r1) hg hd;rw[e1,e2];exact⟨rfl,rfl⟩
end
end Go.Proofs
namespace Go.Proofs
open Go Go.Eng
theorem QKk (h:Bool)(t:Rat)(g:Bool)(u:Rat):QK (thH h t g (-u)) (thT h t g (-u))=QK h t*QK g u+QO h t*QO g u/\QO (thH h t g (-u)) (thT h t g (-u))=QO h t*QK g u-QK h t*QO g u:=by
 obtain⟨e1,e2⟩:=JK h t g (-u);rw[(GR g u).1,(GR g u).2]at e1 e2;rw[e1,e2];constructor<;>grind
theorem QQi (m x:Rat)(h:Bool)(t:Rat)(g:Bool)(u:Rat):isX m x h t g u=x-m*(QK h t*QK g u+QO h t*QO g u):=by
 unfold isX;rw[(QKk h t g u).1];have:((0:Int):Rat)=0:=rfl;rw[this];grind
theorem QQj (m y:Rat)(h:Bool)(t:Rat)(g:Bool)(u:Rat):isY m y h t g u=y-m*(QO h t*QK g u-QK h t*QO g u):=by
 unfold isY;rw[(QKk h t g u).2];have:((0:Int):Rat)=0:=rfl;rw[this];grind
theorem QGj {p q:Rat}:Xk p q=0↔p=q:=by
 have h1:=J2 p q;have h2:=QBS p q;constructor
 ·intro e;exact Rat.le_antisymm (h1.1 (by omega)) (h2.1 (by omega))
 ·intro e;have a:=h1.2 (by rw[e];exact Zl);have b:=h2.2 (by rw[e];exact Zl);omega
section
variable {l m x y r0 r1:Rat}{q:List Rat}{ch:List (List Rat)}{U V:Rat->Int}{sep M:Rat}{E j:Nat}{s:Sp}
theorem QXk (R:Rdy q (fQ l m x y) ch U V sep M E)(hl:Bd 3 l){X Y:Rat}(hX:Bd 3000 X)(hY:Bd 3000 Y):
    isZ ⟨q,s⟩ l X Y=some (decide (l+X≠0/\X*X+Y*Y=l*l/\(s.lo<=Y/(l+X)/\Y/(l+X)<=s.hi)/\fQ l m x y (Y/(l+X))=0)):=by
  have a:=XV hl hX;have b:=Qg hX hX;have c:=Qg hY hY;have d:=Qg hl hl;unfold isZ;rw[Xo hl hX (by omega)];simp only[Ze];by_cases h0:l+X=0
  · have:((l+X).num==0)=true:=by rw[h0];rfl
    rw[this];simp[h0]
  · have:((l+X).num==0)=false:=by
      cases hb:(l+X).num==0 with
      | false=>rfl
      | true=>exact absurd (Rat.num_eq_zero.1 (by simpa using hb)) h0
    rw[this];simp only[R8];rw[UC hY a h0 (by omega)];simp only[Ze];have hq:=XR hY a h0;generalize Y/(l+X)=z at*;unfold Kf sqZ;rw[XD hX hX (by omega),XD hY hY (by omega)];simp only[Ze];rw[Xo b c (by omega),XD hl hl (by omega)];simp only[Ze];by_cases h1:X*X+Y*Y=l*l
    · have:(Xk (X*X+Y*Y) (l*l) !=0)=false:=by rw[QGj.2 h1];rfl
      rw[this];simp only[R8];by_cases h2:s.lo<=z/\z<=s.hi
      · have:Qm ⟨s.lo,s.hi⟩ z=true:=We.2 h2;rw[this];simp only[Bool.not_true,R8];have hz:Bd 20000 z:=hq.mono (by omega);rw[R.count (s:=⟨z,z⟩) hz hz];simp only[Ze];have k1:=R.root z;have k2:=R.cnt.le z;by_cases h3:fQ l m x y z=0
        · have k3:=k1.2 h3;have:U z-V z=1:=by omega
          rw[this];simp[h0,h1,h2,h3]
        · have:U z-V z=0:=by
            have: ¬U z≠V z:=fun k=>h3 (k1.1 k);omega
          rw[this];simp[h3]
      · have:Qm ⟨s.lo,s.hi⟩ z=false:=by
          cases hb:Qm ⟨s.lo,s.hi⟩ z with
          | false=>rfl
          | true=>exact absurd (We.1 hb) h2
        rw[this];simp only[Bool.not_false,R7];simp[h2]
    · have:(Xk (X*X+Y*Y) (l*l) !=0)=true:=by
        cases hb:Xk (X*X+Y*Y) (l*l) !=0 with
        | true=>rfl
        | false=>exact absurd (QGj.1 (by simpa using hb)) h1
      rw[this];simp[h1]
theorem QXl (R:Rdy q (fQ l m x y) ch U V sep M E)(hs:WT (fQ l m x y) U V M j s)(S:Sol l m x y r0 r1)(hi:s.lo<=r0/\r0<=s.hi)(hl:Bd 3 l)(h:Bool)(t:Rat)(g:Bool)(u:Rat)(hX:Bd 3000 (isX m x h t g u))(hY:Bd 3000 (isY m y h t g u)):
    ∃b,isZ ⟨q,s⟩ l (isX m x h t g u) (isY m y h t g u)=some b/\(b=true↔(QK g u=cT3 r0 r1 h t/\QO g u=sT3 r0 r1 h t)):=by
  refine⟨_,QXk R hl hX hY,?_⟩;rw[decide_eq_true_iff,QQi,QQj];obtain⟨ex,ey⟩:=S.at;obtain⟨k1,k2⟩:=YY r0;have e0:=cs1 false r0;have eT:=cs1 h t;have n0:=Q5 r0;have l0:=S.l0;have m0:=S.m0;have hq:=S.q;unfold cT3 sT3;generalize QK false r0=c0 at*;generalize QO false r0=s0 at*;generalize QK false r1=c1 at*;generalize QO false r1=s1 at*;generalize QK h t=C at*;generalize QO h t=T at*;generalize QK g u=c at*;generalize QO g u=d at*;have ep:c0*c1-s0*s1=c0*c1-s0*s1:=rfl;generalize hp:c0*c1-s0*s1=p at*;generalize hp2:s0*c1+c0*s1=p2 at*;have z0:1+r0*r0≠0:=by grind
  have hc1:(1+c0)*(1+r0*r0)=2:=by grind
  constructor
  · rintro⟨h1,h2,h3,h4⟩;have er:(y-m*(T*c-C*d))/(l+(x-m*(C*c+T*d)))=r0:=by
      generalize (y-m*(T*c-C*d))/(l+(x-m*(C*c+T*d)))=z at*;refine Zg fun hne=> ?_
      rcases(show z<r0∨r0<z by grind)with hlt | hlt
      · exact R.uniq hs hlt h4 hq h3.1 hi.2
      · exact R.uniq hs hlt hq h4 hi.1 h3.2
    have eY:y-m*(T*c-C*d)=r0*(l+(x-m*(C*c+T*d))):=by rw[<-er];exact(Zi h1).symm
    generalize hXX:x-m*(C*c+T*d)=X at*;generalize hYY:y-m*(T*c-C*d)=Y at*;have f1:(l+X)*(X*(1+r0*r0)-l*(1-r0*r0))=0:=by
      rw[eY]at h2;grind
    have f2:=(Zc.1 f1).resolve_left h1;have f3:(1+r0*r0)*(X-l*c0)=0:=by
      have:(1+r0*r0)*(X-l*c0)=X*(1+r0*r0)-l*(c0*(1+r0*r0)):=by grind
      rw[this,k1];exact f2
    have f4:X=l*c0:=by have:=(Zc.1 f3).resolve_left z0;grind
    have f5:(1+r0*r0)*(Y-l*s0)=0:=by
      have:(1+r0*r0)*(Y-l*s0)=Y*(1+r0*r0)-l*(s0*(1+r0*r0)):=by grind
      rw[this,k2,eY];have:r0*(l+X)*(1+r0*r0)-l*(2*r0)=r0*(X*(1+r0*r0)-l*(1-r0*r0)):=by grind
      rw[this,f2];grind
    have f6:Y=l*s0:=by have:=(Zc.1 f5).resolve_left z0;grind
    have g1:m*(C*c+T*d-p)=0:=by grind
    have g2:m*(T*c-C*d-p2)=0:=by grind
    have g1:=(Zc.1 g1).resolve_left (by grind);have g2:=(Zc.1 g2).resolve_left (by grind);have g1:p=C*c+T*d:=by grind
    have g2:p2=T*c-C*d:=by grind
    constructor
    · rw[g1,g2];have:C*(C*c+T*d)+T*(T*c-C*d)=c*(C*C+T*T):=by grind
      rw[this,eT];grind
    · rw[g1,g2];have:T*(C*c+T*d)-C*(T*c-C*d)=d*(C*C+T*T):=by grind
      rw[this,eT];grind
  · rintro⟨h1,h2⟩;have g1:C*c+T*d=p:=by
      rw[h1,h2];have:C*(C*p+T*p2)+T*(T*p-C*p2)=p*(C*C+T*T):=by grind
      rw[this,eT];grind
    have g2:T*c-C*d=p2:=by
      rw[h1,h2];have:T*(C*p+T*p2)-C*(T*p-C*p2)=p2*(C*C+T*T):=by grind
      rw[this,eT];grind
    rw[g1,g2];have f1:x-m*p=l*c0:=by grind
    have f2:y-m*p2=l*s0:=by grind
    rw[f1,f2];have hn:l+l*c0≠0:=by
      intro e;have:l*((1+c0)*(1+r0*r0))=0:=by
        have:l*((1+c0)*(1+r0*r0))=(l+l*c0)*(1+r0*r0):=by grind
        rw[this,e];grind
      rw[hc1]at this;grind
    have er:l*s0/(l+l*c0)=r0:=by
      have h1:r0*(l+l*c0)=l*s0:=by
        have:(1+r0*r0)*(r0*(l+l*c0)-l*s0)=0:=by
          have:(1+r0*r0)*(r0*(l+l*c0)-l*s0)=l*(r0*((1+c0)*(1+r0*r0))-s0*(1+r0*r0)):=by grind
          rw[this,hc1,k2];grind
        have:=(Zc.1 this).resolve_left z0;grind
      rw[<-h1];exact Rat.mul_div_cancel hn
    rw[er];refine⟨hn,?_,hi,hq⟩;have:l*c0*(l*c0)+l*s0*(l*s0)=l*l*(c0*c0+s0*s0):=by grind
    rw[this,e0];grind
end
end Go.Proofs
namespace Go.Proofs
open Go Go.Eng
def Nr (v e x:Rat):Prop:=v-e<=x/\x<=v+e
def SNr (s:Sp)(v e:Rat):Prop:=Nr v e s.lo/\Nr v e s.hi
theorem Nr.abs {v e x:Rat}(h:Nr v e x): -e<=x-v/\x-v<=e:=by obtain⟨a,b⟩:=h;constructor<;>grind
theorem SNr.mono {s:Sp}{v e f:Rat}(h:SNr s v e)(k:e<=f):SNr s v f:=by
 obtain⟨⟨a,b⟩,c,d⟩:=h;exact⟨⟨by grind,by grind⟩,by grind,by grind⟩
theorem SNr.one (v:Rat):SNr ⟨v,v⟩ v 0:=⟨⟨by grind,by grind⟩,by show v-0<=v;grind,by show v<=v+0;grind⟩
theorem SNr.add {s t:Sp}{v e u f:Rat}(h:SNr s v e)(k:SNr t u f):SNr (QBy s t) (v+u) (e+f):=by
 obtain⟨⟨a,b⟩,c,d⟩:=h;obtain⟨⟨a',b'⟩,c',d'⟩:=k;unfold QBy;exact⟨⟨by show v+u-(e+f)<=s.lo+t.lo;grind,by show s.lo+t.lo<=_;grind⟩,by show _<=s.hi+t.hi;grind,by show s.hi+t.hi<=_;grind⟩
theorem SNr.sub {s t:Sp}{v e u f:Rat}(h:SNr s v e)(k:SNr t u f):SNr (QBz s t) (v-u) (e+f):=by
 obtain⟨⟨a,b⟩,c,d⟩:=h;obtain⟨⟨a',b'⟩,c',d'⟩:=k;unfold QBz;exact⟨⟨by show v-u-(e+f)<=s.lo-t.hi;grind,by show s.lo-t.hi<=_;grind⟩,by show _<=s.hi-t.lo;grind,by show s.hi-t.lo<=_;grind⟩
theorem QB8 {s t:Sp}{P:Rat->Prop}(h: ∀a b,(a=s.lo∨a=s.hi)->(b=t.lo∨b=t.hi)->P (a*b)):P (Js s t).lo/\P (Js s t).hi:=by
 have h1:=h _ _ (.inl rfl) (.inl rfl);have h2:=h _ _ (.inl rfl) (.inr rfl);have h3:=h _ _ (.inr rfl) (.inl rfl);have h4:=h _ _ (.inr rfl) (.inr rfl);have mn: ∀{a b:Rat},P a->P b->P (Q9 a b):=fun {a b} ha hb=>by rcases QIc a b with e | e<;>rw[e]<;>assumption
 have mx: ∀{a b:Rat},P a->P b->P (XL a b):=fun {a b} ha hb=>by rcases QId a b with e | e<;>rw[e]<;>assumption
 unfold Js;exact⟨mn (mn (mn h1 h2) h3) h4,mx (mx (mx h1 h2) h3) h4⟩
theorem SNr.mul {s t:Sp}{v e u f A B:Rat}(h:SNr s v e)(k:SNr t u f)(hA: -A<=v/\v<=A)(hB:(-B<=t.lo/\t.lo<=B)/\ -B<=t.hi/\t.hi<=B):SNr (Js s t) (v*u) (e*B+A*f):=by
 refine QB8 fun a b ha hb=> ?_
 have na:Nr v e a:=by rcases ha with rfl | rfl;exact h.1;exact h.2
 have nb:Nr u f b:=by rcases hb with rfl | rfl;exact k.1;exact k.2
 have bb: -B<=b/\b<=B:=by rcases hb with rfl | rfl;exact hB.1;exact hB.2
 obtain⟨a1,a2⟩:=na.abs;obtain⟨b1,b2⟩:=nb.abs;have p:=Wx a1 a2 bb.1 bb.2;have q:=Wx hA.1 hA.2 b1 b2;constructor<;>grind
theorem QT0 {D e:Rat}{s:Sp}(h:SNr s D e)(hd:e<D∨D< -e):(0<s.lo/\0<s.hi)∨(s.lo<0/\s.hi<0):=by
 obtain⟨⟨a,b⟩,c,d⟩:=h;rcases hd with hd | hd
 ·left;constructor<;>grind
 ·right;constructor<;>grind
theorem QGk {s:Sp}:WH s=true↔(0<s.lo/\0<s.hi)∨(s.lo<0/\s.hi<0):=by
 unfold WH;rw[decide_eq_true_iff];rcases QMT s.lo with⟨e,h1⟩ | ⟨e,h1⟩ | ⟨e,h1⟩<;>rcases QMT s.hi with⟨f,h2⟩ | ⟨f,h2⟩ | ⟨f,h2⟩<;>rw[e,f]
 ·exact⟨fun _=> .inr ⟨h1,h2⟩,fun _=>by decide⟩
 ·exact⟨fun h=>absurd h (by decide),fun h=>by grind⟩
 ·exact⟨fun h=>absurd h (by decide),fun h=>by grind⟩
 ·exact⟨fun h=>absurd h (by decide),fun h=>by grind⟩
 ·exact⟨fun h=>absurd h (by decide),fun h=>by grind⟩
 ·exact⟨fun h=>absurd h (by decide),fun h=>by grind⟩
 ·exact⟨fun h=>absurd h (by decide),fun h=>by grind⟩
 ·exact⟨fun h=>absurd h (by decide),fun h=>by grind⟩
 ·exact⟨fun _=> .inl ⟨h1,h2⟩,fun _=>by decide⟩
theorem QMc {s t:Sp}{n d:Rat}(h:s.has n)(k:t.has d)(hd:WH t=true):d≠0/\(Gv s t).has (n/d):=by
 obtain⟨k1,k2⟩:=k;have one:((1:Int):Rat)=1:=rfl;have key:d≠0/\0<d*t.hi/\0<t.lo*d/\t.lo≠0/\t.hi≠0:=by
  rcases QGk.1 hd with⟨a,b⟩ | ⟨a,b⟩
  ·exact⟨by grind,Zf (by grind) b,Zf a (by grind),by grind,by grind⟩
  ·exact⟨by grind,QJO (by grind) b,QJO a (by grind),by grind,by grind⟩
 obtain⟨a0,a1,a2,a3,a4⟩:=key;refine⟨a0,?_⟩;have e:n/d=n*(((1:Int):Rat)/d):=by rw[one];grind
 rw[e];exact GH h ⟨QJG k2 a1 a0 a4,QJG k1 a2 a3 a0⟩
theorem QQk {s t:Sp}{N D q e η:Rat}(h:SNr s N e)(k:SNr t D e)(hq:q*D=N){C:Rat}(hC: -C<=q/\q<=C){Y:Rat}(hY:Y=D∨Y= -D)(h0:0<=e)(h1:2*e<Y)(h2:2*(e*(1+C))<=η*Y):WH t=true/\SNr (Gv s t) q η:=by
  have hn:=QT0 k (by rcases hY with rfl | rfl<;>grind);refine⟨QGk.2 hn,QB8 fun a b ha hb=> ?_⟩;have na:Nr N e a:=by rcases ha with rfl | rfl;exact h.1;exact h.2
  obtain⟨d,nd,hd0,rfl⟩: ∃d,Nr D e d/\((0<d/\0<D)∨(d<0/\D<0))/\b=((1:Int):Rat)/d:=by
    obtain⟨⟨g1,g2⟩,g3,g4⟩:=k;rcases hb with rfl | rfl
    · exact⟨t.hi,⟨g3,g4⟩,by rcases hY with rfl | rfl;left;constructor<;>grind;right;constructor<;>grind,rfl⟩
    · exact⟨t.lo,⟨g1,g2⟩,by rcases hY with rfl | rfl;left;constructor<;>grind;right;constructor<;>grind,rfl⟩
  obtain⟨a1,a2⟩:=na.abs;obtain⟨b1,b2⟩:=nd.abs;have one:((1:Int):Rat)=1:=rfl;have hd1:d≠0:=by grind
  have e1:a*(((1:Int):Rat)/d)*d=a:=by rw[one];grind
  generalize a*(((1:Int):Rat)/d)=z at*;-- (z - q) d = (a - N) - q (d - D)
  have e2:(z-q)*d=(a-N)-q*(d-D):=by rw[<-hq];grind
  have p:=Wx hC.1 hC.2 b1 b2;have p1: -(e+C*e)<=(z-q)*d/\(z-q)*d<=e+C*e:=by rw[e2];constructor<;>grind
  have hη:0<=η:=by
    refine Zj.1 fun c=> ?_
    have:=Zf (a:= -η) (b:=Y) (by grind) (by grind);have:=Za h0 (show 0<=1+C by grind);grind
  -- |d| at least Y / 2
  have p2:η*Y<=2*(η*d)∨η*Y<=2*(η*(-d)):=by
    rcases hd0 with⟨c1,c2⟩ | ⟨c1,c2⟩
    · left;have:=Za hη (show 0<=2*d-Y by rcases hY with rfl | rfl<;>grind);grind
    · right;have:=Za hη (show 0<=2*(-d)-Y by rcases hY with rfl | rfl<;>grind);grind
  rcases hd0 with⟨c1,c2⟩ | ⟨c1,c2⟩
  · have p3:e+C*e<=η*d:=by
      rcases p2 with p2 | p2
      · grind
      · have:=Za hη (Zh c1);grind
    constructor
    · refine Zj.1 fun c=> ?_
      have:=Zf (a:=q-η-z) (b:=d) (by grind) c1;grind
    · refine Zj.1 fun c=> ?_
      have:=Zf (a:=z-q-η) (b:=d) (by grind) c1;grind
  · have p3:e+C*e<=η*(-d):=by
      rcases p2 with p2 | p2
      · have:=Za hη (show 0<= -d by grind);grind
      · grind
    constructor
    · refine Zj.1 fun c=> ?_
      have:=Zf (a:=q-η-z) (b:= -d) (by grind) (by grind);grind
    · refine Zj.1 fun c=> ?_
      have:=Zf (a:=z-q-η) (b:= -d) (by grind) (by grind);grind
section
variable {a b:RtV}{r0 r1 t w:Rat}{h:Bool}
structure Uq (a b:RtV)(r0 r1 w:Rat):Prop where
  ha:a.s.has r0
  hb:b.s.has r1
  wa:a.s.hi-a.s.lo<=w
  wb:b.s.hi-b.s.lo<=w
theorem QGl {s:Sp}{x w:Rat}(h:s.has x)(k:s.hi-s.lo<=w):SNr s x w:=by
 obtain⟨h1,h2⟩:=h;exact⟨⟨by grind,by grind⟩,by grind,by grind⟩
theorem Uq.parts (H:Uq a b r0 r1 w)(hw:w<=1)(h1: -2<=r1/\r1<=2){A:Rat}(hA: -A<=r0/\r0<=A):SNr (QQD (a,b)) (1-r0*r1) ((3+A)*w)/\SNr (QGc (a,b)) (r0+r1) (2*w):=by
 have na:=QGl H.ha H.wa;have nb:=QGl H.hb H.wb;have hb:(-3<=b.s.lo/\b.s.lo<=3)/\ -3<=b.s.hi/\b.s.hi<=3:=by
  obtain⟨⟨k1,k2⟩,k3,k4⟩:=nb;exact⟨⟨by grind,by grind⟩,by grind,by grind⟩
 have one:((1:Int):Rat)=1:=rfl;constructor
 ·have:=(SNr.one (((1:Int):Rat))).sub (na.mul nb hA hb);rw[one]at this;exact this.mono (by grind)
 ·exact(na.add nb).mono (by grind)
theorem Uq.nd (H:Uq a b r0 r1 w)(hw:w<=1)(h0:0<=w)(h1: -2<=r1/\r1<=2){A T:Rat}(hA: -A<=r0/\r0<=A)(hT: -T<=t/\t<=T):
  SNr (QB0 (a,b) h t) (nV r0 r1 h t) (3*((1+T)*(1+A)*w))/\SNr (JC (a,b) h t) (dV r0 r1 h t) (3*((1+T)*(1+A)*w)):=by
 obtain⟨n1,n2⟩:=H.parts hw h1 hA;have a0:0<=A:=by grind
 have t0:0<=T:=by grind
 have p1:=Za a0 h0;have p2:=Za t0 h0;have p3:=Za t0 p1;have QNa: ∀{s:Sp} {v e:Rat},SNr s v e->SNr (Js ⟨t,t⟩ s) (t*v) (T*e):=fun {s v e} hs=>by
  refine QB8 fun c d hc hd=> ?_
  have nd:Nr v e d:=by rcases hd with rfl | rfl;exact hs.1;exact hs.2
  have ec:c=t:=by rcases hc with rfl | rfl<;>rfl
  subst ec;obtain⟨d1,d2⟩:=nd.abs;have:=Wx hT.1 hT.2 d1 d2;constructor<;>grind
 unfold QB0 JC nV dV;cases h with
 | true=>
  simp only[R7];exact⟨n1.mono (by grind),n2.mono (by grind)⟩
 | false=>
  simp only[R8];exact⟨((QNa n1).sub n2).mono (by grind),(n1.add (QNa n2)).mono (by grind)⟩
theorem QXm {a b:Rat}(hb:0<=b)(h:a*a<=b*b):a<=b:=by
 refine Zj.1 fun k=> ?_
 have:=Zf (a:=a-b) (b:=a+b) (by grind) (by grind);grind
theorem QXn (hg:h=true->t=0)(hd:dV r0 r1 h t≠0){A T C Y:Rat}(hA:A=r0∨A= -r0)(hA0:0<=A)(hT:T=t∨T= -t)(hT0:0<=T)(hC:C=nV r0 r1 h t/dV r0 r1 h t∨C= -(nV r0 r1 h t/dV r0 r1 h t))(hC0:0<=C)(hY:Y=dV r0 r1 h t∨Y= -dV r0 r1 h t)(hY0:0<=Y):(1+T)*(1+A)<=2*(Y*(1+C)):=by
  have e1:=(QQh (r0:=r0) (r1:=r1) hg).1;have n1:=Q5 r1;have nt:=Q5 t;have n0:=Q5 r0;have hq:nV r0 r1 h t/dV r0 r1 h t*dV r0 r1 h t=nV r0 r1 h t:=Zi hd;generalize nV r0 r1 h t/dV r0 r1 h t=q at*;generalize nV r0 r1 h t=n at*;generalize dV r0 r1 h t=d at*;have eA:A*A=r0*r0:=by rcases hA with rfl | rfl<;>grind
  have eT:T*T=t*t:=by rcases hT with rfl | rfl<;>grind
  have eC:C*C=q*q:=by rcases hC with rfl | rfl<;>grind
  have eY:Y*Y=d*d:=by rcases hY with rfl | rfl<;>grind
  refine QXm (by have:=Za hY0 (show 0<=1+C by grind);grind) ?_
  -- (1+T)² (1+A)² ≤ 4 (1+t²)(1+r0²) ≤ 4 Y² (1 + C²) ≤ 4 Y² (1+C)²
  have k1:(1+T)*(1+T)<=2*(1+t*t):=by have:=Q5 (1-T);grind
  have k2:(1+A)*(1+A)<=2*(1+r0*r0):=by have:=Q5 (1-A);grind
  have k3:(1+T)*(1+A)*((1+T)*(1+A))<=4*((1+t*t)*(1+r0*r0)):=by
    have p1:=Za (a:=2*(1+t*t)-(1+T)*(1+T)) (b:=(1+A)*(1+A)) (by grind) (by have:=Q5 (1+A);grind);have p2:=Za (a:=2*(1+t*t)) (b:=2*(1+r0*r0)-(1+A)*(1+A)) (by grind) (by grind);grind
  have k4:(1+t*t)*(1+r0*r0)<=Y*Y*(1+C*C):=by
    have:Y*Y*(1+C*C)=(1+t*t)*((1+r0*r0)*(1+r1*r1)):=by rw[<-e1,eY,eC,<-hq];grind
    rw[this];have:=Za (Za (a:=1+t*t) (b:=1+r0*r0) (by grind) (by grind)) n1;grind
  have k5:Y*Y*(1+C*C)<=Y*(1+C)*(Y*(1+C)):=by
    have:=Za (Za hY0 hY0) hC0;grind
  grind
theorem Uq.value (H:Uq a b r0 r1 w)(h0:0<=w)(h1: -2<=r1/\r1<=2)(hg:h=true->t=0)(hd:dV r0 r1 h t≠0){C:Rat}(hC:C=nV r0 r1 h t/dV r0 r1 h t∨C= -(nV r0 r1 h t/dV r0 r1 h t))(hC0:0<=C)(hw:12*(w*(1+C))<1):
    WH (JC (a,b) h t)=true/\SNr (thV (a,b) h t) (nV r0 r1 h t/dV r0 r1 h t) (12*(w*((1+C)*(1+C)))):=by
  obtain⟨A,hA,hA0⟩: ∃A,(A=r0∨A= -r0)/\0<=A:=by
    rcases WS r0 with⟨e,h⟩ | ⟨e,h⟩
    · exact⟨r0,.inl rfl,by grind⟩
    · exact⟨-r0,.inr rfl,by grind⟩
  obtain⟨T,hT,hT0⟩: ∃T,(T=t∨T= -t)/\0<=T:=by
    rcases WS t with⟨e,h⟩ | ⟨e,h⟩
    · exact⟨t,.inl rfl,by grind⟩
    · exact⟨-t,.inr rfl,by grind⟩
  obtain⟨Y,hY,hY0⟩: ∃Y,(Y=dV r0 r1 h t∨Y= -dV r0 r1 h t)/\0<=Y:=by
    rcases WS (dV r0 r1 h t)with⟨e,h⟩ | ⟨e,h⟩
    · exact⟨_,.inl rfl,by grind⟩
    · exact⟨_,.inr rfl,by grind⟩
  have hG:=QXn hg hd hA hA0 hT hT0 hC hC0 hY hY0;have hw1:w<=1:=by have:=Za h0 hC0;grind
  have hAb: -A<=r0/\r0<=A:=by rcases hA with rfl | rfl<;>constructor<;>grind
  have hTb: -T<=t/\t<=T:=by rcases hT with rfl | rfl<;>constructor<;>grind
  obtain⟨n1,n2⟩:=H.nd (h:=h) hw1 h0 h1 hAb hTb;have hq:nV r0 r1 h t/dV r0 r1 h t*dV r0 r1 h t=nV r0 r1 h t:=Zi hd;have hY1:0<Y:=by rcases hY with rfl | rfl<;>grind
  have hCb: -C<=nV r0 r1 h t/dV r0 r1 h t/\nV r0 r1 h t/dV r0 r1 h t<=C:=by
    generalize nV r0 r1 h t/dV r0 r1 h t=q at*;rcases hC with rfl | rfl<;>constructor<;>grind
  have g0:0<=(1+T)*(1+A):=Za (by grind) (by grind);have gw:=Za g0 h0;generalize (1+T)*(1+A)=G at*;have p1:=Za (a:=2*(Y*(1+C))-G) (b:=w) (by grind) h0;have p2:=Za (a:=(2*(Y*(1+C))-G)*w) (b:=1+C) p1 (by grind);have p3:=Zf (a:=Y) (b:=1-12*(w*(1+C))) hY1 (by grind);exact QQk (C:=C) (Y:=Y) n1 n2 hq hCb hY (by grind) (by grind) (by grind)
end
end Go.Proofs
namespace Go.Proofs
open Go Go.Eng
theorem Rdy.fine3 {p:List Rat}{f:Rat->Rat}{ch:List (List Rat)}{U V:Rat->Int}{sep M:Rat}{E:Nat}(R:Rdy p f ch U V sep M E){j n:Nat}{s:Sp}{den:Int}(hs:WT f U V M j s)(hj:E+j+n+1<=20000)(hw:s.hi-s.lo<=((1:Int):Rat)/(den:Rat)*((2^n:Nat):Rat)):
  ∃s',JB ⟨p,s⟩ den=some ⟨p,s'⟩/\WT f U V M (j+n) s'/\s'.hi-s'.lo<=((1:Int):Rat)/(den:Rat)/\ ∀u,f u=0->s.has u->s'.has u:=by
 have C:=R.cnt;obtain⟨s',f1,f2,f3,f4,f5,f6,f7,f8⟩:=C.fine M.den_pos R.mbd.2 R.mbd.1 n FU j s (by unfold FU;omega) (by omega) hs.gl hs.gh hs.le hs.one hw;refine⟨s',?_,⟨f4,f2,f7,f8,by have:=hs.wd;grind⟩,f6,fun u hu h=>C.keep hs.one f2 f3 f5 ((R.root u).2 hu) h.1 h.2⟩;unfold JB Gl;rw[R.rdy];simp only[Ze];rw[C.cnt s ((hs.gl.bd R.mbd).mono (by omega)) ((hs.gh.bd R.mbd).mono (by omega)),hs.one];simp only[Ze,show((1:Int)==1)=true from rfl,R7];rw[f1];rfl
theorem QT1 {a b:Rat}:Xk a b<0↔a<b:=by
 have:=QBS a b;constructor
 ·intro h;exact Rat.not_le.1 fun k=>by have:=this.2 k;omega
 ·intro h;exact Int.not_le.1 fun k=>by have:=this.1 k;grind
theorem QKl {a b:Rat}:0<Xk a b↔b<a:=by
 have:=J2 a b;constructor
 ·intro h;exact Rat.not_le.1 fun k=>by have:=this.2 k;omega
 ·intro h;exact Int.not_le.1 fun k=>by have:=this.1 k;grind
section
variable {a b:RtV}{r0 r1 t:Rat}{h:Bool}
theorem QXo (ha:a.s.has r0)(hb:b.s.has r1):(QB0 (a,b) h t).has (nV r0 r1 h t)/\(JC (a,b) h t).has (dV r0 r1 h t):=by
 have add: ∀{s u:Sp} {x y:Rat},s.has x->u.has y->(QBy s u).has (x+y):=fun {s u x y} h k=>by
  obtain⟨h1,h2⟩:=h;obtain⟨k1,k2⟩:=k;exact⟨by show s.lo+u.lo<=x+y;grind,by show x+y<=s.hi+u.hi;grind⟩
 have sub: ∀{s u:Sp} {x y:Rat},s.has x->u.has y->(QBz s u).has (x-y):=fun {s u x y} h k=>by
  obtain⟨h1,h2⟩:=h;obtain⟨k1,k2⟩:=k;exact⟨by show s.lo-u.hi<=x-y;grind,by show x-y<=s.hi-u.lo;grind⟩
 have one:((1:Int):Rat)=1:=rfl;have d:(QQD (a,b)).has (1-r0*r1):=by
  have:=sub (s:=⟨((1:Int):Rat),((1:Int):Rat)⟩) (x:=1) ⟨Zl,Zl⟩ (GH ha hb);exact this
 have s:(QGc (a,b)).has (r0+r1):=add ha hb;have T: ∀{s:Sp} {x:Rat},s.has x->(Js ⟨t,t⟩ s).has (t*x):=fun h=>GH ⟨Zl,Zl⟩ h;unfold QB0 JC nV dV;cases h with
 | true=>exact⟨d,s⟩
 | false=>exact⟨sub (T d) s,add d (T s)⟩
def QKm (r0 r1 r2 lo hi:Rat)(O:List Sp):Prop:=(O=[]/\ ¬(lo<=r2/\r2<=hi))∨ ∃a b c:Sp,O=[a,b,c]/\a.has r0/\b.has r1/\c.has r2
theorem QXp {lo hi r:Rat}{aL aH:Bool}{v:Sp}(hf:fdS lo hi aL aH v=some false)(hv:v.has r): ¬(lo<=r/\r<=hi):=by
 rintro⟨h1,h2⟩;obtain⟨v1,v2⟩:=hv;unfold fdS at hf;cases e1:decide (0<Xk (v.hi-v.lo) UX)with
 | true=>rw[e1]at hf;cases hf
 | false=>
  rw[e1]at hf;have k1:decide (Xk v.hi lo<0)=false:=decide_eq_false fun k=>by have:=QT1.1 k;grind
  have k2:decide (0<Xk v.lo hi)=false:=decide_eq_false fun k=>by have:=QKl.1 k;grind
  rw[k1,k2]at hf;simp only[Bool.and_false,Bool.or_false,R8]at hf;cases e:(!aL&&Qm v lo) || (!aH&&Qm v hi)with
  | true=>rw[e]at hf;cases hf
  | false=>rw[e]at hf;cases hf
def UY (r b η:Rat):Prop:=r=b∨η<r-b∨η<b-r
theorem QT2 {lo hi r η:Rat}{aL aH:Bool}{v:Sp}(hL:aL=true↔r=lo)(hH:aH=true↔r=hi)(hv:SNr v r η)(hη:2*η<=UX)(sL:UY r lo η)(sH:UY r hi η):fdS lo hi aL aH v≠none:=by
 intro hf;obtain⟨⟨v1,v2⟩,v3,v4⟩:=hv;unfold fdS at hf;have k0:decide (0<Xk (v.hi-v.lo) UX)=false:=decide_eq_false fun k=>by have:=QKl.1 k;grind
 rw[k0]at hf;simp only[R8]at hf;have no: ∀{c:Bool} {b:Rat},(c=true↔r=b)->UY r b η->(!c&&Qm v b)=false:=fun {c b} hc hs=>by
  cases c with
  | true=>rfl
  | false=>
   have hn:r≠b:=fun e=>by have:=hc.2 e;cases this
   cases e:Qm v b with
   | false=>rfl
   | true=>
    exfalso;obtain⟨w1,w2⟩:=We.1 e;rcases hs with hs | hs | hs
    ·exact hn hs
    ·grind
    ·grind
 rw[no hL sL,no hH sH]at hf;simp only[Bool.or_false,R8]at hf;cases e:(!aL&&decide (Xk v.hi lo<0)) || (!aH&&decide (0<Xk v.lo hi))with
 | true=>rw[e]at hf;cases hf
 | false=>rw[e]at hf;cases hf
theorem GS {r:RtV×RtV}{d:Int}{k:Nat}{lo hi:Rat}{aL aH:Bool}(h1:JB r.1 d=some a)(h2:JB r.2 d=some b)(ha:a.s.has r0)(hb:b.s.has r1)(hL:aL=true↔nV r0 r1 h t/dV r0 r1 h t=lo)(hH:aH=true↔nV r0 r1 h t/dV r0 r1 h t=hi)
    (hrec:(∃O,Wv lo hi aL aH h t k (d*8) (a,b)=some O/\QKm r0 r1 (nV r0 r1 h t/dV r0 r1 h t) lo hi O)∨ ∃η,WH (JC (a,b) h t)=true/\SNr (thV (a,b) h t) (nV r0 r1 h t/dV r0 r1 h t) η/\2*η<=UX/\UY (nV r0 r1 h t/dV r0 r1 h t) lo η/\UY (nV r0 r1 h t/dV r0 r1 h t) hi η):
    ∃O,Wv lo hi aL aH h t (k+1) d r=some O/\QKm r0 r1 (nV r0 r1 h t/dV r0 r1 h t) lo hi O:=by
  rw[Wv,h1];simp only[Ze];rw[h2];simp only[Ze];obtain⟨n1,n2⟩:=QXo (h:=h) (t:=t) ha hb;cases hv:WH (JC (a,b) h t)with
  | false=>
    simp only[R8];rcases hrec with hrec | ⟨η,e,_⟩
    · exact hrec
    · rw[hv]at e;cases e
  | true=>
    simp only[R7];have hq:(thV (a,b) h t).has (nV r0 r1 h t/dV r0 r1 h t):=(QMc n1 n2 hv).2;cases hf:fdS lo hi aL aH (thV (a,b) h t)with
    | none=>
      rcases hrec with hrec | ⟨η,_,e1,e2,e3,e4⟩
      · exact hrec
      · exact absurd hf (QT2 hL hH e1 e2 e3 e4)
    | some c=>
      cases c with
      | true=>exact⟨_,rfl,.inr ⟨a.s,b.s,_,rfl,ha,hb,hq⟩⟩
      | false=>exact⟨_,rfl,.inl ⟨rfl,QXp hf hq⟩⟩
end
def W0:Rat:=((1:Int):Rat)/((281474976710656000:Int):Rat)
section
variable {l m x y r0 r1 t:Rat}{h:Bool}{q p:List Rat}{ch ch':List (List Rat)}{U V U' V':Rat->Int}{sep M sep' M':Rat}{E:Nat}
variable {lo hi:Rat}{aL aH:Bool}
theorem QGm (RQ:Rdy q (fQ l m x y) ch U V sep M E)(RP:Rdy p (fP l m x y) ch' U' V' sep' M' E)(hE:E<=1500)(S:Sol l m x y r0 r1)(h1: -2<=r1/\r1<=2)(hg:h=true->t=0)(hd:dV r0 r1 h t≠0){C:Rat}(hC:C=nV r0 r1 h t/dV r0 r1 h t∨C= -(nV r0 r1 h t/dV r0 r1 h t))(hC0:0<=C)
  (hw:12*(W0*(1+C))<1) (hη:2*(12*(W0*((1+C)*(1+C))))<=UX) (sL:UY (nV r0 r1 h t/dV r0 r1 h t) lo (12*(W0*((1+C)*(1+C))))) (sH:UY (nV r0 r1 h t/dV r0 r1 h t) hi (12*(W0*((1+C)*(1+C)))))
  (hL:aL=true↔nV r0 r1 h t/dV r0 r1 h t=lo) (hH:aH=true↔nV r0 r1 h t/dV r0 r1 h t=hi):
  ∀(k j:Nat) (s u:Sp) (d:Int),k<=15->j+3*(k+1)<=8000->d=((1000*8^(17-(k+1)):Nat):Int)->WT (fQ l m x y) U V M j s->WT (fP l m x y) U' V' M' j u->s.has r0->u.has r1->s.hi-s.lo<=((1:Int):Rat)/(d:Rat)*((2^3:Nat):Rat)->u.hi-u.lo<=((1:Int):Rat)/(d:Rat)*((2^3:Nat):Rat)->
  ∃O,Wv lo hi aL aH h t (k+1) d (⟨q,s⟩,⟨p,u⟩)=some O/\QKm r0 r1 (nV r0 r1 h t/dV r0 r1 h t) lo hi O:=by
 intro k;induction k with
 | zero=>
  intro j s u d _ hj ed ss su hs hu ws wu;obtain⟨s',f1,f2,f3,f4⟩:=RQ.fine3 (n:=3) ss (by omega) ws;obtain⟨u',g1,g2,g3,g4⟩:=RP.fine3 (n:=3) su (by omega) wu;have k1:=f4 r0 S.q hs;have k2:=g4 r1 S.p hu;have e0:((1:Int):Rat)/(d:Rat)=W0:=by rw[ed];rfl
  rw[e0]at f3 g3;have w0:0<=W0:=by decide+kernel
  have N:Uq ⟨q,s'⟩ ⟨p,u'⟩ r0 r1 W0:=⟨k1,k2,f3,g3⟩;obtain⟨v1,v2⟩:=N.value w0 h1 hg hd hC hC0 hw;exact GS f1 g1 k1 k2 hL hH (.inr ⟨_,v1,v2,hη,sL,sH⟩)
 | succ k ih=>
  intro j s u d hk hj ed ss su hs hu ws wu;obtain⟨s',f1,f2,f3,f4⟩:=RQ.fine3 (n:=3) ss (by omega) ws;obtain⟨u',g1,g2,g3,g4⟩:=RP.fine3 (n:=3) su (by omega) wu;have k1:=f4 r0 S.q hs;have k2:=g4 r1 S.p hu;have p4:(8:Nat)^(17-(k+1))=8^(17-(k+1+1))*8:=by rw[<-Nat.pow_succ];congr 1;omega
  have ed8:d*8=((1000*8^(17-(k+1)):Nat):Int):=by rw[ed,p4];generalize (8:Nat)^(17-(k+1+1))=z;omega
  have d0:(d:Rat)≠0:=fun e=>by
   have e:=Rat.intCast_eq_zero_iff.1 e;have:1<=(8:Nat)^(17-(k+1+1)):=Nat.pow_pos (by decide);rw[ed]at e;generalize (8:Nat)^(17-(k+1+1))=z at*;omega
  have e8:((1:Int):Rat)/((d*8:Int):Rat)*((2^3:Nat):Rat)=((1:Int):Rat)/(d:Rat):=by
   have h8:((2^3:Nat):Rat)=8:=by decide+kernel
   have h1:((1:Int):Rat)=1:=rfl;have h2:((d*8:Int):Rat)=(d:Rat)*8:=by rw[Zd];rfl
   rw[h8,h1,h2];grind
  exact GS f1 g1 k1 k2 hL hH (.inl (ih (j+3) s' u' (d*8) (by omega) (by omega) ed8 f2 g2 k1 k2 (by rw[e8];exact f3) (by rw[e8];exact g3)))
theorem QMd (RQ:Rdy q (fQ l m x y) ch U V sep M E)(RP:Rdy p (fP l m x y) ch' U' V' sep' M' E)(hE:E<=1440)(S:Sol l m x y r0 r1)(h1: -2<=r1/\r1<=2)(hg:h=true->t=0)(hd:dV r0 r1 h t≠0){C:Rat}(hC:C=nV r0 r1 h t/dV r0 r1 h t∨C= -(nV r0 r1 h t/dV r0 r1 h t))(hC0:0<=C)
  (hw:12*(W0*(1+C))<1) (hη:2*(12*(W0*((1+C)*(1+C))))<=UX) (sL:UY (nV r0 r1 h t/dV r0 r1 h t) lo (12*(W0*((1+C)*(1+C))))) (sH:UY (nV r0 r1 h t/dV r0 r1 h t) hi (12*(W0*((1+C)*(1+C)))))
  (hL:aL=true↔nV r0 r1 h t/dV r0 r1 h t=lo) (hH:aH=true↔nV r0 r1 h t/dV r0 r1 h t=hi) {s u:Sp} (ss:WT (fQ l m x y) U V M 5768 s) (su:WT (fP l m x y) U' V' M' 5768 u) (hs:s.has r0) (hu:u.has r1):
  ∃O,Wv lo hi aL aH h t 17 1000 (⟨q,s⟩,⟨p,u⟩)=some O/\QKm r0 r1 (nV r0 r1 h t/dV r0 r1 h t) lo hi O:=by
 obtain⟨s',f1,f2,f3,f4,f5,f6⟩:=RQ.fine ss (den:=1000) (by decide) (by omega);obtain⟨u',g1,g2,g3,g4,g5,g6⟩:=RP.fine su (den:=1000) (by decide) (by omega);have k1:s'.has r0:=f6 r0 S.q hs.1 hs.2;have k2:u'.has r1:=g6 r1 S.p hu.1 hu.2;have e8:((1:Int):Rat)/((1000*8:Int):Rat)*((2^3:Nat):Rat)=1/((1000:Int):Rat):=by decide+kernel
 exact GS (k:=16) f1 g1 k1 k2 hL hH (.inl (QGm RQ RP (by omega) S h1 hg hd hC hC0 hw hη sL sH hL hH 15 (5768+(E+64)) s' u' (1000*8) (by omega) (by omega) rfl f2 g2 k1 k2 (by rw[e8];exact f5) (by rw[e8];exact g5)))
end
end Go.Proofs
namespace Go.Proofs
open Go Go.Eng
def Fr (r:Rat):Prop:= ∃c d:Int,d≠0/\r*(d:Rat)=(c:Rat)/\c.natAbs<=1400000/\d.natAbs<=1400000
theorem QXq {r a b:Rat}(hc:QK false r*(a*a+b*b)=a*a-b*b)(hs:QO false r*(a*a+b*b)=2*a*b)(hp:0<a*a+b*b):a≠0/\r*a=b:=by
 have ha:a≠0:=fun e=>by
  subst e;have:(QK false r+1)*(b*b)=0:=by grind
  rcases Zc.1 this with h | h
  ·exact QJP r (by grind)
  ·grind
 refine⟨ha,?_⟩;have hq:b/a*a=b:=Zi ha;obtain⟨k1,k2⟩:=YY (b/a);have e:r=b/a:=by
  generalize b/a=z at*;have n:=Q5 z;refine HT ?_ ?_
  ·have:(a*a+b*b)*(QK false r-QK false z)=0:=by
    rw[<-hq]at hc⊢;have:(a*a+z*a*(z*a))*(QK false r-QK false z)=QK false r*(a*a+z*a*(z*a))-a*a*(QK false z*(1+z*z)):=by grind
    rw[this,hc,k1];grind
   have:=(Zc.1 this).resolve_left (by grind);grind
  ·have:(a*a+b*b)*(QO false r-QO false z)=0:=by
    rw[<-hq]at hs⊢;have:(a*a+z*a*(z*a))*(QO false r-QO false z)=QO false r*(a*a+z*a*(z*a))-a*a*(QO false z*(1+z*z)):=by grind
    rw[this,hs,k2];grind
   have:=(Zc.1 this).resolve_left (by grind);grind
 rw[e,hq]
section
variable {l m x y t0 t1 t2 r0 r1 t:Rat}{h:Bool}
theorem Sol.sq (S:Sol l m x y t0 t1)(S':Sol l m x y r0 r1):r1=t1∨r1= -t1:=by
 have e1:=S.p2.1;have e2:=S'.p2.1;have p:=S.p2.2.1;have:p2V l m x y*((r1-t1)*(r1+t1))=0:=by grind
 have:=(Zc.1 this).resolve_left (by grind);rcases Zc.1 this with h | h
 ·left;grind
 ·right;grind
theorem QKn (hl:0<l)(hm:0<m):0<(l+m*QK false t1)*(l+m*QK false t1)+(m*QO false t1)*(m*QO false t1):=by
  have e:=cs1 false t1;obtain⟨k1,k2⟩:=YY t1;have n:=Q5 t1;generalize QK false t1=c at*;generalize QO false t1=s at*;have h1:0<1+c:=by
    refine Rat.not_le.1 fun k=> ?_
    have:=Za (a:= -(1+c)) (b:=1+t1*t1) (by grind) (by grind);grind
  have h2:=Zf (Zf hl hm) h1;have h3:=Q5 (l-m);have:(l+m*c)*(l+m*c)+m*s*(m*s)=l*l+2*(l*m*c)+m*m*(c*c+s*s):=by grind
  rw[this,e];grind
theorem Sol.fst (S:Sol l m x y t0 t1)(S':Sol l m x y r0 t1):r0=t0:=by
  obtain⟨x1,y1⟩:=S.at;obtain⟨x2,y2⟩:=S'.at;have hp:=QKn (t1:=t1) S.l0 S.m0;generalize QK false t1=c at*;generalize QO false t1=s at*;have key: ∀{a b a' b':Rat},x=l*a+m*(a*c-b*s)->y=l*b+m*(b*c+a*s)->x=l*a'+m*(a'*c-b'*s)->y=l*b'+m*(b'*c+a'*s)->a'=a/\b'=b:=fun {a b a' b'} h1 h2 h3 h4=>by
    have f1:((l+m*c)*(l+m*c)+m*s*(m*s))*(a'-a)=0:=by
      have:((l+m*c)*(l+m*c)+m*s*(m*s))*(a'-a)=(l+m*c)*((l*a'+m*(a'*c-b'*s))-(l*a+m*(a*c-b*s)))+m*s*((l*b'+m*(b'*c+a'*s))-(l*b+m*(b*c+a*s))):=by grind
      rw[this,<-h1,<-h2,<-h3,<-h4];grind
    have f2:((l+m*c)*(l+m*c)+m*s*(m*s))*(b'-b)=0:=by
      have:((l+m*c)*(l+m*c)+m*s*(m*s))*(b'-b)=(l+m*c)*((l*b'+m*(b'*c+a'*s))-(l*b+m*(b*c+a*s)))-m*s*((l*a'+m*(a'*c-b'*s))-(l*a+m*(a*c-b*s))):=by grind
      rw[this,<-h1,<-h2,<-h3,<-h4];grind
    have g1:=(Zc.1 f1).resolve_left (by grind);have g2:=(Zc.1 f2).resolve_left (by grind);constructor<;>grind
  obtain⟨e1,e2⟩:=key x1 y1 x2 y2;exact HT e1 e2
structure Dir (t0 t1 t2:Rat)(h:Bool)(t:Rat):Prop where
  ok:h=true->t=0
  c:QK h t=QK false t0*(QK false t1*QK false t2-QO false t1*QO false t2)-QO false t0*(QO false t1*QK false t2+QK false t1*QO false t2)
  s:QO h t=QO false t0*(QK false t1*QK false t2-QO false t1*QO false t2)+QK false t0*(QO false t1*QK false t2+QK false t1*QO false t2)
theorem Dir.same (D:Dir t0 t1 t2 h t):cT3 t0 t1 h t=QK false t2/\sT3 t0 t1 h t=QO false t2:=by
  unfold cT3 sT3;rw[D.c,D.s];have e0:=cs1 false t0;have e1:=cs1 false t1;generalize QK false t0=c0 at*;generalize QO false t0=s0 at*;generalize QK false t1=c1 at*;generalize QO false t1=s1 at*;generalize QK false t2=c2 at*;generalize QO false t2=s2 at*;constructor
  · have:(c0*(c1*c2-s1*s2)-s0*(s1*c2+c1*s2))*(c0*c1-s0*s1)+(s0*(c1*c2-s1*s2)+c0*(s1*c2+c1*s2))*(s0*c1+c0*s1)=c2*(c0*c0+s0*s0)*(c1*c1+s1*s1):=by grind
    rw[this,e0,e1];grind
  · have:(s0*(c1*c2-s1*s2)+c0*(s1*c2+c1*s2))*(c0*c1-s0*s1)-(c0*(c1*c2-s1*s2)-s0*(s1*c2+c1*s2))*(s0*c1+c0*s1)=s2*(c0*c0+s0*s0)*(c1*c1+s1*s1):=by grind
    rw[this,e0,e1];grind
theorem QQl {c0 s0 c1 s1 w1 w2 al be f g P:Rat}(e0:c0*c0+s0*s0=1)(E:f*P=c0*al-s0*be)(G:g*P=s0*al+c0*be):
  ((c0*w1-s0*w2)*(f*c1+g*s1)+(s0*w1+c0*w2)*(g*c1-f*s1))*P=w1*(al*c1+be*s1)+w2*(be*c1-al*s1)/\((s0*w1+c0*w2)*(f*c1+g*s1)-(c0*w1-s0*w2)*(g*c1-f*s1))*P=w2*(al*c1+be*s1)-w1*(be*c1-al*s1):=by
 have u:(f*c1+g*s1)*P=c0*(al*c1+be*s1)-s0*(be*c1-al*s1):=by
  have:(f*c1+g*s1)*P=f*P*c1+g*P*s1:=by grind
  rw[this,E,G];grind
 have v:(g*c1-f*s1)*P=s0*(al*c1+be*s1)+c0*(be*c1-al*s1):=by
  have:(g*c1-f*s1)*P=g*P*c1-f*P*s1:=by grind
  rw[this,E,G];grind
 generalize al*c1+be*s1=ga at*;generalize be*c1-al*s1=de at*;generalize f*c1+g*s1=u' at*;generalize g*c1-f*s1=v' at*;constructor
 ·have:((c0*w1-s0*w2)*u'+(s0*w1+c0*w2)*v')*P=(c0*w1-s0*w2)*(u'*P)+(s0*w1+c0*w2)*(v'*P):=by grind
  rw[this,u,v];have:(c0*w1-s0*w2)*(c0*ga-s0*de)+(s0*w1+c0*w2)*(s0*ga+c0*de)=(w1*ga+w2*de)*(c0*c0+s0*s0):=by grind
  rw[this,e0];grind
 ·have:((s0*w1+c0*w2)*u'-(c0*w1-s0*w2)*v')*P=(s0*w1+c0*w2)*(u'*P)-(c0*w1-s0*w2)*(v'*P):=by grind
  rw[this,u,v];have:(s0*w1+c0*w2)*(c0*ga-s0*de)-(c0*w1-s0*w2)*(s0*ga+c0*de)=(w2*ga-w1*de)*(c0*c0+s0*s0):=by grind
  rw[this,e0];grind
theorem Dir.other (D:Dir t0 t1 t2 h t)(S:Sol l m x y t0 t1)(S':Sol l m x y r0 (-t1)){A B:Rat}(hA:A=l*QK false t1+m)(hB:B=l*QO false t1):
    0<(A-B*t2)*(A-B*t2)+(B+A*t2)*(B+A*t2)/\cT3 r0 (-t1) h t*((A-B*t2)*(A-B*t2)+(B+A*t2)*(B+A*t2))=(A-B*t2)*(A-B*t2)-(B+A*t2)*(B+A*t2)/\sT3 r0 (-t1) h t*((A-B*t2)*(A-B*t2)+(B+A*t2)*(B+A*t2))=2*(A-B*t2)*(B+A*t2):=by
  obtain⟨x1,y1⟩:=S.at;obtain⟨x2,y2⟩:=S'.at;have hp:=QKn (t1:=t1) S.l0 S.m0;have n2:=Q5 t2;obtain⟨k1,k2⟩:=YY t2;have e0:=cs1 false t0;have e1:=cs1 false t1;unfold cT3 sT3;rw[D.c,D.s];rw[(GR false t1).1,(GR false t1).2]at x2 y2⊢;generalize QK false t0=c0 at*;generalize QO false t0=s0 at*;generalize QK false t1=c1 at*;generalize QO false t1=s1 at*;generalize QK false t2=c2 at*;generalize QO false t2=s2 at*;generalize QK false r0=f0 at*;generalize QO false r0=g0 at*;generalize hk:l+m*c1=K1 at*;generalize hk2:m*s1=K2 at*;have a1:f0*K1+g0*K2=c0*K1-s0*K2:=by rw[<-hk,<-hk2];grind
  have a2:g0*K1-f0*K2=s0*K1+c0*K2:=by rw[<-hk,<-hk2];grind
  have E:f0*(K1*K1+K2*K2)=c0*(K1*K1-K2*K2)-s0*(2*K1*K2):=by
    have:f0*(K1*K1+K2*K2)=(f0*K1+g0*K2)*K1-(g0*K1-f0*K2)*K2:=by grind
    rw[this,a1,a2];grind
  have G:g0*(K1*K1+K2*K2)=s0*(K1*K1-K2*K2)+c0*(2*K1*K2):=by
    have:g0*(K1*K1+K2*K2)=(f0*K1+g0*K2)*K2+(g0*K1-f0*K2)*K1:=by grind
    rw[this,a1,a2];grind
  obtain⟨z1,z2⟩:=QQl (c1:=c1) (s1:=s1) (w1:=c1*c2-s1*s2) (w2:=s1*c2+c1*s2) e0 E G;have q1:c1*K1+s1*K2=A:=by
    rw[<-hk,<-hk2,hA];have:c1*(l+m*c1)+s1*(m*s1)=l*c1+m*(c1*c1+s1*s1):=by grind
    rw[this,e1];grind
  have q2:s1*K1-c1*K2=B:=by rw[<-hk,<-hk2,hB];grind
  have eA:A*A+B*B=K1*K1+K2*K2:=by
    rw[<-q1,<-q2];have:(c1*K1+s1*K2)*(c1*K1+s1*K2)+(s1*K1-c1*K2)*(s1*K1-c1*K2)=(K1*K1+K2*K2)*(c1*c1+s1*s1):=by grind
    rw[this,e1];grind
  have eab:(A-B*t2)*(A-B*t2)+(B+A*t2)*(B+A*t2)=(K1*K1+K2*K2)*(1+t2*t2):=by rw[<-eA];grind
  have w1:(c1*c2-s1*s2)*((K1*K1-K2*K2)*c1+2*K1*K2*s1)+(s1*c2+c1*s2)*(2*K1*K2*c1-(K1*K1-K2*K2)*s1)=c2*(A*A-B*B)-s2*(2*A*B):=by rw[<-q1,<-q2];grind
  have w2:(s1*c2+c1*s2)*((K1*K1-K2*K2)*c1+2*K1*K2*s1)-(c1*c2-s1*s2)*(2*K1*K2*c1-(K1*K1-K2*K2)*s1)=s2*(A*A-B*B)+c2*(2*A*B):=by rw[<-q1,<-q2];grind
  rw[w1]at z1;rw[w2]at z2;have u1:f0*c1-g0* -s1=f0*c1+g0*s1:=by grind
  have u2:g0*c1+f0* -s1=g0*c1-f0*s1:=by grind
  rw[u1,u2];refine⟨?_,?_,?_⟩
  · rw[eab];exact Zf hp (by grind)
  · rw[eab,<-Rat.mul_assoc,z1];have:(c2*(A*A-B*B)-s2*(2*A*B))*(1+t2*t2)=(c2*(1+t2*t2))*(A*A-B*B)-(s2*(1+t2*t2))*(2*A*B):=by grind
    rw[this,k1,k2];grind
  · rw[eab,<-Rat.mul_assoc,z2];have:(s2*(A*A-B*B)+c2*(2*A*B))*(1+t2*t2)=(s2*(1+t2*t2))*(A*A-B*B)+(c2*(1+t2*t2))*(2*A*B):=by grind
    rw[this,k1,k2];grind
theorem Dir.frac (D:Dir t0 t1 t2 h t)(S:Sol l m x y t0 t1)(S':Sol l m x y r0 r1)(hd:dV r0 r1 h t≠0){u v q r:Int}(hl:2*l=(u:Rat))(hm:2*m=(v:Rat))(h1:24*t1=(q:Rat))(h2:24*t2=(r:Rat))(hu:2<=u/\u<=5)(hv:2<=v/\v<=5)(hq: -48<=q/\q<=48)(hr: -48<=r/\r<=48):
    Fr (nV r0 r1 h t/dV r0 r1 h t):=by
  obtain⟨z1,z2⟩:=QB7 (r0:=r0) (r1:=r1) D.ok hd;generalize nV r0 r1 h t/dV r0 r1 h t=w at*;rcases S.sq S' with e | e
  · subst e;have:=S.fst S';subst this;obtain⟨y1,y2⟩:=D.same;rw[y1]at z1;rw[y2]at z2;have:=HT z1 z2;subst this;exact⟨r,24,by decide,by rw[<-h2];have:((24:Int):Rat)=24:=rfl;rw[this];grind,by omega,by omega⟩
  · subst e;obtain⟨g1,g2,g3⟩:=D.other S S' rfl rfl;rw[<-z1]at g2;rw[<-z2]at g3;obtain⟨ha,hw⟩:=QXq g2 g3 g1;obtain⟨k3,k4⟩:=YY t1;have nq:0<=q*q:=by rcases Int.le_total 0 q with h | h;exact Int.mul_nonneg h h;have:=Int.mul_nonneg (a:= -q) (b:= -q) (by omega) (by omega);rwa [Int.neg_mul_neg]at this
    have bq:=JZ (x:=q) (y:=q) (a:=48) (b:=48) (by omega) (by omega);have et:t1=(q:Rat)/24:=by rw[<-h1];grind
    have e2:t2=(r:Rat)/24:=by rw[<-h2];grind
    have el:l=(u:Rat)/2:=by rw[<-hl];grind
    have em:m=(v:Rat)/2:=by rw[<-hm];grind
    have P3:QK false t1*(576+(q:Rat)*q)=576-(q:Rat)*q:=by rw[et]at k3⊢;grind
    have P4:QO false t1*(576+(q:Rat)*q)=48*(q:Rat):=by rw[et]at k4⊢;grind
    have hz:(576+(q:Rat)*q)≠0:=by have:(0:Rat)<=((q*q:Int):Rat):=Rat.intCast_nonneg.2 nq;rw[Zd]at this;grind
    generalize hA:l*QK false t1+m=A at*;generalize hB:l*QO false t1=B at*;have A':2*(576+(q:Rat)*q)*A=((u*(576-q*q)+v*(576+q*q):Int):Rat):=by
      push_cast;rw[<-hA,el,em];have:2*(576+(q:Rat)*q)*((u:Rat)/2*QK false t1+(v:Rat)/2)=(u:Rat)*(QK false t1*(576+(q:Rat)*q))+(v:Rat)*(576+(q:Rat)*q):=by grind
      rw[this,P3]
    have B':2*(576+(q:Rat)*q)*B=((48*u*q:Int):Rat):=by
      push_cast;rw[<-hB,el];have:2*(576+(q:Rat)*q)*((u:Rat)/2*QO false t1)=(u:Rat)*(QO false t1*(576+(q:Rat)*q)):=by grind
      rw[this,P4];grind
    have b1:(u*(576-q*q)).natAbs<=5*1728:=JZ (by omega) (by omega);have b2:(v*(576+q*q)).natAbs<=5*2880:=JZ (by omega) (by omega);have b3:(48*u*q).natAbs<=240*48:=JZ (by omega) (by omega);have b4:(u*(576-q*q)+v*(576+q*q)).natAbs<=23040:=by omega
    generalize u*(576-q*q)+v*(576+q*q)=I at*;generalize 48*u*q=J at*;have b5:=JZ (x:=r) (y:=I) (a:=48) (b:=23040) (by omega) b4;have b6:=JZ (x:=r) (y:=J) (a:=48) (b:=11520) (by omega) b3;have d1:((24*I-r*J:Int):Rat)=48*(576+(q:Rat)*q)*(A-B*t2):=by
      push_cast;rw[<-A',<-B',e2];grind
    have d2:((24*J+r*I:Int):Rat)=48*(576+(q:Rat)*q)*(B+A*t2):=by
      push_cast;rw[<-A',<-B',e2];grind
    refine⟨24*J+r*I,24*I-r*J,fun e=> ?_,?_,by omega,by omega⟩
    · rw[e]at d1;have d1:48*(576+(q:Rat)*q)*(A-B*t2)=0:=d1.symm;rcases Zc.1 d1 with h | h
      · exact hz (by grind)
      · exact ha h
    · rw[d1,d2,<-hw];grind
end
end Go.Proofs
namespace Go.Proofs
open Go Go.Eng
theorem Fr.apart {r:Rat}(h:Fr r){b:Rat}{z:Int}(hb:3*b=(z:Rat))(hz: -6<=z/\z<=6){C:Rat}(hC:C=r∨C= -r)(hC0:0<=C):C<=1400000/\UY r b (12*(W0*((1+C)*(1+C)))):=by
  obtain⟨c,d,hd,e,hc,hdd⟩:=h;have z1:(z:Rat)<=((6:Int):Rat):=Zb.2 hz.2;have z2:((-6:Int):Rat)<=(z:Rat):=Zb.2 hz.1;have v6:((6:Int):Rat)=6:=rfl;have v6':((-6:Int):Rat)= -6:=rfl;have eW:W0*281474976710656000=1:=by decide+kernel
  have w0:0<W0:=by decide+kernel
  -- a whole number that is not 0 is at least 1
  obtain⟨D,hD,D1,D2⟩: ∃D:Rat,(D=(d:Rat)∨D= -(d:Rat))/\1<=D/\D<=1400000:=by
    have v:((1400000:Int):Rat)=1400000:=rfl;have v1:((1:Int):Rat)=1:=rfl;rcases Int.lt_trichotomy d 0 with k | k | k
    · refine⟨-(d:Rat),.inr rfl,?_,?_⟩
      · have:((1:Int):Rat)<=((-d:Int):Rat):=Zb.2 (by omega);push_cast at this;grind
      · have:((-d:Int):Rat)<=((1400000:Int):Rat):=Zb.2 (by omega);push_cast at this;grind
    · exact absurd k hd
    · refine⟨(d:Rat),.inl rfl,?_,?_⟩
      · have:((1:Int):Rat)<=((d:Int):Rat):=Zb.2 (by omega);grind
      · have:((d:Int):Rat)<=((1400000:Int):Rat):=Zb.2 (by omega);grind
  have hc1: -1400000<=(c:Rat)/\(c:Rat)<=1400000:=by
    have v:((1400000:Int):Rat)=1400000:=rfl;have v':((-1400000:Int):Rat)= -1400000:=rfl;have a1:((-1400000:Int):Rat)<=(c:Rat):=Zb.2 (by omega);have a2:(c:Rat)<=((1400000:Int):Rat):=Zb.2 (by omega);constructor<;>grind
  have hCD:C*D<=1400000:=by rcases hC with rfl | rfl<;>rcases hD with rfl | rfl<;>grind
  have hC1:C<=1400000:=by have:=Za hC0 (show 0<=D-1 by grind);grind
  refine⟨hC1,?_⟩;by_cases hbig:3<=C
  · -- far from it
    have s1:=Za (a:=1400001-(1+C)) (b:=1+C) (by grind) (by grind);have s2:(1+C)*(1+C)<=1400001*1400001:=by grind
    have s3:=Za (a:=1400001*1400001-(1+C)*(1+C)) (b:=W0) (by grind) (Zh w0);right;rcases hC with rfl | rfl
    · left;grind
    · right;grind
  · have s1:=Za (a:=4-(1+C)) (b:=1+C) (by grind) (by grind);have s2:(1+C)*(1+C)<=16:=by grind
    have s3:=Za (a:=16-(1+C)*(1+C)) (b:=W0) (by grind) (Zh w0);generalize (1+C)*(1+C)=Q at*;-- (r - b) * 3 d is a whole number
    have e3:(r-b)*(3*(d:Rat))=((3*c-z*d:Int):Rat):=by push_cast;rw[<-e,<-hb];grind
    by_cases h0:3*c-z*d=0
    · left;rw[h0]at e3;have e3:(r-b)*(3*(d:Rat))=0:=e3;rcases Zc.1 e3 with h | h
      · grind
      · have:(d:Rat)≠0:=fun k=>hd (Rat.intCast_eq_zero_iff.1 k);grind
    · right;have v1:((1:Int):Rat)=1:=rfl;have hN:1<=((3*c-z*d:Int):Rat)∨((3*c-z*d:Int):Rat)<= -1:=by
        rcases Int.lt_trichotomy (3*c-z*d) 0 with k | k | k
        · right;have:((3*c-z*d:Int):Rat)<=((-1:Int):Rat):=Zb.2 (by omega);have v:((-1:Int):Rat)= -1:=rfl;grind
        · exact absurd k h0
        · left;have:((1:Int):Rat)<=((3*c-z*d:Int):Rat):=Zb.2 (by omega);grind
      generalize ((3*c-z*d:Int):Rat)=N at*;generalize (d:Rat)=dq at*;generalize hgg:r-b=g at*;have hlt:12*(W0*Q)<g∨12*(W0*Q)< -g:=by
        refine Zg fun k=> ?_
        have k1:g<=12*(W0*Q):=Zj.1 fun h=>k (.inl h);have k2: -g<=12*(W0*Q):=Zj.1 fun h=>k (.inr h);have k3:12*(W0*Q)<=192*W0:=by grind
        have m1:=Za (a:=192*W0-g) (b:=D) (by grind) (by grind);have m2:=Za (a:=192*W0+g) (b:=D) (by grind) (by grind);have m3:=Za (a:=W0) (b:=1400000-D) (Zh w0) (by grind);rcases hD with rfl | rfl<;>rcases hN with hN | hN<;>grind
      rcases hlt with h | h
      · left;exact h
      · right;grind
theorem QXr {C:Rat}(h:C<=1400000)(hC0:0<=C):12*(W0*(1+C))<1/\2*(12*(W0*((1+C)*(1+C))))<=UX:=by
 have eW:W0*281474976710656000=1:=by decide+kernel
 have w0:0<W0:=by decide+kernel
 have eF:UX*1000=1:=by decide+kernel
 have s1:=Za (a:=1400001-(1+C)) (b:=1+C) (by grind) (by grind);have s2:(1+C)*(1+C)<=1400001*1400001:=by grind
 have s3:=Za (a:=1400001*1400001-(1+C)*(1+C)) (b:=W0) (by grind) (Zh w0);have s4:=Za (a:=1400001-(1+C)) (b:=W0) (by grind) (Zh w0);constructor<;>grind
section
variable {l m x y t0 t1 t2 r0 r1 t:Rat}{h:Bool}
structure Thr (l m x y t0 t1 t2:Rat)(h:Bool)(t:Rat)(u v p0 q r:Int):Prop where
  S:Sol l m x y t0 t1
  D:Dir t0 t1 t2 h t
  el:2*l=(u:Rat)
  em:2*m=(v:Rat)
  et0:24*t0=(p0:Rat)
  et1:24*t1=(q:Rat)
  et2:24*t2=(r:Rat)
  eu:2<=u/\u<=5
  ev:2<=v/\v<=5
  ep: -48<=p0/\p0<=48
  eq: -48<=q/\q<=48
  er: -48<=r/\r<=48
  bl:Bd 3 l
  bm:Bd 3 m
  bx:Bd 28 x
  by':Bd 28 y
  bc:Bd 1100 (QK h t)
  bs:Bd 1100 (QO h t)
theorem QU8 {m x C T c d:Rat}(hm:Bd 3 m)(hx:Bd 28 x)(hC:Bd 1100 C)(hT:Bd 1100 T)(hc:Bd 200 c)(hd:Bd 200 d):Bd 3000 (x-m*(C*c+T*d))/\Bd 3000 (x-m*(T*c-C*d)):=
 ⟨(YX hx (Qg hm (XV (Qg hC hc) (Qg hT hd)))).mono (by omega),(YX hx (Qg hm (YX (Qg hT hc) (Qg hC hd)))).mono (by omega)⟩
theorem QXs (g:Bool){u:Rat}(h:Bd 20 u):Bd 200 (QK g u)/\Bd 200 (QO g u):=by
 cases g with
 | true=>exact⟨⟨by show(-1:Rat).num.natAbs<_;decide+kernel,by show(-1:Rat).den<_;decide+kernel⟩,⟨by show(0:Rat).num.natAbs<_;decide+kernel,by show(0:Rat).den<_;decide+kernel⟩⟩
 | false=>exact⟨(QU7 h).1.mono (by omega),(QU7 h).2.mono (by omega)⟩
def QU9 (r0 r1 t0 t1 t2:Rat)(O:List Sp):Prop:=(O=[]∨ ∃a b c:Sp,O=[a,b,c]/\a.has r0/\b.has r1/\c.lo<=c.hi)/\(r0=t0->r1=t1-> ∃a b c:Sp,O=[a,b,c]/\a.has t0/\b.has t1/\c.has t2)
theorem Thr.find {u v p0 q r:Int}(H:Thr l m x y t0 t1 t2 h t u v p0 q r){ch ch':List (List Rat)}{U V U' V':Rat->Int}{sep M sep' M':Rat}{qs ps:List Rat}(RQ:Rdy qs (fQ l m x y) ch U V sep M 1440)(RP:Rdy ps (fP l m x y) ch' U' V' sep' M' 1440)(S':Sol l m x y r0 r1){s w:Sp}(ss:WT (fQ l m x y) U V M 5768 s)(sw:WT (fP l m x y) U' V' M' 5768 w)(hs:s.has r0)(hw:w.has r1)
  {lo hi:Rat} {zl zh:Int} (hlo:3*lo=(zl:Rat)) (hhi:3*hi=(zh:Rat)) (bzl: -6<=zl/\zl<=6) (bzh: -6<=zh/\zh<=6) (blo:Bd 20 lo) (bhi:Bd 20 hi) (ht2:lo<=t2/\t2<=hi) (T:Th) (eT:T.r=(⟨qs,s⟩,⟨ps,w⟩)/\T.l0=l/\T.l1=m/\T.x=x/\T.y=y/\T.h=h/\T.t=t):
  ∃O,Gw T lo hi=some O/\QU9 r0 r1 t0 t1 t2 O:=by
 obtain⟨e1,e2,e3,e4,e5,e6,e7⟩:=eT;have isb: ∀(g:Bool) (u:Rat),Bd 20 u-> ∃b,isT T g u=some b/\(b=true↔(QK g u=cT3 r0 r1 h t/\QO g u=sT3 r0 r1 h t)):=fun g u hu=>by
  unfold isT;rw[e1,e2,e3,e4,e5,e6,e7];obtain⟨bc,bs⟩:=QXs g hu;exact QXl RQ ss S' hs H.bl h t g u (by rw[QQi];exact(QU8 H.bm H.bx H.bc H.bs bc bs).1) (by rw[QQj];exact(QU8 H.bm H.by' H.bc H.bs bc bs).2)
 have hg:=H.D.ok;have one:r0=t0->r1=t1->cT3 r0 r1 h t=QK false t2/\sT3 r0 r1 h t=QO false t2:=fun h0 h1=>by subst h0 h1;exact H.D.same
 have z0:Bd 20 ((0:Int):Rat):=⟨by decide+kernel,by decide+kernel⟩;obtain⟨B,hB,hB2⟩:=isb true _ z0;rw[QJQ hg]at hB2;unfold Gw;rw[hB];simp only[Ze];cases B with
 | true=>
  have hd:=hB2.1 rfl;refine⟨[],rfl,.inl rfl,fun h0 h1=> ?_⟩;exfalso;have:=(QDA (r0:=r0) (r1:=r1) hg hd).1;rw[(one h0 h1).1]at this;exact QJP _ this
 | false=>
  have hd:dV r0 r1 h t≠0:=fun e=>by have:=hB2.2 e;cases this
  simp only[R8];obtain⟨aL,hL,hL2⟩:=isb false lo blo;obtain⟨aH,hH,hH2⟩:=isb false hi bhi;rw[QGi hg hd]at hL2 hH2;rw[hL];simp only[Ze];rw[hH];simp only[Ze];have hF:=H.D.frac H.S S' hd H.el H.em H.et1 H.et2 H.eu H.ev H.eq H.er;obtain⟨C,hC,hC0⟩: ∃C,(C=nV r0 r1 h t/dV r0 r1 h t∨C= -(nV r0 r1 h t/dV r0 r1 h t))/\0<=C:=by
   rcases WS (nV r0 r1 h t/dV r0 r1 h t)with⟨e,h⟩ | ⟨e,h⟩
   ·exact⟨_,.inl rfl,by grind⟩
   ·exact⟨_,.inr rfl,by grind⟩
  obtain⟨c1,c2⟩:=hF.apart hlo bzl hC hC0;have c3:=(hF.apart hhi bzh hC hC0).2;obtain⟨c4,c5⟩:=QXr c1 hC0;have hr1: -2<=r1/\r1<=2:=by
   have a1:((-48:Int):Rat)<=(q:Rat):=Zb.2 H.eq.1;have a2:(q:Rat)<=((48:Int):Rat):=Zb.2 H.eq.2;have z1:((-48:Int):Rat)= -48:=rfl;have z2:((48:Int):Rat)=48:=rfl;have:=H.et1;rcases H.S.sq S' with e | e<;>rw[e]<;>constructor<;>grind
  obtain⟨O,hO,hO2⟩:=QMd RQ RP (Nat.le_refl _) S' hr1 hg hd hC hC0 c4 c5 c2 c3 hL2 hH2 ss sw hs hw;rw[e1,e6,e7];refine⟨O,hO,?_,fun h0 h1=> ?_⟩
  ·rcases hO2 with⟨e,_⟩ | ⟨a,b,c,e,k1,k2,k3⟩
   ·exact .inl e
   ·exact .inr ⟨a,b,c,e,k1,k2,k3.ok⟩
  ·have e:nV r0 r1 h t/dV r0 r1 h t=t2:=by
    obtain⟨y1,y2⟩:=one h0 h1;exact(QGi hg hd t2).1 ⟨y1.symm,y2.symm⟩
   rw[e]at hO2;subst h0 h1;rcases hO2 with⟨_,k⟩ | ⟨a,b,c,e,k1,k2,k3⟩
   ·exact absurd ht2 k
   ·exact⟨a,b,c,e,k1,k2,k3⟩
end
end Go.Proofs
namespace Go.Proofs
open Go Go.Eng
theorem QQm {q:RtV×RtV->Th}{lo hi:Rat}: ∀{l:List (RtV×RtV)} {acc:List (List Sp)},(∀r∈l,∃O,Gw (q r) lo hi=some O)->
  ∃E,HM q lo hi l acc=some (acc++E)/\E.length<=l.length/\(∀o∈E,∃r∈l,Gw (q r) lo hi=some o/\o≠[])/\ ∀r∈l,∀o,Gw (q r) lo hi=some o->o≠[]->o∈E:=by
 intro l;induction l with
 | nil=>exact fun {acc} _=>⟨[],by rw[HM,List.append_nil],by simp,by simp,by simp⟩
 | cons r l ih=>
  intro acc h;obtain⟨O,hO⟩:=h r (by simp);rw[HM,hO];simp only[Ze];cases O with
  | nil=>
   obtain⟨E,k1,k2,k3,k4⟩:=ih (acc:=acc) fun r hr=>h r (by simp[hr]);refine⟨E,k1,by simp;omega,fun o ho=> ?_,fun r' hr o ho hn=> ?_⟩
   ·obtain⟨r,m,k⟩:=k3 o ho;exact⟨r,by simp[m],k⟩
   ·rcases List.mem_cons.1 hr with rfl | hr
    ·rw[hO]at ho;exact absurd (Option.some.inj ho).symm hn
    ·exact k4 r' hr o ho hn
  | cons a t=>
   obtain⟨E,k1,k2,k3,k4⟩:=ih (acc:=acc++[a::t]) fun r hr=>h r (by simp[hr]);refine⟨(a::t)::E,by rw[List.append_assoc]at k1;exact k1,by simp;omega,fun o ho=> ?_,fun r' hr o ho hn=> ?_⟩
   ·rcases List.mem_cons.1 ho with rfl | ho
    ·exact⟨r,by simp,hO,by simp⟩
    ·obtain⟨r,m,k⟩:=k3 o ho;exact⟨r,by simp[m],k⟩
   ·rcases List.mem_cons.1 hr with rfl | hr
    ·rw[hO]at ho;rw[<-Option.some.inj ho];simp
    ·have:=k4 r' hr o ho hn;simp[this]
theorem QXt (a:Qx)(g:FrV):(Xp a (Qt (Vv a) g)).x=g.x/\(Xp a (Qt (Vv a) g)).y=g.y/\QK (Xp a (Qt (Vv a) g)).h (Xp a (Qt (Vv a) g)).t=QK g.h g.t/\QO (Xp a (Qt (Vv a) g)).h (Xp a (Qt (Vv a) g)).t=QO g.h g.t:=by
 unfold Xp Qt WR;simp only;unfold H9 GA;simp only[(JK _ _ _ _).1,(JK _ _ _ _).2,(GR _ _).1,(GR _ _).2];have e:=cs1 (Vv a).h (Vv a).t;generalize QK (Vv a).h (Vv a).t=c at*;generalize QO (Vv a).h (Vv a).t=s at*;generalize QK g.h g.t=c1 at*;generalize QO g.h g.t=s1 at*;generalize g.x=x at*;generalize g.y=y at*;refine⟨?_,?_,?_,?_⟩<;>grind
def KP (l m n t0 t1 t2:Rat):FrV:=Qt ⟨0,0,false,t0⟩ (Qt ⟨l,0,false,0⟩ (Qt ⟨0,0,false,t1⟩ (Qt ⟨m,0,false,0⟩ (Qt ⟨0,0,false,t2⟩ ⟨n,0,false,0⟩))))
theorem QDB (l m n t0 t1 t2:Rat):let g:=KP l m n t0 t1 t2
  let C:=QK false t0*(QK false t1*QK false t2-QO false t1*QO false t2)-QO false t0*(QO false t1*QK false t2+QK false t1*QO false t2)
  let S:=QO false t0*(QK false t1*QK false t2-QO false t1*QO false t2)+QK false t0*(QO false t1*QK false t2+QK false t1*QO false t2)
  QK g.h g.t=C/\QO g.h g.t=S/\g.x-n*C=l*QK false t0+m*(QK false t0*QK false t1-QO false t0*QO false t1)/\g.y-n*S=l*QO false t0+m*(QO false t0*QK false t1+QK false t0*QO false t1):=by
 intro g C S;simp only[g,C,S];unfold KP Qt;simp only;unfold H9 GA;simp only[(JK _ _ _ _).1,(JK _ _ _ _).2,QKi.1,QKi.2];generalize QK false t0=c0 at*;generalize QO false t0=s0 at*;generalize QK false t1=c1 at*;generalize QO false t1=s1 at*;generalize QK false t2=c2 at*;generalize QO false t2=s2 at*;refine⟨?_,?_,?_,?_⟩<;>grind
theorem GU {a:Qx}{L0 L1 L2:QZ}{t0 t1 t2:Rat}{f:FrV}(hf:(JW (Vq a) [L0,L1,L2] [t0,t1,t2])[3]? =some f):f=Qt (Vv a) (KP L0.len L1.len L2.len t0 t1 t2):=by
 have hf:some (Qt (Qt (Qt (Qt (Qt (Qt (Vq a) ⟨0,0,false,t0⟩) ⟨L0.len,0,false,0⟩) ⟨0,0,false,t1⟩) ⟨L1.len,0,false,0⟩) ⟨0,0,false,t2⟩) ⟨L2.len,0,false,0⟩)=some f:=hf;obtain rfl:=Option.some.inj hf;simp only[QEX];rfl
theorem QT3 {a:Qx}{L0 L1 L2:QZ}{t0 t1 t2:Rat}{f:FrV}(hf:(JW (Vq a) [L0,L1,L2] [t0,t1,t2])[3]? =some f):
    Dir t0 t1 t2 (Xp a f).h (Xp a f).t/\W3 L2 (Xp a f)=L0.len*QK false t0+L1.len*(QK false t0*QK false t1-QO false t0*QO false t1)/\Ww L2 (Xp a f)=L0.len*QO false t0+L1.len*(QO false t0*QK false t1+QK false t0*QO false t1):=by
  have e:=GU hf;obtain⟨o1,o2,o3,o4⟩:=QXt a (KP L0.len L1.len L2.len t0 t1 t2);rw[<-e]at o1 o2 o3 o4;obtain⟨c1,c2,c3,c4⟩:=QDB L0.len L1.len L2.len t0 t1 t2;have z:((0:Int):Rat)=0:=rfl;refine⟨⟨GJ _ _,by rw[o3];exact c1,by rw[o4];exact c2⟩,?_,?_⟩
  · unfold W3;rw[o1,o3,z];rw[c1];grind
  · unfold Ww;rw[o2,o4,z];rw[c2];grind
theorem QKo {z:Rat}{N:Int}{D:Nat}(hD:0<D)(h35:D<34359738368)(hz: -1<=z/\z<=1)(h:z*((D:Int):Rat)=(N:Rat)):Bd 35 z:=by
 have d0:(0:Rat)<((D:Int):Rat):=by exact_mod_cast hD
 have b1:(N:Rat)<=((D:Int):Rat):=by
  have:=Zk hz.2 (Zh d0);rw[h]at this;grind
 have b2:((-(D:Int):Int):Rat)<=(N:Rat):=by
  have:=Zk hz.1 (Zh d0);rw[h]at this;have e:((-(D:Int):Int):Rat)= -((D:Int):Rat):=Rat.intCast_neg _;rw[e];grind
 have b1:N<=(D:Int):=Zb.1 b1;have b2: -(D:Int)<=N:=Zb.1 b2;rw[QIu (by grind) h];exact K6 hD (by omega) (by omega)
theorem QXu {t0 t1 t2 t:Rat}{h:Bool}(D:Dir t0 t1 t2 h t){p q r:Int}(h0:24*t0=(p:Rat))(h1:24*t1=(q:Rat))(h2:24*t2=(r:Rat))(hp: -48<=p/\p<=48)(hq: -48<=q/\q<=48)(hr: -48<=r/\r<=48):Bd 35 (QK h t)/\Bd 35 (QO h t):=by
  have B:=QQf h t;have sq: ∀{z:Rat} {n:Int},24*z=(n:Rat)-> -48<=n/\n<=48->(0<=n*n/\n*n<=2304)/\QK false z*((576+n*n:Int):Rat)=((576-n*n:Int):Rat)/\QO false z*((576+n*n:Int):Rat)=((48*n:Int):Rat):=fun {z n} hz hn=>by
    obtain⟨k1,k2⟩:=YY z;have bp:=JZ (x:=n) (y:=n) (a:=48) (b:=48) (by omega) (by omega);have np:0<=n*n:=by rcases Int.le_total 0 n with h | h;exact Int.mul_nonneg h h;have:=Int.mul_nonneg (a:= -n) (b:= -n) (by omega) (by omega);rwa [Int.neg_mul_neg]at this
    have e:z=(n:Rat)/24:=by rw[<-hz];grind
    refine⟨by omega,?_,?_⟩
    · push_cast;rw[e]at k1⊢;grind
    · push_cast;rw[e]at k2⊢;grind
  obtain⟨b0,c0,s0⟩:=sq h0 hp;obtain⟨b1,c1,s1⟩:=sq h1 hq;obtain⟨b2,c2,s2⟩:=sq h2 hr;obtain⟨P,hP,hP2⟩: ∃P:Nat,(P:Int)=576+p*p/\P<=2880:=⟨(576+p*p).toNat,Int.toNat_of_nonneg (by omega),by omega⟩;obtain⟨Q,hQ,hQ2⟩: ∃Q:Nat,(Q:Int)=576+q*q/\Q<=2880:=⟨(576+q*q).toNat,Int.toNat_of_nonneg (by omega),by omega⟩;obtain⟨R,hR,hR2⟩: ∃R:Nat,(R:Int)=576+r*r/\R<=2880:=⟨(576+r*r).toNat,Int.toNat_of_nonneg (by omega),by omega⟩;have l1:P*Q<=2880*2880:=Nat.mul_le_mul hP2 hQ2;have l2:P*Q*R<=2880*2880*2880:=Nat.mul_le_mul l1 hR2;have pos:0<P*Q*R:=Nat.mul_pos (Nat.mul_pos (by omega) (by omega)) (by omega);have eD:(((P*Q*R:Nat):Int):Rat)=((576+p*p:Int):Rat)*((576+q*q:Int):Rat)*((576+r*r:Int):Rat):=by
    rw[<-hP,<-hQ,<-hR,<-Zd,<-Zd];congr 1
  rw[D.c,D.s]at B⊢;generalize ((576+p*p:Int):Rat)=A0 at*;generalize ((576+q*q:Int):Rat)=A1 at*;generalize ((576+r*r:Int):Rat)=A2 at*;constructor
  · refine QKo (N:=(576-p*p)*((576-q*q)*(576-r*r)-48*q*(48*r))-48*p*(48*q*(576-r*r)+(576-q*q)*(48*r))) pos (by omega) ⟨B.1,B.2.1⟩ ?_
    rw[eD,Zm,Zd,Zd (48*p),Zm (_*_),Zn (_*_),Zd,Zd (48*q),Zd (48*q),Zd (576-q*q),<-c0,<-c1,<-c2,<-s0,<-s1,<-s2];grind
  · refine QKo (N:=48*p*((576-q*q)*(576-r*r)-48*q*(48*r))+(576-p*p)*(48*q*(576-r*r)+(576-q*q)*(48*r))) pos (by omega) ⟨B.2.2.1,B.2.2.2⟩ ?_
    rw[eD,Zn,Zd (48*p),Zd (576-p*p),Zm (_*_),Zn (_*_),Zd (576-q*q),Zd (48*q),Zd (48*q),Zd (576-q*q),<-c0,<-c1,<-c2,<-s0,<-s1,<-s2];grind
theorem QMe {a:Qx}(ht:Bd 2 a.t)(hh:a.half=false)(hx:Bd 20 a.x)(hy:Bd 20 a.y){f g:FrV}(e:f=Qt (Vv a) g)(gx:Bd 80 g.x)(gy:Bd 80 g.y)(hc:Bd 35 (QK g.h g.t))(hs:Bd 35 (QO g.h g.t)):Bd 500 f.x/\Bd 500 f.y/\Bd 500 f.t:=by
 have b1:Bd 1 (1:Rat):=⟨by decide,by decide⟩;have t2:=Qg ht ht;have d:=XV b1 t2;have n:=Q5 a.t;have hz:1+a.t*a.t≠0:=by grind
 have cB:Bd 12 (QK a.half a.t):=by rw[hh];exact(XR (YX b1 t2) d hz).mono (by omega)
 have sB:Bd 12 (QO a.half a.t):=by rw[hh];exact(XR (XV ht ht) d hz).mono (by omega)
 have ex:f.x=a.x+(QK a.half a.t*g.x-QO a.half a.t*g.y):=by rw[e];unfold Qt H9 Vv;simp only;grind
 have ey:f.y=a.y+(QO a.half a.t*g.x+QK a.half a.t*g.y):=by rw[e];unfold Qt GA Vv;simp only;grind
 have ec:QK f.h f.t=QK a.half a.t*QK g.h g.t-QO a.half a.t*QO g.h g.t:=by rw[e];exact(JK _ _ _ _).1
 have es:QO f.h f.t=QO a.half a.t*QK g.h g.t+QK a.half a.t*QO g.h g.t:=by rw[e];exact(JK _ _ _ _).2
 have ok:f.h=true->f.t=0:=by rw[e];exact GJ _ _
 refine⟨by rw[ex];exact(XV hx (YX (Qg cB gx) (Qg sB gy))).mono (by omega),by rw[ey];exact(XV hy (XV (Qg sB gx) (Qg cB gy))).mono (by omega),?_⟩;cases hf:f.h with
 | true=>rw[ok hf];exact⟨by decide+kernel,by decide+kernel⟩
 | false=>
  rw[hf]at ec es;obtain⟨k1,k2⟩:=YY f.t;have n2:=Q5 f.t;have h2:(1+QK false f.t)*(1+f.t*f.t)=2:=by grind
  have h0:1+QK false f.t≠0:=fun e=>by rw[e]at h2;grind
  have hq:f.t*(1+QK false f.t)=QO false f.t:=by
   have:(1+f.t*f.t)*(f.t*(1+QK false f.t)-QO false f.t)=0:=by
    have:(1+f.t*f.t)*(f.t*(1+QK false f.t)-QO false f.t)=f.t*((1+QK false f.t)*(1+f.t*f.t))-QO false f.t*(1+f.t*f.t):=by grind
    rw[this,h2,k2];grind
   have:=(Zc.1 this).resolve_left (by grind);grind
  have bc:Bd 95 (QK false f.t):=by rw[ec];exact YX (Qg cB hc) (Qg sB hs)
  have bs:Bd 95 (QO false f.t):=by rw[es];exact XV (Qg sB hc) (Qg cB hs)
  rw[QIu h0 hq];exact(XR bs (XV b1 bc) h0).mono (by omega)
theorem QQn {L:QZ}(h:MadeLink L): ∃z w:Int,(3*L.lo=(z:Rat)/\ -6<=z/\z<=6)/\3*L.hi=(w:Rat)/\ -6<=w/\w<=6:=by
 obtain⟨r,i,j,s,b,tri,hr,hi,hj,_,_,rfl⟩:=h;refine⟨-1-i,1+j,⟨?_,by omega,by omega⟩,?_,by omega,by omega⟩
 ·show 3*mkRat (-1-i) 3=_
  rw[Rat.mkRat_eq_div];push_cast;grind
 ·show 3*mkRat (1+j) 3=_
  rw[Rat.mkRat_eq_div];push_cast;grind
theorem QJR {a0:Qx}(ha:MadeA a0){L0 L1:QZ}(hL:a0.links=[L0,L1]){a:Qx}(ea:a=⟨a0.name,a0.x,a0.y,a0.half,a0.t,[L0,L1,L0]⟩){t0 t1 t2:Rat}(hq:QSx a [t0,t1,t2]){f:FrV}(hf:(JW (Vq a) [L0,L1,L0] [t0,t1,t2])[3]? =some f):
    Qy a/\(Bd 500 f.x/\Bd 500 f.y/\Bd 500 f.t)/\(f.h=true->f.t=0)/\ ∃rs R O,(YW L0.len L1.len (W3 L0 (Xp a f)) (Ww L0 (Xp a f))=some rs/\inF L0.lo L0.hi L1.lo L1.hi rs []=some R)/\HM (thQ L0 L1 (Xp a f) (W3 L0 (Xp a f)) (Ww L0 (Xp a f))) L0.lo L0.hi R []=some O/\O.length<=1000/\(∀o∈O,∃u v w:Sp,o=[u,v,w]/\u.lo<=u.hi/\v.lo<=v.hi/\w.lo<=w.hi)/\ ∃u v w:Sp,[u,v,w]∈O/\u.has t0/\v.has t1/\w.has t2:=by
  have hg0:=MadeA.good ha;have hg:Qy a:=by
    subst ea;exact⟨hg0.name,by simp,hg0.small,hg0.half,fun L hm=>hg0.links L (by rw[hL];simp at hm;simp;rcases hm with h | h | h<;>simp[h])⟩
  obtain⟨D,ex,ey⟩:=QT3 hf;have m0:=ha.1.links L0 (by rw[hL];simp);have m1:=ha.1.links L1 (by rw[hL];simp);have hl:a.links=[L0,L1,L0]:=by subst ea;rfl
  obtain⟨⟨x0,y0⟩,k0,hk0,e0⟩:=hq 0 L0 t0 (by rw[hl];rfl) rfl;obtain⟨⟨x1,y1⟩,k1,hk1,e1⟩:=hq 1 L1 t1 (by rw[hl];rfl) rfl;obtain⟨⟨x2,y2⟩,k2,hk2,e2⟩:=hq 2 L0 t2 (by rw[hl];rfl) rfl;obtain⟨u,hu,el⟩:=QGh m0;obtain⟨v,hv,em⟩:=QGh m1;obtain⟨p,hp,ep⟩:=QB6 m0 hk0;obtain⟨q,hqq,eq⟩:=QB6 m1 hk1;obtain⟨r,hr,er⟩:=QB6 m0 hk2;rw[<-e0]at ep;rw[<-e1]at eq;rw[<-e2]at er;obtain⟨bl,l1⟩:=QQg el hu;obtain⟨bm,l2⟩:=QQg em hv;have S:=QXi (by grind) (by grind) ex ey;obtain⟨hx,hy,bx,by'⟩:=QXj el em hu hv ep eq hp hqq ex ey;have ht:t1=0∨1/24<=QX t1/\QX t1<=2:=by
    have c1:((-48:Int):Rat)<=(q:Rat):=Zb.2 hqq.1;have c2:(q:Rat)<=((48:Int):Rat):=Zb.2 hqq.2;have z1:((-48:Int):Rat)= -48:=rfl;have z2:((48:Int):Rat)=48:=rfl;rcases Int.lt_trichotomy q 0 with h | h | h
    · right;have c3:(q:Rat)<=((-1:Int):Rat):=Zb.2 (by omega);have z3:((-1:Int):Rat)= -1:=rfl;rcases WS t1 with⟨e,_⟩ | ⟨e,_⟩<;>rw[e]<;>constructor<;>grind
    · left;subst h;have z3:((0:Int):Rat)=0:=rfl;grind
    · right;have c3:((1:Int):Rat)<=(q:Rat):=Zb.2 (by omega);have z3:((1:Int):Rat)=1:=rfl;rcases WS t1 with⟨e,_⟩ | ⟨e,_⟩<;>rw[e]<;>constructor<;>grind
  have s0:=(hg0.links L0 (by rw[hL];simp)).small;have s1:=(hg0.links L1 (by rw[hL];simp)).small;have up: ∀{z:Rat},Xx z->Bd 20000 z:=fun h=>(Vx h).mono (by omega);obtain⟨bC,bS⟩:=QXu D ep eq er hp hqq hr;obtain⟨zl,zh,⟨hlo,bzl⟩,hhi,bzh⟩:=QQn m0;have H:Thr L0.len L1.len (W3 L0 (Xp a f)) (Ww L0 (Xp a f)) t0 t1 t2 (Xp a f).h (Xp a f).t u v p q r:=⟨S,D,el,em,ep,eq,er,hu,hv,hp,hqq,hr,bl,bm,bx,by',bC.mono (by omega),bS.mono (by omega)⟩;have small:Bd 500 f.x/\Bd 500 f.y/\Bd 500 f.t:=by
    obtain⟨c,d,hc,hd,et⟩:=ha.1.t;obtain⟨g1,g2,g3,g4⟩:=QDB L0.len L1.len L0.len t0 t1 t2;have e:=GU hf;rw[<-g1,<-ex]at g3;rw[<-g2,<-ey]at g4;rw[D.c,<-g1]at bC;rw[D.s,<-g2]at bS;have gx:=XV bx (Qg bl bC);have gy:=XV by' (Qg bl bS);refine QMe (a:=a) ?_ (by rw[ea];exact ha.1.half) (by rw[ea];exact Vx hg0.small.1) (by rw[ea];exact Vx hg0.small.2.1) e ?_ ?_ bC bS
    · rw[ea];show Bd 2 a0.t
      rw[et];have h1:c= -1∨c=0∨c=1:=by omega
      have h2:d=1∨d=2∨d=3:=by omega
      rcases h1 with rfl | rfl | rfl<;>rcases h2 with rfl | rfl | rfl<;>exact⟨by decide+kernel,by decide+kernel⟩
    · have:(KP L0.len L1.len L0.len t0 t1 t2).x=W3 L0 (Xp a f)+L0.len*QK (KP L0.len L1.len L0.len t0 t1 t2).h (KP L0.len L1.len L0.len t0 t1 t2).t:=by grind
      rw[this];exact gx.mono (by omega)
    · have:(KP L0.len L1.len L0.len t0 t1 t2).y=Ww L0 (Xp a f)+L0.len*QO (KP L0.len L1.len L0.len t0 t1 t2).h (KP L0.len L1.len L0.len t0 t1 t2).t:=by grind
      rw[this];exact gy.mono (by omega)
  obtain⟨ch,U,V,sep,M,ch',U',V',sep',M',RQ,RP,rs,d1,d2,d3,d4,r',hr',d5,d6⟩:=S.solve ⟨bl,bm,bx,by'⟩ l2 hx hy ht;have hin: ∀r∈rs,∃u v,XY r.1 L0.lo L0.hi=some u/\XY r.2 L1.lo L1.hi=some v:=fun r hr=>by
    obtain⟨s,t,rfl,k1,k2,_⟩:=d4 r hr;obtain⟨u,hu,_⟩:=RQ.within k1 (by omega) (up s0.2.1) (up s0.2.2.1);obtain⟨v,hv,_⟩:=RP.within k2 (by omega) (up s1.2.1) (up s1.2.2.1);exact⟨u,v,hu,hv⟩
  obtain⟨R,i1,i2,i3,i4⟩:=QKh (acc:=[]) hin;have hrR:r'∈R:=by
    obtain⟨s,t,rfl,k1,k2,_⟩:=d4 r' hr';obtain⟨u,hu,hu2⟩:=RQ.within k1 (by omega) (up s0.2.1) (up s0.2.2.1);obtain⟨v,hv,hv2⟩:=RP.within k2 (by omega) (up s1.2.1) (up s1.2.2.1);have:=hu2 t0 S.q d5.1 d5.2 x0 y0;have:=hv2 t1 S.p d6.1 d6.2 x1 y1;subst u v;exact i4 _ hr' hu hv
  have hfind: ∀r∈R,∃O r0 r1,Gw (thQ L0 L1 (Xp a f) (W3 L0 (Xp a f)) (Ww L0 (Xp a f)) r) L0.lo L0.hi=some O/\QU9 r0 r1 t0 t1 t2 O/\((r.1.s.lo<=t0/\t0<=r.1.s.hi)->(r.2.s.lo<=t1/\t1<=r.2.s.hi)->r0=t0/\r1=t1):=fun r hr=>by
    obtain⟨s,t,rfl,k1,k2,⟨r0,r1,c1,c2,c3⟩,_⟩:=d4 r (i3 r hr);obtain⟨O,hO,hO2⟩:=H.find RQ RP c3 k1 k2 c1 c2 hlo hhi bzl bzh (Vx s0.2.1) (Vx s0.2.2.1) ⟨x2,y2⟩ (thQ L0 L1 (Xp a f) (W3 L0 (Xp a f)) (Ww L0 (Xp a f)) (⟨[q0V L0.len L1.len (W3 L0 (Xp a f)) (Ww L0 (Xp a f)),q1V L0.len (Ww L0 (Xp a f)),q2V L0.len L1.len (W3 L0 (Xp a f)) (Ww L0 (Xp a f))],s⟩,⟨[p0V L0.len L1.len (W3 L0 (Xp a f)) (Ww L0 (Xp a f)),0,p2V L0.len L1.len (W3 L0 (Xp a f)) (Ww L0 (Xp a f))],t⟩)) ⟨rfl,rfl,rfl,rfl,rfl,rfl,rfl⟩;refine⟨O,r0,r1,hO,hO2,fun w1 w2=> ?_⟩;have a1:r0=t0:=by
      refine Zg fun hne=> ?_
      rcases(show r0<t0∨t0<r0 by grind)with hlt | hlt
      · exact RQ.uniq k1 hlt c3.q S.q c1.1 w1.2
      · exact RQ.uniq k1 hlt S.q c3.q w1.1 c1.2
    have a2:r1=t1:=by
      refine Zg fun hne=> ?_
      rcases(show r1<t1∨t1<r1 by grind)with hlt | hlt
      · exact RP.uniq k2 hlt c3.p S.p c2.1 w2.2
      · exact RP.uniq k2 hlt S.p c3.p w2.1 c2.2
    exact⟨a1,a2⟩
  obtain⟨E,f1,f2,f3,f4⟩:=QQm (q:=thQ L0 L1 (Xp a f) (W3 L0 (Xp a f)) (Ww L0 (Xp a f))) (lo:=L0.lo) (hi:=L0.hi) (acc:=[]) fun r hr=>by obtain⟨O,_,_,hO,_⟩:=hfind r hr;exact⟨O,hO⟩
  have ok:f.h=true->f.t=0:=by rw[GU hf];exact GJ _ _
  refine⟨hg,small,ok,rs,R,E,⟨d1,i1⟩,f1,by omega,fun o ho=> ?_,?_⟩
  · obtain⟨r,hr,g1,g2⟩:=f3 o ho;obtain⟨O,r0,r1,hO,hO2,_⟩:=hfind r hr;rw[g1]at hO;have:=Option.some.inj hO;subst this;rcases hO2.1 with e | ⟨u,v,w,e,w1,w2,w3⟩
    · exact absurd e g2
    · exact⟨u,v,w,e,w1.ok,w2.ok,w3⟩
  · obtain⟨O,r0,r1,hO,hO2,hO3⟩:=hfind r' hrR;obtain⟨a1,a2⟩:=hO3 d5 d6;obtain⟨u,v,w,e,w1,w2,w3⟩:=hO2.2 a1 a2;exact⟨u,v,w,by rw[<-e];exact f4 r' hrR O hO (by rw[e];simp),w1,w2,w3⟩
end Go.Proofs
