/- InverseFinds, plainly: a configuration of two joints as Two sees it. -/
import Derived.Test.YtjdhppdpbkoihaaGreatDoorQF
import Derived.Test.YtjdhppdpbkoihaaGreatDoorIU
import Derived.Test.YtjdhppdpbkoihaaGreatDoorCG
namespace Go.Proofs
open Go Go.Eng
theorem GR (h:Bool)(t:Rat):QK h (-t)=QK h t/\QO h (-t)= -QO h t:=by
 unfold QK QO;have e:(1:Rat)+ -t* -t=1+t*t:=by grind
 have e2:(1:Rat)- -t* -t=1-t*t:=by grind
 cases h with
 | true=>exact⟨rfl,show(0:Rat)= -0 by decide⟩
 | false=>
  simp only[R8];rw[e,e2];refine⟨rfl,?_⟩;rw[Rat.div_def,Rat.div_def];grind
theorem QKi:QK false 0=1/\QO false 0=0:=by decide+kernel
theorem YY (t:Rat):QK false t*(1+t*t)=1-t*t/\QO false t*(1+t*t)=2*t:=by
 have n:=Q5 t;unfold QK QO;simp only[R8];have:1+t*t≠0:=by grind
 rw[Rat.div_mul_cancel this,Rat.div_mul_cancel this];exact⟨rfl,by grind⟩
theorem QXi {l m t0 t1:Rat}(hl:0<l)(hm:0<m){x y:Rat}(ex:x=l*QK false t0+m*(QK false t0*QK false t1-QO false t0*QO false t1))(ey:y=l*QO false t0+m*(QO false t0*QK false t1+QK false t0*QO false t1)):Sol l m x y t0 t1:=by
 obtain⟨k1,k2⟩:=YY t0;obtain⟨k3,k4⟩:=YY t1;have e0:=cs1 false t0;have e1:=cs1 false t1;generalize QK false t0=c0 at*;generalize QO false t0=s0 at*;generalize QK false t1=c1 at*;generalize QO false t1=s1 at*;have h1:x*c0+y*s0=l+m*c1:=by
  have:x*c0+y*s0=l*(c0*c0+s0*s0)+m*c1*(c0*c0+s0*s0):=by rw[ex,ey];grind
  rw[this,e0];grind
 have h2:y*c0-x*s0=m*s1:=by
  have:y*c0-x*s0=m*s1*(c0*c0+s0*s0):=by rw[ex,ey];grind
  rw[this,e0];grind
 have h3:KO x y=l*l+m*m+2*(l*m*c1):=by
  have:KO x y=(x*c0+y*s0)*(x*c0+y*s0)+(y*c0-x*s0)*(y*c0-x*s0):=by
   have:(x*c0+y*s0)*(x*c0+y*s0)+(y*c0-x*s0)*(y*c0-x*s0)=(x*x+y*y)*(c0*c0+s0*s0):=by grind
   rw[this,e0];unfold KO;grind
  rw[this,h1,h2];have:m*s1*(m*s1)=m*m*(1-c1*c1):=by rw[<-e1];grind
  rw[this];grind
 refine⟨hl,hm,?_,?_,?_⟩
 ·unfold fQ q2V q1V q0V kV;rw[h3];have:x*(1-t0*t0)+2*(y*t0)=(1+t0*t0)*(l+m*c1):=by rw[<-h1,<-k1];grind
  grind
 ·unfold fP p2V p0V;rw[h3];have:m*(c1*(1+t1*t1))=m*(1-t1*t1):=by rw[k3]
  grind
 ·have:sdV x y t0=(1+t0*t0)*(m*s1):=by rw[<-h2];unfold sdV;grind
  rw[this];have:m*(s1*(1+t1*t1))=m*(2*t1):=by rw[k4]
  grind
theorem QQf (h:Bool)(t:Rat): -1<=QK h t/\QK h t<=1/\ -1<=QO h t/\QO h t<=1:=by
 have e:=cs1 h t;generalize QK h t=c at*;generalize QO h t=s at*;have a:=Q5 c;have b:=Q5 s;have key: ∀z:Rat,z*z<=1-> -1<=z/\z<=1:=fun z hz=>by
  constructor
  ·refine Rat.not_lt.1 fun k=> ?_
   have:=Rat.mul_pos (a:= -1-z) (b:=1-z) (by grind) (by grind);grind
  ·refine Rat.not_lt.1 fun k=> ?_
   have:=Rat.mul_pos (a:=z-1) (b:=1+z) (by grind) (by grind);grind
 obtain⟨k1,k2⟩:=key c (by grind);obtain⟨k3,k4⟩:=key s (by grind);exact⟨k1,k2,k3,k4⟩
theorem QXj {l m t0 t1:Rat}{u v:Int}{p q:Int}(hl:2*l=(u:Rat))(hm:2*m=(v:Rat))(hu:2<=u/\u<=5)(hv:2<=v/\v<=5)(h0:24*t0=(p:Rat))(h1:24*t1=(q:Rat))(hp: -48<=p/\p<=48)(hq: -48<=q/\q<=48){x y:Rat}
    (ex:x=l*QK false t0+m*(QK false t0*QK false t1-QO false t0*QO false t1)) (ey:y=l*QO false t0+m*(QO false t0*QK false t1+QK false t0*QO false t1)):(-5<=x/\x<=5)/\(-5<=y/\y<=5)/\Bd 28 x/\Bd 28 y:=by
  have hl2:(2:Rat)<=(u:Rat)/\(u:Rat)<=5:=⟨by exact_mod_cast hu.1,by exact_mod_cast hu.2⟩;have hm2:(2:Rat)<=(v:Rat)/\(v:Rat)<=5:=⟨by exact_mod_cast hv.1,by exact_mod_cast hv.2⟩;have B0:=QQf false t0;have B2:=QQf (thH false t0 false t1) (thT false t0 false t1);rw[(JK _ _ _ _).1,(JK _ _ _ _).2]at B2;have bx: -5<=x/\x<=5:=by
    have a1:=Wx (a:=l) (b:=QK false t0) (A:=5/2) (B:=1) (by grind) (by grind) (by grind) (by grind);have a2:=Wx (a:=m) (b:=QK false t0*QK false t1-QO false t0*QO false t1) (A:=5/2) (B:=1) (by grind) (by grind) (by grind) (by grind);rw[ex];constructor<;>grind
  have by': -5<=y/\y<=5:=by
    have a1:=Wx (a:=l) (b:=QO false t0) (A:=5/2) (B:=1) (by grind) (by grind) (by grind) (by grind);have a2:=Wx (a:=m) (b:=QO false t0*QK false t1+QK false t0*QO false t1) (A:=5/2) (B:=1) (by grind) (by grind) (by grind) (by grind);rw[ey];constructor<;>grind
  obtain⟨k1,k2⟩:=YY t0;obtain⟨k3,k4⟩:=YY t1;have bp:=JZ (x:=p) (y:=p) (a:=48) (b:=48) (by omega) (by omega);have bq:=JZ (x:=q) (y:=q) (a:=48) (b:=48) (by omega) (by omega);have np:0<=p*p:=by rcases Int.le_total 0 p with h | h;exact Int.mul_nonneg h h;have:=Int.mul_nonneg (a:= -p) (b:= -p) (by omega) (by omega);rwa [Int.neg_mul_neg]at this
  have nq:0<=q*q:=by rcases Int.le_total 0 q with h | h;exact Int.mul_nonneg h h;have:=Int.mul_nonneg (a:= -q) (b:= -q) (by omega) (by omega);rwa [Int.neg_mul_neg]at this
  have D1:0<(576+p*p)*(576+q*q):=Int.mul_pos (by omega) (by omega);have D2:((576+p*p)*(576+q*q)).natAbs<=2880*2880:=JZ (by omega) (by omega);have fin: ∀{z:Rat} (N:Int),-5<=z/\z<=5->z*(((2*((576+p*p)*(576+q*q))).toNat:Int):Rat)=(N:Rat)->Bd 28 z:=fun {z} N hz hN=>by
    have hD:(((2*((576+p*p)*(576+q*q))).toNat:Nat):Int)=2*((576+p*p)*(576+q*q)):=Int.toNat_of_nonneg (by omega);have h0:0<(2*((576+p*p)*(576+q*q))).toNat:=by omega
    have h1:(2*((576+p*p)*(576+q*q))).toNat<=16588800:=by omega
    generalize (2*((576+p*p)*(576+q*q))).toNat=D at*;have d0:(0:Rat)<((D:Int):Rat):=by exact_mod_cast h0
    rw[QIu (by grind) hN];have b1:(N:Rat)<=((5*(D:Int):Int):Rat):=by
      have:=Rat.mul_le_mul_of_nonneg_right hz.2 (Rat.le_of_lt d0);rw[hN]at this;have e:((5*(D:Int):Int):Rat)=5*((D:Int):Rat):=Rat.intCast_mul _ _;rw[e];exact this
    have b2:((-(5*(D:Int)):Int):Rat)<=(N:Rat):=by
      have:=Rat.mul_le_mul_of_nonneg_right hz.1 (Rat.le_of_lt d0);rw[hN]at this;have e:((-(5*(D:Int)):Int):Rat)= -5*((D:Int):Rat):=by push_cast;grind
      rw[e];exact this
    have b1:N<=5*(D:Int):=Rat.intCast_le_intCast.1 b1;have b2: -(5*(D:Int))<=N:=Rat.intCast_le_intCast.1 b2;exact K6 h0 (by omega) (by omega)
  have hD:((((2*((576+p*p)*(576+q*q))).toNat:Nat):Int):Rat)=2*((576+(p:Rat)*p)*(576+(q:Rat)*q)):=by
    have e:(((2*((576+p*p)*(576+q*q))).toNat:Nat):Int)=2*((576+p*p)*(576+q*q)):=Int.toNat_of_nonneg (by omega);rw[e];push_cast;rfl
  have ep:t0=(p:Rat)/24:=by rw[<-h0];grind
  have eq:t1=(q:Rat)/24:=by rw[<-h1];grind
  have el:l=(u:Rat)/2:=by rw[<-hl];grind
  have em:m=(v:Rat)/2:=by rw[<-hm];grind
  have P1:QK false t0*(576+(p:Rat)*p)=576-(p:Rat)*p:=by rw[ep]at k1⊢;grind
  have P2:QO false t0*(576+(p:Rat)*p)=48*(p:Rat):=by rw[ep]at k2⊢;grind
  have P3:QK false t1*(576+(q:Rat)*q)=576-(q:Rat)*q:=by rw[eq]at k3⊢;grind
  have P4:QO false t1*(576+(q:Rat)*q)=48*(q:Rat):=by rw[eq]at k4⊢;grind
  refine⟨bx,by',fin (u*((576-p*p)*(576+q*q))+v*((576-p*p)*(576-q*q)-48*p*(48*q))) bx ?_,fin (u*(48*p*(576+q*q))+v*(48*p*(576-q*q)+(576-p*p)*(48*q))) by' ?_⟩
  · rw[hD,ex,el,em];push_cast;rw[<-P1,<-P2,<-P3,<-P4];generalize QK false t0=c0;generalize QO false t0=s0;generalize QK false t1=c1;generalize QO false t1=s1;grind
  · rw[hD,ey,el,em];push_cast;rw[<-P1,<-P2,<-P3,<-P4];generalize QK false t0=c0;generalize QO false t0=s0;generalize QK false t1=c1;generalize QO false t1=s1;grind
end Go.Proofs
namespace Go.Proofs
open Go Go.Eng
theorem QGh {L:QZ}(h:MadeLink L): ∃u:Int,(2<=u/\u<=5)/\2*L.len=(u:Rat):=by
 obtain⟨r,i,j,s,b,tri,hr,_,_,_,_,rfl⟩:=h;refine⟨2+r,by omega,?_⟩;show 2*mkRat (4+2*r) 4=_
 rw[Rat.mkRat_eq_div];push_cast;grind
theorem QB6 {L:QZ}(h:MadeLink L){k:Int}(hk:0<=k/\k<=8): ∃p:Int,(-48<=p/\p<=48)/\24*WG L.lo L.hi k=(p:Rat):=by
 obtain⟨r,i,j,s,b,tri,hr,hi,hj,_,_,rfl⟩:=h;refine⟨8*(-1-i)+(2+i+j)*k,?_,?_⟩
 ·have:k=0∨k=1∨k=2∨k=3∨k=4∨k=5∨k=6∨k=7∨k=8:=by omega
  rcases this with rfl | rfl | rfl | rfl | rfl | rfl | rfl | rfl | rfl<;>omega
 ·rw[QFY];show 24*(mkRat (-1-i) 3+(mkRat (1+j) 3-mkRat (-1-i) 3)*((k:Rat)/8))=_
  rw[Rat.mkRat_eq_div,Rat.mkRat_eq_div];push_cast;grind
theorem QQg {l:Rat}{u:Int}(h:2*l=(u:Rat))(hu:2<=u/\u<=5):Bd 3 l/\1<=l:=by
 have h2:(2:Rat)<=(u:Rat):=by exact_mod_cast hu.1
 refine⟨?_,by grind⟩;have e:l=(u:Rat)/((2:Int):Rat):=by
  have:((2:Int):Rat)=2:=rfl;rw[this,<-h];grind
 rw[e];exact K6 (D:=2) (by omega) (by omega) (by omega)
theorem Vx {q:Rat}(h:Xx q):Bd 20 q:=⟨by have:=h.1;omega,by have:=h.2;omega⟩
theorem QU7 {t:Rat}(h:Bd 20 t):Bd 100 (QK false t)/\Bd 100 (QO false t):=by
 have b1:Bd 1 (1:Rat):=⟨by decide,by decide⟩;have t2:=Qg h h;have d:=XV b1 t2;have n:=Q5 t;have hz:1+t*t≠0:=by grind
 exact⟨(XR (YX b1 t2) d hz).mono (by omega),(XR (XV h h) d hz).mono (by omega)⟩
end Go.Proofs
