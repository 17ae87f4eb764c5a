/- InverseFinds: its parts. -/
import Derived.Test.YtfhfenokfkenoaaGreatDoorIU
import Derived.Test.YtfhfenokfkenoaaGreatDoorCG
import Derived.Test.YtfhfenokfkenoaaGreatDoorQF
open Rat renaming intCast_le_intCast → Za, mul_le_mul_of_nonneg_right → Zb, mkRat_eq_div → Zc
namespace Go.Proofs
open Go Go.Eng
structure BT (x:Rat):Prop where
  bd:Bd 20000 x
def HC:Ctr
 | [.x true xs,.x true [.r x _n,.r y _m]]=>some fun K=> ∃(a:ArmV) (L0 L1:QY) (rs R:List (RtV×RtV)) (O:List (List Sp)),xs=Xd a/\((QU a/\a.links=[L0,L1])/\BT x/\BT y)/\((YI L0.len L1.len (U8 a x y) (U9 a x y)=some rs/\inF L0.lo L0.hi L1.lo L1.hi rs []=some R)/\Kz R []=some O)/\
   (O=[]->K (.t [(false,[.v (.slice none 0 0)]),(false,[.v (.int .i64 17)])]))/\(O≠[]->K (.t [(false,[.s 1 (O.map Y3)]),(false,[.v (.int .i64 0)])]))
 | _=>none
theorem QYA {W:World}{O:Nat->Prop}{ρ:Env}{x y:Rat}{n m n' m':Nat}(h1:Bd n' x)(h2:Bd m' y){v:Value}(h:ConcV W O ρ (.x true [.r x n,.r y m]) v):ConcV W O ρ (.x true [.r x n',.r y m']) v:=by
 obtain⟨vals,h3,h4⟩:=h;cases h3 with | r b1 h3=>cases h3 with | r b2 h3=>exact⟨_,.r h1 (.r h2 h3),h4⟩
theorem QGE:QI 27 HC:=by
 refine⟨ok_iTwo.enter,fun l T hT K hK=> ?_⟩;unfold HC at hT;split at hT
 ·rename_i xs x n y m;cases hT
  obtain⟨a,L0,L1,rs,R,O,rfl,⟨hg,hx,hy⟩,hs,hK⟩:=hK;refine Eng.Spec.args (ok_iTwo.sound [.x true (Xd a),.x true [.r x 20000,.r y 20000]] _ rfl K ⟨a,L0,L1,rs,R,O,rfl,⟨⟨hg,Nat.le_refl _,Nat.le_refl _⟩,hs⟩,hK⟩) fun w O vals hc=> ?_
  cases hc with
  | cons h1 h2=>cases h2 with
   | cons h2 h3=>exact .cons h1 (.cons (QYA hx.bd hy.bd h2) h3)
 ·cases hT
def Qa6:LC:=(27,HC)::QL3
theorem QGF:(((YI (X0 3).len (X0 4).len (U8 (XC [3,4]) (pt1 5 0).1 (pt1 5 0).2) (U9 (XC [3,4]) (pt1 5 0).1 (pt1 5 0).2)).bind fun rs=>(inF (X0 3).lo (X0 3).hi (X0 4).lo (X0 4).hi rs []).bind fun R=>Kz R []).map (·.map List.length))=some [2,2]:=by decide+kernel
theorem QYB:Jm (X0 4):=by
 have hp:=Uo (show QCW (X0 4).shape=true by decide+kernel);refine⟨⟨?_,?_,?_,?_,?_⟩,?_,?_,?_,?_,hp,fun p hp=> ?_⟩
 ·exact Qy (by omega) (by decide)
 ·exact Qy (by decide) (by decide)
 ·exact Qy (by decide) (by decide)
 ·exact Qy (by decide) (by decide)
 ·exact Qy (by decide) (by decide)
 ·exact YA (by omega) (by decide)
 ·show mkRat (-2) 1<mkRat 2 1
  decide+kernel
 ·exact YA (by decide) (by decide)
 ·exact YA (by decide) (by decide)
 ·have c: ∀x y:Int,x.natAbs<=1000000->y.natAbs<=1000000->Xu (pt1 x y).1/\Xu (pt1 x y).2:=fun x y hx hy=>⟨Qy hx (by decide),Qy hy (by decide)⟩;simp only[X0,List.mem_cons,List.not_mem_nil,or_false]at hp;rcases hp with rfl | rfl | rfl | rfl<;>exact c _ _ (by omega) (by omega)
theorem QBa:QU (XC [3,4]):=by
 have g:=QFr (ns:=[3]) (by simp) (by simp);refine⟨g.name,by simp[XC],g.small,g.half,fun L hL=> ?_⟩;have hL:L=X0 3∨L=X0 4:=by simpa [XC]using hL
 rcases hL with rfl | rfl
 ·exact QA7 (by simp)
 ·exact QYB
theorem QaW:BT (pt1 5 0).1/\BT (pt1 5 0).2:=by
 constructor
 ·exact⟨Bd.mono (n:=5) (by omega) ⟨by decide+kernel,by decide+kernel⟩⟩
 ·exact⟨Bd.mono (n:=5) (by omega) ⟨by decide+kernel,by decide+kernel⟩⟩
def QaX:LC:=Qa6
noncomputable def QbF:Qb:=mkT QaX Hs X4
end Go.Proofs
namespace Go.Proofs
open Go Go.Eng
theorem QEV (h:Bool)(t:Rat):Qz h (-t)=Qz h t/\Qv h (-t)= -Qv h t:=by
 unfold Qz Qv;have e:(1:Rat)+ -t* -t=1+t*t:=by grind
 have e2:(1:Rat)- -t* -t=1-t*t:=by grind
 cases h with
 | true=>exact⟨rfl,show(0:Rat)= -0 by decide⟩
 | false=>
  simp only[R8];rw[e,e2];refine⟨rfl,?_⟩;rw[Rat.div_def,Rat.div_def];grind
theorem Gs:Qz false 0=1/\Qv false 0=0:=by decide+kernel
theorem QBb (t:Rat):Qz false t*(1+t*t)=1-t*t/\Qv false t*(1+t*t)=2*t:=by
 have n:=Xq t;unfold Qz Qv;simp only[R8];have:1+t*t≠0:=by grind
 rw[Rat.div_mul_cancel this,Rat.div_mul_cancel this];exact⟨rfl,by grind⟩
theorem QT3 {a:ArmV}{L0 L1:QY}{t0 t1:Rat}{f:FrV}(hf:(Ql (XF a) [L0,L1] [t0,t1])[2]? =some f):
    U8 a f.x f.y=L0.len*Qz false t0+L1.len*(Qz false t0*Qz false t1-Qv false t0*Qv false t1)/\U9 a f.x f.y=L0.len*Qv false t0+L1.len*(Qv false t0*Qz false t1+Qz false t0*Qv false t1):=by
  have hf:some (Xn (Xn (Xn (Xn (XF a) ⟨0,0,false,t0⟩) ⟨L0.len,0,false,0⟩) ⟨0,0,false,t1⟩) ⟨L1.len,0,false,0⟩)=some f:=hf;obtain rfl:=Option.some.inj hf;unfold U8 U9 QTv WM QDr QDs Xn XF;simp only;unfold QDr QDs;simp only[(QCZ _ _ _ _).1,(QCZ _ _ _ _).2,(QEV _ _).1,(QEV _ _).2,Gs.1,Gs.2];have e:=cs1 a.half a.t;generalize Qz a.half a.t=c at*;generalize Qv a.half a.t=s at*;generalize Qz false t0=c0 at*;generalize Qv false t0=s0 at*;generalize Qz false t1=c1 at*;generalize Qv false t1=s1 at*;constructor<;>grind
theorem QYC {l m t0 t1:Rat}(hl:0<l)(hm:0<m){x y:Rat}(ex:x=l*Qz false t0+m*(Qz false t0*Qz false t1-Qv false t0*Qv false t1))(ey:y=l*Qv false t0+m*(Qv false t0*Qz false t1+Qz false t0*Qv false t1)):Sol l m x y t0 t1:=by
 obtain⟨k1,k2⟩:=QBb t0;obtain⟨k3,k4⟩:=QBb t1;have e0:=cs1 false t0;have e1:=cs1 false t1;generalize Qz false t0=c0 at*;generalize Qv false t0=s0 at*;generalize Qz false t1=c1 at*;generalize Qv false t1=s1 at*;have h1:x*c0+y*s0=l+m*c1:=by
  have:x*c0+y*s0=l*(c0*c0+s0*s0)+m*c1*(c0*c0+s0*s0):=by rw[ex,ey];grind
  rw[this,e0];grind
 have h2:y*c0-x*s0=m*s1:=by
  have:y*c0-x*s0=m*s1*(c0*c0+s0*s0):=by rw[ex,ey];grind
  rw[this,e0];grind
 have h3:K1 x y=l*l+m*m+2*(l*m*c1):=by
  have:K1 x y=(x*c0+y*s0)*(x*c0+y*s0)+(y*c0-x*s0)*(y*c0-x*s0):=by
   have:(x*c0+y*s0)*(x*c0+y*s0)+(y*c0-x*s0)*(y*c0-x*s0)=(x*x+y*y)*(c0*c0+s0*s0):=by grind
   rw[this,e0];unfold K1;grind
  rw[this,h1,h2];have:m*s1*(m*s1)=m*m*(1-c1*c1):=by rw[<-e1];grind
  rw[this];grind
 refine⟨hl,hm,?_,?_,?_⟩
 ·unfold fQ q2V q1V q0V kV;rw[h3];have:x*(1-t0*t0)+2*(y*t0)=(1+t0*t0)*(l+m*c1):=by rw[<-h1,<-k1];grind
  grind
 ·unfold fP p2V p0V;rw[h3];have:m*(c1*(1+t1*t1))=m*(1-t1*t1):=by rw[k3]
  grind
 ·have:sdV x y t0=(1+t0*t0)*(m*s1):=by rw[<-h2];unfold sdV;grind
  rw[this];have:m*(s1*(1+t1*t1))=m*(2*t1):=by rw[k4]
  grind
theorem QVC (h:Bool)(t:Rat): -1<=Qz h t/\Qz h t<=1/\ -1<=Qv h t/\Qv h t<=1:=by
 have e:=cs1 h t;generalize Qz h t=c at*;generalize Qv h t=s at*;have a:=Xq c;have b:=Xq s;have key: ∀z:Rat,z*z<=1-> -1<=z/\z<=1:=fun z hz=>by
  constructor
  ·refine Rat.not_lt.1 fun k=> ?_
   have:=Rat.mul_pos (a:= -1-z) (b:=1-z) (by grind) (by grind);grind
  ·refine Rat.not_lt.1 fun k=> ?_
   have:=Rat.mul_pos (a:=z-1) (b:=1+z) (by grind) (by grind);grind
 obtain⟨k1,k2⟩:=key c (by grind);obtain⟨k3,k4⟩:=key s (by grind);exact⟨k1,k2,k3,k4⟩
theorem QYD {l m t0 t1:Rat}{u v:Int}{p q:Int}(hl:2*l=(u:Rat))(hm:2*m=(v:Rat))(hu:2<=u/\u<=5)(hv:2<=v/\v<=5)(h0:24*t0=(p:Rat))(h1:24*t1=(q:Rat))(hp: -48<=p/\p<=48)(hq: -48<=q/\q<=48){x y:Rat}
    (ex:x=l*Qz false t0+m*(Qz false t0*Qz false t1-Qv false t0*Qv false t1)) (ey:y=l*Qv false t0+m*(Qv false t0*Qz false t1+Qz false t0*Qv false t1)):(-5<=x/\x<=5)/\(-5<=y/\y<=5)/\Bd 28 x/\Bd 28 y:=by
  have hl2:(2:Rat)<=(u:Rat)/\(u:Rat)<=5:=⟨by exact_mod_cast hu.1,by exact_mod_cast hu.2⟩;have hm2:(2:Rat)<=(v:Rat)/\(v:Rat)<=5:=⟨by exact_mod_cast hv.1,by exact_mod_cast hv.2⟩;have B0:=QVC false t0;have B2:=QVC (thH false t0 false t1) (thT false t0 false t1);rw[(QCZ _ _ _ _).1,(QCZ _ _ _ _).2]at B2;have bx: -5<=x/\x<=5:=by
    have a1:=UR (a:=l) (b:=Qz false t0) (A:=5/2) (B:=1) (by grind) (by grind) (by grind) (by grind);have a2:=UR (a:=m) (b:=Qz false t0*Qz false t1-Qv false t0*Qv false t1) (A:=5/2) (B:=1) (by grind) (by grind) (by grind) (by grind);rw[ex];constructor<;>grind
  have by': -5<=y/\y<=5:=by
    have a1:=UR (a:=l) (b:=Qv false t0) (A:=5/2) (B:=1) (by grind) (by grind) (by grind) (by grind);have a2:=UR (a:=m) (b:=Qv false t0*Qz false t1+Qz false t0*Qv false t1) (A:=5/2) (B:=1) (by grind) (by grind) (by grind) (by grind);rw[ey];constructor<;>grind
  obtain⟨k1,k2⟩:=QBb t0;obtain⟨k3,k4⟩:=QBb t1;have bp:=Va (x:=p) (y:=p) (a:=48) (b:=48) (by omega) (by omega);have bq:=Va (x:=q) (y:=q) (a:=48) (b:=48) (by omega) (by omega);have np:0<=p*p:=by rcases Int.le_total 0 p with h | h;exact Int.mul_nonneg h h;have:=Int.mul_nonneg (a:= -p) (b:= -p) (by omega) (by omega);rwa [Int.neg_mul_neg]at this
  have nq:0<=q*q:=by rcases Int.le_total 0 q with h | h;exact Int.mul_nonneg h h;have:=Int.mul_nonneg (a:= -q) (b:= -q) (by omega) (by omega);rwa [Int.neg_mul_neg]at this
  have D1:0<(576+p*p)*(576+q*q):=Int.mul_pos (by omega) (by omega);have D2:((576+p*p)*(576+q*q)).natAbs<=2880*2880:=Va (by omega) (by omega);have fin: ∀{z:Rat} (N:Int),-5<=z/\z<=5->z*(((2*((576+p*p)*(576+q*q))).toNat:Int):Rat)=(N:Rat)->Bd 28 z:=fun {z} N hz hN=>by
    have hD:(((2*((576+p*p)*(576+q*q))).toNat:Nat):Int)=2*((576+p*p)*(576+q*q)):=Int.toNat_of_nonneg (by omega);have h0:0<(2*((576+p*p)*(576+q*q))).toNat:=by omega
    have h1:(2*((576+p*p)*(576+q*q))).toNat<=16588800:=by omega
    generalize (2*((576+p*p)*(576+q*q))).toNat=D at*;have d0:(0:Rat)<((D:Int):Rat):=by exact_mod_cast h0
    rw[QPT (by grind) hN];have b1:(N:Rat)<=((5*(D:Int):Int):Rat):=by
      have:=Zb hz.2 (Rat.le_of_lt d0);rw[hN]at this;have e:((5*(D:Int):Int):Rat)=5*((D:Int):Rat):=Rat.intCast_mul _ _;rw[e];exact this
    have b2:((-(5*(D:Int)):Int):Rat)<=(N:Rat):=by
      have:=Zb hz.1 (Rat.le_of_lt d0);rw[hN]at this;have e:((-(5*(D:Int)):Int):Rat)= -5*((D:Int):Rat):=by push_cast;grind
      rw[e];exact this
    have b1:N<=5*(D:Int):=Za.1 b1;have b2: -(5*(D:Int))<=N:=Za.1 b2;exact Vr h0 (by omega) (by omega)
  have hD:((((2*((576+p*p)*(576+q*q))).toNat:Nat):Int):Rat)=2*((576+(p:Rat)*p)*(576+(q:Rat)*q)):=by
    have e:(((2*((576+p*p)*(576+q*q))).toNat:Nat):Int)=2*((576+p*p)*(576+q*q)):=Int.toNat_of_nonneg (by omega);rw[e];push_cast;rfl
  have ep:t0=(p:Rat)/24:=by rw[<-h0];grind
  have eq:t1=(q:Rat)/24:=by rw[<-h1];grind
  have el:l=(u:Rat)/2:=by rw[<-hl];grind
  have em:m=(v:Rat)/2:=by rw[<-hm];grind
  have P1:Qz false t0*(576+(p:Rat)*p)=576-(p:Rat)*p:=by rw[ep]at k1⊢;grind
  have P2:Qv false t0*(576+(p:Rat)*p)=48*(p:Rat):=by rw[ep]at k2⊢;grind
  have P3:Qz false t1*(576+(q:Rat)*q)=576-(q:Rat)*q:=by rw[eq]at k3⊢;grind
  have P4:Qv false t1*(576+(q:Rat)*q)=48*(q:Rat):=by rw[eq]at k4⊢;grind
  refine⟨bx,by',fin (u*((576-p*p)*(576+q*q))+v*((576-p*p)*(576-q*q)-48*p*(48*q))) bx ?_,fin (u*(48*p*(576+q*q))+v*(48*p*(576-q*q)+(576-p*p)*(48*q))) by' ?_⟩
  · rw[hD,ex,el,em];push_cast;rw[<-P1,<-P2,<-P3,<-P4];generalize Qz false t0=c0;generalize Qv false t0=s0;generalize Qz false t1=c1;generalize Qv false t1=s1;grind
  · rw[hD,ey,el,em];push_cast;rw[<-P1,<-P2,<-P3,<-P4];generalize Qz false t0=c0;generalize Qv false t0=s0;generalize Qz false t1=c1;generalize Qv false t1=s1;grind
end Go.Proofs
namespace Go.Proofs
open Go Go.Eng
theorem QGG {L:QY}(h:MadeLink L): ∃u:Int,(2<=u/\u<=5)/\2*L.len=(u:Rat):=by
 obtain⟨r,i,j,s,b,tri,hr,_,_,_,_,rfl⟩:=h;refine⟨2+r,by omega,?_⟩;show 2*mkRat (4+2*r) 4=_
 rw[Zc];push_cast;grind
theorem QGH {L:QY}(h:MadeLink L){k:Int}(hk:0<=k/\k<=8): ∃p:Int,(-48<=p/\p<=48)/\24*J9 L.lo L.hi k=(p:Rat):=by
 obtain⟨r,i,j,s,b,tri,hr,hi,hj,_,_,rfl⟩:=h;refine⟨8*(-1-i)+(2+i+j)*k,?_,?_⟩
 ·have:k=0∨k=1∨k=2∨k=3∨k=4∨k=5∨k=6∨k=7∨k=8:=by omega
  rcases this with rfl | rfl | rfl | rfl | rfl | rfl | rfl | rfl | rfl<;>omega
 ·rw[QFB];show 24*(mkRat (-1-i) 3+(mkRat (1+j) 3-mkRat (-1-i) 3)*((k:Rat)/8))=_
  rw[Zc,Zc];push_cast;grind
theorem QQe {l:Rat}{u:Int}(h:2*l=(u:Rat))(hu:2<=u/\u<=5):Bd 3 l/\1<=l:=by
 have h2:(2:Rat)<=(u:Rat):=by exact_mod_cast hu.1
 refine⟨?_,by grind⟩;have e:l=(u:Rat)/((2:Int):Rat):=by
  have:((2:Int):Rat)=2:=rfl;rw[this,<-h];grind
 rw[e];exact Vr (D:=2) (by omega) (by omega) (by omega)
theorem HD {q:Rat}(h:Xu q):Bd 20 q:=⟨by have:=h.1;omega,by have:=h.2;omega⟩
theorem QaY {t:Rat}(h:Bd 20 t):Bd 100 (Qz false t)/\Bd 100 (Qv false t):=by
 have b1:Bd 1 (1:Rat):=⟨by decide,by decide⟩;have t2:=Qu h h;have d:=YJ b1 t2;have n:=Xq t;have hz:1+t*t≠0:=by grind
 exact⟨(XX (J0 b1 t2) d hz).mono (by omega),(XX (YJ h h) d hz).mono (by omega)⟩
theorem QT4 (a:ArmV)(x y:Rat):x=a.x+(Qz a.half a.t*U8 a x y-Qv a.half a.t*U9 a x y)/\y=a.y+(Qv a.half a.t*U8 a x y+Qz a.half a.t*U9 a x y):=by
  unfold U8 U9 QTv WM QDr QDs;simp only[(QEV _ _).1,(QEV _ _).2];have e:=cs1 a.half a.t;generalize Qz a.half a.t=c at*;generalize Qv a.half a.t=s at*;constructor<;>grind
theorem QMA {a:ArmV}(ha:MadeA a){L0 L1:QY}(hL:a.links=[L0,L1]){t0 t1:Rat}(hq:QS5 a [t0,t1]){f:FrV}(hf:(Ql (XF a) [L0,L1] [t0,t1])[2]? =some f):
    (BT f.x/\BT f.y)/\(1<=L0.len/\1<=L1.len)/\ ∃rs R O,((YI L0.len L1.len (U8 a f.x f.y) (U9 a f.x f.y)=some rs/\inF L0.lo L0.hi L1.lo L1.hi rs []=some R)/\Kz R []=some O)/\O.length<=2/\(t1=0->O.length<=1)/\(∃sa sb,[sa,sb]∈O/\(sa.lo<=t0/\t0<=sa.hi)/\sb.lo<=t1/\t1<=sb.hi)/\
      ∀o∈O,∃sa sb r0 r1,o=[sa,sb]/\(sa.lo<=r0/\r0<=sa.hi)/\(sb.lo<=r1/\r1<=sb.hi)/\sa.hi-sa.lo<=1/((1000:Int):Rat)/\sb.hi-sb.lo<=1/((1000:Int):Rat)/\Sol L0.len L1.len (U8 a f.x f.y) (U9 a f.x f.y) r0 r1:=by
  have hg:=MadeA.good ha;obtain⟨ex,ey⟩:=QT3 hf;have m0:=ha.1.links L0 (by rw[hL];simp);have m1:=ha.1.links L1 (by rw[hL];simp);obtain⟨⟨a0,b0⟩,k0,hk0,e0⟩:=hq 0 L0 t0 (by rw[hL];rfl) rfl;obtain⟨⟨a1,b1⟩,k1,hk1,e1⟩:=hq 1 L1 t1 (by rw[hL];rfl) rfl;obtain⟨u,hu,el⟩:=QGG m0;obtain⟨v,hv,em⟩:=QGG m1;obtain⟨p,hp,ep⟩:=QGH m0 hk0;obtain⟨q,hqq,eq⟩:=QGH m1 hk1;rw[<-e0]at ep;rw[<-e1]at eq;obtain⟨bl,l1⟩:=QQe el hu;obtain⟨bm,l2⟩:=QQe em hv;have S:=QYC (by grind) (by grind) ex ey;obtain⟨hx,hy,bx,by'⟩:=QYD el em hu hv ep eq hp hqq ex ey;have ht:t1=0∨1/24<=QW t1/\QW t1<=2:=by
    have c1:((-48:Int):Rat)<=(q:Rat):=Za.2 hqq.1;have c2:(q:Rat)<=((48:Int):Rat):=Za.2 hqq.2;have z1:((-48:Int):Rat)= -48:=rfl;have z2:((48:Int):Rat)=48:=rfl;rcases Int.lt_trichotomy q 0 with h | h | h
    · right;have c3:(q:Rat)<=((-1:Int):Rat):=Za.2 (by omega);have z3:((-1:Int):Rat)= -1:=rfl;rcases Vg t1 with⟨e,_⟩ | ⟨e,_⟩<;>rw[e]<;>constructor<;>grind
    · left;subst h;have z3:((0:Int):Rat)=0:=rfl;grind
    · right;have c3:((1:Int):Rat)<=(q:Rat):=Za.2 (by omega);have z3:((1:Int):Rat)=1:=rfl;rcases Vg t1 with⟨e,_⟩ | ⟨e,_⟩<;>rw[e]<;>constructor<;>grind
  have s0:=(hg.links L0 (by rw[hL];simp)).small;have s1:=(hg.links L1 (by rw[hL];simp)).small;have up: ∀{z:Rat},Xu z->Bd 20000 z:=fun h=>(HD h).mono (by omega);obtain⟨rs,R,O,r1,r2,r3,rest⟩:=S.two ⟨bl,bm,bx,by'⟩ l2 hx hy ht ⟨⟨up s0.2.1,up s0.2.2.1⟩,up s1.2.1,up s1.2.2.1⟩ ⟨a0,b0⟩ ⟨a1,b1⟩;obtain⟨fx,fy⟩:=QT4 a f.x f.y;have hh:=ha.1.half;rw[hh]at fx fy;obtain⟨c1,c2⟩:=QaY (HD hg.small.2.2);have bfx:BT f.x:=⟨by rw[fx];exact(YJ (HD hg.small.1) (J0 (Qu c1 bx) (Qu c2 by'))).mono (by omega)⟩;have bfy:BT f.y:=⟨by rw[fy];exact(YJ (HD hg.small.2.1) (YJ (Qu c2 bx) (Qu c1 by'))).mono (by omega)⟩
  exact⟨⟨bfx,bfy⟩,⟨l1,l2⟩,rs,R,O,⟨⟨r1,r2⟩,r3⟩,rest⟩
end Go.Proofs
