/- InverseFinds: its parts. -/
import Derived.Test.YtnbkdgmgbaangaaGreatDoorIU
import Derived.Test.YtnbkdgmgbaangaaGreatDoorCG
import Derived.Test.YtnbkdgmgbaangaaGreatDoorQF
namespace Go.Proofs
open Go Go.Eng
structure BT (x:Rat):Prop where
  bd:Bd 20000 x
def G8:Ctr:=fun as0=>match as0 with
 | [.x true xs,.x true [.r x n,.r y m]]=>some fun K=> ∃(a:Qs) (L0 L1:Qh) (rs R:List (RtV×RtV)) (O:List (List Sp)),xs=Jc a/\((Qt a/\a.links=[L0,L1])/\BT x/\BT y)/\((YN L0.len L1.len (QCP a x y) (QCQ a x y)=some rs/\inF L0.lo L0.hi L1.lo L1.hi rs []=some R)/\Vu R []=some O)/\
   (O=[]->K (.t [(false,[.v (.slice none 0 0)]),(false,[.v (.int .i64 17)])]))/\(O≠[]->K (.t [(false,[.s 1 (O.map Jg)]),(false,[.v (.int .i64 0)])]))
 | _=>none
theorem Qah {W:World}{O:Nat->Prop}{ρ:Env}{x y:Rat}{n m n' m':Nat}(h1:Bd n' x)(h2:Bd m' y){v:Value}(h:ConcV W O ρ (.x true [.r x n,.r y m]) v):ConcV W O ρ (.x true [.r x n',.r y m']) v:=by
 obtain⟨vals,h3,h4⟩:=h;cases h3 with | r b1 h3=>cases h3 with | r b2 h3=>exact⟨_,.r h1 (.r h2 h3),h4⟩
theorem QIi:CtrOK Tryz.prog QH QG 30 G8:=by
 refine⟨ok_iTwo.enter,fun l T hT K hK=> ?_⟩;unfold G8 at hT;split at hT
 ·rename_i xs x n y m;cases hT
  obtain⟨a,L0,L1,rs,R,O,rfl,⟨hg,hx,hy⟩,hs,hK⟩:=hK;refine Eng.Spec.args (ok_iTwo.sound [.x true (Jc a),.x true [.r x 20000,.r y 20000]] _ rfl K ⟨a,L0,L1,rs,R,O,rfl,⟨⟨hg,Nat.le_refl _,Nat.le_refl _⟩,hs⟩,hK⟩) fun w O vals hc=> ?_
  cases hc with
  | cons h1 h2=>cases h2 with
   | cons h2 h3=>exact .cons h1 (.cons (Qah hx.bd hy.bd h2) h3)
 ·cases hT
def Qai:List (Nat×Ctr):=(30,G8)::(43,Vj)::(44,QLu)::QSE
noncomputable def Qda:QU:=mkT Qai Hr X4
theorem Qaj:CtrsOK Tryz.prog QH QG Qai:= .cons QIi (.cons QBj (.cons QQW QLF))
theorem Qak:QM Tryz.prog QH QG Qda:=QY Qaj UO Qp
theorem Qal {O:List (List Sp)}{i:Nat}{o:List Sp}(h:O[i]? =some o):ldE (O.map Jg) i 0 1=some (Jg o):=by
 simp only[ldE,List.getElem?_map,h];rfl
theorem QIj:(((YN (Y8 3).len (Y8 4).len (QCP (XI [3,4]) (pt1 5 0).1 (pt1 5 0).2) (QCQ (XI [3,4]) (pt1 5 0).1 (pt1 5 0).2)).bind fun rs=>(inF (Y8 3).lo (Y8 3).hi (Y8 4).lo (Y8 4).hi rs []).bind fun R=>Vu R []).map (·.map List.length))=some [2,2]:=by decide+kernel
theorem Qam:Jd (Y8 4):=by
 have hp:=Uq (show QD9 (Y8 4).shape=true by decide+kernel);refine⟨⟨?_,?_,?_,?_,?_⟩,?_,?_,?_,?_,hp,fun p hp=> ?_⟩
 ·exact Qz (by omega) (by decide)
 ·exact Qz (by decide) (by decide)
 ·exact Qz (by decide) (by decide)
 ·exact Qz (by decide) (by decide)
 ·exact Qz (by decide) (by decide)
 ·exact X0 (by omega) (by decide)
 ·show mkRat (-2) 1<mkRat 2 1
  decide+kernel
 ·exact X0 (by decide) (by decide)
 ·exact X0 (by decide) (by decide)
 ·have c: ∀x y:Int,x.natAbs<=1000000->y.natAbs<=1000000->Xk (pt1 x y).1/\Xk (pt1 x y).2:=fun x y hx hy=>⟨Qz hx (by decide),Qz hy (by decide)⟩;simp only[Y8,List.mem_cons,List.not_mem_nil,or_false]at hp;rcases hp with rfl | rfl | rfl | rfl<;>exact c _ _ (by omega) (by omega)
theorem QSP:Qt (XI [3,4]):=by
 have g:=GM (ns:=[3]) (by simp) (by simp);refine⟨g.name,by simp[XI],g.small,g.half,fun L hL=> ?_⟩;have hL:L=Y8 3∨L=Y8 4:=by simpa [XI]using hL
 rcases hL with rfl | rfl
 ·exact QBi (by simp)
 ·exact Qam
theorem Qdb:BT (pt1 5 0).1/\BT (pt1 5 0).2:=by
 constructor
 ·exact⟨Bd.mono (n:=5) (by omega) ⟨by decide+kernel,by decide+kernel⟩⟩
 ·exact⟨Bd.mono (n:=5) (by omega) ⟨by decide+kernel,by decide+kernel⟩⟩
def QLJ:OT:=fun _=>([],[])
def U7  (K:AV->Prop):Prop:=QW Qda QLJ noL Tryz.f36 [] K
theorem Gp (K:AV->Prop):U7 K=(∃(ns:List Int),[[Ch.v (Value.int IntKind.i64 3)],[Ch.v (Value.int IntKind.i64 4)]]=ints ns/\(ns.length<=3/\∀(n:Int),n∈ns->1<=n/\n<=1000)/\(((-9223372036854775808:Int)<5/\(5:Int)<9223372036854775808)/\(-9223372036854775808:Int)<0/\(0:Int)<9223372036854775808)/\∃(a:Qs)(L0:Qh)(L1:Qh)(rs:List (RtV×RtV))(R:List (RtV×RtV))(O:List (List Sp)),[Ch.v (Value.string (XI ns).name),Ch.r (XI ns).x 63,Ch.r (XI ns).y 63,Ch.v (Value.bool false),Ch.r (XI ns).t 63,Ch.s 16 (List.map QN (XI ns).links)]=[Ch.v (Value.string a.name),Ch.r a.x 63,Ch.r a.y 63,Ch.v (Value.bool a.half),Ch.r a.t 63,Ch.s 16 (List.map QN a.links)]/\((Qt a/\a.links=[L0,L1])/\BT (mkRat 5 1,mkRat 0 1).fst/\BT (mkRat 5 1,mkRat 0 1).snd)/\((YN L0.len L1.len (QCP a (mkRat 5 1,mkRat 0 1).fst (mkRat 5 1,mkRat 0 1).snd) (QCQ a (mkRat 5 1,mkRat 0 1).fst (mkRat 5 1,mkRat 0 1).snd)=some rs/\inF L0.lo L0.hi L1.lo L1.hi rs []=some R)/\Vu R []=some O)/\(O=[]->K (AV.x false [Ch.v (Value.bool false)]))/\(O≠[]->bif Int.ofNat (List.map Jg O).length==2 then((0:Int)<=0/\0<Int.ofNat (List.map Jg O).length)/\∃(ys:List (List Ch)),ldE (List.map Jg O) 0 0 1=some [Ch.s 6 ys]/\bif Int.ofNat ys.length==2 then((0:Int)<=1/\1<Int.ofNat (List.map Jg O).length)/\∃(ys:List (List Ch)),ldE (List.map Jg O) 1 0 1=some [Ch.s 6 ys]/\K (AV.x false [Ch.v (Value.bool (Int.ofNat ys.length==2))])else K (AV.x false [Ch.v (Value.bool false)])else K (AV.x false [Ch.v (Value.bool false)]))):=by kernel_rfl
theorem QON  (hc:True)(K:AV->Prop)(hK:K (.x false [.v (.bool true)])):QR (U7  K):=by
 refine⟨?_⟩;rw[Gp];try simp only[Int.ofNat_eq_natCast,R0,R1,Nat.zero_add,Nat.le_refl,R4,R2,R3]
 have e:=QIj;obtain⟨O,h,e⟩:=Option.map_eq_some_iff.1 e;obtain⟨rs,h1,h⟩:=Option.bind_eq_some_iff.1 h;obtain⟨R,h2,h3⟩:=Option.bind_eq_some_iff.1 h;obtain⟨o1,o2,rfl⟩: ∃o1 o2,O=[o1,o2]:=by
  have hl:O.length=2:=by simpa using congrArg List.length e
  match O,hl with
  | [o1,o2],_=>exact⟨o1,o2,rfl⟩
 simp at e;obtain⟨l1,l2⟩:=e;have good:Qt (XI [3,4]):=QSP;refine⟨[3,4],rfl,⟨by simp,by simp⟩,by omega,XI [3,4],Y8 3,Y8 4,rs,R,[o1,o2],rfl,⟨⟨good,rfl⟩,Qdb⟩,⟨⟨h1,h2⟩,h3⟩,fun h=>by simp at h,fun _=>QF (fun _=>⟨by simp,o1.map (spN 100000),rfl,QF (fun _=>⟨by simp,o2.map (spN 100000),rfl,?_⟩) (fun h=> ?_)⟩) (fun h=> ?_)⟩
 ·rw[List.length_map,l2];exact hK
 ·rw[List.length_map,l1]at h;cases h
 ·cases h
def Vo:Ctr:=fun as0=>match as0 with
 | []=>some fun K=>(True)/\(K (.x false [.v (.bool true)]))
 | _=>none
theorem QLK:CtrOK Tryz.prog QH QG 36 Vo:=by
 refine⟨QJ Tryz.func36 (by kernel_rfl),fun l T hT K hK=> ?_⟩;unfold Vo at hT;split at hT
 ·cases hT
  obtain⟨hc,hK⟩:=hK;exact QI Qak QP Tryz.func36 (by kernel_rfl) (by kernel_rfl) (by rfl) (QON  hc K hK)
 ·cases hT
def Qdc:List (Nat×Ctr):=(36,Vo)::Qai
noncomputable def QeC:QU:=mkT Qdc Hr X4
end Go.Proofs
namespace Go.Proofs
open Go Go.Eng
theorem QGd (h:Bool)(t:Rat):Q3 h (-t)=Q3 h t/\Q0 h (-t)= -Q0 h t:=by
 unfold Q3 Q0;have e:(1:Rat)+ -t* -t=1+t*t:=by grind
 have e2:(1:Rat)- -t* -t=1-t*t:=by grind
 cases h with
 | true=>exact⟨rfl,show(0:Rat)= -0 by decide⟩
 | false=>
  simp only[R8];rw[e,e2];refine⟨rfl,?_⟩;rw[Rat.div_def,Rat.div_def];grind
theorem QMP:Q3 false 0=1/\Q0 false 0=0:=by decide+kernel
theorem QGe (t:Rat):Q3 false t*(1+t*t)=1-t*t/\Q0 false t*(1+t*t)=2*t:=by
 have n:=Xo t;unfold Q3 Q0;simp only[R8];have:1+t*t≠0:=by grind
 rw[Rat.div_mul_cancel this,Rat.div_mul_cancel this];exact⟨rfl,by grind⟩
theorem QWS {a:Qs}{L0 L1:Qh}{t0 t1:Rat}{f:FrV}(hf:(Y4 (KA a) [L0,L1] [t0,t1])[2]? =some f):
    QCP a f.x f.y=L0.len*Q3 false t0+L1.len*(Q3 false t0*Q3 false t1-Q0 false t0*Q0 false t1)/\QCQ a f.x f.y=L0.len*Q0 false t0+L1.len*(Q0 false t0*Q3 false t1+Q3 false t0*Q0 false t1):=by
  have hf:some (JM (JM (JM (JM (KA a) ⟨0,0,false,t0⟩) ⟨L0.len,0,false,0⟩) ⟨0,0,false,t1⟩) ⟨L1.len,0,false,0⟩)=some f:=hf;obtain rfl:=Option.some.inj hf;unfold QCP QCQ QWJ WA QFt QFu JM KA;simp only;unfold QFt QFu;simp only[(QLw _ _ _ _).1,(QLw _ _ _ _).2,(QGd _ _).1,(QGd _ _).2,QMP.1,QMP.2];have e:=cs1 a.half a.t;generalize Q3 a.half a.t=c at*;generalize Q0 a.half a.t=s at*;generalize Q3 false t0=c0 at*;generalize Q0 false t0=s0 at*;generalize Q3 false t1=c1 at*;generalize Q0 false t1=s1 at*;constructor<;>grind
theorem Qan {l m t0 t1:Rat}(hl:0<l)(hm:0<m){x y:Rat}(ex:x=l*Q3 false t0+m*(Q3 false t0*Q3 false t1-Q0 false t0*Q0 false t1))(ey:y=l*Q0 false t0+m*(Q0 false t0*Q3 false t1+Q3 false t0*Q0 false t1)):Sol l m x y t0 t1:=by
 obtain⟨k1,k2⟩:=QGe t0;obtain⟨k3,k4⟩:=QGe t1;have e0:=cs1 false t0;have e1:=cs1 false t1;generalize Q3 false t0=c0 at*;generalize Q0 false t0=s0 at*;generalize Q3 false t1=c1 at*;generalize Q0 false t1=s1 at*;have h1:x*c0+y*s0=l+m*c1:=by
  have:x*c0+y*s0=l*(c0*c0+s0*s0)+m*c1*(c0*c0+s0*s0):=by rw[ex,ey];grind
  rw[this,e0];grind
 have h2:y*c0-x*s0=m*s1:=by
  have:y*c0-x*s0=m*s1*(c0*c0+s0*s0):=by rw[ex,ey];grind
  rw[this,e0];grind
 have h3:Kq x y=l*l+m*m+2*(l*m*c1):=by
  have:Kq x y=(x*c0+y*s0)*(x*c0+y*s0)+(y*c0-x*s0)*(y*c0-x*s0):=by
   have:(x*c0+y*s0)*(x*c0+y*s0)+(y*c0-x*s0)*(y*c0-x*s0)=(x*x+y*y)*(c0*c0+s0*s0):=by grind
   rw[this,e0];unfold Kq;grind
  rw[this,h1,h2];have:m*s1*(m*s1)=m*m*(1-c1*c1):=by rw[<-e1];grind
  rw[this];grind
 refine⟨hl,hm,?_,?_,?_⟩
 ·unfold fQ q2V q1V q0V kV;rw[h3];have:x*(1-t0*t0)+2*(y*t0)=(1+t0*t0)*(l+m*c1):=by rw[<-h1,<-k1];grind
  grind
 ·unfold fP p2V p0V;rw[h3];have:m*(c1*(1+t1*t1))=m*(1-t1*t1):=by rw[k3]
  grind
 ·have:sdV x y t0=(1+t0*t0)*(m*s1):=by rw[<-h2];unfold sdV;grind
  rw[this];have:m*(s1*(1+t1*t1))=m*(2*t1):=by rw[k4]
  grind
theorem QXq (h:Bool)(t:Rat): -1<=Q3 h t/\Q3 h t<=1/\ -1<=Q0 h t/\Q0 h t<=1:=by
 have e:=cs1 h t;generalize Q3 h t=c at*;generalize Q0 h t=s at*;have a:=Xo c;have b:=Xo s;have key: ∀z:Rat,z*z<=1-> -1<=z/\z<=1:=fun z hz=>by
  constructor
  ·refine Rat.not_lt.1 fun k=> ?_
   have:=Rat.mul_pos (a:= -1-z) (b:=1-z) (by grind) (by grind);grind
  ·refine Rat.not_lt.1 fun k=> ?_
   have:=Rat.mul_pos (a:=z-1) (b:=1+z) (by grind) (by grind);grind
 obtain⟨k1,k2⟩:=key c (by grind);obtain⟨k3,k4⟩:=key s (by grind);exact⟨k1,k2,k3,k4⟩
theorem Qao {l m t0 t1:Rat}{u v:Int}{p q:Int}(hl:2*l=(u:Rat))(hm:2*m=(v:Rat))(hu:2<=u/\u<=5)(hv:2<=v/\v<=5)(h0:24*t0=(p:Rat))(h1:24*t1=(q:Rat))(hp: -48<=p/\p<=48)(hq: -48<=q/\q<=48){x y:Rat}
    (ex:x=l*Q3 false t0+m*(Q3 false t0*Q3 false t1-Q0 false t0*Q0 false t1)) (ey:y=l*Q0 false t0+m*(Q0 false t0*Q3 false t1+Q3 false t0*Q0 false t1)):(-5<=x/\x<=5)/\(-5<=y/\y<=5)/\Bd 28 x/\Bd 28 y:=by
  have hl2:(2:Rat)<=(u:Rat)/\(u:Rat)<=5:=⟨by exact_mod_cast hu.1,by exact_mod_cast hu.2⟩;have hm2:(2:Rat)<=(v:Rat)/\(v:Rat)<=5:=⟨by exact_mod_cast hv.1,by exact_mod_cast hv.2⟩;have B0:=QXq false t0;have B2:=QXq (thH false t0 false t1) (thT false t0 false t1);rw[(QLw _ _ _ _).1,(QLw _ _ _ _).2]at B2;have bx: -5<=x/\x<=5:=by
    have a1:=UR (a:=l) (b:=Q3 false t0) (A:=5/2) (B:=1) (by grind) (by grind) (by grind) (by grind);have a2:=UR (a:=m) (b:=Q3 false t0*Q3 false t1-Q0 false t0*Q0 false t1) (A:=5/2) (B:=1) (by grind) (by grind) (by grind) (by grind);rw[ex];constructor<;>grind
  have by': -5<=y/\y<=5:=by
    have a1:=UR (a:=l) (b:=Q0 false t0) (A:=5/2) (B:=1) (by grind) (by grind) (by grind) (by grind);have a2:=UR (a:=m) (b:=Q0 false t0*Q3 false t1+Q3 false t0*Q0 false t1) (A:=5/2) (B:=1) (by grind) (by grind) (by grind) (by grind);rw[ey];constructor<;>grind
  obtain⟨k1,k2⟩:=QGe t0;obtain⟨k3,k4⟩:=QGe t1;have bp:=VR (x:=p) (y:=p) (a:=48) (b:=48) (by omega) (by omega);have bq:=VR (x:=q) (y:=q) (a:=48) (b:=48) (by omega) (by omega);have np:0<=p*p:=by rcases Int.le_total 0 p with h | h;exact Int.mul_nonneg h h;have:=Int.mul_nonneg (a:= -p) (b:= -p) (by omega) (by omega);rwa [Int.neg_mul_neg]at this
  have nq:0<=q*q:=by rcases Int.le_total 0 q with h | h;exact Int.mul_nonneg h h;have:=Int.mul_nonneg (a:= -q) (b:= -q) (by omega) (by omega);rwa [Int.neg_mul_neg]at this
  have D1:0<(576+p*p)*(576+q*q):=Int.mul_pos (by omega) (by omega);have D2:((576+p*p)*(576+q*q)).natAbs<=2880*2880:=VR (by omega) (by omega);have fin: ∀{z:Rat} (N:Int),-5<=z/\z<=5->z*(((2*((576+p*p)*(576+q*q))).toNat:Int):Rat)=(N:Rat)->Bd 28 z:=fun {z} N hz hN=>by
    have hD:(((2*((576+p*p)*(576+q*q))).toNat:Nat):Int)=2*((576+p*p)*(576+q*q)):=Int.toNat_of_nonneg (by omega);have h0:0<(2*((576+p*p)*(576+q*q))).toNat:=by omega
    have h1:(2*((576+p*p)*(576+q*q))).toNat<=16588800:=by omega
    generalize (2*((576+p*p)*(576+q*q))).toNat=D at*;have d0:(0:Rat)<((D:Int):Rat):=by exact_mod_cast h0
    rw[QQ5 (by grind) hN];have b1:(N:Rat)<=((5*(D:Int):Int):Rat):=by
      have:=Rat.mul_le_mul_of_nonneg_right hz.2 (Rat.le_of_lt d0);rw[hN]at this;have e:((5*(D:Int):Int):Rat)=5*((D:Int):Rat):=Rat.intCast_mul _ _;rw[e];exact this
    have b2:((-(5*(D:Int)):Int):Rat)<=(N:Rat):=by
      have:=Rat.mul_le_mul_of_nonneg_right hz.1 (Rat.le_of_lt d0);rw[hN]at this;have e:((-(5*(D:Int)):Int):Rat)= -5*((D:Int):Rat):=by push_cast;grind
      rw[e];exact this
    have b1:N<=5*(D:Int):=Rat.intCast_le_intCast.1 b1;have b2: -(5*(D:Int))<=N:=Rat.intCast_le_intCast.1 b2;exact Vk h0 (by omega) (by omega)
  have hD:((((2*((576+p*p)*(576+q*q))).toNat:Nat):Int):Rat)=2*((576+(p:Rat)*p)*(576+(q:Rat)*q)):=by
    have e:(((2*((576+p*p)*(576+q*q))).toNat:Nat):Int)=2*((576+p*p)*(576+q*q)):=Int.toNat_of_nonneg (by omega);rw[e];push_cast;rfl
  have ep:t0=(p:Rat)/24:=by rw[<-h0];grind
  have eq:t1=(q:Rat)/24:=by rw[<-h1];grind
  have el:l=(u:Rat)/2:=by rw[<-hl];grind
  have em:m=(v:Rat)/2:=by rw[<-hm];grind
  have P1:Q3 false t0*(576+(p:Rat)*p)=576-(p:Rat)*p:=by rw[ep]at k1⊢;grind
  have P2:Q0 false t0*(576+(p:Rat)*p)=48*(p:Rat):=by rw[ep]at k2⊢;grind
  have P3:Q3 false t1*(576+(q:Rat)*q)=576-(q:Rat)*q:=by rw[eq]at k3⊢;grind
  have P4:Q0 false t1*(576+(q:Rat)*q)=48*(q:Rat):=by rw[eq]at k4⊢;grind
  refine⟨bx,by',fin (u*((576-p*p)*(576+q*q))+v*((576-p*p)*(576-q*q)-48*p*(48*q))) bx ?_,fin (u*(48*p*(576+q*q))+v*(48*p*(576-q*q)+(576-p*p)*(48*q))) by' ?_⟩
  · rw[hD,ex,el,em];push_cast;rw[<-P1,<-P2,<-P3,<-P4];generalize Q3 false t0=c0;generalize Q0 false t0=s0;generalize Q3 false t1=c1;generalize Q0 false t1=s1;grind
  · rw[hD,ey,el,em];push_cast;rw[<-P1,<-P2,<-P3,<-P4];generalize Q3 false t0=c0;generalize Q0 false t0=s0;generalize Q3 false t1=c1;generalize Q0 false t1=s1;grind
end Go.Proofs
