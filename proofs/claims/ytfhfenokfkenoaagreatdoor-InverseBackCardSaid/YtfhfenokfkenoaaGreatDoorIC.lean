/- InverseBack. -/
import Derived.Test.YtfhfenokfkenoaaGreatDoorIB
import Derived.Test.YtfhfenokfkenoaaGreatDoorPE
open List renaming map → Za, length_map → Zd
open Int renaming ofNat → Zb, mul_le_mul_of_nonneg_right → Zc
namespace Go.Proofs
open Go Go.Eng
theorem Qam (r:Int): ∃k:Int,(-960<=k/\k<=960)/\120*Jl r=(k:Rat):=by
 obtain⟨d,e,hd,he,hm⟩: ∃d e:Int,(1<=d/\d<=8)/\QL5 r=d/\d*e=120:=by
  unfold QL5;have b1:=Int.emod_nonneg r (show(6:Int)≠0 by decide);have b2:=Int.emod_lt_of_pos r (show(0:Int)<6 by decide);generalize r % 6=q at b1 b2;have:q=0∨q=1∨q=2∨q=3∨q=4∨q=5:=by omega
  rcases this with rfl | rfl | rfl | rfl | rfl | rfl
  ·exact⟨1,120,by omega,rfl,rfl⟩
  ·exact⟨2,60,by omega,rfl,rfl⟩
  ·exact⟨3,40,by omega,rfl,rfl⟩
  ·exact⟨4,30,by omega,rfl,rfl⟩
  ·exact⟨5,24,by omega,rfl,rfl⟩
  ·exact⟨8,15,by omega,rfl,rfl⟩
 unfold Jl;rw[he];have b3:=Int.emod_nonneg (IntKind.i64.wrap (r.tdiv 6)) (show 16*d+1≠0 by omega);have b4:=Int.emod_lt_of_pos (IntKind.i64.wrap (r.tdiv 6)) (show 0<16*d+1 by omega);generalize IntKind.i64.wrap (r.tdiv 6) % (16*d+1)=n at*;have e0:0<e:=by
  rcases Int.lt_or_le 0 e with h | h
  ·exact h
  ·have:=Int.mul_le_mul_of_nonneg_left h (show 0<=d by omega);omega
 have k1:=Zc (show n-8*d<=8*d by omega) (Int.le_of_lt e0);have k2:=Zc (show-(8*d)<=n-8*d by omega) (Int.le_of_lt e0);have k3:8*d*e=960:=by rw[Int.mul_assoc,hm];rfl
 have k4: -(8*d)*e= -960:=by rw[Int.neg_mul,k3]
 refine⟨(n-8*d)*e,⟨by omega,by omega⟩,?_⟩;have hdn:((d.toNat:Nat):Rat)=(d:Rat):=by
  have:((d.toNat:Int):Rat)=(d:Rat):=by rw[Int.toNat_of_nonneg (by omega)]
  exact this
 have hd0:(d:Rat)≠0:=fun h=>by have:=Rat.intCast_eq_zero_iff.1 h;omega
 have hq:((d*e:Int):Rat)=((120:Int):Rat):=by rw[hm]
 have c1:((120:Int):Rat)=120:=rfl;rw[Rat.mkRat_eq_div,hdn];generalize n-8*d=w at*;push_cast at hq⊢;rw[show(120:Rat)=(d:Rat)*e from hq.symm];have:(d:Rat)*e*((w:Rat)/d)=w*e:=by grind
 exact this
theorem QZR {a:Qs}(h:Made a): ∃c s:Int,((-5<=c/\c<=5)/\ -5<=s/\s<=5)/\5*Qt a.half a.t=(c:Rat)/\5*Qd a.half a.t=(s:Rat):=by
 rw[h.half];obtain⟨c,d,hc,hd,e⟩:=h.t;rw[e];have h1:c= -1∨c=0∨c=1:=by omega
 have h2:d=1∨d=2∨d=3:=by omega
 rcases h1 with rfl | rfl | rfl<;>rcases h2 with rfl | rfl | rfl
 ·exact⟨0,-5,by decide,by decide+kernel,by decide+kernel⟩
 ·exact⟨3,-4,by decide,by decide+kernel,by decide+kernel⟩
 ·exact⟨4,-3,by decide,by decide+kernel,by decide+kernel⟩
 ·exact⟨5,0,by decide,by decide+kernel,by decide+kernel⟩
 ·exact⟨5,0,by decide,by decide+kernel,by decide+kernel⟩
 ·exact⟨5,0,by decide,by decide+kernel,by decide+kernel⟩
 ·exact⟨0,5,by decide,by decide+kernel,by decide+kernel⟩
 ·exact⟨3,4,by decide,by decide+kernel,by decide+kernel⟩
 ·exact⟨4,3,by decide,by decide+kernel,by decide+kernel⟩
theorem QU3 {a:Qs}(h:Made a)(px py:Rat):YZ a px py=px*Qt a.half a.t+py*Qd a.half a.t/\Y0 a px py=py*Qt a.half a.t-px*Qd a.half a.t:=by
  have hx:a.x=0:=by rw[h.x];decide+kernel
  have hy:a.y=0:=by rw[h.y];decide+kernel
  unfold YZ Y0 QUl J6 HG HH;simp only[(Gh _ _).1,(Gh _ _).2,hx,hy];generalize Qt a.half a.t=c;generalize Qd a.half a.t=s;constructor<;>grind
theorem QN9 {z:Rat}{n:Int}(hn: -9600<=n/\n<=9600)(h:600*z=(n:Rat)):Bd 28 z:=by
 have e:z=(n:Rat)/((600:Int):Rat):=by
  have:((600:Int):Rat)=600:=rfl;rw[this,<-h];grind
 rw[e];exact Kz (D:=600) (by omega) (by omega) (by omega)
theorem QeL {a:Qs}(h:Made a){px py:Rat}{i j:Int}(hi: -960<=i/\i<=960)(hj: -960<=j/\j<=960)(ei:120*px=(i:Rat))(ej:120*py=(j:Rat)):Bd 28 (YZ a px py)/\Bd 28 (Y0 a px py)/\Js (YZ a px py) (Y0 a px py)=px*px+py*py:=by
 obtain⟨c,s,⟨hc,hs⟩,ec,es⟩:=QZR h;have e:=cs1 a.half a.t;obtain⟨e1,e2⟩:=QU3 h px py;rw[e1,e2];have a1:=QGw (x:=i) (y:=c) (a:=960) (b:=5) (by omega) (by omega);have a2:=QGw (x:=j) (y:=s) (a:=960) (b:=5) (by omega) (by omega);have a3:=QGw (x:=j) (y:=c) (a:=960) (b:=5) (by omega) (by omega);have a4:=QGw (x:=i) (y:=s) (a:=960) (b:=5) (by omega) (by omega);refine⟨QN9 (n:=i*c+j*s) (by omega) ?_,QN9 (n:=j*c-i*s) (by omega) ?_,?_⟩
 ·push_cast;rw[<-ec,<-es,<-ei,<-ej];grind
 ·push_cast;rw[<-ec,<-es,<-ei,<-ej];grind
 ·unfold Js;generalize Qt a.half a.t=c at*;generalize Qd a.half a.t=s at*;have:(px*c+py*s)*(px*c+py*s)+(py*c-px*s)*(py*c-px*s)=(px*px+py*py)*(c*c+s*s):=by grind
  rw[this,e];grind
theorem QU4 {z:Rat}{n:Int}(hn: -960<=n/\n<=960)(h:120*z=(n:Rat)):BT z:=by
 have e:z=(n:Rat)/((120:Int):Rat):=by
  have:((120:Int):Rat)=120:=rfl;rw[this,<-h];grind
 rw[e];exact⟨(Kz (m:=28) (D:=120) (by omega) (by omega) (by omega)).mono (by omega)⟩
theorem QOA {z:Rat}{n:Int}(h:14400*z=(n:Rat))(hz:0<z):1/14400<=z:=by
 have:0<n:=by
  have:(0:Rat)<(n:Rat):=by rw[<-h];grind
  exact_mod_cast this
 have:((1:Int):Rat)<=(n:Rat):=Rat.intCast_le_intCast.2 (by omega);have c1:((1:Int):Rat)=1:=rfl;grind
theorem QU5 {a:Qs}(ha:MadeA a){L0 L1:Qw}(hL:a.links=[L0,L1]){px py:Rat}{i j:Int}(hi: -960<=i/\i<=960)(hj: -960<=j/\j<=960)(ei:120*px=(i:Rat))(ej:120*py=(j:Rat)):
    ∃rs R O,((Xg L0.len L1.len (YZ a px py) (Y0 a px py)=some rs/\inF L0.lo L0.hi L1.lo L1.hi rs []=some R)/\VC R []=some O)/\O.length<=2/\
      ∀o∈O,∃sa sb,o=[sa,sb]/\(sa.lo<=sa.hi/\sb.lo<=sb.hi)/\ ∀b,(XP (YS a) [L0,L1] [sa,sb])[2]? =some b->(b.x.lo<=px/\b.y.lo<=py)/\px<=b.x.hi/\py<=b.y.hi:=by
  have hg:=MadeA.good ha;have m0:=ha.1.links L0 (by rw[hL];simp);have m1:=ha.1.links L1 (by rw[hL];simp);obtain⟨u,hu,el⟩:=QJ6 m0;obtain⟨v,hv,em⟩:=QJ6 m1;obtain⟨bl,l1⟩:=QUx el hu;obtain⟨bm,l2⟩:=QUx em hv;have s0:=(hg.links L0 (by rw[hL];simp)).small;have s1:=(hg.links L1 (by rw[hL];simp)).small;have up: ∀{z:Rat},Xj z->Bd 20000 z:=fun h=>(QUy h).mono (by omega);obtain⟨bx,by',hf⟩:=QeL ha.1 hi hj ei ej;have hu2:(u:Rat)<=5:=by exact_mod_cast hu.2
  have hv2:(v:Rat)<=5:=by exact_mod_cast hv.2
  have z:Szs L0.len L1.len (YZ a px py) (Y0 a px py):=⟨bl,bm,bx,by'⟩;have e0:14400*p0V L0.len L1.len (YZ a px py) (Y0 a px py)=((i*i+j*j-3600*((u+v)*(u+v)):Int):Rat):=by
    push_cast;rw[<-ei,<-ej,<-el,<-em];unfold p0V;rw[hf];grind
  have e2:14400*p2V L0.len L1.len (YZ a px py) (Y0 a px py)=((i*i+j*j-3600*((u-v)*(u-v)):Int):Rat):=by
    push_cast;rw[<-ei,<-ej,<-el,<-em];unfold p2V;rw[hf];grind
  have e4:p2V L0.len L1.len (YZ a px py) (Y0 a px py)-p0V L0.len L1.len (YZ a px py) (Y0 a px py)=4*(L0.len*L1.len):=by unfold p2V p0V;grind
  have e5:=Rat.mul_nonneg (a:=L0.len-1) (b:=L1.len-1) (by grind) (by grind);by_cases h:0<p0V L0.len L1.len (YZ a px py) (Y0 a px py)∨p2V L0.len L1.len (YZ a px py) (Y0 a px py)<=0
  · exact⟨[],[],[],⟨⟨QM5 z h,rfl⟩,rfl⟩,by simp,by simp⟩
  · have h0:p0V L0.len L1.len (YZ a px py) (Y0 a px py)<=0:=Rat.not_lt.1 fun k=>h (.inl k);have h2:0<p2V L0.len L1.len (YZ a px py) (Y0 a px py):=Rat.not_le.1 fun k=>h (.inr k);have hfar:Js (YZ a px py) (Y0 a px py)<=25:=by
      have:=XO (a:=L0.len+L1.len) (b:=L0.len+L1.len) (A:=5) (B:=5) (by grind) (by grind) (by grind) (by grind);unfold p0V at h0;grind
    have five: ∀{w r:Rat},w*w+r*r<=25-> -5<=w/\w<=5:=fun {w r} hw=>by
      have:=Qx r;exact We (b:=5) (by grind) (by decide)
    have B:BkS L0.len L1.len (YZ a px py) (Y0 a px py):=⟨⟨l1,by grind⟩,⟨l2,by grind⟩,five hfar,five (w:=Y0 a px py) (r:=YZ a px py) (by unfold Js at hfar;grind),h0,h2,by
      by_cases hz:p0V L0.len L1.len (YZ a px py) (Y0 a px py)=0
      · exact .inl hz
      · right;have g1:=QOA (z:= -p0V L0.len L1.len (YZ a px py) (Y0 a px py)) (n:= -(i*i+j*j-3600*((u+v)*(u+v)))) (by rw[Rat.intCast_neg,<-e0];grind) (by grind);have g2:=QOA e2 h2;have:=Rat.mul_nonneg (a:= -p0V L0.len L1.len (YZ a px py) (Y0 a px py)-1/14400) (b:=p2V L0.len L1.len (YZ a px py) (Y0 a px py)-1/14400) (by grind) (by grind)
        grind⟩
    obtain⟨rs,R,O,r1,r2,r3,r4,r5⟩:=B.two z (a0:=L0.lo) (b0:=L0.hi) (a1:=L1.lo) (b1:=L1.hi) ⟨⟨up s0.2.1,up s0.2.2.1⟩,up s1.2.1,up s1.2.2.1⟩;refine⟨rs,R,O,⟨⟨r1,r2⟩,r3⟩,r4,fun o ho=> ?_⟩;obtain⟨sa,sb,h1,h2,h3⟩:=r5 o ho;exact⟨sa,sb,h1,h2,fun b hb=>QU2 B h3 hb⟩
def QU6:OT:=fun _=>([],[])
def QDO (l:List Int)(K:AV->Prop):Prop:=QS Qf1 QU6 noL Tryz.f31 [.x false [.s 1 (ints l)]] K
theorem QEL (l:List Int)(K:AV->Prop):QDO l K=(∃(l_1:List Int),ints l=ints l_1/\((1:Int)<=1048576/\(1048576:Int)<9223372036854775808)/\l_1.length<=9223372036854775807/\∀(r:Int) (l':List Int),0<=r/\r<1048576->l'.length<=l_1.length->(-9223372036854775808<=r/\r<9223372036854775808)/\∃(l:List Int),ints l'=ints l/\((1:Int)<=1048576/\(1048576:Int)<9223372036854775808)/\l.length<=9223372036854775807/\∀(r_1:Int) (l':List Int),0<=r_1/\r_1<1048576->l'.length<=l.length->(-9223372036854775808<=r_1/\r_1<9223372036854775808)/\K (AV.x true [Ch.r (Jl r) 63,Ch.r (Jl r_1) 63])):=by kernel_rfl
theorem QZS (l:List Int)(hc:(l.length<=9223372036854775807))(K:AV->Prop)(hK: ∀r r2:Int,K (.x true (XQ (Jl r,Jl r2)))):QO (QDO l K):=by
 refine⟨?_⟩;rw[QEL];try simp only[Int.ofNat_eq_natCast,R0,R1,Nat.zero_add,Nat.le_refl,R4,R2,R3]
 exact⟨l,rfl,by omega,hc,fun r l1 hr h1=>⟨by omega,l1,rfl,by omega,by omega,fun r2 l2 hr2 h2=>⟨by omega,hK r r2⟩⟩⟩
def QAz:Ctr
 | [.x false [.s 1 xs]]=>some fun K=> ∃(l:List Int),xs=ints l/\((l.length<=9223372036854775807))/\(∀r r2:Int,K (.x true (XQ (Jl r,Jl r2))))
 | _=>none
theorem QU7:QI 31 QAz:=by
 refine⟨QK Tryz.func31 (by kernel_rfl),fun l T hT K hK=> ?_⟩;unfold QAz at hT;split at hT
 ·cases hT
  obtain⟨l,rfl,hc,hK⟩:=hK;exact QF QcI QP Tryz.func31 (by kernel_rfl) (by kernel_rfl) (by rfl) (QZS _ hc K hK)
 ·cases hT
def QhF:List (Nat×Ctr):=(31,QAz)::QXW
noncomputable def Qhz:QR:=mkT QhF M79 X4
structure IbI (a:Qs)(p:Rat×Rat)(O:List (List Sp)):Prop where
 good:Q7 a
 n:a.links.length=2
 len:O.length<=2
 ans: ∀o∈O,o.length=2/\(∀s∈o,s.lo<=s.hi)/\ ∀b,(XP (YS a) a.links o)[2]? =some b->(b.x.lo<=p.1/\b.y.lo<=p.2)/\p.1<=b.x.hi/\p.2<=b.y.hi
structure IbX where
 a:Qs
 p:Rat×Rat
 O:List (List Sp)
 i:Nat
def QU8:LI:=fun _=> .inv ⟨IbX,fun x=>⟨[(5,.x false [.p 5 0]),(6,.x false [.p 6 0]),(7,.x false [.s 1 (x.O.map Xl)]),(33,.x false [.s 1 (x.O.map Xl)]),(34,iA .i64 x.O.length),(35,iA .i64 x.i)],[(5,.box 34 (WH x.a)),(6,.box 27 (XQ x.p))]⟩,fun x=>IbI x.a x.p x.O/\x.i<=x.O.length,fun x=>x.O.length-x.i,fun _=>0⟩
def QhG:List (Nat×Ctr):=(41,V9)::(42,Kx)::(37,QAu)::(31,QAz)::(27,QAy)::(43,HN)::(44,HQ)::QUj
noncomputable def QhH:QR:=mkT QhG QAe X4
def QZT:OT:=fun id=>bif id.beq 12 then([0,1,2,3,4,5,6,7,8,9,10,11,12,13,14],[[],[0],[1,0],[2,1,0],[3,2,1,0],[4,3,2,1,0],[2,1,0,5,4,3],[6,2,1,0,5,4,3],[7,6,2,1,0,5,4,3],[8,7,6,2,1,0,5,4,3],[9,8,7,6,2,1,0,5,4,3],[7,6,2,1,0,5,4,3],[10,9,8,7,6,2,1,0,5,4,3,11],[12,10,9,8,7,6,2,1,0,5,4,3,11],[7,6,2,1,0,5,4,3,13,12,10,9,8,11]])else([],[])
def QFf (l m:List Int)(K:AV->Prop):Prop:=QS QhH QZT QU8 Tryz.f6 [.x false [.s 1 (ints l)],.x false [.s 1 (ints m)]] K
theorem QHs (l:List Int)(m:List Int)(K:AV->Prop):QFf l m K=(True/\True/\∃(l_1:List Int),ints l=ints l_1/\l_1.length*8<=140737488351232/\∀(a:Qs),Made a/\1<=a.links.length->a.links.length=2->∃(l:List Int),ints m=ints l/\l.length<=9223372036854775807/\∀(r r2:Int),∃(a_3:Qs)(L0:Qw)(L1:Qw)(rs:List (RtV×RtV))(R:List (RtV×RtV))(O:List (List Sp)),[Ch.v (Value.string a.name),Ch.r a.x 63,Ch.r a.y 63,Ch.v (Value.bool a.half),Ch.r a.t 63,Ch.s 16 (Za QN a.links)]=[Ch.v (Value.string a_3.name),Ch.r a_3.x 63,Ch.r a_3.y 63,Ch.v (Value.bool a_3.half),Ch.r a_3.t 63,Ch.s 16 (Za QN a_3.links)]/\((Q7 a_3/\a_3.links=[L0,L1])/\BT (Jl r,Jl r2).fst/\BT (Jl r,Jl r2).snd)/\((Xg L0.len L1.len (YZ a_3 (Jl r,Jl r2).fst (Jl r,Jl r2).snd) (Y0 a_3 (Jl r,Jl r2).fst (Jl r,Jl r2).snd)=some rs/\inF L0.lo L0.hi L1.lo L1.hi rs []=some R)/\VC R []=some O)/\(O=[]->K (AV.x false [Ch.v (Value.bool true)]))/\(O≠[]->(∃(x:IbX),((IbI x.a x.p x.O/\x.i<=x.O.length)/\OfNat.ofNat 0=0)/\0=0/\0=0/\1=1/\Za Xl O=Za Xl x.O/\1=1/\Za Xl O=Za Xl x.O/\Zb (Za Xl O).length=Zb x.O.length/\0=Zb x.i/\34=34/\a.name=x.a.name/\a.x=x.a.x/\63<=63/\a.y=x.a.y/\63<=63/\a.half=x.a.half/\a.t=x.a.t/\63<=63/\16=16/\Za QN a.links=Za QN x.a.links/\27=27/\(Jl r,Jl r2).fst=x.p.fst/\63<=63/\(Jl r,Jl r2).snd=x.p.snd/\63<=63/\True)/\∀(x:IbX),IbI x.a x.p x.O/\x.i<=x.O.length->OfNat.ofNat 0=0->bif decide (Zb x.i<Zb x.O.length)then(0<=Zb x.i/\Zb x.i<Zb (Za Xl x.O).length)/\∃(ys:List (List Ch)),ldE (Za Xl x.O) (Zb x.i).toNat 0 1=some [Ch.s 6 ys]/\∃(a:Qs)(B:Nat)(ts:List Sp)(qs:List Rat),[Ch.v (Value.string x.a.name),Ch.r x.a.x 63,Ch.r x.a.y 63,Ch.v (Value.bool x.a.half),Ch.r x.a.t 63,Ch.s 16 (Za QN x.a.links)]=[Ch.v (Value.string a.name),Ch.r a.x 63,Ch.r a.y 63,Ch.v (Value.bool a.half),Ch.r a.t 63,Ch.s 16 (Za QN a.links)]/\ys=Za (spN B) ts/\(Q7 a/\(B<=100000/\ts.length=a.links.length)/\ts.length=qs.length/\∀(i:Nat) (t:Sp) (q:Rat),ts[i]?=some t->qs[i]?=some q->t.lo<=q/\q<=t.hi)/\bif Zb (Za (bxL 42100000) (XP (YS a) a.links ts)).length !=3 then K (AV.x false [Ch.v (Value.bool false)])else((0:Int)<=2/\2<Zb (Za (bxL 42100000) (XP (YS a) a.links ts)).length)/\∃(q:Rat)(n:Nat)(q_1:Rat)(n_1:Nat)(q_2:Rat)(n_2:Nat)(q_3:Rat)(n_3:Nat),ldE (Za (bxL 42100000) (XP (YS a) a.links ts)) 2 0 12=some [Ch.r q n,Ch.r q_1 n_1,Ch.r q_2 n_2,Ch.r q_3 n_3]/\(n+n_1+n_2+n_3+63+63<=4294967296/\(q<=x.p.fst/\q_1<=x.p.snd)/\x.p.fst<=q_2/\x.p.snd<=q_3)/\∃(x':IbX),((IbI x'.a x'.p x'.O/\x'.i<=x'.O.length)/\OfNat.ofNat 0=0/\x'.O.length-x'.i<x.O.length-x.i)/\0=0/\0=0/\1=1/\Za Xl x.O=Za Xl x'.O/\1=1/\Za Xl x.O=Za Xl x'.O/\Zb x.O.length=Zb x'.O.length/\IntKind.i64.wrap (Zb x.i+1)=Zb x'.i/\34=34/\x.a.name=x'.a.name/\x.a.x=x'.a.x/\63<=63/\x.a.y=x'.a.y/\63<=63/\x.a.half=x'.a.half/\x.a.t=x'.a.t/\63<=63/\16=16/\Za QN x.a.links=Za QN x'.a.links/\27=27/\x.p.fst=x'.p.fst/\63<=63/\x.p.snd=x'.p.snd/\63<=63/\True else K (AV.x false [Ch.v (Value.bool (decide (Zb (Za Xl x.O).length<=2)))]))):=by kernel_rfl
theorem QeM (l m:List Int)(hl:l.length*8<=140737488351232)(hm:m.length<=9223372036854775807)(K:AV->Prop)(hK:K (.x false [.v (.bool true)])):QO (QFf l m K):=by
 refine⟨?_⟩;rw[QHs];simp only[Int.ofNat_eq_natCast,R0,R1,Nat.zero_add,Nat.le_refl,R4,R2,R3];refine⟨l,rfl,hl,fun a ha hn=>⟨m,rfl,hm,fun r r2=> ?_⟩⟩;have hg:=MadeA.good ha;obtain⟨L0,L1,hL⟩: ∃L0 L1,a.links=[L0,L1]:=by
  match h:a.links,hn with
  | [x,y],_=>exact⟨x,y,rfl⟩
 obtain⟨i,hi,ei⟩:=Qam r;obtain⟨j,hj,ej⟩:=Qam r2;obtain⟨rs,R,O,hs,hO,hall⟩:=QU5 ha hL hi hj ei ej;refine⟨a,L0,L1,rs,R,O,rfl,⟨⟨hg,hL⟩,QU4 hi ei,QU4 hj ej⟩,hs,fun _=>hK,fun _=>⟨⟨⟨a,(Jl r,Jl r2),O,0⟩,⟨⟨hg,hn,hO,fun o ho=> ?_⟩,Nat.zero_le _⟩,rfl,rfl,by rw[Zd],rfl,rfl,rfl,rfl,rfl,rfl,rfl,rfl,rfl⟩,fun x hx=>QG (fun hp=> ?_) (fun hp=> ?_)⟩⟩
 ·obtain⟨sa,sb,rfl,h1,h2⟩:=hall o ho;refine⟨rfl,fun s hs=> ?_,fun b hb=>h2 b (by rw[<-hL];exact hb)⟩;simp at hs;rcases hs with rfl | rfl
  ·exact h1.1
  ·exact h1.2
 ·have hp:x.i<x.O.length:=by have:=R5 hp;omega
  have hlen:=hx.1.len;have hnx:=hx.1.n;obtain⟨o,ho⟩: ∃o,x.O[x.i]? =some o:=⟨_,List.getElem?_eq_getElem hp⟩
  obtain⟨h2,hle,hbox⟩:=hx.1.ans o (List.mem_of_getElem? ho);have sl:=QL8 x.a.links o (YS x.a) (by omega);obtain⟨b,hb⟩: ∃b,(XP (YS x.a) x.a.links o)[2]? =some b:=⟨_,List.getElem?_eq_getElem (by omega)⟩
  refine⟨by rw[Zd];omega,_,by rw[Int.toNat_natCast];exact QeJ ho,x.a,100000,o,o.map (·.lo),rfl,rfl,⟨hx.1.good,⟨Nat.le_refl _,by omega⟩,by simp,fun i t q h1 h2=> ?_⟩,QG (fun h=>by simp[sl,hnx]at h) (fun _=>⟨by rw[Zd,sl];omega,_,_,_,_,_,_,_,_,QgW hb,⟨by omega,hbox b hb⟩,⟨x.a,x.p,x.O,x.i+1⟩,⟨⟨hx.1,hp⟩,by simp only;omega⟩,rfl,rfl,rfl,by rw[w64 (by omega)];simp,rfl,rfl,rfl,rfl,rfl,rfl,rfl,rfl⟩)⟩;rw[List.getElem?_map,h1]at h2;cases h2
  exact⟨Rat.le_refl,hle t (List.mem_of_getElem? h1)⟩
 ·have hO:=hx.1.len;rw[Zd,decide_eq_true (show((x.O.length:Nat):Int)<=2 by omega)];exact hK
theorem QeN:QH QhG:= .cons QM4 (.cons G9 (.cons QTW (.cons QU7 (.cons QJ4 (.cons QFU (.cons QPp QMx))))))
theorem QeO:QJ QhH:=QU QeN GY Ql
theorem QQG (l m:List Int)(hl:l.length*8<=140737488351232)(_: ∀n∈l,-9223372036854775808<=n/\n<9223372036854775808)(hm:m.length<=9223372036854775807):Eng.Spec Tryz.prog QIu QDi 6 [.x false [.s 1 (ints l)],.x false [.s 1 (ints m)]] (fun av=>av= .x false [.v (.bool true)]):=
 QF QeO QP Tryz.func6 (by kernel_rfl) (by kernel_rfl) (by rfl) (QeM l m hl hm _ rfl)
end Go.Proofs
