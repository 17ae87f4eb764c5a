/- InverseBack, plainly: the spans of what Two answers hold the roots, which need not be rational: near them the tip comes near to the point. -/
import Derived.Test.YtfhfenokfkenoaaGreatDoorIF
open Rat renaming mul_nonneg → Za, le_refl → Zb, le_trans → Zc, not_lt → Ze, mul_pos → Zf, le_of_lt → Zg
open Option renaming bind_some → Zd
namespace Go.Proofs
open Go Go.Eng
theorem Cnt.meet {c:List (List Rat)}{U V:Rat->Int}{sep:Rat}(h:Cnt c U V sep){s s1 s2:Sp}(h0:U s.lo-V s.hi=1)(h1:U s1.lo-V s1.hi=1)(h2:U s2.lo-V s2.hi=1)(a1:s.lo<=s1.lo)(a2:s1.hi<=s.hi)(b1:s.lo<=s2.lo)(b2:s2.hi<=s.hi):
    ∃t:Sp,U t.lo-V t.hi=1/\t.lo<=t.hi/\(s1.lo<=t.lo/\t.hi<=s1.hi)/\s2.lo<=t.lo/\t.hi<=s2.hi:=by
  obtain⟨e1,e2⟩:=h.ends h0 h1 a1 a2;obtain⟨e3,e4⟩:=h.ends h0 h2 b1 b2;obtain⟨m1,m2,m3⟩:=Gf s1.lo s2.lo;obtain⟨n1,n2,n3⟩:=Gg s1.hi s2.hi;have u:U (Qz s1.lo s2.lo)=U s.lo:=by rcases m1 with e | e<;>rw[e]<;>assumption
  have v:V (Qm s1.hi s2.hi)=V s.hi:=by rcases n1 with e | e<;>rw[e]<;>assumption
  refine⟨⟨Qz s1.lo s2.lo,Qm s1.hi s2.hi⟩,by show U (Qz _ _)-V (Qm _ _)=1;omega,Ze.1 fun k=> ?_,⟨m2,n2⟩,m3,n3⟩;have k:U (Qz s1.lo s2.lo)<=V (Qm s1.hi s2.hi):=h.anti _ _ k;omega
theorem Qhr (x:Rat): ∃n:Nat,x<=((2^n:Nat):Rat):=by
 by_cases h:0<=x
 ·have hb:Bd (x.num.natAbs+x.den) x:=⟨Nat.lt_of_le_of_lt (Nat.le_add_right _ _) Nat.lt_two_pow_self,Nat.lt_of_le_of_lt (Nat.le_add_left _ _) Nat.lt_two_pow_self⟩;exact⟨_,Zg (QM1 hb h)⟩
 ·exact⟨0,by
   have:((2^0:Nat):Rat)=1:=rfl
   rw[this];grind⟩
section
variable {p:List Rat}{f:Rat->Rat}{ch:List (List Rat)}{U V:Rat->Int}{sep M:Rat}{E:Nat}
theorem Rdy.near_n (R:Rdy p f ch U V sep M E){C δ lo0 hi0:Rat}(hL: ∀u v d,lo0<=u->u<=hi0->lo0<=v->v<=hi0->u-v<=d->v-u<=d->f u-f v<=C*d): ∀(n:Nat) (lo hi:Rat),lo0<=lo->hi<=hi0->lo<=hi->U lo-V hi=1->C*(hi-lo)<=δ*((2^n:Nat):Rat)-> ∃u,(lo<=u/\u<=hi)/\ -δ<=f u/\f u<=δ
 | 0,lo,hi,k1,k2,k3,k4,k5=>by
  have e:((2^0:Nat):Rat)=1:=rfl;rw[e,Rat.mul_one]at k5;have n1: ¬ ∀u,lo<=u->u<=hi->0<f u:=fun h=>by have:=R.same lo hi k3 (.inl h);omega
  have n2: ¬ ∀u,lo<=u->u<=hi->f u<0:=fun h=>by have:=R.same lo hi k3 (.inr h);omega
  obtain⟨u,hu⟩:=Classical.not_forall.1 n1;obtain⟨hu1,hu⟩:=Classical.not_imp.1 hu;obtain⟨hu2,hu⟩:=Classical.not_imp.1 hu;obtain⟨v,hv⟩:=Classical.not_forall.1 n2;obtain⟨hv1,hv⟩:=Classical.not_imp.1 hv;obtain⟨hv2,hv⟩:=Classical.not_imp.1 hv;have:=hL v u (hi-lo) (by grind) (by grind) (by grind) (by grind) (by grind) (by grind);exact⟨v,⟨hv1,hv2⟩,by grind,by grind⟩
 | n+1,lo,hi,k1,k2,k3,k4,k5=>by
  have e:((2^(n+1):Nat):Rat)=2*((2^n:Nat):Rat):=by rw[Nat.pow_succ,Nat.mul_comm];exact Rat.natCast_mul 2 _
  rw[e]at k5;have c1:=R.cnt.le ((lo+hi)/2);have c2:=R.cnt.vu (x:=lo) (y:=(lo+hi)/2) (by grind);have c3:=R.cnt.vu (x:=(lo+hi)/2) (y:=hi) (by grind);by_cases h:U lo-V ((lo+hi)/2)=1
  ·obtain⟨u,hu,k⟩:=R.near_n (δ:=δ) hL n lo ((lo+hi)/2) k1 (by grind) (by grind) h (by grind);exact⟨u,⟨hu.1,by grind⟩,k⟩
  ·by_cases h2:U ((lo+hi)/2)-V hi=1
   ·obtain⟨u,hu,k⟩:=R.near_n (δ:=δ) hL n ((lo+hi)/2) hi (by grind) k2 (by grind) h2 (by grind);exact⟨u,⟨by grind,hu.2⟩,k⟩
   ·exfalso;have a1:=R.cnt.uu (x:=lo) (y:=(lo+hi)/2) (by grind);have a2:=R.cnt.vv (x:=(lo+hi)/2) (y:=hi) (by grind);omega
end
theorem UA (q:Rat): -QV q<=q/\q<=QV q/\0<=QV q:=by obtain⟨a,b,c⟩:=QAx q;exact⟨by grind,a,c⟩
section
variable {a b c:Rat}{ch:List (List Rat)}{U V:Rat->Int}{sep M:Rat}{E:Nat}
theorem Rdy.near (R:Rdy [a,b,c] (fun u=>(c*u+b)*u+a) ch U V sep M E){s:Sp}(h:s.lo<=s.hi)(h1:U s.lo-V s.hi=1){δ:Rat}(hδ:0<δ): ∃u,(s.lo<=u/\u<=s.hi)/\ -δ<=(c*u+b)*u+a/\(c*u+b)*u+a<=δ:=by
  obtain⟨a1,a2,a3⟩:=UA s.lo;obtain⟨b1,b2,b3⟩:=UA s.hi;obtain⟨c1,c2,c3⟩:=UA c;obtain⟨d1,d2,d3⟩:=UA b;obtain⟨n,hn⟩:=Qhr ((QV c*(2*(QV s.lo+QV s.hi))+QV b)*(s.hi-s.lo)/δ);refine R.near_n (C:=QV c*(2*(QV s.lo+QV s.hi))+QV b) (lo0:=s.lo) (hi0:=s.hi) (fun u v d hu1 hu2 hv1 hv2 e1 e2=> ?_) n s.lo s.hi Zb Zb h h1 ?_
  · have k1:=XO (a:=c) (b:=u+v) (A:=QV c) (B:=2*(QV s.lo+QV s.hi)) c1 c2 (by grind) (by grind);have k2:=XO (a:=u-v) (b:=c*(u+v)+b) (A:=d) (B:=QV c*(2*(QV s.lo+QV s.hi))+QV b) (by grind) (by grind) (by grind) (by grind);have e:(c*u+b)*u+a-((c*v+b)*v+a)=(u-v)*(c*(u+v)+b):=by grind
    rw[e];grind
  · generalize (QV c*(2*(QV s.lo+QV s.hi))+QV b)*(s.hi-s.lo)=z at*;have:=Rat.mul_le_mul_of_nonneg_left hn (Zg hδ);have e:δ*(z/δ)=z:=by grind
    rw[e]at this;exact this
end
section
variable {l m x y:Rat}
theorem QUz (l m x y u:Rat):4*(l*l)*(sdV x y u*sdV x y u)= -(p0V l m x y*p2V l m x y)*((1+u*u)*(1+u*u))+fQ l m x y u*(2*kV l m x y*(1+u*u)-fQ l m x y u):=by
  unfold sdV p0V p2V fQ q2V q1V q0V kV Js;grind
structure BkS (l m x y:Rat):Prop where
  hl:1<=l/\l<=5/2
  hm:1<=m/\m<=5/2
  hx: -5<=x/\x<=5
  hy: -5<=y/\y<=5
  hp0:p0V l m x y<=0
  hp2:0<p2V l m x y
  hn:p0V l m x y=0∨1/7200<= -(p0V l m x y*p2V l m x y)
theorem BkS.k (B:BkS l m x y): -32<=kV l m x y/\kV l m x y<=32:=by
 have h1:=B.hp0;have h2:=B.hl;have h3:=B.hm;have a1:=XO (a:=l+m) (b:=l+m) (A:=5) (B:=5) (by grind) (by grind) (by grind) (by grind);have a2:=XO (a:=l) (b:=l) (A:=5/2) (B:=5/2) (by grind) (by grind) (by grind) (by grind);have a3:=XO (a:=m) (b:=m) (A:=5/2) (B:=5/2) (by grind) (by grind) (by grind) (by grind);have a4:=Qx x;have a5:=Qx y;unfold p0V at h1;unfold kV;have:0<=Js x y:=by unfold Js;grind
 have:=Qx l;have:=Qx m;constructor<;>grind
theorem BkS.q (B:BkS l m x y):(-57<=q2V l m x y/\q2V l m x y<=57)/\ -50<=q1V l y/\q1V l y<=50:=by
 have h1:=B.k;have h2:=B.hl;have h3:=B.hx;have h4:=B.hy;have a1:=XO (a:=l) (b:=x) (A:=5/2) (B:=5) (by grind) (by grind) (by grind) (by grind);have a2:=XO (a:=l) (b:=y) (A:=5/2) (B:=5) (by grind) (by grind) (by grind) (by grind);unfold q2V q1V;grind
variable {ch:List (List Rat)}{U V:Rat->Int}{sep M:Rat}{E:Nat}
theorem BkS.small (B:BkS l m x y)(R:Rdy [q0V l m x y,q1V l y,q2V l m x y] (fQ l m x y) ch U V sep M E){s:Sp}(h:s.lo<=s.hi)(h1:U s.lo-V s.hi=1){w:Rat}(hw0:0<w)(hw1:w<=1)(hw:s.hi-s.lo<=w){u:Rat}(u1:s.lo<=u)(u2:u<=s.hi): -(165*w*(1+u*u))<=fQ l m x y u/\fQ l m x y u<=165*w*(1+u*u):=by
  rw[<-QHr]at R;obtain⟨r,⟨r1,r2⟩,r3,r4⟩:=R.near h h1 hw0;have h2:=B.q;have n:=Qx u;have n1:=Qx (u-1);have n2:=Qx (u+1);have k1:=XO (a:=q2V l m x y) (b:=u+r) (A:=57) (B:=2+u*u) h2.1.1 h2.1.2 (by grind) (by grind);have k2:=XO (a:=u-r) (b:=q2V l m x y*(u+r)+q1V l y) (A:=w) (B:=57*(2+u*u)+50) (by grind) (by grind) (by grind) (by grind);have e:fQ l m x y u=(q2V l m x y*r+q1V l y)*r+q0V l m x y+(u-r)*(q2V l m x y*(u+r)+q1V l y):=by unfold fQ;grind
  have wn:0<=w*(u*u):=Za (Zg hw0) n;rw[e];constructor<;>grind
theorem We {a b:Rat}(h:a*a<=b*b)(hb:0<=b): -b<=a/\a<=b:=by
  constructor
  · refine Ze.1 fun k=> ?_
    have:=Zf (a:= -a-b) (b:= -a+b) (by grind) (by grind);grind
  · refine Ze.1 fun k=> ?_
    have:=Zf (a:=a-b) (b:=a+b) (by grind) (by grind);grind
theorem BkS.far (B:BkS l m x y)(hn:1/7200<= -(p0V l m x y*p2V l m x y))(R:Rdy [q0V l m x y,q1V l y,q2V l m x y] (fQ l m x y) ch U V sep M E){s:Sp}(h:s.lo<=s.hi)(h1:U s.lo-V s.hi=1)(hw:s.hi-s.lo<=1/268435456){u:Rat}(u1:s.lo<=u)(u2:u<=s.hi):1+u*u<=600*sdV x y u∨600*sdV x y u<= -(1+u*u):=by
 obtain⟨s1,s2⟩:=B.small R h h1 (w:=1/268435456) (by decide+kernel) (by decide+kernel) hw u1 u2;have e:=QUz l m x y u;have hl:=B.hl;have hk:=B.k;have n:=Qx u;have nl:=Qx (sdV x y u);generalize hz:1+u*u=z at*;have z1:1<=z:=by grind
 generalize fQ l m x y u=q at*;generalize sdV x y u=d at*;generalize kV l m x y=k at*;generalize-(p0V l m x y*p2V l m x y)=N at*;have zz:=Qx z;have k1:=XO (a:=k) (b:=z) (A:=32) (B:=z) hk.1 hk.2 (by grind) (by grind);have k2:=XO (a:=q) (b:=2*k*z-q) (A:=165*(1/268435456)*z) (B:=65*z) s1 s2 (by grind) (by grind);have k3:=Za (a:=N-1/7200) (b:=z*z) (by grind) zz;have k4:=XO (a:=l) (b:=l) (A:=5/2) (B:=5/2) (by grind) (by grind) (by grind) (by grind);have k5:=Za (a:=25/4-l*l) (b:=d*d) (by grind) nl;have key:z*z<=(600*d)*(600*d):=by grind
 rcases Rat.le_total (a:=0) (b:=d)with hd | hd
 ·exact .inl (We key (by grind)).2
 ·have:=We (a:=z) (b:= -(600*d)) (by grind) (by grind);exact .inr (by grind)
theorem BkS.sign (B:BkS l m x y)(hn:1/7200<= -(p0V l m x y*p2V l m x y))(R:Rdy [q0V l m x y,q1V l y,q2V l m x y] (fQ l m x y) ch U V sep M E){s:Sp}(h:s.lo<=s.hi)(h1:U s.lo-V s.hi=1)(hw:s.hi-s.lo<=1/268435456):(∀u,s.lo<=u->u<=s.hi->0<sdV x y u)∨ ∀u,s.lo<=u->u<=s.hi->sdV x y u<0:=by
  have hx:=B.hx;have hy:=B.hy;have step: ∀u,s.lo<=u->u<=s.hi-> -(40*(1/268435456)*(1+u*u))<=sdV x y s.lo-sdV x y u/\sdV x y s.lo-sdV x y u<=40*(1/268435456)*(1+u*u):=fun u u1 u2=>by
    have n:=Qx u;have n1:=Qx (u-1);have n2:=Qx (u+1);have k1:=XO (a:=y) (b:=s.lo+u) (A:=5) (B:=2+u*u) hy.1 hy.2 (by grind) (by grind);have k2:=XO (a:=s.lo-u) (b:= -(y*(s.lo+u))-2*x) (A:=1/268435456) (B:=20*(1+u*u)) (by grind) (by grind) (by grind) (by grind);have e:sdV x y s.lo-sdV x y u=(s.lo-u)*(-(y*(s.lo+u))-2*x):=by unfold sdV;grind
    rw[e];constructor<;>grind
  have hf:=fun u (u1:s.lo<=u) (u2:u<=s.hi)=>B.far hn R h h1 hw u1 u2;have nl:=Qx s.lo;rcases hf s.lo Zb h with h0 | h0
  · refine .inl fun u u1 u2=> ?_
    have n:=Qx u;have:=step u u1 u2;rcases hf u u1 u2 with k | k
    · grind
    · exfalso;grind
  · refine .inr fun u u1 u2=> ?_
    have n:=Qx u;have:=step u u1 u2;rcases hf u u1 u2 with k | k
    · exfalso;grind
    · grind
end
section
variable {q:List Rat}{f:Rat->Rat}{ch:List (List Rat)}{U V:Rat->Int}{sep M:Rat}{E:Nat}
variable {P:List Rat}{g:Rat->Rat}{chP:List (List Rat)}{UP VP:Rat->Int}{sepP MP:Rat}{EP:Nat}
theorem QJ7 (R:Rdy q f ch U V sep M E)(RP:Rdy P g chP UP VP sepP MP EP)(hev: ∀u,Bd 20000 u->Xo P u=some (g u)){j:Nat}{s:Sp}(hs:Wz f U V M j s)(hj:2*E+j+70<=20000){den:Int}(hd:1<=den/\den<9223372036854775808){k:Nat}:
    (UP s.lo=VP s.hi/\JV P (k+1) den ⟨q,s⟩=some (Qa (g s.lo)))∨(UP s.lo≠VP s.hi/\ ∃s',Wz f U V M (j+(E+64)) s'/\s.lo<=s'.lo/\s'.hi<=s.hi/\s'.hi-s'.lo<=1/(den:Rat)/\JV P (k+1) den ⟨q,s⟩=JV P k (den*16) ⟨q,s'⟩):=by
  have b1:Bd 20000 s.lo:=(hs.gl.bd R.mbd).mono (by omega);have b2:Bd 20000 s.hi:=(hs.gh.bd R.mbd).mono (by omega);rw[JV];show(_/\((J5 P s).bind _)=_)∨(_/\ ∃s',_/\_/\_/\_/\((J5 P s).bind _)=_)
  rw[RP.count b1 b2];simp only[Zd];by_cases e:UP s.lo=VP s.hi
  · refine .inl ⟨e,?_⟩;have:(UP s.lo-VP s.hi==0)=true:=by simp;omega
    rw[this];simp only[R7];rw[hev _ b1];rfl
  · refine .inr ⟨e,?_⟩;have:(UP s.lo-VP s.hi==0)=false:=by
      cases h:UP s.lo-VP s.hi==0 with
      | false=>rfl
      | true=>simp at h;omega
    rw[this];simp only[R8];obtain⟨s',f1,f2,f3,f4,f5,f6⟩:=R.fine hs hd hj;refine⟨s',f2,f3,f4,f5,?_⟩;rw[f1];rfl
theorem QU0 (R:Rdy q f ch U V sep M E)(RP:Rdy P g chP UP VP sepP MP EP)(hev: ∀u,Bd 20000 u->Xo P u=some (g u)){D:Int}(hD:D<576460752303423488)
    (hn: ∀s:Sp,s.lo<=s.hi->U s.lo-V s.hi=1->s.hi-s.lo<=1/(D:Rat)->(∀u,s.lo<=u->u<=s.hi->0<g u)∨ ∀u,s.lo<=u->u<=s.hi->g u<0): ∀(i:Nat) (den:Int) (j:Nat) (s:Sp) (k:Nat),Wz f U V M j s->2*E+(j+i*(E+64))+70<=20000->1<=den->den*16^i=16*D->(i=0->s.hi-s.lo<=1/(D:Rat))->
    ∃(s':Sp) (n:Int),JV P (i+k+1) den ⟨q,s⟩=some n/\(s'.lo<=s'.hi/\U s'.lo-V s'.hi=1)/\s.lo<=s'.lo/\s'.hi<=s.hi/\ ∀u,s'.lo<=u->u<=s'.hi->Qa (g u)=n:=by
  intro i;induction i with
  | zero=>
    intro den j s k hs hj hd he hw;have key:=RP.same _ _ hs.le (hn s hs.le hs.one (hw rfl));rcases QJ7 R RP hev hs (by omega) (den:=den) ⟨hd,by omega⟩ (k:=k)with⟨h1,h2⟩ | ⟨h1,_⟩
    · rw[Nat.zero_add];exact⟨s,_,h2,⟨hs.le,hs.one⟩,Zb,Zb,fun u u1 u2=>RP.keep _ _ u h1 u1 u2⟩
    · exact absurd key h1
  | succ i ih=>
    intro den j s k hs hj hd he hw;have hpos:(1:Int)<=16^i:=Int.pow_pos (by decide);have e16:den*16^(i+1)=den*16*16^i:=by rw[Int.pow_succ,Int.mul_comm (16^i) 16,<-Int.mul_assoc]
    rw[e16]at he;have hdl:den*16<=16*D:=by
      rw[<-he];have:=Int.mul_le_mul_of_nonneg_left hpos (show 0<=den*16 by omega);rwa [Int.mul_one]at this
    have hji:(i+1)*(E+64)=i*(E+64)+(E+64):=Nat.succ_mul _ _;rcases QJ7 R RP hev hs (by omega) (den:=den) ⟨hd,by omega⟩ (k:=i+k+1)with⟨h1,h2⟩ | ⟨_,s',a1,a2,a3,a4,h2⟩
    · rw[show i+1+k+1=i+k+1+1 by omega];exact⟨s,_,h2,⟨hs.le,hs.one⟩,Zb,Zb,fun u u1 u2=>RP.keep _ _ u h1 u1 u2⟩
    · obtain⟨s2,n,b1,b2,b3,b4,b5⟩:=ih (den*16) (j+(E+64)) s' k a1 (by omega) (by omega) he (fun h=>by
        subst h;have:den=D:=by simp at he;omega
        rw[<-this]
        exact a4)
      refine⟨s2,n,?_,b2,Zc a2 b3,Zc b4 a3,b5⟩;rw[show i+1+k+1=i+k+1+1 by omega,h2];exact b1
end
section
variable {a c:Rat}{ch:List (List Rat)}{U V:Rat->Int}{sep M:Rat}{E:Nat}{j:Nat}
theorem QN7 {a c:Rat}(hc:0<c)(B:Rat): ∃u,B<=u/\0<=u/\0<c*u*u+a:=by
 obtain⟨b1,b2,b3⟩:=UA B;obtain⟨d1,d2,d3⟩:=UA (a/c);refine⟨1+QV B+QV (a/c),by grind,by grind,?_⟩;have e:c*(1+QV B+QV (a/c))*(1+QV B+QV (a/c))+a=c*((1+QV B+QV (a/c))*(1+QV B+QV (a/c))+a/c):=by grind
 rw[e];refine Zf hc ?_
 have:=Za (a:=QV B+QV (a/c)) (b:=1+QV B+QV (a/c)) (by grind) (by grind);grind
theorem Rdy.two_sides (R:Rdy [a,0,c] (fun u=>(c*u+0)*u+a) ch U V sep M E)(ha:a<0)(hc:0<c){L:List Sp}(hl:(L.length:Int)=U (-M)-V M)(ho: ∀s∈L,Wz (fun u=>(c*u+0)*u+a) U V M j s)(hs: ∀s t,L=[s,t]->s.hi<t.lo):
    ∃s t,L=[s,t]/\(∃s':Sp,(s'.lo<=s'.hi/\U s'.lo-V s'.hi=1)/\s.lo<=s'.lo/\s'.hi<=s.hi/\s'.hi<=0)/\ ∃t':Sp,(t'.lo<=t'.hi/\U t'.lo-V t'.hi=1)/\t.lo<=t'.lo/\t'.hi<=t.hi/\0<=t'.lo:=by
  have C:=R.cnt;have m1:=R.m1;have z0:U 0=V 0:=Classical.byContradiction fun k=>by have:=(R.root 0).1 k;grind
  have neg:Qa ((c*0+0)*0+a)= -1:=by
    rcases Qq ((c*0+0)*0+a)with⟨_,e⟩ | ⟨_,e⟩ | ⟨e,_⟩
    · grind
    · grind
    · exact e
  have pos: ∀u,0<c*u*u+a->Qa ((c*u+0)*u+a)=1:=fun u hu=>by
    rcases Qq ((c*u+0)*u+a)with⟨e,_⟩ | ⟨_,e⟩ | ⟨_,e⟩
    · exact e
    · grind
    · grind
  have l1:1<=U (-M)-V 0:=Int.not_lt.1 fun k=>by
    obtain⟨u,u1,u2,u3⟩:=QN7 (a:=a) hc M;have e1:=C.vu (x:= -u) (y:=0) (by grind);have e2:=R.low (-u);have:=R.keep (-u) 0 0 (by omega) (by grind) Zb;have h2:=pos (-u) (by grind);have this:Qa ((c*0+0)*0+a)=Qa ((c* -u+0)* -u+a):=this;rw[neg,h2]at this;exact absurd this (by decide)
  have l2:1<=U 0-V M:=Int.not_lt.1 fun k=>by
    obtain⟨u,u1,u2,u3⟩:=QN7 (a:=a) hc M;have e1:=C.vu (x:=0) (y:=u) u2;have e2:=R.high u;have:=R.keep 0 u u (by omega) u2 Zb;have h2:=pos u u3;have this:Qa ((c*u+0)*u+a)=Qa ((c*0+0)*0+a):=this;rw[neg,h2]at this;exact absurd this (by decide)
  have t2:=C.two (-M);have n2:=C.nn M;match L,hl,ho,hs with
  | [s,t],hl,ho,hs=>
    have k:=hs s t rfl;have os:=(ho s (by simp));have ot:=(ho t (by simp));have o1:=os.one;have o2:=ot.one;have a1:=C.anti _ _ k;have a2:=R.low s.lo;have a3:=R.high t.hi;obtain⟨x1,x2,x3⟩:=Gf t.lo 0;obtain⟨y1,y2,y3⟩:=Gg s.hi 0;have e1:U (Qz t.lo 0)=U t.lo:=by rcases x1 with e | e<;>rw[e];omega
    have e2:V (Qm s.hi 0)=V s.hi:=by rcases y1 with e | e<;>rw[e];omega
    refine⟨s,t,rfl,⟨⟨s.lo,Qm s.hi 0⟩,⟨Ze.1 fun h=> ?_,by show U s.lo-V (Qm _ _)=1;omega⟩,Zb,y2,y3⟩,⟨⟨Qz t.lo 0,t.hi⟩,⟨Ze.1 fun h=> ?_,by show U (Qz _ _)-V t.hi=1;omega⟩,x2,Zb,x3⟩⟩
    · have h:U s.lo<=V (Qm s.hi 0):=C.anti _ _ h;omega
    · have h:U (Qz t.lo 0)<=V t.hi:=C.anti _ _ h;omega
  | [],hl,_,_=>simp at hl;omega
  | [_],hl,_,_=>simp at hl;omega
  | _::_::_::_,hl,_,_=>simp only[List.length_cons]at hl;omega
end
section
variable {l m x y:Rat}
def PkB (l m x y:Rat)(U V U' V':Rat->Int)(M':Rat)(j:Nat)(s t:Sp):Prop:=Wz (fP l m x y) U' V' M' j t/\ ∃s' t':Sp,((s'.lo<=s'.hi/\U s'.lo-V s'.hi=1)/\s.lo<=s'.lo/\s'.hi<=s.hi)/\((t'.lo<=t'.hi/\U' t'.lo-V' t'.hi=1)/\t.lo<=t'.lo/\t'.hi<=t.hi)/\ ∀u v,s'.lo<=u->u<=s'.hi->t'.lo<=v->v<=t'.hi->0<=sdV x y u*v
theorem QhE (B:BkS l m x y): ¬(q0V l m x y=0/\q1V l y=0/\q2V l m x y=0):=fun⟨h1,h2,h3⟩=>by
 have hl:=B.hl;have hp:=B.hp2;unfold q0V at h1;unfold q2V at h3;unfold q1V at h2;have y0:y=0:=(Rat.mul_eq_zero.1 (show l*y=0 by grind)).resolve_left (by grind);have x0:x=0:=(Rat.mul_eq_zero.1 (show l*x=0 by grind)).resolve_left (by grind);have k0:kV l m x y=0:=by grind
 unfold p2V Js at hp;rw[x0,y0]at hp;have:=Qx (l-m);grind
theorem QU1 (B:BkS l m x y): ¬(y=0/\ -2*x=0/\ -y=0):=fun⟨h1,h2,_⟩=>by
 have hp:=B.hp2;have x0:x=0:=by grind
 unfold p2V Js at hp;rw[h1,x0]at hp;have:=Qx (l-m);grind
theorem Wf (q:Rat){n:Int}(h:Qa q=n):(0<n/\0<q)∨(¬0<n/\q<=0):=by
 rcases Qq q with⟨e,k⟩ | ⟨e,k⟩ | ⟨e,k⟩
 ·exact .inl ⟨by omega,k⟩
 ·exact .inr ⟨by omega,by grind⟩
 ·exact .inr ⟨by omega,by grind⟩
theorem BkS.solve (B:BkS l m x y)(z:Szs l m x y):
    ∃ch U V sep M ch' U' V' sep' M',Rdy [q0V l m x y,q1V l y,q2V l m x y] (fQ l m x y) ch U V sep M 1440/\Rdy [p0V l m x y,0,p2V l m x y] (fP l m x y) ch' U' V' sep' M' 1440/\ ∃rs,Xg l m x y=some rs/\rs.length<=2/\
      ∀r∈rs,∃s t,r=(⟨[q0V l m x y,q1V l y,q2V l m x y],s⟩,⟨[p0V l m x y,0,p2V l m x y],t⟩)/\Wz (fQ l m x y) U V M 5768 s/\PkB l m x y U V U' V' M' 5768 s t:=by
  obtain⟨ch,U,V,sep,M,R⟩:=V8 z.q.2 (QhE B) (by omega);obtain⟨ch',U',V',sep',M',R0⟩:=V8 z.p.2 (fun h=>by have:=B.hp2;have:=h.2.2;grind) (by omega);rw[QHr]at R;have R':=R0;rw[QM2]at R';refine⟨ch,U,V,sep,M,ch',U',V',sep',M',R,R',?_⟩;obtain⟨first,f1,f2,f3,f4,f5⟩:=R.roots (by omega);obtain⟨second,g1,g2,g3,g4,g5⟩:=R'.roots (by omega);have hp0:=B.hp0;have hp2:=B.hp2;have key:(1<=second.length)/\ ∀s∈first,∃t,Hd [q0V l m x y,q1V l y,q2V l m x y] x y second s=some t/\PkB l m x y U V U' V' M' 5768 s t:=by
    by_cases h0:p0V l m x y=0
    · have hr:fP l m x y 0=0:=by unfold fP;rw[h0];grind
      obtain⟨a,ha,a1,a2⟩:=g4 0 hr;have hl:=R'.len1 (by show(0:Rat)*0-4*p0V l m x y*p2V l m x y=0;rw[h0];grind) g2;obtain rfl:second=[a]:=by
        match second,hl,ha with
        | [],_,ha=>simp at ha
        | [b],_,ha=>simp at ha;rw[ha]
      refine⟨by simp,fun s hs=>⟨a,rfl,g3 a (by simp),s,⟨0,0⟩,⟨⟨(f3 s hs).le,(f3 s hs).one⟩,Zb,Zb⟩,⟨⟨Zb,?_⟩,a1,a2⟩,fun u v _ _ v1 v2=> ?_⟩⟩
      · show U' 0-V' 0=1
        have:=(R'.root 0).2 hr;have:=R'.cnt.le 0;omega
      · have v1:(0:Rat)<=v:=v1;have v2:v<=(0:Rat):=v2;have:v=0:=by grind
        rw[this,Rat.mul_zero];exact Zb
    · have hn:=B.hn.resolve_left h0;obtain⟨a,b,rfl,⟨a',a1,a2,a3,a4⟩,b',b1,b2,b3,b4⟩:=R0.two_sides (by grind) hp2 g2 g3 g5;obtain⟨c1,c2,c3⟩:=z.side;obtain⟨ch2,U2,V2,sep2,M2,R2⟩:=V8 c2 (QU1 B) (by omega);rw[QUt]at R2;refine⟨by simp,fun s hs=> ?_⟩;obtain⟨s',n,k1,k2,k3,k4,k5⟩:=QU0 R R2 c3 (D:=268435456) (by decide) (fun s h1 h2 h3=>B.sign hn R h1 h2 h3) 7 16 5768 s 7 (f3 s hs) (by omega) (by decide) (by decide) (fun h=>by cases h);have hsd:QCt ⟨[q0V l m x y,q1V l y,q2V l m x y],s⟩ x y=some n:=by
        unfold QCt;rw[c1];exact k1
      by_cases hpos:0<n
      · refine⟨b,?_,g3 b (by simp),s',b',⟨k2,k3,k4⟩,⟨b1,b2,b3⟩,fun u v u1 u2 v1 v2=> ?_⟩
        · unfold Hd;rw[hsd];simp[hpos]
        · rcases Wf _ (k5 u u1 u2)with⟨_,k⟩ | ⟨k,_⟩
          · exact Za (Zg k) (Zc b4 v1)
          · exact absurd hpos k
      · refine⟨a,?_,g3 a (by simp),s',a',⟨k2,k3,k4⟩,⟨a1,a2,a3⟩,fun u v u1 u2 v1 v2=> ?_⟩
        · unfold Hd;rw[hsd];simp[hpos]
        · rcases Wf _ (k5 u u1 u2)with⟨k,_⟩ | ⟨_,k⟩
          · exact absurd k hpos
          · have:=Za (a:= -sdV x y u) (b:= -v) (by grind) (by have:=Zc v2 a4;grind);grind
  obtain⟨rs,k1,k2,k3,k4⟩:=QFe (p:=[p0V l m x y,0,p2V l m x y]) (acc:=[]) key.2;refine⟨rs,?_,by rw[k2];exact R.len2 f2,fun r hr=> ?_⟩
  · unfold Xg;rw[z.far.1];simp only[Zd];rw[z.p.1];simp only[Zd];have hb:(decide (0<Qa ([p0V l m x y,0,p2V l m x y].getD 0 0)) || decide (Qa ([p0V l m x y,0,p2V l m x y].getD 2 0)<=0))=false:=by
      show(decide (0<Qa (p0V l m x y)) || decide (Qa (p2V l m x y)<=0))=false
      have e1: ¬0<Qa (p0V l m x y):=by rcases Wf _ (rfl:Qa (p0V l m x y)=_)with⟨_,e⟩ | ⟨e,_⟩<;>grind
      have e2: ¬Qa (p2V l m x y)<=0:=by rcases Wf _ (rfl:Qa (p2V l m x y)=_)with⟨e,_⟩ | ⟨_,e⟩<;>grind
      simp[e1,e2]
    rw[hb];simp only[R8];rw[z.q.1];simp only[Zd];rw[f1];simp only[Zd];rw[g1];simp only[Zd];rw[Nat.ble_eq_true_of_le key.1];exact k1
  · obtain⟨s,t,e,hs,hk⟩:=k3 r hr;exact⟨s,t,e,f3 s hs,hk⟩
theorem QM5 (z:Szs l m x y)(h:0<p0V l m x y∨p2V l m x y<=0):Xg l m x y=some []:=by
  unfold Xg;rw[z.far.1];simp only[Zd];rw[z.p.1];simp only[Zd];have hb:(decide (0<Qa ([p0V l m x y,0,p2V l m x y].getD 0 0)) || decide (Qa ([p0V l m x y,0,p2V l m x y].getD 2 0)<=0))=true:=by
    show(decide (0<Qa (p0V l m x y)) || decide (Qa (p2V l m x y)<=0))=true
    rcases h with h | h
    · have e1:0<Qa (p0V l m x y):=by rcases Wf _ (rfl:Qa (p0V l m x y)=_)with⟨e,_⟩ | ⟨_,e⟩<;>grind
      simp[e1]
    · have e2:Qa (p2V l m x y)<=0:=by rcases Wf _ (rfl:Qa (p2V l m x y)=_)with⟨_,e⟩ | ⟨e,_⟩<;>grind
      simp[e2]
  rw[hb];rfl
def QN8 (l m x y:Rat)(a b:Sp):Prop:= ∀δ:Rat,0<δ-> ∃u v,((a.lo<=u/\u<=a.hi)/\b.lo<=v/\v<=b.hi)/\(-δ<=fQ l m x y u/\fQ l m x y u<=δ)/\(-δ<=fP l m x y v/\fP l m x y v<=δ)/\0<=sdV x y u*v
theorem BkS.two (B:BkS l m x y)(z:Szs l m x y){a0 b0 a1 b1:Rat}(hb:(Bd 20000 a0/\Bd 20000 b0)/\Bd 20000 a1/\Bd 20000 b1):
  ∃rs R O,Xg l m x y=some rs/\inF a0 b0 a1 b1 rs []=some R/\VC R []=some O/\O.length<=2/\ ∀o∈O,∃a b,o=[a,b]/\(a.lo<=a.hi/\b.lo<=b.hi)/\QN8 l m x y a b:=by
 obtain⟨ch,U,V,sep,M,ch',U',V',sep',M',RQ,RP,rs,e1,e2,e4⟩:=B.solve z;have hin: ∀r∈rs,∃u v,XU r.1 a0 b0=some u/\XU r.2 a1 b1=some v:=fun r hr=>by
  obtain⟨s,t,rfl,k1,k2,_⟩:=e4 r hr;obtain⟨u,hu,_⟩:=RQ.within k1 (by omega) hb.1.1 hb.1.2;obtain⟨v,hv,_⟩:=RP.within k2 (by omega) hb.2.1 hb.2.2;exact⟨u,v,hu,hv⟩
 obtain⟨R,i1,i2,i3,i4⟩:=QN4 (acc:=[]) hin;have hout: ∀r∈R,∃a b,Jp r.1 1000=some a/\Jp r.2 1000=some b/\ ∃c d,[a.s,b.s]=[c,d]/\(c.lo<=c.hi/\d.lo<=d.hi)/\QN8 l m x y c d:=fun r hr=>by
  obtain⟨s,t,rfl,k1,k2,s',t',⟨⟨c1,c2⟩,c3,c4⟩,⟨⟨d1,d2⟩,d3,d4⟩,hsg⟩:=e4 r (i3 r hr);obtain⟨a,a1,a2,a3,a4,a5,a6⟩:=RQ.fine k1 (den:=1000) (by decide) (by omega);obtain⟨b,b1,b2,b3,b4,b5,b6⟩:=RP.fine k2 (den:=1000) (by decide) (by omega);refine⟨_,_,a1,b1,a,b,rfl,⟨a2.le,b2.le⟩,fun δ hδ=> ?_⟩;obtain⟨v,v1,v2,v3,v4,v5⟩:=RQ.cnt.meet k1.one a2.one c2 a3 a4 c3 c4;obtain⟨w,w1,w2,w3,w4,w5⟩:=RP.cnt.meet k2.one b2.one d2 b3 b4 d3 d4;have RQ':=RQ;rw[<-QHr]at RQ';have RP':=RP;rw[<-QM2]at RP';obtain⟨r,⟨r1,r2⟩,r3⟩:=RQ'.near v2 v1 hδ;obtain⟨q,⟨q1,q2⟩,q3⟩:=RP'.near w2 w1 hδ;exact⟨r,q,⟨⟨Zc v3.1 r1,Zc r2 v3.2⟩,Zc w3.1 q1,Zc q2 w3.2⟩,r3,q3,hsg r q (Zc v4 r1) (Zc r2 v5) (Zc w4 q1) (Zc q2 w5)⟩
 obtain⟨O,o1,o2,o3,_⟩:=QJ3 (Fn:=fun _ o=> ∃a b,o=[a,b]/\(a.lo<=a.hi/\b.lo<=b.hi)/\QN8 l m x y a b) (acc:=[]) hout;refine⟨rs,R,O,e1,i1,o1,by omega,fun o ho=> ?_⟩;obtain⟨_,_,h⟩:=o3 o ho;exact h
theorem Un {z w δ:Rat}(hz:1<=z)(h1: -δ<=z*w)(h2:z*w<=δ): -δ<=w/\w<=δ:=by
 constructor
 ·refine Ze.1 fun k=> ?_
  by_cases hw:0<=w
  ·have:=Za (a:=z-1) (b:=w) (by grind) hw;grind
  ·have:=Za (a:=z-1) (b:= -w) (by grind) (by grind);grind
 ·refine Ze.1 fun k=> ?_
  by_cases hw:0<=w
  ·have:=Za (a:=z-1) (b:=w) (by grind) hw;grind
  ·have:=Za (a:=z-1) (b:= -w) (by grind) (by grind);grind
theorem QZQ {r q D:Rat}(h0:0<=r*q)(h1: -D<=r*r-q*q)(h2:r*r-q*q<=D):(r-q)*(r-q)<=D:=by
  have nr:=Qx r;have nq:=Qx q;rcases Rat.le_total (a:=q*q) (b:=r*r)with h | h
  · have k:=Za (a:=r*r-q*q) (b:=q*q) (by grind) nq;have:=We (a:=q*q) (b:=r*q) (by grind) h0;grind
  · have k:=Za (a:=q*q-r*r) (b:=r*r) (by grind) nr;have:=We (a:=r*r) (b:=r*q) (by grind) h0;grind
theorem BkS.tip (B:BkS l m x y){u v δ ε:Rat}(d0:0<δ)(d1:δ<=1)(d2:δ<=ε)(d3:12*δ<=ε*ε)(hq: -δ<=fQ l m x y u/\fQ l m x y u<=δ)(hp: -δ<=fP l m x y v/\fP l m x y v<=δ)(hs:0<=sdV x y u*v):
    (-(2*ε)<=l*Qt false u+m*(Qt false u*Qt false v-Qd false u*Qd false v)-x/\l*Qt false u+m*(Qt false u*Qt false v-Qd false u*Qd false v)-x<=2*ε)/\ -(2*ε)<=l*Qd false u+m*(Qd false u*Qt false v+Qt false u*Qd false v)-y/\l*Qd false u+m*(Qd false u*Qt false v+Qt false u*Qd false v)-y<=2*ε:=by
  obtain⟨k1,k2⟩:=QUv u;obtain⟨k3,k4⟩:=QUv v;have e0:=cs1 false u;have e1:=cs1 false v;have B0:=QUw false u;have B1:=QUw false v;have hl:=B.hl;have hm:=B.hm;have nu:=Qx u;have nv:=Qx v;generalize Qt false u=c0 at*;generalize Qd false u=s0 at*;generalize Qt false v=c1 at*;generalize Qd false v=s1 at*;have h1:fQ l m x y u=(1+u*u)*(kV l m x y-2*l*(x*c0+y*s0)):=by
    have:(1+u*u)*(kV l m x y-2*l*(x*c0+y*s0))=(1+u*u)*kV l m x y-2*l*(x*(c0*(1+u*u))+y*(s0*(1+u*u))):=by grind
    rw[this,k1,k2];unfold fQ q2V q1V q0V;grind
  have h2:fP l m x y v=(1+v*v)*(kV l m x y-2*l*(l+m*c1)):=by
    have:(1+v*v)*(kV l m x y-2*l*(l+m*c1))=(1+v*v)*(kV l m x y-2*l*l)-2*l*m*(c1*(1+v*v)):=by grind
    rw[this,k3];unfold fP p2V p0V kV;grind
  have h3:sdV x y u=(1+u*u)*(y*c0-x*s0):=by
    have:(1+u*u)*(y*c0-x*s0)=y*(c0*(1+u*u))-x*(s0*(1+u*u)):=by grind
    rw[this,k1,k2];unfold sdV;grind
  rw[h1]at hq;rw[h2]at hp;rw[h3]at hs;have g1:=Un (z:=1+u*u) (by grind) hq.1 hq.2;have g2:=Un (z:=1+v*v) (by grind) hp.1 hp.2;have hx:x=c0*(x*c0+y*s0)-s0*(y*c0-x*s0):=by
    have:c0*(x*c0+y*s0)-s0*(y*c0-x*s0)=x*(c0*c0+s0*s0):=by grind
    rw[this,e0];grind
  have hy:y=s0*(x*c0+y*s0)+c0*(y*c0-x*s0):=by
    have:s0*(x*c0+y*s0)+c0*(y*c0-x*s0)=y*(c0*c0+s0*s0):=by grind
    rw[this,e0];grind
  have hf:Js x y=(x*c0+y*s0)*(x*c0+y*s0)+(y*c0-x*s0)*(y*c0-x*s0):=by
    have:(x*c0+y*s0)*(x*c0+y*s0)+(y*c0-x*s0)*(y*c0-x*s0)=Js x y*(c0*c0+s0*s0):=by unfold Js;grind
    rw[this,e0];grind
  generalize hW:x*c0+y*s0=W at*;generalize hR:y*c0-x*s0=R at*;have hPb: -5<=l+m*c1/\l+m*c1<=5:=by
    have:=XO (a:=m) (b:=c1) (A:=5/2) (B:=1) (by grind) (by grind) (by grind) (by grind);constructor<;>grind
  have hPQ:(l+m*c1)*(l+m*c1)+m*s1*(m*s1)=l*l+m*m+2*(l*(m*c1)):=by
    have:m*s1*(m*s1)=m*m*(1-c1*c1):=by rw[<-e1];grind
    rw[this];grind
  have hRQ:0<=R*(m*s1):=Ze.1 fun k=>by
    have a1:R*(m*s1)*(1+v*v)=2*m*(R*v):=by
      have:R*(m*s1)*(1+v*v)=R*m*(s1*(1+v*v)):=by grind
      rw[this,k4];grind
    have a2:=Zf (a:= -(R*(m*s1))) (b:=1+v*v) (by grind) (by grind);have a3:0<=R*v:=Ze.1 fun k=>by
      have:=Zf (a:= -(R*v)) (b:=1+u*u) (by grind) (by grind);grind
    have:=Za (a:=2*m) (b:=R*v) (by grind) a3;grind
  generalize hP:l+m*c1=P at*;generalize hQ:m*s1=Q at*;have d4: -δ<=P-W/\P-W<=δ:=Un (z:=l) hl.1 (by grind) (by grind);have hk:kV l m x y=Js x y+l*l-m*m:=rfl;have hlm:2*(l*(m*c1))=2*l*P-2*(l*l):=by rw[<-hP];grind
  have hd:R*R-Q*Q=(P-W)*(P+W)+(kV l m x y-2*l*P):=by
    rw[hk];grind
  have k6:=XO (a:=P-W) (b:=P+W) (A:=δ) (B:=11) d4.1 d4.2 (by grind) (by grind);have k7:=QZQ (r:=R) (q:=Q) (D:=12*δ) hRQ (by rw[hd];grind) (by rw[hd];grind);have k8:=We (a:=R-Q) (b:=ε) (Zc k7 d3) (by grind);have m1:=XO (a:=c0) (b:=P-W) (A:=1) (B:=δ) B0.1 B0.2.1 d4.1 d4.2;have m2:=XO (a:=s0) (b:=R-Q) (A:=1) (B:=ε) B0.2.2.1 B0.2.2.2 k8.1 k8.2;have m3:=XO (a:=s0) (b:=P-W) (A:=1) (B:=δ) B0.2.2.1 B0.2.2.2 d4.1 d4.2;have m4:=XO (a:=c0) (b:=R-Q) (A:=1) (B:=ε) B0.1 B0.2.1 k8.1 k8.2;have ex:l*c0+m*(c0*c1-s0*s1)-x=c0*(P-W)+s0*(R-Q):=by
    have:l*c0+m*(c0*c1-s0*s1)=c0*(l+m*c1)-s0*(m*s1):=by grind
    rw[this,hP,hQ,hx];grind
  have ey:l*s0+m*(s0*c1+c0*s1)-y=s0*(P-W)-c0*(R-Q):=by
    have:l*s0+m*(s0*c1+c0*s1)=s0*(l+m*c1)+c0*(m*s1):=by grind
    rw[this,hP,hQ,hy];grind
  rw[ex,ey];constructor<;>constructor<;>grind
end
theorem QU2 {a:Qs}{L0 L1:Qw}{px py:Rat}(B:BkS L0.len L1.len (YZ a px py) (Y0 a px py)){sa sb:Sp}(N:QN8 L0.len L1.len (YZ a px py) (Y0 a px py) sa sb){b:LoV}(hb:(XP (YS a) [L0,L1] [sa,sb])[2]? =some b):(b.x.lo<=px/\b.y.lo<=py)/\px<=b.x.hi/\py<=b.y.hi:=by
  have key: ∀ε:Rat,0<ε->ε<=1-> ∃x y,(-(4*ε)<=x-px/\x-px<=4*ε)/\(-(4*ε)<=y-py/\y-py<=4*ε)/\(b.x.lo<=x/\b.y.lo<=y)/\x<=b.x.hi/\y<=b.y.hi:=fun ε h0 h1=>by
    have hee:=Zf h0 h0;have hee1:=Za (a:=ε) (b:=1-ε) (Zg h0) (by grind);obtain⟨u,v,⟨hu,hv⟩,hq,hp,hs⟩:=N (ε*ε/12) (by grind);obtain⟨f,hf⟩: ∃f,(YG (WT a) [L0,L1] [u,v])[2]? =some f:=⟨_,rfl⟩
    have hh:=QL7 [L0,L1] [sa,sb] [u,v] (YS a) (WT a) (QJW a) ⟨rfl,fun i s q h1 h2=> ?_⟩ 2 b f hb hf
    · obtain⟨tx,ty⟩:=QZP hf;have ht:=B.tip (ε:=ε) (by grind) (by grind) (by grind) (by grind) hq hp hs;rw[<-tx,<-ty]at ht;obtain⟨o1,o2⟩:=QN6 a f.x f.y;obtain⟨o3,o4⟩:=QN6 a px py;have c:=QUw a.half a.t;generalize YZ a f.x f.y=X at*;generalize Y0 a f.x f.y=Y at*;generalize YZ a px py=x at*;generalize Y0 a px py=y at*;generalize Qt a.half a.t=c0 at*;generalize Qd a.half a.t=s0 at*;have m1:=XO (a:=c0) (b:=X-x) (A:=1) (B:=2*ε) c.1 c.2.1 ht.1.1 ht.1.2;have m2:=XO (a:=s0) (b:=Y-y) (A:=1) (B:=2*ε) c.2.2.1 c.2.2.2 ht.2.1 ht.2.2;have m3:=XO (a:=s0) (b:=X-x) (A:=1) (B:=2*ε) c.2.2.1 c.2.2.2 ht.1.1 ht.1.2
      have m4:=XO (a:=c0) (b:=Y-y) (A:=1) (B:=2*ε) c.1 c.2.1 ht.2.1 ht.2.2;have e1:f.x-px=c0*(X-x)-s0*(Y-y):=by rw[o1,o3];grind
      have e2:f.y-py=s0*(X-x)+c0*(Y-y):=by rw[o2,o4];grind
      exact⟨f.x,f.y,by rw[e1];constructor<;>grind,by rw[e2];constructor<;>grind,⟨hh.x.1,hh.y.1⟩,hh.x.2,hh.y.2⟩
    · match i,h1,h2 with
      | 0,h1,h2=>cases h1;cases h2;exact hu
      | 1,h1,h2=>cases h1;cases h2;exact hv
      | _+2,h1,_=>simp at h1
  have done: ∀z:Rat,0<z-> ∃ε,(0<ε/\ε<=1)/\4*ε<z:=fun z hz=>by
    by_cases h:z<=1
    · exact⟨z/8,⟨by grind,by grind⟩,by grind⟩
    · exact⟨1/8,⟨by decide+kernel,by decide+kernel⟩,by grind⟩
  refine⟨⟨Ze.1 fun k=> ?_,Ze.1 fun k=> ?_⟩,Ze.1 fun k=> ?_,Ze.1 fun k=> ?_⟩
  · obtain⟨ε,⟨h0,h1⟩,h2⟩:=done (b.x.lo-px) (by grind);obtain⟨x,y,h⟩:=key ε h0 h1;grind
  · obtain⟨ε,⟨h0,h1⟩,h2⟩:=done (b.y.lo-py) (by grind);obtain⟨x,y,h⟩:=key ε h0 h1;grind
  · obtain⟨ε,⟨h0,h1⟩,h2⟩:=done (px-b.x.hi) (by grind);obtain⟨x,y,h⟩:=key ε h0 h1;grind
  · obtain⟨ε,⟨h0,h1⟩,h2⟩:=done (py-b.y.hi) (by grind);obtain⟨x,y,h⟩:=key ε h0 h1;grind
end Go.Proofs
