/- TrackLimits. -/
import Derived.Test.YtfhfenokfkenoaaGreatDoorK1
open List renaming mem_of_getElem? → Za, getElem?_eq_getElem → Zb
namespace Go.Proofs
open Go Go.Eng
def QUj (a:ArmV)(v:List Rat):Prop:= ∀(j:Nat) (L:QZ) (q:Rat),a.links[j]? =some L->v[j]? =some q->Q5 q<=L.sp
theorem QQ5 (p:Rat):p<=Q5 p/\ -p<=Q5 p:=by
 unfold Q5;split
 ·rename_i h;have: ¬0<=p:=fun h'=>by have:=Rat.num_nonneg.2 h';omega
  constructor<;>grind
 ·rename_i h;have:0<=p:=Rat.num_nonneg.1 (by omega);constructor<;>grind
theorem QKY:Q5 0=0:=by decide+kernel
theorem QQ6 {a:ArmV}{s:Rat}{p q:List Rat}(hl:p.length=q.length)(hp:Fit a p)(hq:Fit a q)(hs:0<=s/\s<=1):Fit a (mix s p q):=by
 intro i L r hL hr;have hi:=(List.getElem?_eq_some_iff.1 hr).1;rw[W6 hl]at hi;obtain⟨u,hu⟩: ∃u,p[i]? =some u:=⟨_,Zb hi⟩
 obtain⟨v,hv⟩: ∃v,q[i]? =some v:=⟨_,Zb (by omega)⟩
 rw[VI hu hv]at hr;obtain rfl:=Option.some.inj hr;obtain⟨a1,a2⟩:=hp i L u hL hu;obtain⟨b1,b2⟩:=hq i L v hL hv;have c1:=Rat.mul_nonneg hs.1 (show 0<=v-L.lo by grind);have c2:=Rat.mul_nonneg (show 0<=1-s by grind) (show 0<=u-L.lo by grind);have c3:=Rat.mul_nonneg hs.1 (show 0<=L.hi-v by grind);have c4:=Rat.mul_nonneg (show 0<=1-s by grind) (show 0<=L.hi-u by grind);constructor<;>grind
theorem QFB {ks:List Qh}{t:Int}{z:List Rat}(h1:(atR ks t).1=z)(h2:(atR ks (t+1)).1=z){a:ArmV}(ha:QX a):QUj a (Xt ks t):=by
 intro j L q hL hq;have: ∃r,z[j]? =some r/\q=r-r:=by
  unfold Xt at hq;rw[h1,h2]at hq;simp only[List.getElem?_zipWith]at hq;cases hz:z[j]? with
  | none=>rw[hz]at hq;simp at hq
  | some r=>rw[hz]at hq;simp at hq;exact⟨r,rfl,hq.symm⟩
 obtain⟨r,_,rfl⟩:=this;rw[show r-r=0 by grind,QKY];exact Rat.le_of_lt (ha.links L (Za hL)).sp
theorem QBu {x y:Qh}(h:x.tick<y.tick)(t:Int):XQ x y (t+1)-XQ x y t=((y.tick:Rat)-(x.tick:Rat))⁻¹:=by
 have:=W7 h;unfold XQ;rw[Rat.intCast_add];have e:((1:Int):Rat)=1:=rfl;rw[e];grind
theorem QQ7 {a:ArmV}{x y:Qh}(h:x.tick<y.tick)(hl:x.q.length=y.q.length)(hs:QNE a x y){ks:List Qh}{t:Int}(h1:(atR ks t).1=Qd x y t)(h2:(atR ks (t+1)).1=Qd x y (t+1)):QUj a (Xt ks t):=by
 intro j L q hL hq;unfold Xt at hq;rw[h1,h2]at hq;unfold Qd at hq;have hj:=(List.getElem?_eq_some_iff.1 hq).1;simp only[List.length_zipWith,W6 hl]at hj;obtain⟨u,hu⟩: ∃u,x.q[j]? =some u:=⟨_,Zb (by omega)⟩
 obtain⟨v,hv⟩: ∃v,y.q[j]? =some v:=⟨_,Zb (by omega)⟩
 simp only[List.getElem?_zipWith,VI hu hv]at hq;have hq:(u+XQ x y (t+1)*(v-u))-(u+XQ x y t*(v-u))=q:=by simpa using hq
 have hst:=QBu h t;have hlt:=W7 h;have hsl:=hs j L u v hL hu hv;rw[Rat.intCast_sub]at hsl;obtain⟨g1,g2⟩:=QQ5 (v-u);have hT:0<(y.tick:Rat)-(x.tick:Rat):=by grind
 generalize (y.tick:Rat)-(x.tick:Rat)=T at*;have hi:0<=T⁻¹:=Rat.le_of_lt (Rat.inv_pos.2 hT);have e:T*T⁻¹=1:=by grind
 have m1:=Rat.mul_le_mul_of_nonneg_right (show v-u<=L.sp*T by grind) hi;have m2:=Rat.mul_le_mul_of_nonneg_right (show-(v-u)<=L.sp*T by grind) hi;have hq':q=(v-u)*T⁻¹:=by rw[<-hq,<-hst];grind
 rw[hq'];have e2:L.sp*T*T⁻¹=L.sp:=by rw[Rat.mul_assoc,e,Rat.mul_one]
 rw[e2]at m1 m2;rw[Rat.neg_mul]at m2;exact QMq m1 m2
theorem QBv {a:ArmV}{ks:List Qh}(h:H7 a ks)(t:Int):Fit a (atR ks t).1/\QUj a (Xt ks t):=by
 obtain⟨ha,hn,⟨N,hN,hk⟩,hf,hs⟩:=h;have hne:ks≠[]:=fun e=>by rw[e]at hn;simp at hn
 rcases V7 hk hne t with⟨z,hz,_,h1,h2⟩ | ⟨i,x,y,hx,hy,h3,h4,h1,h2⟩ | ⟨z,hz,_,h1,h2⟩
 ·exact⟨by rw[h1];exact hf z (Za hz),QFB h1 h2 ha⟩
 ·have mx:=Za hx;have my:=Za hy;have hinc:=hk.inc i x y hx hy;have hl:x.q.length=y.q.length:=by rw[hk.len x mx,hk.len y my]
  refine⟨?_,QQ7 hinc hl (hs i x y hx hy) h1 h2⟩;rw[h1];exact QQ6 hl (hf x mx) (hf y my) (HK hinc h3 (by omega))
 ·exact⟨by rw[h1];exact hf z (Za hz),QFB h1 h2 ha⟩
theorem QNG.ok {a:ArmV}{ks:List Qh}(ha:MadeA a)(h:QNG a ks)(h1:1<=ks.length)(h2:ks.length<=4):H7 a ks:=by
 refine⟨ha.good,⟨h1,by omega⟩,⟨63,by omega,h.len,fun k hk=>by rw[h.n k hk];exact Nat.le_refl _,fun k hk=>by have:=h.tick k hk;omega,fun i x y hx hy=>by have:=h.inc i x y hx hy;omega⟩,h.fit,fun i x y hx hy j L p q hL hp hq=> ?_⟩;have hL':=Za hL;have hw:=(ha.1.links L hL').wide;obtain⟨a1,a2⟩:=h.fit x (Za hx) j L p hL hp;obtain⟨b1,b2⟩:=h.fit y (Za hy) j L q hL hq;have hinc:=h.inc i x y hx hy;have h48:(48:Rat)<=((y.tick-x.tick:Int):Rat):=by
  have:(48:Int)<=y.tick-x.tick:=by omega
  exact_mod_cast this
 have e11:mkRat 1 11=1/11:=by decide+kernel
 have hs:(1:Rat)/11<=L.sp:=by rw[<-e11];exact hw.2
 have m:=Rat.mul_le_mul_of_nonneg_left h48 (show 0<=L.sp by grind);apply QMq
 ·grind
 ·grind
end Go.Proofs
