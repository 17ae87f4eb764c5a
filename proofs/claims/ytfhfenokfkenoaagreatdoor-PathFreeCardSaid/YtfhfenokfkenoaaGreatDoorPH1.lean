/- Searches in breadth, told plainly: distances, and what a search leaves. -/
import Derived.Test.YtfhfenokfkenoaaGreatDoorRE
import Derived.Test.YtfhfenokfkenoaaGreatDoorSH
open Nat renaming eq_of_beq_eq_true → Za, le_refl → Zc, mul_le_mul → Zg, lt_of_le_of_lt → Zh
open List renaming map → Zb, cons_append → Zd, nil_append → Zf, mem_of_getElem? → Zl, length_map → Zq
open Rat renaming intCast_mul → Ze, intCast_eq_zero_iff → Zi, div_mul_cancel → Zo, mkRat_eq_div → Zp
open Go.Value renaming string → Zj, bool → Zn
open Int renaming natAbs_mul → Zk, ofNat → Zm
namespace Go.Proofs
section
variable {α:Type}
inductive Rch (E:α->α->Prop)(g:α):Nat->α->Prop
 | zero:Rch E g 0 g
 | step {n:Nat} {u v:α} (h:Rch E g n u) (e:E u v):Rch E g (n+1) v
def Dst (E:α->α->Prop)(g:α)(n:Nat)(v:α):Prop:=Rch E g n v/\ ∀k,k<n-> ¬Rch E g k v
variable {E:α->α->Prop}{g:α}
theorem Dst.uniq {n m:Nat}{v:α}(h:Dst E g n v)(k:Dst E g m v):n=m:=by
 rcases Nat.lt_trichotomy n m with c | c | c
 ·exact absurd h.1 (k.2 n c)
 ·exact c
 ·exact absurd k.1 (h.2 m c)
theorem Rch.dst {v:α}: ∀{n:Nat},Rch E g n v-> ∃d,d<=n/\Dst E g d v:=by
 intro n;induction n using Nat.strongRecOn with
 | _ n ih=>
  intro h;by_cases hk: ∃k,k<n/\Rch E g k v
  ·obtain⟨k,h1,h2⟩:=hk;obtain⟨d,d1,d2⟩:=ih k h1 h2;exact⟨d,by omega,d2⟩
  ·exact⟨n,Zc _,h,fun k hk' hr=>hk ⟨k,hk',hr⟩⟩
theorem Dst.pred {n:Nat}{v:α}(h:Dst E g (n+1) v): ∃u,Dst E g n u/\E u v:=by
 obtain⟨h1,h2⟩:=h;cases h1 with
 | @step _ u _ hu e=>
  exact⟨u,⟨hu,fun k hk hr=>h2 (k+1) (by omega) (.step hr e)⟩,e⟩
theorem Dst.below {n:Nat}: ∀{v:α},Dst E g n v-> ∀k,k<=n-> ∃w,Dst E g k w:=by
 induction n with
 | zero=>intro v h k hk;exact⟨v,by rw[Nat.le_zero.1 hk];exact h⟩
 | succ n ih=>
  intro v h k hk;by_cases e:k=n+1
  ·exact⟨v,e▸h⟩
  ·obtain⟨u,hu,_⟩:=h.pred;exact ih hu k (by omega)
theorem Rch.ok {ok:α->Prop}(hg:ok g)(hE: ∀u v,E u v->ok v){n:Nat}{v:α}(h:Rch E g n v):ok v:=by
 cases h with
 | zero=>exact hg
 | step _ e=>exact hE _ _ e
theorem Rch.mono {E':α->α->Prop}(hE: ∀u v,E u v->E' u v){n:Nat}{v:α}(h:Rch E g n v):Rch E' g n v:=by
 induction h with
 | zero=>exact .zero
 | step _ e ih=>exact .step ih (hE _ _ e)
theorem Rch.cons {u:α}(e:E g u){n:Nat}{v:α}(h:Rch E u n v):Rch E g (n+1) v:=by
 induction h with
 | zero=>exact .step .zero e
 | step _ e ih=>exact .step ih e
theorem Rch.symm (hE: ∀u v,E u v->E v u){n:Nat}{v:α}(h:Rch E g n v):Rch E v n g:=by
 induction h with
 | zero=>exact .zero
 | step _ e ih=>exact .cons (hE _ _ e) ih
theorem Rch.trans {n m:Nat}{u v:α}(h:Rch E g n u)(k:Rch E u m v):Rch E g (n+m) v:=by
 induction k with
 | zero=>exact h
 | step _ e ih=>exact .step ih e
theorem Dst.symm (hE: ∀u v,E u v->E v u){n:Nat}{v:α}(h:Dst E g n v):Dst E v n g:=⟨h.1.symm hE,fun k hk hr=>h.2 k hk (hr.symm hE)⟩
theorem Dst.zero_iff {v:α}:Dst E g 0 v↔v=g:=by
 refine⟨fun h=>by cases h.1;rfl,fun h=>by subst h;exact⟨.zero,fun k hk=>by omega⟩⟩
structure Bfs (E:α->α->Prop)(g:α)(ok:α->Prop)(F:α->Option Nat)(n:Nat)(row:List α):Prop where
  dist: ∀v d,ok v->F v=some d->Dst E g d v/\d<=n
  seen: ∀v k,ok v->k<=n->Rch E g k v->F v≠none
  inr: ∀v,ok v->(v∈row↔F v=some n)
  rok: ∀v∈row,ok v
structure Gm (E:α->α->Prop)(g:α)(ok:α->Prop)(F:α->Option Nat)(n:Nat)(row nxt:List α)(P:α->α->Prop):Prop where
  dist: ∀v d,ok v->F v=some d->Dst E g d v/\d<=n+1
  seen: ∀v k,ok v->k<=n->Rch E g k v->F v≠none
  inr: ∀v,ok v->(v∈row↔F v=some n)
  inn: ∀v,ok v->(v∈nxt↔F v=some (n+1))
  rok: ∀v∈row,ok v
  nok: ∀v∈nxt,ok v
  done: ∀u v,P u v->E u v->F v≠none
def Found (E:α->α->Prop)(g:α)(ok:α->Prop)(F:α->Option Nat)(from_:α):Prop:=
  (∀v d,ok v->F v=some d->Dst E g d v)/\ ∀d,Dst E g d from_->F from_=some d/\ ∀v k,ok v->k<=d->Rch E g k v->F v≠none

variable {ok:α->Prop}{F:α->Option Nat}{n:Nat}{row nxt:List α}{P:α->α->Prop}
theorem Bfs.first (hg:ok g)(hF: ∀v,ok v->(F v=some 0↔v=g))(hF0: ∀v d,ok v->F v=some d->d=0):Bfs E g ok F 0 [g]where
 dist:=fun v d hv h=>by
  have:=hF0 v d hv h;subst this;exact⟨Dst.zero_iff.2 ((hF v hv).1 h),Zc _⟩
 seen:=fun v k hv hk h=>by
  have:=Nat.le_zero.1 hk;subst this;cases h
  rw[(hF g hv).2 rfl];simp
 inr:=fun v hv=>by rw[hF v hv];simp
 rok:=fun v h=>by simp at h;subst h;exact hg
theorem Bfs.begin (h:Bfs E g ok F n row):Gm E g ok F n row [] (fun _ _=>False)where
 dist:=fun v d hv hf=>⟨(h.dist v d hv hf).1,by have:=(h.dist v d hv hf).2;omega⟩
 seen:=h.seen
 inr:=h.inr
 inn:=fun v hv=>⟨fun h=>by simp at h,fun hf=>by have:=(h.dist v _ hv hf).2;omega⟩
 rok:=h.rok
 nok:=fun v h=>by simp at h
 done:=fun _ _ h=>h.elim
theorem Gm.skip (h:Gm E g ok F n row nxt P){u0 v0:α}{P':α->α->Prop}(hP: ∀u v,P' u v->P u v∨(u=u0/\v=v0))(hs:E u0 v0->F v0≠none):Gm E g ok F n row nxt P':=
 {h with
  done:=fun u v hp he=>by
   rcases hP u v hp with h' | ⟨rfl,rfl⟩
   ·exact h.done u v h' he
   ·exact hs he}
theorem Gm.add (h:Gm E g ok F n row nxt P){u0 v0:α}{P':α->α->Prop}(hP: ∀u v,P' u v->P u v∨(u=u0/\v=v0))(hu:u0∈row)(he:E u0 v0)(hv0:ok v0)(hn:F v0=none)
  {F':α->Option Nat} (hF: ∀v,ok v->v≠v0->F' v=F v) (hF0:F' v0=some (n+1)) (hE: ∀u v,E u v->ok v):Gm E g ok F' n row (nxt++[v0]) P' where
 dist:=fun v d hv hf=>by
  by_cases e:v=v0
  ·subst e;rw[hF0]at hf;cases hf
   have hu':=h.dist u0 n (h.rok u0 hu) ((h.inr u0 (h.rok u0 hu)).1 hu);exact⟨⟨.step hu'.1.1 he,fun k hk hr=>h.seen v k hv (by omega) hr hn⟩,Zc _⟩
  ·rw[hF v hv e]at hf;exact h.dist v d hv hf
 seen:=fun v k hv hk hr=>by
  by_cases e:v=v0
  ·subst e;rw[hF0];simp
  ·rw[hF v hv e];exact h.seen v k hv hk hr
 inr:=fun v hv=>by
  by_cases e:v=v0
  ·subst e;refine⟨fun hr=> ?_,fun hf=> ?_⟩
   ·have:=(h.inr v hv).1 hr;rw[hn]at this;cases this
   ·rw[hF0]at hf;simp at hf
  ·rw[hF v hv e];exact h.inr v hv
 inn:=fun v hv=>by
  by_cases e:v=v0
  ·subst e;simp[hF0]
  ·rw[hF v hv e];simp[e];exact h.inn v hv
 rok:=h.rok
 nok:=fun v hv=>by
  rcases List.mem_append.1 hv with h' | h'
  ·exact h.nok v h'
  ·simp at h';subst h';exact hv0
 done:=fun u v hp he'=>by
  by_cases e:v=v0
  ·subst e;rw[hF0];simp
  ·rw[hF v (hE u v he') e];rcases hP u v hp with h' | ⟨rfl,rfl⟩
   ·exact h.done u v h' he'
   ·exact absurd rfl e
theorem Gm.next_row (h:Gm E g ok F n row nxt P)(hP: ∀u v,u∈row->E u v->P u v)(hg:ok g)(hE: ∀u v,E u v->ok v):Bfs E g ok F (n+1) nxt where
 dist:=h.dist
 seen:=fun v k hv hk hr=>by
  by_cases e:k<=n
  ·exact h.seen v k hv e hr
  ·have:k=n+1:=by omega
   subst this;cases hr with
   | @step _ u _ hu he=>
    have hou:=hu.ok hg hE;have:=h.seen u n hou (Zc _) hu;cases hf:F u with
    | none=>exact absurd hf this
    | some d=>
     obtain⟨d1,d2⟩:=h.dist u d hou hf;by_cases e1:d=n
     ·subst e1;have hur:=(h.inr u hou).2 hf;exact h.done u v (hP u v hur he) he
     ·have hdn:d<=n:=Nat.le_of_not_lt fun hl=>d1.2 n hl hu;exact h.seen v (d+1) hv (by omega) (.step d1.1 he)
 inr:=h.inn
 rok:=h.nok
theorem Gm.found (h:Gm E g ok F n row nxt P){u:α}(hu:u∈row):Found E g ok F u:=by
 have hou:=h.rok u hu;have hf:=(h.inr u hou).1 hu;refine⟨fun v d hv hf=>(h.dist v d hv hf).1,fun d hd=> ?_⟩;have:=((h.dist u n hou hf).1).uniq hd;subst this;exact⟨hf,h.seen⟩
theorem Bfs.found (h:Bfs E g ok F n []){u:α}(hu:ok u)(hg:ok g)(hE: ∀u v,E u v->ok v):Found E g ok F u:=by
 refine⟨fun v d hv hf=>(h.dist v d hv hf).1,fun d hd=> ?_⟩;have hlt:d<n:=by
  refine Nat.lt_of_not_le fun hn=> ?_
  obtain⟨w,hw⟩:=hd.below n hn;have how:=hw.1.ok hg hE;cases hf:F w with
  | none=>exact h.seen w n how (Zc _) hw.1 hf
  | some d'=>
   have:=(h.dist w d' how hf).1.uniq hw;subst this;have:=(h.inr w how).2 hf;simp at this
 refine⟨?_,fun v k hv hk hr=>h.seen v k hv (by omega) hr⟩;cases hf:F u with
 | none=>exact absurd hf (h.seen u d hu (by omega) hd.1)
 | some d'=>rw[(h.dist u d' hu hf).1.uniq hd]
theorem Found.step {u:α}(h:Found E g ok F u)(hg:ok g)(hE: ∀u v,E u v->ok v){D d:Nat}(hD:Dst E g D u)(hd:d+1<=D){v:α}(hv:ok v)(hf:F v=some (d+1)): ∃w,ok w/\F w=some d/\E w v:=by
  obtain⟨w,h1,h2⟩:=(h.1 v (d+1) hv hf).pred;have how:=h1.1.ok hg hE;refine⟨w,how,?_,h2⟩;cases hw:F w with
  | none=>exact absurd hw ((h.2 D hD).2 w d how (by omega) h1.1)
  | some d'=>rw[(h.1 w d' how hw).uniq h1]
end
def KC (f:Int->Option Int):Nat->Nat
 | 0=>0
 | n+1=>(if f n=none then 1 else 0)+KC f n
theorem QU3 {f f':Int->Option Int}(h: ∀k,f' k=none->f k=none): ∀n,KC f' n<=KC f n:=by
 intro n;induction n with
 | zero=>exact Zc _
 | succ n ih=>
  unfold KC;by_cases e:f' n=none
  ·rw[if_pos e,if_pos (h _ e)];omega
  ·rw[if_neg e];omega
theorem QU4 {f f':Int->Option Int}(h: ∀k,f' k=none->f k=none){k:Int}(h1:f k=none)(h2:f' k≠none): ∀{n:Nat},0<=k->k<n->KC f' n<KC f n:=by
 intro n;induction n with
 | zero=>intro h0 h3;omega
 | succ n ih=>
  intro h0 h3;unfold KC;by_cases e:k=n
  ·rw[<-e,if_neg h2,if_pos h1];have:=QU3 h n;omega
  ·have:=ih h0 (by omega);by_cases e:f' n=none
   ·rw[if_pos e,if_pos (h _ e)];omega
   ·rw[if_neg e];omega
def OkS (s:Int)(len:Nat)(l:List Int):Prop:=l.length=len/\ ∀k∈l,0<=k/\k<=s
def AdjS (s:Int)(l m:List Int):Prop:= ∃i v w,l[i]? =some v/\(w=v-1∨w=v+1)/\(0<=w/\w<=s)/\m=l.set i w
theorem AdjS.ok {s:Int}{len:Nat}{l m:List Int}(hl:OkS s len l)(h:AdjS s l m):OkS s len m:=by
 obtain⟨i,v,w,h1,h2,h3,rfl⟩:=h;refine⟨by simp[hl.1],fun k hk=> ?_⟩;rcases List.mem_or_eq_of_mem_set hk with h' | rfl
 ·exact hl.2 k h'
 ·exact h3
theorem AdjS.symm {s:Int}{len:Nat}{l m:List Int}(hl:OkS s len l)(h:AdjS s l m):AdjS s m l:=by
 obtain⟨i,v,w,h1,h2,h3,rfl⟩:=h;have hi:=(List.getElem?_eq_some_iff.1 h1).1;refine⟨i,w,v,by simp[hi],by omega,hl.2 v (Zl h1),?_⟩;rw[List.set_set,List.getElem?_eq_getElem hi]at*;have:=Option.some.inj h1;rw[<-this,List.set_getElem_self]
theorem AdjS.cons {s a:Int}{l m:List Int}(h:AdjS s l m):AdjS s (a::l) (a::m):=by
 obtain⟨i,v,w,h1,h2,h3,rfl⟩:=h;exact⟨i+1,v,w,by simpa using h1,h2,h3,rfl⟩
end Go.Proofs
namespace Go.Proofs
open Go Go.Eng
def Ub (a:ArmV)(m:Nat)(ws:List (List (Rat×Rat)))(s:Int)(c:Ch):List Ch:=XM a++[.s 1 (shN m ws),.v (.int .i64 s),c]
def seB (a:ArmV)(m:Nat)(ws:List (List (Rat×Rat)))(s:Int)(c:Ch):Blk:= .box 165 (Ub a m ws s c)
def frV (a:ArmV)(ws:List (List (Rat×Rat)))(s:Int)(u v:List Int):Bool:=goV a ws 2 (XD a s u) (XD a s v)
def QBu:Ctr
 | [.x true xs,.x false [.v (.int .i64 s)],.x false [.s 1 ys]]=>some fun K=> ∃(a:ArmV) (ks:List Int),xs=XM a/\ys=ints ks/\(QJ a/\(1<=s/\s<=12)/\ks.length=a.links.length/\ ∀k∈ks,0<=k/\k<=s)/\K (.t [(false,[.s 3 (lR 63 (XD a s ks))]),(false,[.v (.int .i64 0)])])
 | _=>none
theorem QZA {N:Int}{D m:Nat}(hD:0<D)(hN:N.natAbs<2^m)(hd:D<2^m):Bd m ((N:Rat)/((D:Int):Rat)):=by
 have e:(N:Rat)/((D:Int):Rat)=mkRat N D:=by rw[Zp];rfl
 rw[e];have hg:0<Nat.gcd D N.natAbs:=Nat.gcd_pos_of_pos_left _ hD;refine⟨?_,?_⟩
 ·rw[Rat.num_mkRat,if_neg (by omega)];have:(N/(Nat.gcd D N.natAbs:Int)).natAbs<=N.natAbs:=by
   have hdv:((Nat.gcd D N.natAbs:Nat):Int)∣N:=Int.ofNat_dvd_left.2 (Nat.gcd_dvd_right _ _);obtain⟨c,hc⟩:=hdv;generalize Nat.gcd D N.natAbs=g at*;rw[hc,Int.mul_ediv_cancel_left _ (by omega),Zk];have:1*c.natAbs<=(g:Int).natAbs*c.natAbs:=Nat.mul_le_mul_right _ (by omega);omega
  exact Zh this hN
 ·rw[Rat.den_mkRat,if_neg (by omega)];exact Zh (Nat.div_le_self _ _) hd
theorem QRS {lo hi:Rat}{k s:Int}(hs:1<=s):lo+(hi-lo)*((k:Rat)/(s:Rat))=((lo.num*hi.den*(s-k)+hi.num*lo.den*k:Int):Rat)/(((lo.den*hi.den*s.toNat:Nat):Int):Rat):=by
 have d1:((lo.den:Int):Rat)≠0:=fun e=>lo.den_nz (by exact_mod_cast Zi.1 e);have d2:((hi.den:Int):Rat)≠0:=fun e=>hi.den_nz (by exact_mod_cast Zi.1 e);have d3:(s:Rat)≠0:=fun e=>by have:=Zi.1 e;omega
 have n1:lo*((lo.den:Int):Rat)=(lo.num:Rat):=by
  have h:(lo.num:Rat)/((lo.den:Nat):Rat)=lo:=by rw[<-Zp,Rat.mkRat_self]
  have h2:=Zo (a:=(lo.num:Rat)) d1;rw[show(lo.num:Rat)/((lo.den:Int):Rat)=lo from h]at h2;exact h2
 have n2:hi*((hi.den:Int):Rat)=(hi.num:Rat):=by
  have h:(hi.num:Rat)/((hi.den:Nat):Rat)=hi:=by rw[<-Zp,Rat.mkRat_self]
  have h2:=Zo (a:=(hi.num:Rat)) d2;rw[show(hi.num:Rat)/((hi.den:Int):Rat)=hi from h]at h2;exact h2
 have n3:(k:Rat)/(s:Rat)*(s:Rat)=(k:Rat):=Zo d3;have es:((s.toNat:Nat):Int)=s:=by omega
 have hD:(((lo.den*hi.den*s.toNat:Nat):Int):Rat)=((lo.den:Int):Rat)*((hi.den:Int):Rat)*(s:Rat):=by
  rw[Int.natCast_mul,Int.natCast_mul,es,Ze,Ze]
 rw[hD];have hN:((lo.num*hi.den*(s-k)+hi.num*lo.den*k:Int):Rat)=(lo.num:Rat)*((hi.den:Int):Rat)*((s:Rat)-(k:Rat))+(hi.num:Rat)*((lo.den:Int):Rat)*(k:Rat):=by
  rw[Rat.intCast_add,Ze,Ze,Ze,Ze,Rat.intCast_sub]
 rw[hN,<-n1,<-n2];generalize (k:Rat)/(s:Rat)=r at*;generalize ((lo.den:Int):Rat)=A at*;generalize ((hi.den:Int):Rat)=B at*;rw[<-n3];generalize (s:Rat)=S at*;have h0:A*B*S≠0:=by
  intro e;rcases Rat.mul_eq_zero.1 e with e | e
  ·rcases Rat.mul_eq_zero.1 e with e | e
   ·exact d1 e
   ·exact d2 e
  ·exact d3 e
 have e:lo*A*B*(S-r*S)+hi*B*A*(r*S)=(lo+(hi-lo)*r)*(A*B*S):=by grind
 rw[e,Rat.div_def,Rat.mul_assoc,Rat.mul_inv_cancel _ h0,Rat.mul_one]
theorem QZB {s k:Int}{L:Qf}(h1:X1 L.lo)(h2:X1 L.hi)(hs:1<=s/\s<=12)(hk:0<=k/\k<=s):Bd 63 (QMt s L k):=by
 unfold QMt;rw[QRS hs.1];obtain⟨a1,a2⟩:=h1;obtain⟨b1,b2⟩:=h2;have p1:=L.lo.den_pos;have p2:=L.hi.den_pos;generalize L.lo.num=x at*;generalize L.hi.num=y at*;generalize L.lo.den=d at*;generalize L.hi.den=e at*;have m1:d*e<=1000*1000:=Zg a2 b2;have m2:d*e*s.toNat<=1000000*12:=Zg m1 (by omega);have m0:0<d*e*s.toNat:=Nat.mul_pos (Nat.mul_pos p1 p2) (by omega);have q1:(x*(e:Int)*(s-k)).natAbs<=1000000*1000*12:=by
  rw[Zk,Zk];exact Zg (Zg a1 (by omega)) (by omega)
 have q2:(y*(d:Int)*k).natAbs<=1000000*1000*12:=by
  rw[Zk,Zk];exact Zg (Zg b1 (by omega)) (by omega)
 refine QZA m0 ?_ ?_
 ·generalize x*(e:Int)*(s-k)=z at*;generalize y*(d:Int)*k=w at*;have:(z+w).natAbs<=24000000000:=by omega
  exact Zh this (by decide)
 ·exact Zh m2 (by decide)
theorem QU5 {a:ArmV}(hg:QJ a){s:Int}(hs:1<=s/\s<=12){ks:List Int}(hk: ∀k∈ks,0<=k/\k<=s): ∀q∈XD a s ks,Bd 63 q:=by
 intro q hq;unfold XD at hq;obtain⟨i,hi⟩:=List.getElem?_of_mem hq
 rw[List.getElem?_zipWith]at hi;split at hi
 ·rename_i L k hL hk';cases hi
  have gl:=hg.links L (Zl hL);exact QZB gl.small.2.1 gl.small.2.2.1 hs (hk k (Zl hk'))
 ·cases hi
theorem QM1:QI 101 QBu:=by
 refine⟨ok_roValue.enter,fun l T hT K hK=> ?_⟩;unfold QBu at hT;split at hT
 ·cases hT
  obtain⟨a,ks,rfl,rfl,hc,hK⟩:=hK;refine Spec.res (ok_roValue.sound _ _ rfl (fun av=>av= .t [(false,[.s 3 (lR 319 (XD a _ ks))]),(false,[.v (.int .i64 0)])]) ⟨a,ks,rfl,rfl,hc,rfl⟩) fun w O av v e hcv=>⟨_,hK,?_⟩;subst e;obtain⟨vs,h1,h2⟩:=hcv;cases h1 with
  | cons hx ht=>exact⟨_,.cons (QQ0 (n:=63) (QU5 hc.1 hc.2.1 hc.2.2.2) hx) ht,h2⟩
 ·cases hT
def QM2:LC:=(100,U8)::(169,U9)::(101,QBu)::(166,G9)::QQ4
def QZC:List (Nat×XJ):=(167,GB)::(206,Uz)::QJO
noncomputable def QRT:QZ:=mkT QM2 QZC X4
theorem QBv:QG QM2:= .cons QDA (.cons QDB (.cons QM1 (.cons QRP QUv)))
theorem QRU:XB QZC:= .cons QJW (.cons QCt QEl)
theorem QEs:Q7 QRT:=QW QBv QRU Qg
def HA:Ch:= .v (.map none)
theorem QU6 (a:ArmV)(m:Nat)(ws:List (List (Rat×Rat)))(s:Int)(l:List Int)(hg:QJ a)(hs:1<=s/\s<=12)(hl:l.length=a.links.length)(hk: ∀k∈l,0<=k/\k<=s):QM (Xc (X:=Unit) QRT (oF Tryz.f104) noL Tryz.f104 [.x false [.p 1000 0],.x false [.s 1 (ints l)]] [(1000,seB a m ws s HA)] (fun _=>True) (fun _=>⟨[(4,iA .i64 (numV s l))],[(1000,seB a m ws s HA)]⟩)):=by
 refine HV ((∃(l_1:List Int),ints l=ints l_1/\(((1<=l_1.length/\l_1.length<=3)/\Zm (Zb QB a.links).length=Zm l_1.length)/\(1<=s/\s<=12)/\∀(k:Int),k∈l_1->0<=k/\k<=s)/\∃(_x:Unit),True/\numV s l_1=numV s l/\165=165/\a.name=a.name/\a.x=a.x/\63<=63/\a.y=a.y/\63<=63/\a.half=a.half/\a.t=a.t/\63<=63/\16=16/\Zb QB a.links=Zb QB a.links/\1=1/\shN m ws=shN m ws/\s=s/\Value.map none=Value.map none/\True)) ?_
 have hn:=hg.n;exact⟨l,rfl,⟨⟨⟨by omega,by omega⟩,by rw[Zq,hl]⟩,hs,hk⟩,(),trivial,rfl,by and_intros<;>first | rfl | exact Zc _ | trivial⟩
theorem QU7 (a:ArmV)(m:Nat)(ws:List (List (Rat×Rat)))(s:Int)(f:Int->Option Int)(l:List Int)(hg:QJ a)(hs:1<=s/\s<=12)(hl:l.length=a.links.length)(hk: ∀k∈l,0<=k/\k<=s):QM (Xc (X:=Unit) QRT (oF Tryz.f104) noL Tryz.f104 [.x false [.p 1000 0],.x false [.s 1 (ints l)]] [(1000,seB a m ws s (.m 6000)),(6000,.mp f)] (fun _=>True) (fun _=>⟨[(4,iA .i64 (numV s l))],[(1000,seB a m ws s (.m 6000)),(6000,.mp f)]⟩)):=by
 refine HV ((∃(l_1:List Int),ints l=ints l_1/\(((1<=l_1.length/\l_1.length<=3)/\Zm (Zb QB a.links).length=Zm l_1.length)/\(1<=s/\s<=12)/\∀(k:Int),k∈l_1->0<=k/\k<=s)/\∃(_x:Unit),True/\numV s l_1=numV s l/\165=165/\a.name=a.name/\a.x=a.x/\63<=63/\a.y=a.y/\63<=63/\a.half=a.half/\a.t=a.t/\63<=63/\16=16/\Zb QB a.links=Zb QB a.links/\1=1/\shN m ws=shN m ws/\s=s/\f=f/\True)) ?_
 have hn:=hg.n;exact⟨l,rfl,⟨⟨⟨by omega,by omega⟩,by rw[Zq,hl]⟩,hs,hk⟩,(),trivial,rfl,by and_intros<;>first | rfl | exact Zc _ | trivial⟩
theorem QU8 (a:ArmV)(m:Nat)(ws:List (List (Rat×Rat)))(s:Int)(f:Int->Option Int)(l:List Int)(hg:QJ a)(hs:1<=s/\s<=12)(hl:l.length=a.links.length)(hk: ∀k∈l,0<=k/\k<=s):QM (Xc (X:=Unit) QRT (oF Tryz.f104) noL Tryz.f104 [.x false [.p 1000 0],.x false [.w 700 0 l.length]] [(1000,seB a m ws s (.m 6000)),(6000,.mp f),(700,X2 l)] (fun _=>True) (fun _=>⟨[(4,iA .i64 (numV s l))],[(1000,seB a m ws s (.m 6000)),(6000,.mp f),(700,X2 l)]⟩)):=by
 refine HV ((∃(l_1:List Int),List.take l.length (List.drop 0 (ints l))=ints l_1/\(((1<=l_1.length/\l_1.length<=3)/\Zm (Zb QB a.links).length=Zm l_1.length)/\(1<=s/\s<=12)/\∀(k:Int),k∈l_1->0<=k/\k<=s)/\∃(_x:Unit),True/\numV s l_1=numV s l/\165=165/\a.name=a.name/\a.x=a.x/\63<=63/\a.y=a.y/\63<=63/\a.half=a.half/\a.t=a.t/\63<=63/\16=16/\Zb QB a.links=Zb QB a.links/\1=1/\shN m ws=shN m ws/\s=s/\f=f/\3=3/\1=1/\(ints l=ints l∨QC (ints l) (ints l))/\True)) ?_
 have hn:=hg.n;have e:List.take l.length (List.drop 0 (ints l))=ints l:=by rw[List.drop_zero,List.take_of_length_le (by rw[Qw];exact Zc _)]
 exact⟨l,e,⟨⟨⟨by omega,by omega⟩,by rw[Zq,hl]⟩,hs,hk⟩,(),trivial,rfl,by and_intros<;>first | rfl | exact Zc _ | trivial | exact .inl rfl⟩
theorem QRV (a:ArmV)(m:Nat)(ws:List (List (Rat×Rat)))(s:Int)(f:Int->Option Int)(u v:List Int)(hg:QJ a)(hs:1<=s/\s<=12)(hu:OkS s a.links.length u)(hv:OkS s a.links.length v)(hm:m<=400000000)(hw:(∀w∈ws,QX w)/\ws.length<=20):QM (Xc (X:=Unit) QRT (oF Tryz.f168) noL Tryz.f168 [.x false [.p 1000 0],.x false [.s 1 (ints u)],.x false [.s 1 (ints v)]] [(1000,seB a m ws s (.m 6000)),(6000,.mp f)] (fun _=>True) (fun _=>⟨[(6,.x false [.v (.bool (frV a ws s u v))])],[(1000,seB a m ws s (.m 6000)),(6000,.mp f)]⟩)):=by
 refine HV ((∃(a_1:ArmV),∃(ks:List Int),[Ch.v (Zj a.name),Ch.r a.x 63,Ch.r a.y 63,Ch.v (Zn a.half),Ch.r a.t 63,Ch.s 16 (Zb QB a.links)]=[Ch.v (Zj a_1.name),Ch.r a_1.x 63,Ch.r a_1.y 63,Ch.v (Zn a_1.half),Ch.r a_1.t 63,Ch.s 16 (Zb QB a_1.links)]/\ints u=ints ks/\(QJ a_1/\(1<=s/\s<=12)/\ks.length=a_1.links.length/\∀(k:Int),k∈ks->0<=k/\k<=s)/\∃(a_2:ArmV),∃(ks_1:List Int),[Ch.v (Zj a.name),Ch.r a.x 63,Ch.r a.y 63,Ch.v (Zn a.half),Ch.r a.t 63,Ch.s 16 (Zb QB a.links)]=[Ch.v (Zj a_2.name),Ch.r a_2.x 63,Ch.r a_2.y 63,Ch.v (Zn a_2.half),Ch.r a_2.t 63,Ch.s 16 (Zb QB a_2.links)]/\ints v=ints ks_1/\(QJ a_2/\(1<=s/\s<=12)/\ks_1.length=a_2.links.length/\∀(k:Int),k∈ks_1->0<=k/\k<=s)/\∃(a_3:ArmV),∃(d:Nat),∃(p:List Rat),∃(e:Nat),∃(q:List Rat),∃(m_1:Nat),∃(ws_1:List (List (Rat×Rat))),∃(n:Nat),[Ch.v (Zj a.name),Ch.r a.x 63,Ch.r a.y 63,Ch.v (Zn a.half),Ch.r a.t 63,Ch.s 16 (Zb QB a.links)]=[Ch.v (Zj a_3.name),Ch.r a_3.x 63,Ch.r a_3.y 63,Ch.v (Zn a_3.half),Ch.r a_3.t 63,Ch.s 16 (Zb QB a_3.links)]/\lR 63 (XD a_1 s ks)=lR d p/\lR 63 (XD a_2 s ks_1)=lR e q/\shN m ws=shN m_1 ws_1/\2=Zm n/\(QJ a_3/\2*d+e+130<=400/\(p.length=a_3.links.length/\q.length=a_3.links.length)/\m_1<=400000000/\((∀(w:List (Rat×Rat)),w∈ws_1->QX w)/\ws_1.length<=20)/\1<=n/\n<=50)/\∃(_x:Unit),True/\QBg a_3 (Xr p q n) ws_1=frV a ws s u v/\165=165/\a.name=a.name/\a.x=a.x/\63<=63/\a.y=a.y/\63<=63/\a.half=a.half/\a.t=a.t/\63<=63/\16=16/\Zb QB a.links=Zb QB a.links/\1=1/\shN m ws=shN m ws/\s=s/\f=f/\True)) ?_
 have vl: ∀ks:List Int,ks.length=a.links.length->(XD a s ks).length=a.links.length:=fun ks h=>by simp[XD,h]
 exact⟨a,u,rfl,rfl,⟨hg,hs,hu⟩,a,v,rfl,rfl,⟨hg,hs,hv⟩,a,63,XD a s u,63,XD a s v,m,ws,2,rfl,rfl,rfl,rfl,rfl,⟨hg,by omega,⟨vl u hu.1,vl v hv.1⟩,hm,hw,by omega,by omega⟩,(),trivial,rfl,by and_intros<;>first | rfl | exact Zc _ | trivial⟩
def QBw:List Ch->Option Ch
 | [_,_,_,_,_,_,_,_,c]=>some c
 | _=>none
def QEt:XJ:=fun as0 H _=>match as0 with
  | [.x false [.p k o],.x false [.s 1 xs]]=>match o with
    | 0=>match H k with
      | some (.box t cs)=>bif t.beq 165 then(match QBw cs with
        | some (.v (.map none))=>some fun K=> ∃(a:ArmV) (m:Nat) (ws:List (List (Rat×Rat))) (s:Int) (l:List Int),cs=Ub a m ws s HA/\xs=ints l/\QJ a/\(1<=s/\s<=12)/\OkS s a.links.length l/\K (iA .i64 (numV s l)) H
        | some (.m j)=>bif j.beq (k+5000)then(match H (k+5000)with
          | some (.mp _f)=>some fun K=> ∃(a:ArmV) (m:Nat) (ws:List (List (Rat×Rat))) (s:Int) (l:List Int),cs=Ub a m ws s (.m (k+5000))/\xs=ints l/\QJ a/\(1<=s/\s<=12)/\OkS s a.links.length l/\K (iA .i64 (numV s l)) H
          | _=>none)else none
        | _=>none)else none
      | _=>none
    | _+1=>none
  | [.x false [.p k o],.x false [.w j jo n]]=>match o,jo with
    | 0,0=>match H k with
      | some (.box t cs)=>bif t.beq 165 then(match QBw cs with
        | some (.m j')=>bif j'.beq (k+5000)then(match H (k+5000),H j with
          | some (.mp _f),some (.row t2 1 ys)=>bif t2.beq 3 then some fun K=> ∃(a:ArmV) (m:Nat) (ws:List (List (Rat×Rat))) (s:Int) (l:List Int),cs=Ub a m ws s (.m (k+5000))/\ys=ints l/\n=l.length/\QJ a/\(1<=s/\s<=12)/\OkS s a.links.length l/\K (iA .i64 (numV s l)) H else none
          | _,_=>none)else none
        | _=>none)else none
      | _=>none
    | _,_=>none
  | _=>none
def GC:XJ:=fun as0 H _=>match as0 with
  | [.x false [.p k o],.x false [.s 1 xs],.x false [.s 1 ys]]=>match o with
    | 0=>match H k with
      | some (.box t cs)=>bif t.beq 165 then(match QBw cs with
        | some (.m j)=>bif j.beq (k+5000)then(match H (k+5000)with
          | some (.mp _f)=>some fun K=> ∃(a:ArmV) (m:Nat) (ws:List (List (Rat×Rat))) (s:Int) (u v:List Int),cs=Ub a m ws s (.m (k+5000))/\xs=ints u/\ys=ints v/\(QJ a/\(1<=s/\s<=12)/\OkS s a.links.length u/\OkS s a.links.length v/\m<=400000000/\(∀w∈ws,QX w)/\ws.length<=20)/\K (.x false [.v (.bool (frV a ws s u v))]) H
          | _=>none)else none
        | _=>none)else none
      | _=>none
    | _+1=>none
  | _=>none
theorem QKl (k:Nat):(k+5000).beq k=false:=by
 cases h:(k+5000).beq k with
 | false=>rfl
 | true=>have:=Za h;omega
theorem QU9 (k:Nat):lkB [(1000,k),(6000,k+5000)] k=some 1000/\lkB [(1000,k),(6000,k+5000)] (k+5000)=some 6000:=by
 constructor
 ·simp[lkB]
 ·simp[lkB,QKl]
theorem QZD {a:ArmV}{m:Nat}{ws:List (List (Rat×Rat))}{s:Int}{k:Nat}:JD (lkB [(1000,k),(6000,k+5000)]) (seB a m ws s (.m (k+5000)))=some (seB a m ws s (.m 6000)):=by
 simp only[JD,seB,Ub,XM,Zd,Zf,XI,(QU9 k).2]
theorem QEu {a:ArmV}{m:Nat}{ws:List (List (Rat×Rat))}{s:Int}{k:Nat}:JD (lkA [(1000,k),(6000,k+5000)]) (seB a m ws s (.m 6000))=some (seB a m ws s (.m (k+5000))):=by
 have e:lkA [(1000,k),(6000,k+5000)] 6000=some (k+5000):=rfl;simp only[JD,seB,Ub,XM,Zd,Zf,XI,e]
theorem QAA {a:ArmV}{m:Nat}{ws:List (List (Rat×Rat))}{s:Int}{f:Nat->Option Nat}:JD f (seB a m ws s HA)=some (seB a m ws s HA):=by
 simp only[JD,seB,Ub,XM,Zd,Zf,XI,HA]
theorem HB {H:HP}{k:Nat}{b:Blk}(hk:H k=some b)(hr: ∀f,JD f b=some b):XN [(1000,k)] (QN [(1000,b)]) H=H:=by
 funext j;unfold XN;simp only[lkB];cases h:j.beq k with
 | true=>
  have:=Za h;subst this;simp[QN,rdB,hr,hk]
 | false=>rfl
theorem QGv {H:HP}{a:ArmV}{m:Nat}{ws:List (List (Rat×Rat))}{s:Int}{k:Nat}{f:Int->Option Int}:
  XN [(1000,k),(6000,k+5000)] (QN [(1000,seB a m ws s (.m 6000)),(6000,.mp f)]) H=upd (upd H k (some (seB a m ws s (.m (k+5000))))) (k+5000) (some (.mp f)):=by
 funext j;unfold XN;simp only[lkB];cases h:j.beq k with
 | true=>
  have:=Za h;subst this;rw[QY _ _ (by omega),QS];simp only[R7,QN,Nat.beq_refl,Option.map_some,rdB,QEu,Option.getD_some]
 | false=>
  simp only[R8];have hj:j≠k:=fun e=>by subst e;simp at h
  cases h2:j.beq (k+5000)with
  | true=>
   have:=Za h2;subst this;rw[QS];rfl
  | false=>
   have hj2:j≠k+5000:=fun e=>by subst e;simp at h2
   rw[QY _ _ hj2,QY _ _ hj];rfl
theorem QDC {H:HP}{a:ArmV}{m:Nat}{ws:List (List (Rat×Rat))}{s:Int}{k:Nat}{f:Int->Option Int}(hk:H k=some (seB a m ws s (.m (k+5000))))(hm:H (k+5000)=some (.mp f)):
  XN [(1000,k),(6000,k+5000)] (QN [(1000,seB a m ws s (.m 6000)),(6000,.mp f)]) H=H:=by
 rw[QGv];funext j;by_cases h:j=k+5000
 ·subst h;rw[QS,hm]
 ·rw[QY _ _ h];by_cases h:j=k
  ·subst h;rw[QS,hk]
  ·rw[QY _ _ h]
theorem Vj {H:HP}{k:Nat}{b:Blk}(hk:H k=some b)(hl:XW (some b)=true)(hr: ∀f,JD f b=some b):Kv [(1000,k)] H (QN [(1000,b)]):=
 .mk' rfl (by simp) (by simp) fun p hp=>by simp at hp;subst hp;exact⟨b,b,rfl,hk,hl,hr _⟩
theorem QBx {H:HP}{a:ArmV}{m:Nat}{ws:List (List (Rat×Rat))}{s:Int}{k:Nat}{f:Int->Option Int}(hk:H k=some (seB a m ws s (.m (k+5000))))(hm:H (k+5000)=some (.mp f)):
  Kv [(1000,k),(6000,k+5000)] H (QN [(1000,seB a m ws s (.m 6000)),(6000,.mp f)]):=
 .mk' rfl (by simp) (by simp) fun p hp=>by
  simp at hp;rcases hp with rfl | rfl
  ·exact⟨_,_,rfl,hk,rfl,QZD⟩
  ·exact⟨_,.mp f,rfl,hm,rfl,rfl⟩
theorem QRW {a:ArmV}{m:Nat}{ws:List (List (Rat×Rat))}{s:Int}{k:Nat}{f:Int->Option Int}:(∀p∈[((1000:Nat),k),(6000,k+5000)],QN [(1000,seB a m ws s (.m 6000)),(6000,.mp f)] p.1≠none)/\ ∀p∈[((1000:Nat),k),(6000,k+5000)]++[],∀b,QN [(1000,seB a m ws s (.m 6000)),(6000,.mp f)] p.1=some b-> ∃b0,JD (lkA ([(1000,k),(6000,k+5000)]++[])) b=some b0:=by
 refine⟨fun p hp=> ?_,fun p hp b hb=> ?_⟩
 ·simp at hp;rcases hp with rfl | rfl
  ·exact fun h=>by have h':some (seB a m ws s (.m 6000))=none:=h;cases h'
  ·exact fun h=>by have h':some (Blk.mp f)=none:=h;cases h'
 ·simp at hp;rcases hp with rfl | rfl
  ·have h':some (seB a m ws s (.m 6000))=some b:=hb;cases h';exact⟨_,QEu⟩
  ·have h':some (Blk.mp f)=some b:=hb;cases h';exact⟨_,rfl⟩
theorem QJX {H:HP}{a:ArmV}{m:Nat}{ws:List (List (Rat×Rat))}{s:Int}{k j:Nat}{f:Int->Option Int}{l:List Int}(hk:H k=some (seB a m ws s (.m (k+5000))))(hm:H (k+5000)=some (.mp f))(hj:H j=some (X2 l)):
  XN [(1000,k),(6000,k+5000),(700,j)] (QN [(1000,seB a m ws s (.m 6000)),(6000,.mp f),(700,X2 l)]) H=H:=by
 have e:lkA [(1000,k),(6000,k+5000),(700,j)] 6000=some (k+5000):=rfl;have r:JD (lkA [(1000,k),(6000,k+5000),(700,j)]) (seB a m ws s (.m 6000))=some (seB a m ws s (.m (k+5000))):=by
  simp only[JD,seB,Ub,XM,Zd,Zf,XI,e]
 funext i;unfold XN;simp only[lkB];cases h:i.beq k with
 | true=>
  have:=Za h;subst this;simp only[R7,QN,Nat.beq_refl,Option.map_some,rdB,r,Option.getD_some,hk]
 | false=>
  simp only[R8];cases h2:i.beq (k+5000)with
  | true=>
   have:=Za h2;subst this;rw[hm];rfl
  | false=>
   cases h3:i.beq j with
   | true=>
    have:=Za h3;subst this;rw[hj];rfl
   | false=>rfl
theorem QJY {H:HP}{a:ArmV}{m:Nat}{ws:List (List (Rat×Rat))}{s:Int}{k j:Nat}{f:Int->Option Int}{l:List Int}(hk:H k=some (seB a m ws s (.m (k+5000))))(hm:H (k+5000)=some (.mp f))(hj:H j=some (X2 l))(h1:j≠k)(h2:j≠k+5000):
  Kv [(1000,k),(6000,k+5000),(700,j)] H (QN [(1000,seB a m ws s (.m 6000)),(6000,.mp f),(700,X2 l)]):=
 .mk' rfl (by simp) (by simp;exact⟨fun e=>h1 e.symm,fun e=>h2 e.symm⟩) fun p hp=>by
  simp at hp;rcases hp with rfl | rfl | rfl
  ·have e:lkB [(1000,k),(6000,k+5000),(700,j)] (k+5000)=some 6000:=by simp[lkB,QKl]
   exact⟨_,_,rfl,hk,rfl,by simp only[JD,seB,Ub,XM,Zd,Zf,XI,e]⟩
  ·exact⟨_,.mp f,rfl,hm,rfl,rfl⟩
  ·exact⟨_,X2 l,rfl,hj,rfl,rfl⟩
theorem QRX {a:ArmV}{m:Nat}{ws:List (List (Rat×Rat))}{s:Int}{k j:Nat}{f:Int->Option Int}{l:List Int}:(∀p∈[((1000:Nat),k),(6000,k+5000),(700,j)],QN [(1000,seB a m ws s (.m 6000)),(6000,.mp f),(700,X2 l)] p.1≠none)/\ ∀p∈[((1000:Nat),k),(6000,k+5000),(700,j)]++[],∀b,QN [(1000,seB a m ws s (.m 6000)),(6000,.mp f),(700,X2 l)] p.1=some b-> ∃b0,JD (lkA ([(1000,k),(6000,k+5000),(700,j)]++[])) b=some b0:=by
 have e:lkA [(1000,k),(6000,k+5000),(700,j)] 6000=some (k+5000):=rfl;refine⟨fun p hp=> ?_,fun p hp b hb=> ?_⟩
 ·simp at hp;rcases hp with rfl | rfl | rfl
  ·exact fun h=>by have h':some (seB a m ws s (.m 6000))=none:=h;cases h'
  ·exact fun h=>by have h':some (Blk.mp f)=none:=h;cases h'
  ·exact fun h=>by have h':some (X2 l)=none:=h;cases h'
 ·simp at hp;rcases hp with rfl | rfl | rfl
  ·have h':some (seB a m ws s (.m 6000))=some b:=hb;cases h';exact⟨seB a m ws s (.m (k+5000)),by simp only[JD,seB,Ub,XM,Zd,Zf,XI,e]⟩
  ·have h':some (Blk.mp f)=some b:=hb;cases h';exact⟨_,rfl⟩
  ·have h':some (X2 l)=some b:=hb;cases h';exact⟨_,rfl⟩
theorem QRY:XP 104 QEt:=by
 refine⟨Qb Tryz.func104 (by kernel_rfl),fun l H d T hT K hK=> ?_⟩;unfold QEt at hT;split at hT
 ·rename_i k o xs;split at hT
  ·split at hT
   ·rename_i t cs e1;cases hb:t.beq 165 with
    | false=>rw[hb]at hT;cases hT
    | true=>
     rw[hb]at hT;have ht:=Za hb;subst ht;simp only[R7]at hT;split at hT
     ·cases hT
      obtain⟨a,m,ws,s,l,rfl,rfl,hg,hs,⟨hl,hk⟩,hK⟩:=hK;refine Y3 (R:=[(1000,k)]) (N:=[]) (Hl:=[(1000,seB a m ws s HA)]) QEs QK Tryz.func104 (by kernel_rfl) (by kernel_rfl) (by rfl)
       (as0:=[.x false [.p 1000 0],.x false [.s 1 (ints l)]]) ?_ (Vj e1 rfl fun _=>QAA) rfl (by simp) (by simp) (fun _ h=>by cases h) (fun x=>⟨fun p hp=> ?_,fun p hp b hb=> ?_⟩) (QU6 a m ws s l hg hs hl hk) (fun _ _=>⟨_,rfl,?_⟩)
      ·simp[Xj,Xg,XI,lkB]
      ·simp at hp;subst hp;exact fun h=>by have h':some (seB a m ws s HA)=none:=h;cases h'
      ·simp at hp;subst hp;have h':some (seB a m ws s HA)=some b:=hb;cases h';exact⟨_,QAA⟩
      ·show K _ (XN [(1000,k)] (QN [(1000,seB a m ws s HA)]) H)
       rw[HB (b:=seB a m ws s HA) e1 fun _=>QAA];exact hK
     ·rename_i j _;cases hj:j.beq (k+5000)with
      | false=>rw[hj]at hT;cases hT
      | true=>
       rw[hj]at hT;simp only[R7]at hT;split at hT
       ·rename_i f e2;cases hT
        obtain⟨a,m,ws,s,l,rfl,rfl,hg,hs,⟨hl,hk⟩,hK⟩:=hK;refine Y3 (R:=[(1000,k),(6000,k+5000)]) (N:=[]) (Hl:=[(1000,seB a m ws s (.m 6000)),(6000,.mp f)]) QEs QK Tryz.func104 (by kernel_rfl) (by kernel_rfl) (by rfl)
         (as0:=[.x false [.p 1000 0],.x false [.s 1 (ints l)]]) ?_ (QBx e1 e2) rfl (by simp) (by simp) (fun _ h=>by cases h) (fun x=>QRW) (QU7 a m ws s f l hg hs hl hk) (fun _ _=>⟨_,rfl,?_⟩)
        ·simp[Xj,Xg,XI,lkB]
        ·show K _ (XN [(1000,k),(6000,k+5000)] (QN [(1000,seB a m ws s (.m 6000)),(6000,.mp f)]) H)
         rw[QDC e1 e2];exact hK
       ·cases hT
     ·cases hT
   ·cases hT
  ·cases hT
 ·rename_i k o j jo n;split at hT
  ·split at hT
   ·rename_i t cs e1;cases hb:t.beq 165 with
    | false=>rw[hb]at hT;cases hT
    | true=>
     rw[hb]at hT;have ht:=Za hb;subst ht;simp only[R7]at hT;split at hT
     ·rename_i j' _;cases hj:j'.beq (k+5000)with
      | false=>rw[hj]at hT;cases hT
      | true=>
       rw[hj]at hT;simp only[R7]at hT;split at hT
       ·rename_i f t2 ys e2 e3;cases hb2:t2.beq 3 with
        | false=>rw[hb2]at hT;cases hT
        | true=>
         rw[hb2]at hT;have ht2:=Za hb2;subst ht2;cases hT
         obtain⟨a,m,ws,s,l,rfl,rfl,rfl,hg,hs,⟨hl,hk⟩,hK⟩:=hK;have h1:j≠k:=fun e=>by subst e;rw[e1]at e3;cases e3
         have h2:j≠k+5000:=fun e=>by subst e;rw[e2]at e3;cases e3
         refine Y3 (R:=[(1000,k),(6000,k+5000),(700,j)]) (N:=[]) (Hl:=[(1000,seB a m ws s (.m 6000)),(6000,.mp f),(700,X2 l)]) QEs QK Tryz.func104 (by kernel_rfl) (by kernel_rfl) (by rfl)
          (as0:=[.x false [.p 1000 0],.x false [.w 700 0 l.length]]) ?_ (QJY e1 e2 e3 h1 h2) rfl (by simp) (by simp) (fun _ h=>by cases h) (fun x=>QRX) (QU8 a m ws s f l hg hs hl hk) (fun _ _=>⟨_,rfl,?_⟩)
         ·have q1:lkB [(1000,k),(6000,k+5000),(700,j)] k=some 1000:=by simp[lkB]
          have q2:lkB [(1000,k),(6000,k+5000),(700,j)] j=some 700:=by
           have z1:j.beq k=false:=by
            cases h:j.beq k with
            | false=>rfl
            | true=>exact absurd (Za h) h1
           have z2:j.beq (k+5000)=false:=by
            cases h:j.beq (k+5000)with
            | false=>rfl
            | true=>exact absurd (Za h) h2
           simp[lkB,z1,z2]
          simp only[Xj,Xg,XI,q1,q2]
         ·show K _ (XN [(1000,k),(6000,k+5000),(700,j)] (QN [(1000,seB a m ws s (.m 6000)),(6000,.mp f),(700,X2 l)]) H)
          rw[QJX e1 e2 e3];exact hK
       ·cases hT
     ·cases hT
   ·cases hT
  ·cases hT
 ·cases hT
theorem QJZ:XP 168 GC:=by
 refine⟨Qb Tryz.func168 (by kernel_rfl),fun l H d T hT K hK=> ?_⟩;unfold GC at hT;split at hT
 ·rename_i k o xs ys;split at hT
  ·split at hT
   ·rename_i t cs e1;cases hb:t.beq 165 with
    | false=>rw[hb]at hT;cases hT
    | true=>
     rw[hb]at hT;have ht:=Za hb;subst ht;simp only[R7]at hT;split at hT
     ·rename_i j _;cases hj:j.beq (k+5000)with
      | false=>rw[hj]at hT;cases hT
      | true=>
       rw[hj]at hT;simp only[R7]at hT;split at hT
       ·rename_i f e2;cases hT
        obtain⟨a,m,ws,s,u,v,rfl,rfl,rfl,⟨hg,hs,hu,hv,hm,hw⟩,hK⟩:=hK;refine Y3 (R:=[(1000,k),(6000,k+5000)]) (N:=[]) (Hl:=[(1000,seB a m ws s (.m 6000)),(6000,.mp f)]) QEs QK Tryz.func168 (by kernel_rfl) (by kernel_rfl) (by rfl)
         (as0:=[.x false [.p 1000 0],.x false [.s 1 (ints u)],.x false [.s 1 (ints v)]]) ?_ (QBx e1 e2) rfl (by simp) (by simp) (fun _ h=>by cases h) (fun x=>QRW) (QRV a m ws s f u v hg hs hu hv hm hw) (fun _ _=>⟨_,rfl,?_⟩)
        ·simp[Xj,Xg,XI,lkB]
        ·show K _ (XN [(1000,k),(6000,k+5000)] (QN [(1000,seB a m ws s (.m 6000)),(6000,.mp f)]) H)
         rw[QDC e1 e2];exact hK
       ·cases hT
     ·cases hT
   ·cases hT
  ·cases hT
 ·cases hT
def QGw:List (Nat×XJ):=(104,QEt)::(168,GC)::QZC
noncomputable def mkTP (l:List (Nat×Ctr))(m:List (Nat×XJ))(x:List (Nat×V3)):QZ:=⟨tbL Tryz.tyL,prL l,pmL m,pxL x,QAP Tryz.prog,itP Tryz.prog QCd,(1000000+104,0,false)::QNv⟩
noncomputable def QVA:QZ:=mkTP QM2 QGw X4
theorem GD:XB QGw:= .cons QRY (.cons QJZ QRU)
theorem Wm {g:Nat}{tab:List Value}{l:List (Nat×Ctr)}{m:List (Nat×XJ)}{x:List (Nat×V3)}(h:CtrsOK Tryz.prog g tab l)(hm:CtrMsOK Tryz.prog g tab m)(hx:CtrXsOK Tryz.prog x):Qz Tryz.prog g tab (mkTP l m x):=
 QHt (mkTP.eq_1 l m x) Tryz.tb_ok (QDc h) (QHm hm) (QHn hx) (QAQ Tryz.prog) (QHl Tryz.prog QCd) fun _ _ e j _ _ he hu=>by rw[(Tryz.tb_ok e j he).und,hu]
theorem QJa:Q7 QVA:=Wm QBv GD Qg
end Go.Proofs
