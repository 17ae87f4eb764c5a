/- Searches in breadth, told plainly: distances, and what a search leaves. -/
import Derived.Test.YtmpfaflhpioaiaaGreatDoorRE
import Derived.Test.YtmpfaflhpioaiaaGreatDoorSH
open _root_ renaming List → A, Int → C, Rat → G, Nat → I, Option → D, absurd → L, True → M, Unit → O
open Option renaming some → B, none → J
open Bool renaming false → K
open List renaming length → N, cons_append → Zd, nil_append → Zf, mem_of_getElem? → Zl, length_map → Zq, map → Zb
open Nat renaming eq_of_beq_eq_true → Q, le_refl → R, mul_le_mul → Zg, lt_of_le_of_lt → Zh
open Int renaming ofNat → Zm, natAbs_mul → Zk
open Rat renaming intCast_mul → Ze, mkRat_eq_div → Zp, intCast_eq_zero_iff → Zi, div_mul_cancel → Zo
open Go.Value renaming string → Zj, bool → Zn
set_option maxHeartbeats 200000
set_option maxRecDepth 100000
namespace Go.Proofs
section
variable {α:Type}
inductive Rch (E:α->α->Prop)(g:α):I->α->Prop
 | zero:Rch E g 0 g
 | step {n:I} {u v:α} (h:Rch E g n u) (e:E u v):Rch E g (n+1) v
def Dst (E:α->α->Prop)(g:α)(n:I)(v:α):Prop:=Rch E g n v/\ ∀k,k<n-> ¬Rch E g k v
variable {E:α->α->Prop}{g:α}
variable{v:α}
theorem Dst.uniq {n m:I}(h:Dst E g n v)(k:Dst E g m v):n=m:=by
 rcases I.lt_trichotomy n m with c | c | c
 ·exact L h.1 (k.2 n c)
 ·exact c
 ·exact L k.1 (h.2 m c)
theorem Rch.dst: ∀{n:I},Rch E g n v-> ∃d,d<=n/\Dst E g d v:=by
 intro n;induction n using I.strongRecOn with
 | _ n q=>
  intro h;by_cases c: ∃k,k<n/\Rch E g k v
  ·obtain⟨k,i,o⟩:=c;obtain⟨d,r,e⟩:=q k i o;exact⟨d,by omega,e⟩
  ·exact⟨n,R _,h,fun k b p=>c ⟨k,b,p⟩⟩
theorem Dst.pred {n:I}(h:Dst E g (n+1) v): ∃u,Dst E g n u/\E u v:=by
 obtain⟨b,c⟩:=h;cases b with
 | @step _ u _ i e=>
  exact⟨u,⟨i,fun k o d=>c (k+1) (by omega) (.step d e)⟩,e⟩
theorem Dst.below {n:I}: ∀{v:α},Dst E g n v-> ∀k,k<=n-> ∃w,Dst E g k w:=by
 induction n with
 | zero=>intro v h k b;exact⟨v,by rw[I.le_zero.1 b];exact h⟩
 | succ n i=>
  intro v h k b;by_cases e:k=n+1
  ·exact⟨v,e▸h⟩
  ·obtain⟨u,c,_⟩:=h.pred;exact i c k (by omega)
theorem Rch.ok {ok:α->Prop}(c:ok g)(b: ∀u v,E u v->ok v){n:I}(h:Rch E g n v):ok v:=by
 cases h with
 | zero=>exact c
 | step _ e=>exact b _ _ e
theorem Rch.mono {b:α->α->Prop}(c: ∀u v,E u v->b u v){n:I}(h:Rch E g n v):Rch b g n v:=by
 induction h with
 | zero=>exact .zero
 | step _ e i=>exact .step i (c _ _ e)
variable{u:α}
theorem Rch.cons(e:E g u){n:I}(h:Rch E u n v):Rch E g (n+1) v:=by
 induction h with
 | zero=>exact .step .zero e
 | step _ e i=>exact .step i e
theorem Rch.symm (b: ∀u v,E u v->E v u){n:I}(h:Rch E g n v):Rch E v n g:=by
 induction h with
 | zero=>exact .zero
 | step _ e i=>exact .cons (b _ _ e) i
theorem Rch.trans {n m:I}(h:Rch E g n u)(k:Rch E u m v):Rch E g (n+m) v:=by
 induction k with
 | zero=>exact h
 | step _ e i=>exact .step i e
theorem Dst.symm (b: ∀u v,E u v->E v u){n:I}(h:Dst E g n v):Dst E v n g:=⟨h.1.symm b,fun k c d=>h.2 k c (d.symm b)⟩
theorem Dst.zero_iff:Dst E g 0 v↔v=g:=by
 refine⟨fun h=>by cases h.1;rfl,fun h=>by subst h;exact⟨.zero,fun k b=>by omega⟩⟩
structure Bfs (E:α->α->Prop)(g:α)(ok:α->Prop)(F:α->D I)(n:I)(row:A α):Prop where
  ze: ∀v d,ok v->F v=B d->Dst E g d v/\d<=n
  seen: ∀v k,ok v->k<=n->Rch E g k v->F v≠J
  inr: ∀v,ok v->(v∈row↔F v=B n)
  rok: ∀v∈row,ok v
structure Sz (E:α->α->Prop)(g:α)(ok:α->Prop)(F:α->D I)(n:I)(row nxt:A α)(P:α->α->Prop):Prop where
  ze: ∀v d,ok v->F v=B d->Dst E g d v/\d<=n+1
  seen: ∀v k,ok v->k<=n->Rch E g k v->F v≠J
  inr: ∀v,ok v->(v∈row↔F v=B n)
  inn: ∀v,ok v->(v∈nxt↔F v=B (n+1))
  rok: ∀v∈row,ok v
  nok: ∀v∈nxt,ok v
  done: ∀u v,P u v->E u v->F v≠J
def Found (E:α->α->Prop)(g:α)(ok:α->Prop)(F:α->D I)(b:α):Prop:=
  (∀v d,ok v->F v=B d->Dst E g d v)/\ ∀d,Dst E g d b->F b=B d/\ ∀v k,ok v->k<=d->Rch E g k v->F v≠J

variable {ok:α->Prop}{F:α->D I}{n:I}{row nxt:A α}{P:α->α->Prop}
theorem Bfs.first (i:ok g)(c: ∀v,ok v->(F v=B 0↔v=g))(e: ∀v d,ok v->F v=B d->d=0):Bfs E g ok F 0 [g]where
 ze:=fun v d b h=>by
  have:=e v d b h;subst this;exact⟨Dst.zero_iff.2 ((c v b).1 h),R _⟩
 seen:=fun v k b o h=>by
  have:=I.le_zero.1 o;subst this;cases h
  rw[(c g b).2 rfl];simp
 inr:=fun v b=>by rw[c v b];simp
 rok:=fun v h=>by simp at h;subst h;exact i
theorem Bfs.begin (h:Bfs E g ok F n row):Sz E g ok F n row [] (fun _ _=>False)where
 ze:=fun v d c b=>⟨(h.ze v d c b).1,by have:=(h.ze v d c b).2;omega⟩
 seen:=h.seen
 inr:=h.inr
 inn:=fun v c=>⟨fun h=>by simp at h,fun b=>by have:=(h.ze v _ c b).2;omega⟩
 rok:=h.rok
 nok:=fun v h=>by simp at h
 done:=fun _ _ h=>h.elim
theorem Sz.skip (h:Sz E g ok F n row nxt P){u0 v0:α}{b:α->α->Prop}(hP: ∀u v,b u v->P u v\/(u=u0/\v=v0))(i:E u0 v0->F v0≠J):Sz E g ok F n row nxt b:=
 {h with
  done:=fun u v e c=>by
   rcases hP u v e with d | ⟨rfl,rfl⟩
   ·exact h.done u v d c
   ·exact i c}
theorem Sz.add (h:Sz E g ok F n row nxt P){u0 v0:α}{z:α->α->Prop}(hP: ∀u v,z u v->P u v\/(u=u0/\v=v0))(w:u0∈row)(N:E u0 v0)(y:ok v0)(G:F v0=J)
  {t:α->D I} (p: ∀v,ok v->v≠v0->t v=F v) (c:t v0=B (n+1)) (M: ∀u v,E u v->ok v):Sz E g ok t n row (nxt++[v0]) z where
 ze:=fun v d b i=>by
  by_cases e:v=v0
  ·subst e;rw[c]at i;cases i
   have x:=h.ze u0 n (h.rok u0 w) ((h.inr u0 (h.rok u0 w)).1 w);exact⟨⟨.step x.1.1 N,fun k C r=>h.seen v k b (by omega) r G⟩,R _⟩
  ·rw[p v b e]at i;exact h.ze v d b i
 seen:=fun v k b C r=>by
  by_cases e:v=v0
  ·subst e;rw[c];simp
  ·rw[p v b e];exact h.seen v k b C r
 inr:=fun v b=>by
  by_cases e:v=v0
  ·subst e;refine⟨fun r=> ?_,fun i=> ?_⟩
   ·have:=(h.inr v b).1 r;rw[G]at this;cases this
   ·rw[c]at i;simp at i
  ·rw[p v b e];exact h.inr v b
 inn:=fun v b=>by
  by_cases e:v=v0
  ·subst e;simp[c]
  ·rw[p v b e];simp[e];exact h.inn v b
 rok:=h.rok
 nok:=fun v b=>by
  rcases A.mem_append.1 b with o | o
  ·exact h.nok v o
  ·simp at o;subst o;exact y
 done:=fun u v O q=>by
  by_cases e:v=v0
  ·subst e;rw[c];simp
  ·rw[p v (M u v q) e];rcases hP u v O with o | ⟨rfl,rfl⟩
   ·exact h.done u v o q
   ·exact L rfl e
theorem Sz.next_row (h:Sz E g ok F n row nxt P)(hP: ∀u v,u∈row->E u v->P u v)(z:ok g)(x: ∀u v,E u v->ok v):Bfs E g ok F (n+1) nxt where
 ze:=h.ze
 seen:=fun v k t D r=>by
  by_cases e:k<=n
  ·exact h.seen v k t e r
  ·have:k=n+1:=by omega
   subst this;cases r with
   | @step _ u _ o c=>
    have b:=o.ok z x;have:=h.seen u n b (R _) o;cases i:F u with
    | none=>exact L i this
    | some d=>
     obtain⟨q,C⟩:=h.ze u d b i;by_cases w:d=n
     ·subst w;have p:=(h.inr u b).2 i;exact h.done u v (hP u v p c) c
     ·have y:d<=n:=I.le_of_not_lt fun A=>q.2 n A o;exact h.seen v (d+1) t (by omega) (.step q.1 c)
 inr:=h.inn
 rok:=h.nok
theorem Sz.found (h:Sz E g ok F n row nxt P)(e:u∈row):Found E g ok F u:=by
 have b:=h.rok u e;have c:=(h.inr u b).1 e;refine⟨fun v d o c=>(h.ze v d o c).1,fun d i=> ?_⟩;have:=((h.ze u n b c).1).uniq i;subst this;exact⟨c,h.seen⟩
theorem Bfs.found (h:Bfs E g ok F n [])(q:ok u)(t:ok g)(r: ∀u v,E u v->ok v):Found E g ok F u:=by
 refine⟨fun v d o b=>(h.ze v d o b).1,fun d i=> ?_⟩;have x:d<n:=by
  refine I.lt_of_not_le fun y=> ?_
  obtain⟨w,p⟩:=i.below n y;have c:=p.1.ok t r;cases b:F w with
  | none=>exact h.seen w n c (R _) p.1 b
  | some e=>
   have:=(h.ze w e c b).1.uniq p;subst this;have:=(h.inr w c).2 b;simp at this
 refine⟨?_,fun v k o A z=>h.seen v k o (by omega) z⟩;cases b:F u with
 | none=>exact L b (h.seen u d q (by omega) i.1)
 | some e=>rw[(h.ze u e q b).1.uniq i]
theorem Found.step(h:Found E g ok F u)(t:ok g)(q: ∀u v,E u v->ok v){D d:I}(p:Dst E g D u)(y:d+1<=D)(x:ok v)(r:F v=B (d+1)): ∃w,ok w/\F w=B d/\E w v:=by
  obtain⟨w,c,o⟩:=(h.1 v (d+1) x r).pred;have b:=c.1.ok t q;refine⟨w,b,?_,o⟩;cases e:F w with
  | none=>exact L e ((h.2 D p).2 w d b (by omega) c.1)
  | some i=>rw[(h.1 w i b e).uniq c]
end
def K4 (f:C->D C):I->I
 | 0=>0
 | n+1=>(if f n=J then 1 else 0)+K4 f n
theorem Qb7 {f b:C->D C}(h: ∀k,b k=J->f k=J): ∀n,K4 b n<=K4 f n:=by
 intro n;induction n with
 | zero=>exact R _
 | succ n i=>
  unfold K4;by_cases e:b n=J
  ·rw[if_pos e,if_pos (h _ e)];omega
  ·rw[if_neg e];omega
theorem Qb8 {f b:C->D C}(h: ∀k,b k=J->f k=J){k:C}(h1:f k=J)(d:b k≠J): ∀{n:I},0<=k->k<n->K4 b n<K4 f n:=by
 intro n;induction n with
 | zero=>intro c i;omega
 | succ n o=>
  intro c i;unfold K4;by_cases e:k=n
  ·rw[<-e,if_neg d,if_pos h1];have:=Qb7 h n;omega
  ·have:=o c (by omega);by_cases e:b n=J
   ·rw[if_pos e,if_pos (h _ e)];omega
   ·rw[if_neg e];omega
def OkS (s:C)(len:I)(l:A C):Prop:=N l=len/\ ∀k∈l,0<=k/\k<=s
def AdjS (s:C)(l m:A C):Prop:= ∃i v w,l[i]? =B v/\(w=v-1\/w=v+1)/\(0<=w/\w<=s)/\m=l.set i w
variable{s:C}{l m:A C}
theorem AdjS.ok{len:I}(b:OkS s len l)(h:AdjS s l m):OkS s len m:=by
 obtain⟨i,v,w,o,p,d,rfl⟩:=h;refine⟨by simp[b.1],fun k e=> ?_⟩;rcases A.mem_or_eq_of_mem_set e with c | rfl
 ·exact b.2 k c
 ·exact d
theorem AdjS.symm{len:I}(d:OkS s len l)(h:AdjS s l m):AdjS s m l:=by
 obtain⟨i,v,w,b,e,o,rfl⟩:=h;have c:=(A.getElem?_eq_some_iff.1 b).1;refine⟨i,w,v,by simp[c],by omega,d.2 v (Zl b),?_⟩;rw[A.set_set,A.getElem?_eq_getElem c]at*;have:=D.some.inj b;rw[<-this,A.set_getElem_self]
theorem AdjS.cons{a:C}(h:AdjS s l m):AdjS s (a::l) (a::m):=by
 obtain⟨i,v,w,b,c,d,rfl⟩:=h;exact⟨i+1,v,w,by simpa using b,c,d,rfl⟩
end Go.Proofs
namespace Go.Proofs
open Go Go.Eng Tryz
def Hp (a:ArmV)(m:I)(ws:A (A (G×G)))(s:C)(c:Ch):A Ch:=Qp a++[.s 1 (shN m ws),.v (.int .i64 s),c]
def seB (a:ArmV)(m:I)(ws:A (A (G×G)))(s:C)(c:Ch):Blk:= .box 83 (Hp a m ws s c)
def frV (a:ArmV)(ws:A (A (G×G)))(s:C)(u v:A C):Bool:=goV a ws 2 (XQ a s u) (XQ a s v)
def sy:Ctr
 | [.x true x,.x K [.v (.int .i64 s)],.x K [.s 1 y]]=>B fun b=> ∃(a:ArmV) (c:A C),x=Qp a/\y=ints c/\(QJ a/\(1<=s/\s<=12)/\c.length=N a.za/\ ∀k∈c,0<=k/\k<=s)/\b (.t [(K,[.s 3 (lR 63 (XQ a s c))]),(K,[.v (.int .i64 0)])])
 | _=>J
variable{m:I}
theorem Qhc {N:C}{D:I}(b:0<D)(d:N.natAbs<2^m)(o:D<2^m):Bd m ((N:G)/((D:C):G)):=by
 have e:(N:G)/((D:C):G)=mkRat N D:=by rw[Zp];rfl
 rw[e];have p:0<I.gcd D N.natAbs:=I.gcd_pos_of_pos_left _ b;refine⟨?_,?_⟩
 ·rw[G.num_mkRat,if_neg o3];have:(N/(I.gcd D N.natAbs:C)).natAbs<=N.natAbs:=by
   have h:((I.gcd D N.natAbs:I):C)∣N:=C.ofNat_dvd_left.2 (I.gcd_dvd_right _ _);obtain⟨c,i⟩:=h;generalize I.gcd D N.natAbs=g at*;rw[i,C.mul_ediv_cancel_left _ o3,Zk];have:1*c.natAbs<=(g:C).natAbs*c.natAbs:=I.mul_le_mul_right _ o3;omega
  exact Zh this d
 ·rw[G.den_mkRat,if_neg o3];exact Zh (I.div_le_self _ _) o
variable{s:C}
theorem QXH {c d:G}{k:C}(M:1<=s):c+(d-c)*((k:G)/(s:G))=((c.num*d.den*(s-k)+d.num*c.den*k:C):G)/(((c.den*d.den*s.toNat:I):C):G):=by
 have o:((c.den:C):G)≠0:=fun e=>c.den_nz (by exact_mod_cast Zi.1 e);have p:((d.den:C):G)≠0:=fun e=>d.den_nz (by exact_mod_cast Zi.1 e);have q:(s:G)≠0:=fun e=>by have:=Zi.1 e;omega
 have z:c*((c.den:C):G)=(c.num:G):=by
  have h:(c.num:G)/((c.den:I):G)=c:=by rw[<-Zp,G.mkRat_self]
  have i:=Zo (a:=(c.num:G)) o;rw[show(c.num:G)/((c.den:C):G)=c from h]at i;exact i
 have D:d*((d.den:C):G)=(d.num:G):=by
  have h:(d.num:G)/((d.den:I):G)=d:=by rw[<-Zp,G.mkRat_self]
  have i:=Zo (a:=(d.num:G)) p;rw[show(d.num:G)/((d.den:C):G)=d from h]at i;exact i
 have L:(k:G)/(s:G)*(s:G)=(k:G):=Zo q;have t:((s.toNat:I):C)=s:=o3
 have x:(((c.den*d.den*s.toNat:I):C):G)=((c.den:C):G)*((d.den:C):G)*(s:G):=by
  rw[C.natCast_mul,C.natCast_mul,t,Ze,Ze]
 rw[x];have y:((c.num*d.den*(s-k)+d.num*c.den*k:C):G)=(c.num:G)*((d.den:C):G)*((s:G)-(k:G))+(d.num:G)*((c.den:C):G)*(k:G):=by
  rw[G.intCast_add,Ze,Ze,Ze,Ze,G.intCast_sub]
 rw[y,<-z,<-D];generalize (k:G)/(s:G)=r at*;generalize ((c.den:C):G)=A at*;generalize ((d.den:C):G)=b at*;rw[<-L];generalize (s:G)=S at*;have w:A*b*S≠0:=by
  intro e;rcases G.mul_eq_zero.1 e with e | e
  ·rcases G.mul_eq_zero.1 e with e | e
   ·exact o e
   ·exact p e
  ·exact q e
 have e:c*A*b*(S-r*S)+d*b*A*(r*S)=(c+(d-c)*r)*(A*b*S):=j4
 rw[e,G.div_def,G.mul_assoc,G.mul_inv_cancel _ w,G.mul_one]
theorem Qhd{k:C}{L:QV}(h1:YH L.lo)(o:YH L.hi)(p:1<=s/\s<=12)(hk:0<=k/\k<=s):Bd 63 (aV s L k):=by
 unfold aV;rw[QXH p.1];obtain⟨b,c⟩:=h1;obtain⟨h,i⟩:=o;have A:=L.lo.den_pos;have D:=L.hi.den_pos;generalize L.lo.num=x at*;generalize L.hi.num=y at*;generalize L.lo.den=d at*;generalize L.hi.den=e at*;have r:d*e<=1000*1000:=Zg c i;have t:d*e*s.toNat<=1000000*12:=Zg r o3;have q:0<d*e*s.toNat:=I.mul_pos (I.mul_pos A D) o3;have G:(x*(e:C)*(s-k)).natAbs<=1000000*1000*12:=by
  rw[Zk,Zk];exact Zg (Zg b o3) o3
 have M:(y*(d:C)*k).natAbs<=1000000*1000*12:=by
  rw[Zk,Zk];exact Zg (Zg h o3) o3
 refine Qhc q ?_ ?_
 ·generalize x*(e:C)*(s-k)=z at*;generalize y*(d:C)*k=w at*;have:(z+w).natAbs<=24000000000:=o3
  exact Zh this o8
 ·exact Zh t o8
variable{a:ArmV}
theorem Qb9(o:QJ a)(p:1<=s/\s<=12){ks:A C}(hk: ∀k∈ks,0<=k/\k<=s): ∀q∈XQ a s ks,Bd 63 q:=by
 intro q d;unfold XQ at d;obtain⟨i,h⟩:=A.getElem?_of_mem d
 rw[A.getElem?_zipWith]at h;split at h
 ·rename_i L k e b;cases h
  have c:=o.za L (Zl e);exact Qhd c.small.2.1 c.small.2.2.1 p (hk k (Zl b))
 ·cases h
theorem QRp:QH 25 sy:=by
 refine⟨ok_roValue.enter,fun l T h b d=> ?_⟩;unfold sy at h;split at h
 ·cases h
  obtain⟨a,p,rfl,rfl,c,d⟩:=d;refine Spec.res (ok_roValue.sound _ _ rfl (fun o=>o= .t [(K,[.s 3 (lR 319 (XQ a _ p))]),(K,[.v (.int .i64 0)])]) ⟨a,p,rfl,rfl,c,rfl⟩) fun w O o v e i=>⟨_,d,?_⟩;subst e;obtain⟨y,q,r⟩:=i;cases q with
  | cons x t=>exact⟨_,.cons (rM (n:=63) (Qb9 c.1 c.2.1 c.2.2.2) x) t,r⟩
 ·cases h
def aX:LC:=(24,GX)::(68,GY)::(25,sy)::(65,di)::fP
def lS:A (I×XS):=(66,lC)::(110,GK)::aB
noncomputable def QXI:Qd:=mkT aX lS X4
theorem dJ:QF aX:= .cons uc (.cons QFg (.cons QRp (.cons QXE Qbp)))
theorem QXJ:XK lS:= .cons QMv (.cons QFG gV)
theorem eS:Qr QXI:=QP dJ QXJ Qb
def GZ:Ch:= .v (.map J)
def Md(a:ArmV):=Zb QA a.za
def Mc:=63<=63
theorem QcA (a:ArmV)(m:I)(ws:A (A (G×G)))(s:C)(l:A C)(h:QJ a)(d:1<=s/\s<=12)(c:l.length=N a.za)(hk: ∀k∈l,0<=k/\k<=s):QM (Xp (X:=O) QXI (oF f28) noL f28 [.x K [.p 1000 0],.x K [.s 1 (ints l)]] [(1000,seB a m ws s GZ)] (fun _=>M) (fun _=>⟨[(4,iA .i64 (numV s l))],[(1000,seB a m ws s GZ)]⟩)):=by
 refine HV (∃(b:A C),ints l=ints b/\(((1<=N b/\b.length<=3)/\Zm (Md a).length=Zm b.length)/\(1<=s/\s<=12)/\∀(v:C),v∈b->0<=v/\v<=s)/\∃(u:O),M/\numV s b=numV s l/\83=83/\a.name=a.name/\a.x=a.x/\Mc/\a.y=a.y/\Mc/\a.half=a.half/\a.t=a.t/\Mc/\16=16/\Md a=Md a/\1=1/\shN m ws=shN m ws/\s=s/\Value.map J=Value.map J/\M) ?_
 delta Md Mc
 have e:=h.n;exact⟨l,rfl,⟨⟨⟨o3,o3⟩,by rw[Zq,c]⟩,d,hk⟩,(),trivial,rfl,by and_intros<;>first | rfl | exact R _ | trivial⟩
theorem QcB (a:ArmV)(m:I)(ws:A (A (G×G)))(s:C)(f:C->D C)(l:A C)(h:QJ a)(d:1<=s/\s<=12)(c:l.length=N a.za)(hk: ∀k∈l,0<=k/\k<=s):QM (Xp (X:=O) QXI (oF f28) noL f28 [.x K [.p 1000 0],.x K [.s 1 (ints l)]] [(1000,seB a m ws s (.m 6000)),(6000,.mp f)] (fun _=>M) (fun _=>⟨[(4,iA .i64 (numV s l))],[(1000,seB a m ws s (.m 6000)),(6000,.mp f)]⟩)):=by
 refine HV (∃(b:A C),ints l=ints b/\(((1<=N b/\b.length<=3)/\Zm (Md a).length=Zm b.length)/\(1<=s/\s<=12)/\∀(v:C),v∈b->0<=v/\v<=s)/\∃(u:O),M/\numV s b=numV s l/\83=83/\a.name=a.name/\a.x=a.x/\Mc/\a.y=a.y/\Mc/\a.half=a.half/\a.t=a.t/\Mc/\16=16/\Md a=Md a/\1=1/\shN m ws=shN m ws/\s=s/\f=f/\M) ?_
 delta Md Mc
 have e:=h.n;exact⟨l,rfl,⟨⟨⟨o3,o3⟩,by rw[Zq,c]⟩,d,hk⟩,(),trivial,rfl,by and_intros<;>first | rfl | exact R _ | trivial⟩
theorem QcC (a:ArmV)(m:I)(ws:A (A (G×G)))(s:C)(f:C->D C)(l:A C)(h:QJ a)(d:1<=s/\s<=12)(c:l.length=N a.za)(hk: ∀k∈l,0<=k/\k<=s):QM (Xp (X:=O) QXI (oF f28) noL f28 [.x K [.p 1000 0],.x K [.w 700 0 l.length]] [(1000,seB a m ws s (.m 6000)),(6000,.mp f),(700,YV l)] (fun _=>M) (fun _=>⟨[(4,iA .i64 (numV s l))],[(1000,seB a m ws s (.m 6000)),(6000,.mp f),(700,YV l)]⟩)):=by
 refine HV (∃(b:A C),A.take l.length (A.drop 0 (ints l))=ints b/\(((1<=N b/\b.length<=3)/\Zm (Md a).length=Zm b.length)/\(1<=s/\s<=12)/\∀(v:C),v∈b->0<=v/\v<=s)/\∃(u:O),M/\numV s b=numV s l/\83=83/\a.name=a.name/\a.x=a.x/\Mc/\a.y=a.y/\Mc/\a.half=a.half/\a.t=a.t/\Mc/\16=16/\Md a=Md a/\1=1/\shN m ws=shN m ws/\s=s/\f=f/\3=3/\1=1/\(ints l=ints l\/QC (ints l) (ints l))/\M) ?_
 delta Md Mc
 have i:=h.n;have e:A.take l.length (A.drop 0 (ints l))=ints l:=by rw[A.drop_zero,A.take_of_length_le (by rw[XG];exact R _)]
 exact⟨l,e,⟨⟨⟨o3,o3⟩,by rw[Zq,c]⟩,d,hk⟩,(),trivial,rfl,by and_intros<;>first | rfl | exact R _ | trivial | exact .inl rfl⟩
def Me(a b c d e f:ArmV):A Ch:=[Ch.v (Zj a.name),Ch.r b.x 63,Ch.r c.y 63,Ch.v (Zn d.half),Ch.r e.t 63,Ch.s 16 (Md f)]
theorem QXK (a:ArmV)(m:I)(ws:A (A (G×G)))(s:C)(f:C->D C)(u v:A C)(Q:QJ a)(S:1<=s/\s<=12)(T:OkS s a.za.length u)(U:OkS s a.za.length v)(V:m<=400000000)(W:(∀w∈ws,QY w)/\ws.length<=20):QM (Xp (X:=O) QXI (oF f67) noL f67 [.x K [.p 1000 0],.x K [.s 1 (ints u)],.x K [.s 1 (ints v)]] [(1000,seB a m ws s (.m 6000)),(6000,.mp f)] (fun _=>M) (fun _=>⟨[(6,.x K [.v (.bool (frV a ws s u v))])],[(1000,seB a m ws s (.m 6000)),(6000,.mp f)]⟩)):=by
 refine HV (∃(c:ArmV)(t:A C),Me a a a a a a=Me c c c c c c/\ints u=ints t/\(QJ c/\(1<=s/\s<=12)/\t.length=N c.za/\∀(z:C),z∈t->0<=z/\z<=s)/\∃(i:ArmV)(o:A C),Me a a a a a a=Me i i i i i i/\ints v=ints o/\(QJ i/\(1<=s/\s<=12)/\o.length=N i.za/\∀(y:C),y∈o->0<=y/\y<=s)/\∃(b:ArmV)(d:I)(p:A G)(e:I)(q:A G)(L:I)(r:A (A (G×G)))(n:I),Me a a a a a a=Me b b b b b b/\lR 63 (XQ c s t)=lR d p/\lR 63 (XQ i s o)=lR e q/\shN m ws=shN L r/\2=Zm n/\(QJ b/\2*d+e+130<=400/\(N p=N b.za/\q.length=N b.za)/\L<=400000000/\((∀(w:A (G×G)),w∈r->QY w)/\r.length<=20)/\1<=n/\n<=50)/\∃(x:O),M/\S6 b (YB p q n) r=frV a ws s u v/\83=83/\a.name=a.name/\a.x=a.x/\Mc/\a.y=a.y/\Mc/\a.half=a.half/\a.t=a.t/\Mc/\16=16/\Md a=Md a/\1=1/\shN m ws=shN m ws/\s=s/\f=f/\M) ?_
 delta Md Mc Me
 have vl: ∀t:A C,N t=N a.za->(XQ a s t).length=N a.za:=fun t h=>by simp[XQ,h]
 exact⟨a,u,rfl,rfl,⟨Q,S,T⟩,a,v,rfl,rfl,⟨Q,S,U⟩,a,63,XQ a s u,63,XQ a s v,m,ws,2,rfl,rfl,rfl,rfl,rfl,⟨Q,o3,⟨vl u T.1,vl v U.1⟩,V,W,o3,o3⟩,(),trivial,rfl,by and_intros<;>first | rfl | exact R _ | trivial⟩
def bt:A Ch->D Ch
 | [_,_,_,_,_,_,_,_,c]=>B c
 | _=>J
def iX:XS:=fun d H _=>match d with
  | [.x K [.p k o],.x K [.s 1 x]]=>match o with
    | 0=>match H k with
      | some (.box t c)=>bif t.beq 83 then(match bt c with
        | some (.v (.map J))=>B fun b=> ∃(a:ArmV) (m:I) (ws:A (A (G×G))) (s:C) (l:A C),c=Hp a m ws s GZ/\x=ints l/\QJ a/\(1<=s/\s<=12)/\OkS s a.za.length l/\b (iA .i64 (numV s l)) H
        | some (.m j)=>bif j.beq (k+5000)then(match H (k+5000)with
          | some (.mp _f)=>B fun b=> ∃(a:ArmV) (m:I) (ws:A (A (G×G))) (s:C) (l:A C),c=Hp a m ws s (.m (k+5000))/\x=ints l/\QJ a/\(1<=s/\s<=12)/\OkS s a.za.length l/\b (iA .i64 (numV s l)) H
          | _=>J)else J
        | _=>J)else J
      | _=>J
    | _+1=>J
  | [.x K [.p k o],.x K [.w j h n]]=>match o,h with
    | 0,0=>match H k with
      | some (.box t c)=>bif t.beq 83 then(match bt c with
        | some (.m e)=>bif e.beq (k+5000)then(match H (k+5000),H j with
          | some (.mp _f),B (.row i 1 y)=>bif i.beq 3 then B fun b=> ∃(a:ArmV) (m:I) (ws:A (A (G×G))) (s:C) (l:A C),c=Hp a m ws s (.m (k+5000))/\y=ints l/\n=N l/\QJ a/\(1<=s/\s<=12)/\OkS s a.za.length l/\b (iA .i64 (numV s l)) H else J
          | _,_=>J)else J
        | _=>J)else J
      | _=>J
    | _,_=>J
  | _=>J
def mE:XS:=fun c H _=>match c with
  | [.x K [.p k o],.x K [.s 1 x],.x K [.s 1 y]]=>match o with
    | 0=>match H k with
      | some (.box t d)=>bif t.beq 83 then(match bt d with
        | some (.m j)=>bif j.beq (k+5000)then(match H (k+5000)with
          | some (.mp _f)=>B fun b=> ∃(a:ArmV) (m:I) (ws:A (A (G×G))) (s:C) (u v:A C),d=Hp a m ws s (.m (k+5000))/\x=ints u/\y=ints v/\(QJ a/\(1<=s/\s<=12)/\OkS s a.za.length u/\OkS s a.za.length v/\m<=400000000/\(∀w∈ws,QY w)/\ws.length<=20)/\b (.x K [.v (.bool (frV a ws s u v))]) H
          | _=>J)else J
        | _=>J)else J
      | _=>J
    | _+1=>J
  | _=>J
theorem QOy (k:I):(k+5000).beq k=K:=by
 cases h:(k+5000).beq k with
 | false=>rfl
 | true=>have:=Q h;omega
theorem QcD (k:I):lkB [(1000,k),(6000,k+5000)] k=B 1000/\lkB [(1000,k),(6000,k+5000)] (k+5000)=B 6000:=by
 constructor
 ·simp[lkB]
 ·simp[lkB,QOy]
variable{ws:A (A (G×G))}{k:I}
theorem Qhf:J4 (lkB [(1000,k),(6000,k+5000)]) (seB a m ws s (.m (k+5000)))=B (seB a m ws s (.m 6000)):=by
 simp only[J4,seB,Hp,Qp,Zd,Zf,XZ,(QcD k).2]
theorem sj:J4 (lkA [(1000,k),(6000,k+5000)]) (seB a m ws s (.m 6000))=B (seB a m ws s (.m (k+5000))):=by
 have e:lkA [(1000,k),(6000,k+5000)] 6000=B (k+5000):=rfl;simp only[J4,seB,Hp,Qp,Zd,Zf,XZ,e]
theorem cU{f:I->D I}:J4 f (seB a m ws s GZ)=B (seB a m ws s GZ):=by
 simp only[J4,seB,Hp,Qp,Zd,Zf,XZ,GZ]
variable{H:HP}
theorem QXL{b:Blk}(hk:H k=B b)(c: ∀f,J4 f b=B b):Xn [(1000,k)] (QO [(1000,b)]) H=H:=by
 funext j;unfold Xn;simp only[lkB];cases h:j.beq k with
 | true=>
  have:=Q h;subst this;simp[QO,rdB,c,hk]
 | false=>rfl
variable{f:C->D C}
theorem QJ2:
  Xn [(1000,k),(6000,k+5000)] (QO [(1000,seB a m ws s (.m 6000)),(6000,.mp f)]) H=upd (upd H k (B (seB a m ws s (.m (k+5000))))) (k+5000) (B (.mp f)):=by
 funext j;unfold Xn;simp only[lkB];cases h:j.beq k with
 | true=>
  have:=Q h;subst this;rw[Qc _ _ o3,QT];simp only[R7,QO,I.beq_refl,D.map_some,rdB,sj,D.getD_some]
 | false=>
  simp only[R8];have d:j≠k:=fun e=>by subst e;simp at h
  cases c:j.beq (k+5000)with
  | true=>
   have:=Q c;subst this;rw[QT];rfl
  | false=>
   have b:j≠k+5000:=fun e=>by subst e;simp at c
   rw[Qc _ _ b,Qc _ _ d];rfl
theorem QFh(hk:H k=B (seB a m ws s (.m (k+5000))))(b:H (k+5000)=B (.mp f)):
  Xn [(1000,k),(6000,k+5000)] (QO [(1000,seB a m ws s (.m 6000)),(6000,.mp f)]) H=H:=by
 rw[QJ2];funext j;by_cases h:j=k+5000
 ·subst h;rw[QT,b]
 ·rw[Qc _ _ h];by_cases h:j=k
  ·subst h;rw[QT,hk]
  ·rw[Qc _ _ h]
theorem vP{b:Blk}(hk:H k=B b)(c:Xt (B b)=true)(d: ∀f,J4 f b=B b):Vm [(1000,k)] H (QO [(1000,b)]):=
 .mk' rfl o6 o6 fun p h=>by simp at h;subst h;exact⟨b,b,rfl,hk,c,d _⟩
theorem nG(hk:H k=B (seB a m ws s (.m (k+5000))))(b:H (k+5000)=B (.mp f)):
  Vm [(1000,k),(6000,k+5000)] H (QO [(1000,seB a m ws s (.m 6000)),(6000,.mp f)]):=
 .mk' rfl o6 o6 fun p h=>by
  simp at h;rcases h with rfl | rfl
  ·exact⟨_,_,rfl,hk,rfl,Qhf⟩
  ·exact⟨_,.mp f,rfl,b,rfl,rfl⟩
theorem xK:(∀p∈[((1000:I),k),(6000,k+5000)],QO [(1000,seB a m ws s (.m 6000)),(6000,.mp f)] p.1≠J)/\ ∀p∈[((1000:I),k),(6000,k+5000)]++[],∀b,QO [(1000,seB a m ws s (.m 6000)),(6000,.mp f)] p.1=B b-> ∃i,J4 (lkA ([(1000,k),(6000,k+5000)]++[])) b=B i:=by
 refine⟨fun p d=> ?_,fun p d b e=> ?_⟩
 ·simp at d;rcases d with rfl | rfl
  ·exact fun h=>by have c:B (seB a m ws s (.m 6000))=J:=h;cases c
  ·exact fun h=>by have c:B (Blk.mp f)=J:=h;cases c
 ·simp at d;rcases d with rfl | rfl
  ·have c:B (seB a m ws s (.m 6000))=B b:=e;cases c;exact⟨_,sj⟩
  ·have c:B (Blk.mp f)=B b:=e;cases c;exact⟨_,rfl⟩
variable{l:A C}{j:I}
theorem QMw(hk:H k=B (seB a m ws s (.m (k+5000))))(o:H (k+5000)=B (.mp f))(d:H j=B (YV l)):
  Xn [(1000,k),(6000,k+5000),(700,j)] (QO [(1000,seB a m ws s (.m 6000)),(6000,.mp f),(700,YV l)]) H=H:=by
 have e:lkA [(1000,k),(6000,k+5000),(700,j)] 6000=B (k+5000):=rfl;have r:J4 (lkA [(1000,k),(6000,k+5000),(700,j)]) (seB a m ws s (.m 6000))=B (seB a m ws s (.m (k+5000))):=by
  simp only[J4,seB,Hp,Qp,Zd,Zf,XZ,e]
 funext i;unfold Xn;simp only[lkB];cases h:i.beq k with
 | true=>
  have:=Q h;subst this;simp only[R7,QO,I.beq_refl,D.map_some,rdB,r,D.getD_some,hk]
 | false=>
  simp only[R8];cases b:i.beq (k+5000)with
  | true=>
   have:=Q b;subst this;rw[o];rfl
  | false=>
   cases c:i.beq j with
   | true=>
    have:=Q c;subst this;rw[d];rfl
   | false=>rfl
theorem QMx(hk:H k=B (seB a m ws s (.m (k+5000))))(d:H (k+5000)=B (.mp f))(c:H j=B (YV l))(h1:j≠k)(b:j≠k+5000):
  Vm [(1000,k),(6000,k+5000),(700,j)] H (QO [(1000,seB a m ws s (.m 6000)),(6000,.mp f),(700,YV l)]):=
 .mk' rfl o6 (by simp;exact⟨fun e=>h1 e.symm,fun e=>b e.symm⟩) fun p h=>by
  simp at h;rcases h with rfl | rfl | rfl
  ·have e:lkB [(1000,k),(6000,k+5000),(700,j)] (k+5000)=B 6000:=by simp[lkB,QOy]
   exact⟨_,_,rfl,hk,rfl,by simp only[J4,seB,Hp,Qp,Zd,Zf,XZ,e]⟩
  ·exact⟨_,.mp f,rfl,d,rfl,rfl⟩
  ·exact⟨_,YV l,rfl,c,rfl,rfl⟩
theorem QXN:(∀p∈[((1000:I),k),(6000,k+5000),(700,j)],QO [(1000,seB a m ws s (.m 6000)),(6000,.mp f),(700,YV l)] p.1≠J)/\ ∀p∈[((1000:I),k),(6000,k+5000),(700,j)]++[],∀b,QO [(1000,seB a m ws s (.m 6000)),(6000,.mp f),(700,YV l)] p.1=B b-> ∃o,J4 (lkA ([(1000,k),(6000,k+5000),(700,j)]++[])) b=B o:=by
 have e:lkA [(1000,k),(6000,k+5000),(700,j)] 6000=B (k+5000):=rfl;refine⟨fun p d=> ?_,fun p d b i=> ?_⟩
 ·simp at d;rcases d with rfl | rfl | rfl
  ·exact fun h=>by have c:B (seB a m ws s (.m 6000))=J:=h;cases c
  ·exact fun h=>by have c:B (Blk.mp f)=J:=h;cases c
  ·exact fun h=>by have c:B (YV l)=J:=h;cases c
 ·simp at d;rcases d with rfl | rfl | rfl
  ·have c:B (seB a m ws s (.m 6000))=B b:=i;cases c;exact⟨seB a m ws s (.m (k+5000)),by simp only[J4,seB,Hp,Qp,Zd,Zf,XZ,e]⟩
  ·have c:B (Blk.mp f)=B b:=i;cases c;exact⟨_,rfl⟩
  ·have c:B (YV l)=B b:=i;cases c;exact⟨_,rfl⟩
theorem QXO:Xg 28 iX:=by
 refine⟨Qf func28 o4,fun l H d T i c q=> ?_⟩;unfold iX at i;split at i
 ·rename_i k o xs;split at i
  ·split at i
   ·rename_i t Y w;cases r:t.beq 83 with
    | false=>rw[r]at i;cases i
    | true=>
     rw[r]at i;have U:=Q r;subst U;simp only[R7]at i;split at i
     ·cases i
      obtain⟨a,m,ws,s,l,rfl,rfl,C,O,⟨I,G⟩,q⟩:=q;refine W9 (R:=[(1000,k)]) (N:=[]) (Hl:=[(1000,seB a m ws s GZ)]) eS QK func28 o4 o4 j6
       (as0:=[.x K [.p 1000 0],.x K [.s 1 (ints l)]]) ?_ (vP w rfl fun _=>cU) rfl o6 o6 (fun _ h=>by cases h) (fun x=>⟨fun p M=> ?_,fun p M b r=> ?_⟩) (QcA a m ws s l C O I G) (fun _ _=>⟨_,rfl,?_⟩)
      ·simp[X7,X2,XZ,lkB]
      ·simp at M;subst M;exact fun h=>by have S:B (seB a m ws s GZ)=J:=h;cases S
      ·simp at M;subst M;have S:B (seB a m ws s GZ)=B b:=r;cases S;exact⟨_,cU⟩
      ·show c _ (Xn [(1000,k)] (QO [(1000,seB a m ws s GZ)]) H)
       rw[QXL (b:=seB a m ws s GZ) w fun _=>cU];exact q
     ·rename_i j _;cases D:j.beq (k+5000)with
      | false=>rw[D]at i;cases i
      | true=>
       rw[D]at i;simp only[R7]at i;split at i
       ·rename_i f z;cases i
        obtain⟨a,m,ws,s,l,rfl,rfl,C,O,⟨I,G⟩,q⟩:=q;refine W9 (R:=[(1000,k),(6000,k+5000)]) (N:=[]) (Hl:=[(1000,seB a m ws s (.m 6000)),(6000,.mp f)]) eS QK func28 o4 o4 j6
         (as0:=[.x K [.p 1000 0],.x K [.s 1 (ints l)]]) ?_ (nG w z) rfl o6 o6 (fun _ h=>by cases h) (fun x=>xK) (QcB a m ws s f l C O I G) (fun _ _=>⟨_,rfl,?_⟩)
        ·simp[X7,X2,XZ,lkB]
        ·show c _ (Xn [(1000,k),(6000,k+5000)] (QO [(1000,seB a m ws s (.m 6000)),(6000,.mp f)]) H)
         rw[QFh w z];exact q
       ·cases i
     ·cases i
   ·cases i
  ·cases i
 ·rename_i k o j jo n;split at i
  ·split at i
   ·rename_i t Y w;cases r:t.beq 83 with
    | false=>rw[r]at i;cases i
    | true=>
     rw[r]at i;have U:=Q r;subst U;simp only[R7]at i;split at i
     ·rename_i Z _;cases D:Z.beq (k+5000)with
      | false=>rw[D]at i;cases i
      | true=>
       rw[D]at i;simp only[R7]at i;split at i
       ·rename_i f t2 ys z A;cases y:t2.beq 3 with
        | false=>rw[y]at i;cases i
        | true=>
         rw[y]at i;have V:=Q y;subst V;cases i
         obtain⟨a,m,ws,s,l,rfl,rfl,rfl,C,O,⟨I,G⟩,q⟩:=q;have W:j≠k:=fun e=>by subst e;rw[w]at A;cases A
         have X:j≠k+5000:=fun e=>by subst e;rw[z]at A;cases A
         refine W9 (R:=[(1000,k),(6000,k+5000),(700,j)]) (N:=[]) (Hl:=[(1000,seB a m ws s (.m 6000)),(6000,.mp f),(700,YV l)]) eS QK func28 o4 o4 j6
          (as0:=[.x K [.p 1000 0],.x K [.w 700 0 l.length]]) ?_ (QMx w z A W X) rfl o6 o6 (fun _ h=>by cases h) (fun x=>QXN) (QcC a m ws s f l C O I G) (fun _ _=>⟨_,rfl,?_⟩)
         ·have q1:lkB [(1000,k),(6000,k+5000),(700,j)] k=B 1000:=by simp[lkB]
          have q2:lkB [(1000,k),(6000,k+5000),(700,j)] j=B 700:=by
           have z1:j.beq k=K:=by
            cases h:j.beq k with
            | false=>rfl
            | true=>exact L (Q h) W
           have z2:j.beq (k+5000)=K:=by
            cases h:j.beq (k+5000)with
            | false=>rfl
            | true=>exact L (Q h) X
           simp[lkB,z1,z2]
          simp only[X7,X2,XZ,q1,q2]
         ·show c _ (Xn [(1000,k),(6000,k+5000),(700,j)] (QO [(1000,seB a m ws s (.m 6000)),(6000,.mp f),(700,YV l)]) H)
          rw[QMw w z A];exact q
       ·cases i
     ·cases i
   ·cases i
  ·cases i
 ·cases i
theorem QMy:Xg 67 mE:=by
 refine⟨Qf func67 o4,fun l H d T c b e=> ?_⟩;unfold mE at c;split at c
 ·rename_i k o L M;split at c
  ·split at c
   ·rename_i t I p;cases i:t.beq 83 with
    | false=>rw[i]at c;cases c
    | true=>
     rw[i]at c;have A:=Q i;subst A;simp only[R7]at c;split at c
     ·rename_i j _;cases r:j.beq (k+5000)with
      | false=>rw[r]at c;cases c
      | true=>
       rw[r]at c;simp only[R7]at c;split at c
       ·rename_i f q;cases c
        obtain⟨a,m,ws,s,u,v,rfl,rfl,rfl,⟨w,z,C,D,y,G⟩,e⟩:=e;refine W9 (R:=[(1000,k),(6000,k+5000)]) (N:=[]) (Hl:=[(1000,seB a m ws s (.m 6000)),(6000,.mp f)]) eS QK func67 o4 o4 j6
         (as0:=[.x K [.p 1000 0],.x K [.s 1 (ints u)],.x K [.s 1 (ints v)]]) ?_ (nG p q) rfl o6 o6 (fun _ h=>by cases h) (fun x=>xK) (QXK a m ws s f u v w z C D y G) (fun _ _=>⟨_,rfl,?_⟩)
        ·simp[X7,X2,XZ,lkB]
        ·show b _ (Xn [(1000,k),(6000,k+5000)] (QO [(1000,seB a m ws s (.m 6000)),(6000,.mp f)]) H)
         rw[QFh p q];exact e
       ·cases c
     ·cases c
   ·cases c
  ·cases c
 ·cases c
def ZK:A (I×XS):=(28,iX)::(67,mE)::lS
noncomputable def mkTP (l:A (I×Ctr))(m:A (I×XS))(x:A (I×U9)):Qd:=⟨Tryz.tbF,prL l,pmL m,pxL x,ZR Tryz.prog,itP Tryz.prog aE,(1000000+28,0,K)::rn⟩
noncomputable def QcE:Qd:=mkTP aX ZK X4
theorem bw:XK ZK:= .cons QXO (.cons QMy QXJ)
theorem az {g:I}{z:A Value}{l:A (I×Ctr)}{m:A (I×XS)}{x:A (I×U9)}(h:CtrsOK Tryz.prog g z l)(c:CtrMsOK Tryz.prog g z m)(i:CtrXsOK Tryz.prog x):XC Tryz.prog g z (mkTP l m x):=
 qo (mkTP.eq_1 l m x) Tryz.tb_ok (cN h) (pt c) (fv i) (mB Tryz.prog) (m5 Tryz.prog aE) fun _ _ e j _ _ b d=>by rw[(Tryz.tb_ok e j b).zd,d]
theorem k7:Qr QcE:=az dJ bw Qb
end Go.Proofs
