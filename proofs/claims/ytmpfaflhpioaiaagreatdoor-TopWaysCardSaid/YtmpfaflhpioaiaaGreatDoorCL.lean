/- Polygons apart, free lists of polygons, polygons within boxes: plain laws. -/
import Derived.Test.YtmpfaflhpioaiaaGreatDoorPE
import Derived.Test.YtmpfaflhpioaiaaGreatDoorS3
open _root_ renaming Rat → A, List → B, Int → C, Nat → D, absurd → H, Bool → J
open Bool renaming true → E
open Option renaming some → F
open Rat renaming le_trans → G, le_refl → I, le_total → Zm, mul_le_mul_of_nonneg_left → Zf
open List renaming length → K, getElem?_eq_getElem → L, mem_map → Zj, mem_of_getElem? → Zd, all_eq_true → Zg, getD_cons_zero → Zh, getD_cons_succ → Zi, getElem?_eq_some_iff → Ze, getElem?_map → Zk, any_eq_true → Zl, mem_range → Zn
namespace Go.Proofs
open Go Go.Eng
def TD (n v:A×A):A:=n.1*v.1+n.2*v.2
def TU (p q:A×A):A×A:=(q.2-p.2,-(q.1-p.1))
def K1 (p q:A×A)(b:B (A×A)):J:=b.all fun v=>decide (0<TD (TU p q) (v.1-p.1,v.2-p.2))
def UY (a b:B (A×A)):J:=(B.range a.length).any fun i=>K1 (a.getD i (0,0)) (a.getD ((i+1) % a.length) (0,0)) b
def HJ (a b:B (A×A)):J:= !UY a b&& !UY b a
def X5 (l:B (A×A)):X9:=l.tail.foldl Qv ⟨(l.headD (0,0)).1,(l.headD (0,0)).2,(l.headD (0,0)).1,(l.headD (0,0)).2⟩
def X9.ok (b:X9):J:=decide (b.x1<=b.x2)&&decide (b.y1<=b.y2)
def WH (a b:X9):J:=a.ok&&(b.ok&&(decide (a.x1<=b.x2)&&(decide (b.x1<=a.x2)&&(decide (a.y1<=b.y2)&&decide (b.y1<=a.y2)))))
def freeB (l m:B (B (A×A))):J:=l.all fun a=>m.all fun b=> !(WH (X5 a) (X5 b)) || !(HJ a b)
def Xi (b:X9):B (A×A):=[(b.x1,b.y1),(b.x2,b.y1),(b.x2,b.y2),(b.x1,b.y2)]
structure X9.has (b:X9)(v:A×A):Prop where
 x:b.x1<=v.1/\v.1<=b.x2
 y:b.y1<=v.2/\v.2<=b.y2
theorem kL {l m:B (B (A×A))}:freeB l m=E↔ ∀a∈l,∀b∈m,WH (X5 a) (X5 b)=E->HJ a b=false:=by
 unfold freeB;simp only[Zg,J.or_eq_true,J.not_eq_true'];constructor
 ·intro h a d b e g;rcases h a d b e with k | k
  ·rw[g]at k;cases k
  ·exact k
 ·intro h a d b e;cases g:WH (X5 a) (X5 b)with
  | false=>exact .inl rfl
  | true=>exact .inr (h a d b e g)
theorem QhE (b:X9)(v:A×A):(Qv b v).x1<=b.x1/\(Qv b v).y1<=b.y1/\b.x2<=(Qv b v).x2/\b.y2<=(Qv b v).y2:=by
 unfold Qv;refine⟨?_,?_,?_,?_⟩<;>simp only[Qx,Q6]<;>split<;>grind
theorem QVn (b:X9)(v:A×A):(Qv b v).has v:=by
 unfold Qv;refine⟨⟨?_,?_⟩,?_,?_⟩<;>simp only[Qx,Q6]<;>split<;>grind
variable{v:A×A}{b c:X9}
theorem l7(h:b.has v)(k:c.x1<=b.x1/\c.y1<=b.y1/\b.x2<=c.x2/\b.y2<=c.y2):c.has v:=
 ⟨⟨G k.1 h.x.1,G h.x.2 k.2.2.1⟩,G k.2.1 h.y.1,G h.y.2 k.2.2.2⟩
theorem QFV: ∀(l:B (A×A)) (b:X9),(l.foldl Qv b).x1<=b.x1/\(l.foldl Qv b).y1<=b.y1/\b.x2<=(l.foldl Qv b).x2/\b.y2<=(l.foldl Qv b).y2:=by
 intro l;induction l with
 | nil=>intro b;exact⟨I,I,I,I⟩
 | cons v l r=>
  intro b;obtain⟨d,e,g,h⟩:=r (Qv b v);obtain⟨i,j,k,o⟩:=QhE b v;exact⟨G d i,G e j,G k g,G o h⟩
theorem QVo: ∀(l:B (A×A)) (b:X9) (v:A×A),v∈l->(l.foldl Qv b).has v:=by
 intro l;induction l with
 | nil=>intro b v h;cases h
 | cons u l i=>
  intro b v h;rcases B.mem_cons.1 h with rfl | h
  ·exact l7 (QVn b v) (QFV l _)
  ·exact i _ v h
variable{l:B (A×A)}
theorem QJl(h:v∈l):(X5 l).has v:=by
 cases l with
 | nil=>cases h
 | cons u l=>
  unfold X5;rcases B.mem_cons.1 h with rfl | h
  ·exact l7 (b:=⟨v.1,v.2,v.1,v.2⟩) ⟨⟨I,I⟩,I,I⟩ (QFV l _)
  ·exact QVo l _ v h
theorem QbP: ∀(l:B (A×A)) (b:X9),(c.x1<=b.x1/\c.y1<=b.y1/\b.x2<=c.x2/\b.y2<=c.y2)->(∀v∈l,c.has v)->c.x1<=(l.foldl Qv b).x1/\c.y1<=(l.foldl Qv b).y1/\(l.foldl Qv b).x2<=c.x2/\(l.foldl Qv b).y2<=c.y2:=by
 intro l;induction l with
 | nil=>intro b h _;exact h
 | cons v l i=>
  intro b h d;refine i _ ?_ fun u e=>d u (by simp[e])
  have:=d v o6;obtain⟨⟨r,s⟩,t,w⟩:=this;obtain⟨g,j,k,o⟩:=h;unfold Qv;refine⟨?_,?_,?_,?_⟩<;>simp only[Qx,Q6]<;>split<;>assumption
theorem QOT(d:l≠[])(h: ∀v∈l,c.has v):c.x1<=(X5 l).x1/\c.y1<=(X5 l).y1/\(X5 l).x2<=c.x2/\(X5 l).y2<=c.y2:=by
 cases l with
 | nil=>exact H rfl d
 | cons u l=>
  obtain⟨⟨g,i⟩,j,k⟩:=h u o6;exact QbP l _ ⟨g,j,i,k⟩ fun v e=>h v (by simp[e])
theorem QRF (s:X9->A)(d:A×A->A)(h: ∀b v,s (Qv b v)=s b\/s (Qv b v)=d v): ∀(l:B (A×A)) (b:X9),s (l.foldl Qv b)=s b\/ ∃v∈l,d v=s (l.foldl Qv b):=by
 intro l;induction l with
 | nil=>intro b;exact .inl rfl
 | cons v l i=>
  intro b;rcases i (Qv b v)with e | ⟨u,hu,e⟩
  ·rcases h b v with e2 | e2
   ·exact .inl (e.trans e2)
   ·exact .inr ⟨v,o6,(e.trans e2).symm⟩
  ·exact .inr ⟨u,by simp[hu],e⟩
theorem U1(h:l≠[])(s:X9->A)(d:A×A->A)(g: ∀b v,s (Qv b v)=s b\/s (Qv b v)=d v)(h0: ∀v:A×A,s ⟨v.1,v.2,v.1,v.2⟩=d v): ∃v∈l,d v=s (X5 l):=by
 cases l with
 | nil=>exact H rfl h
 | cons u l=>
  rcases QRF s d g l ⟨u.1,u.2,u.1,u.2⟩with e | ⟨v,hv,e⟩
  ·exact⟨u,o6,(h0 u).symm.trans e.symm⟩
  ·exact⟨v,by simp[hv],e⟩
theorem QbQ(h:l≠[]): ∃v∈l,v.1=(X5 l).x1:=U1 h (·.x1) (·.1) (fun b v=>by simp only[Qv,Qx];split<;>simp) (fun _=>rfl)
theorem QbR(h:l≠[]): ∃v∈l,v.1=(X5 l).x2:=U1 h (·.x2) (·.1) (fun b v=>by simp only[Qv,Q6];split<;>simp) (fun _=>rfl)
theorem QbS(h:l≠[]): ∃v∈l,v.2=(X5 l).y1:=U1 h (·.y1) (·.2) (fun b v=>by simp only[Qv,Qx];split<;>simp) (fun _=>rfl)
theorem QbT(h:l≠[]): ∃v∈l,v.2=(X5 l).y2:=U1 h (·.y2) (·.2) (fun b v=>by simp only[Qv,Q6];split<;>simp) (fun _=>rfl)
theorem QFW{a:X9}:WH a b=E↔(a.x1<=a.x2/\a.y1<=a.y2)/\(b.x1<=b.x2/\b.y1<=b.y2)/\a.x1<=b.x2/\b.x1<=a.x2/\a.y1<=b.y2/\b.y1<=a.y2:=by
 unfold WH X9.ok;simp only[J.and_eq_true,decide_eq_true_eq]
theorem QMY (b:X9)(n p:A×A)(h: ∀c∈Xi b,0<TD n (c.1-p.1,c.2-p.2))(t:b.has v):0<TD n (v.1-p.1,v.2-p.2):=by
  obtain⟨⟨j,o⟩,r,s⟩:=t;have k: ∀(x y:A),(x,y)∈Xi b->n.1*x<=n.1*v.1->n.2*y<=n.2*v.2->0<TD n (v.1-p.1,v.2-p.2):=by
    intro x y e u w;have:=h (x,y) e;unfold TD at this|-;simp only at this|-;grind
  have i: ∀(m a c:A),0<=m->a<=c->m*a<=m*c:=fun m a c e d=>Zf d e;have g: ∀(m a c:A),m<=0->a<=c->m*c<=m*a:=fun m a c e d=>by
    have:=Zf d (j4:0<= -m);grind
  rcases Zm (a:=0) (b:=n.1)with a | a<;>rcases Zm (a:=0) (b:=n.2)with c | c
  · exact k b.x1 b.y1 (by simp[Xi]) (i _ _ _ a j) (i _ _ _ c r)
  · exact k b.x1 b.y2 (by simp[Xi]) (i _ _ _ a j) (g _ _ _ c s)
  · exact k b.x2 b.y1 (by simp[Xi]) (g _ _ _ a o) (i _ _ _ c r)
  · exact k b.x2 b.y2 (by simp[Xi]) (g _ _ _ a o) (g _ _ _ c s)
theorem QJm (b:X9)(h:b.x1<=b.x2/\b.y1<=b.y2): ∀c∈Xi b,b.has c:=by
 intro c d;simp only[Xi,B.mem_cons,B.not_mem_nil,or_false]at d;rcases d with rfl | rfl | rfl | rfl
 ·exact⟨⟨I,h.1⟩,I,h.2⟩
 ·exact⟨⟨h.1,I⟩,I,h.2⟩
 ·exact⟨⟨h.1,I⟩,h.2,I⟩
 ·exact⟨⟨I,h.1⟩,h.2,I⟩
theorem eV {m d:A}(g:0<=m)(h:0<m*d):0<d:=by
 rcases Zm (a:=d) (b:=0)with k | k
 ·exfalso;have:=Zf k g;rw[A.mul_zero]at this;exact H h (A.not_lt.2 this)
 ·refine A.lt_iff_le_and_ne.2 ⟨k,fun e=> ?_⟩;rw[<-e,A.mul_zero]at h;exact H h A.lt_irrefl
theorem QbU(k:b.x1<=b.x2/\b.y1<=b.y2){w:B (A×A)}(h:UY (Xi b) w=E):(∀v∈w,v.2<b.y1)\/(∀v∈w,b.x2<v.1)\/(∀v∈w,b.y2<v.2)\/(∀v∈w,v.1<b.x1):=by
  obtain⟨i,j,o⟩:=Zl.1 h;have j:i<4:=Zn.1 j;have g: ∀v∈w,0<TD (TU ((Xi b).getD i (0,0)) ((Xi b).getD ((i+1) % 4) (0,0))) (v.1-((Xi b).getD i (0,0)).1,v.2-((Xi b).getD i (0,0)).2):=fun v g=>R5 (Zg.1 o v g);obtain⟨r,s⟩:=k;match i,j with
  | 0,_=>
    refine .inl fun v e=> ?_
    have:=g v e;simp only[Xi,Zh,Zi,TD,TU,show(0+1) % 4=1 from rfl]at this;have:=eV (m:=b.x2-b.x1) (d:=b.y1-v.2) j4 j4;grind
  | 1,_=>
    refine .inr (.inl fun v e=> ?_);have:=g v e;simp only[Xi,Zh,Zi,TD,TU,show(1+1) % 4=2 from rfl]at this;have:=eV (m:=b.y2-b.y1) (d:=v.1-b.x2) j4 j4;grind
  | 2,_=>
    refine .inr (.inr (.inl fun v e=> ?_));have:=g v e;simp only[Xi,Zh,Zi,TD,TU,show(2+1) % 4=3 from rfl]at this;have:=eV (m:=b.x2-b.x1) (d:=v.2-b.y2) j4 j4;grind
  | 3,_=>
    refine .inr (.inr (.inr fun v e=> ?_));have:=g v e;simp only[Xi,Zh,Zi,TD,TU,show(3+1) % 4=0 from rfl]at this;have:=eV (m:=b.y2-b.y1) (d:=b.x1-v.1) j4 j4;grind
theorem QbV(u:b.x1<=b.x2/\b.y1<=b.y2){s w:B (A×A)}(T:s≠[])(x:w≠[])(k: ∀v∈s,b.has v)(h:WH (X5 (Xi b)) (X5 w)=E->HJ (Xi b) w=false):
    WH (X5 s) (X5 w)=E->HJ s w=false:=by
  intro U;obtain⟨_,o,M,N,O,P⟩:=QFW.1 U;have K:=QOT (l:=Xi b) (c:=b) (by simp[Xi]) (QJm b u);have r:=QJl (l:=Xi b) (v:=(b.x1,b.y1)) (by simp[Xi]);have t:=QJl (l:=Xi b) (v:=(b.x2,b.y2)) (by simp[Xi]);have d:=QOT T k;have D:WH (X5 (Xi b)) (X5 w)=E:=by
    refine QFW.2 ⟨⟨G r.x.1 (G u.1 t.x.2),G r.y.1 (G u.2 t.y.2)⟩,o,?_,?_,?_,?_⟩
    · exact G r.x.1 (G d.1 M)
    · exact G N (G d.2.2.1 t.x.2)
    · exact G r.y.1 (G d.2.1 O)
    · exact G P (G d.2.2.2 t.y.2)
  have I:=h D;unfold HJ at I|-;cases L:UY (Xi b) w with
  | true=>
    exfalso;have y: ∃v∈w,v.1=(X5 w).x1:=QbQ x;have z: ∃v∈w,v.1=(X5 w).x2:=QbR x;have C: ∃v∈w,v.2=(X5 w).y1:=QbS x;have at4: ∃v∈w,v.2=(X5 w).y2:=QbT x;rcases QbU u L with j | j | j | j
    · obtain⟨v,g,e⟩:=at4;have:=j v g;rw[e]at this;exact H (G d.2.1 O) (A.not_le.2 this)
    · obtain⟨v,g,e⟩:=y;have:=j v g;rw[e]at this;exact H (G N d.2.2.1) (A.not_le.2 this)
    · obtain⟨v,g,e⟩:=C;have:=j v g;rw[e]at this;exact H (G P d.2.2.2) (A.not_le.2 this)
    · obtain⟨v,g,e⟩:=z;have:=j v g;rw[e]at this;exact H (G d.1 M) (A.not_le.2 this)
  | false=>
    rw[L]at I;have J:UY w (Xi b)=E:=(j9 I)
    have:UY w s=E:=by
      obtain⟨i,S,R⟩:=Zl.1 J;refine Zl.2 ⟨i,S,Zg.2 fun v g=>decide_eq_true ?_⟩;exact QMY b _ _ (fun c Q=>R5 (Zg.1 R c Q)) (k v g)
    rw[this];simp
def TW (k n:D):A:=((k:C):A)/((n:C):A)
def YA (p q:B A)(n k:D):B A:=KP (TW k n) p q
def X0 (p q:B A)(n k:D):B Sp:=Kz (YA p q n k) (YA p q n (k+1))
def YB (p q:B A)(n:D):B (B Sp):=(B.range n).map (X0 p q n)
def ZE (b:Sp×Sp):X9:=⟨b.1.lo,b.2.lo,b.1.hi,b.2.hi⟩
def YF (a:ArmV)(row:B Sp):B (B (A×A)):=(XP (XX (Xz a) a.za row) a.za).map fun b=>Xi (ZE b)
def S6 (a:ArmV)(r:B (B Sp))(ws:B (B (A×A))):J:=r.all fun d=>freeB (YF a d) ws
variable{a:ArmV}{ws:B (B (A×A))}{p q:B A}{n:D}
theorem eM:S6 a (YB p q n) ws=E↔ ∀k,k<n->freeB (YF a (X0 p q n k)) ws=E:=by
 unfold S6 YB;rw[B.all_map,Zg];exact⟨fun h k d=>h k (Zn.2 d),fun h k d=>h k (Zn.1 d)⟩
theorem zA(h:0<n):((n:C):A)≠0:=fun e=>by
 have:((n:C):A)=((0:C):A):=e;have:=A.intCast_inj.1 this;omega
theorem QbW {p q d s e:A}(h1:d<=s)(i:s<=e):Qx (p+d*(q-p)) (p+e*(q-p))<=p+s*(q-p)/\p+s*(q-p)<=Q6 (p+d*(q-p)) (p+e*(q-p)):=by
 have g: ∀(m a c:A),0<=m->a<=c->a*m<=c*m:=fun m a c r h=>A.mul_le_mul_of_nonneg_right h r;rcases Zm (a:=p) (b:=q)with k | k
 ·have j:=g (q-p) d s j4 h1;have o:=g (q-p) s e j4 i;exact⟨G (Y7 _ _) j4,G (b:=p+e*(q-p)) j4 (Jt _ _)⟩
 ·have j:=g (p-q) d s j4 h1;have o:=g (p-q) s e j4 i;exact⟨G (Js _ _) j4,G (b:=p+d*(q-p)) j4 (Y8 _ _)⟩
theorem QRG(h:p.length=K q){j s k:A}(h1:j<=s)(o:s<=k):HasQ (Kz (KP j p q) (KP k p q)) (KP s p q):=by
 refine⟨by simp[Kz,KP],fun i t x g d=> ?_⟩;have e:=(Ze.1 d).1;rw[c9 h]at e;obtain⟨a,ha⟩: ∃a,p[i]? =F a:=⟨_,L e⟩
 obtain⟨b,hb⟩: ∃b,q[i]? =F b:=⟨_,L o3⟩
 rw[dN ha hb]at d;cases d
 simp only[Kz,B.getElem?_zipWith,dN ha hb]at g;cases g
 exact QbW h1 o
variable{m:D}
theorem QOU{a b:D}(o:0<n)(k:0<m)(h:a*m<=b*n):TW a n<=TW b m:=by
 have e:(0:A)<((n:C):A):=by
  have:((0:C):A)<((n:C):A):=A.intCast_lt_intCast.2 o3;exact this
 have d:(0:A)<((m:C):A):=by
  have:((0:C):A)<((m:C):A):=A.intCast_lt_intCast.2 o3;exact this
 unfold TW;have j:((a:C):A)*((m:C):A)<=((b:C):A)*((n:C):A):=by
  rw[<-A.intCast_mul,<-A.intCast_mul];exact A.intCast_le_intCast.2 (by exact_mod_cast h)
 have g:((a:C):A)/((n:C):A)*((n:C):A)=((a:C):A):=A.div_mul_cancel (zA o);have i:((b:C):A)/((m:C):A)*((m:C):A)=((b:C):A):=A.div_mul_cancel (zA k);generalize ((a:C):A)/((n:C):A)=x at*;generalize ((b:C):A)/((m:C):A)=y at*;rw[<-g,<-i]at j;have r:0<((n:C):A)*((m:C):A):=A.mul_pos e d;refine A.le_of_mul_le_mul_right (c:=((n:C):A)*((m:C):A)) ?_ r
 grind
variable{f:FrV}{l':LoV}
theorem c8{l:LoV}(h:l.has f)(d:l.sub l')(v:A×A):(atX l v).sub (atX l' v)/\(atY l v).sub (atY l' v):=by
 have o: ∀x:A,(Wu x).sub (Wu x):=fun x=>⟨I,I⟩
 exact⟨KC d.x (QFL (Y9 I h.c.ok (o _) d.c) (Y9 I h.s.ok (o _) d.s)),
  KC d.y (KC (Y9 I h.s.ok (o _) d.s) (Y9 I h.c.ok (o _) d.c))⟩
theorem QhF{l:LoV}(h:l.has f)(g:l.sub l'): ∀(vs:B (A×A)) (x d:Sp),x.sub d->(hX l vs x).sub (hX l' vs d):=by
 intro vs;induction vs with
 | nil=>intro x d e;exact e
 | cons v vs i=>intro x d e;exact i _ _ (QDK e (c8 h g v).1)
theorem QhG{l:LoV}(h:l.has f)(g:l.sub l'): ∀(vs:B (A×A)) (x d:Sp),x.sub d->(hY l vs x).sub (hY l' vs d):=by
 intro vs;induction vs with
 | nil=>intro x d e;exact e
 | cons v vs i=>intro x d e;exact i _ _ (QDK e (c8 h g v).2)
theorem QVq{l:LoV}(h:l.has f)(d:l.sub l')(L:QV):(JI l L).1.sub (JI l' L).1/\(JI l L).2.sub (JI l' L).2:=
 ⟨QhF h d _ _ _ (c8 h d _).1,QhG h d _ _ _ (c8 h d _).2⟩
theorem vB {k:B X9}{r:B (B (A×A))}(z: ∀w∈ws,w≠[])(y: ∀(i:D) s,r[i]? =F s->s≠[]/\ ∃b,k[i]? =F b/\ ∀v∈s,b.has v)(h:freeB (k.map Xi) ws=E):freeB r ws=E:=by
 refine kL.2 fun s x w e=> ?_
 obtain⟨i,u⟩:=B.getElem?_of_mem x
 obtain⟨d,b,t,o⟩:=y i s u;obtain⟨v,j⟩:=B.exists_mem_of_ne_nil s d;have g:=o v j;exact QbV ⟨G g.x.1 g.x.2,G g.y.1 g.y.2⟩ d (z w e) o (kL.1 h _ (Zj.2 ⟨b,Zd t,rfl⟩) w e)
theorem qw (a:ArmV)(row:B Sp):YF a row=((XP (XX (Xz a) a.za row) a.za).map ZE).map Xi:=by
 unfold YF;rw[B.map_map];rfl
theorem QVr(D:QJ a){row:B Sp}{r:B A}(z:HasQ row r)(N:r.length=K a.za){t:B FrV}(C:t++[f]=XH (Xs a) a.za r)(u:t.length=K a.za)(M: ∀w∈ws,w≠[])
    (h:freeB (YF a row) ws=E):freeB (X6 t a.za) ws=E:=by
  rw[qw]at h;have I:=z.1;have O:=Hh a.za row (Xz a) o3;refine vB M (fun i s x=> ?_) h;have k:=(Ze.1 x).1;rw[Uu u]at k;obtain⟨d,hL⟩: ∃d,a.za[i]? =F d:=⟨_,L k⟩
  obtain⟨g,hgx⟩: ∃g,t[i]? =F g:=⟨_,L o3⟩
  obtain⟨y,hy⟩: ∃y,(XX (Xz a) a.za row)[i]? =F y:=⟨_,L o3⟩
  have j:(XH (Xs a) a.za r)[i]? =F g:=by rw[<-C,B.getElem?_append_left o3];exact hgx
  have G:=KR a.za row r (Xz a) (Xs a) (KS a) z i y g hy j;rw[uR hgx hL]at x;cases x
  have o:=((D.za d (Zd hL)).zt).lo;refine⟨fun e=>by have:=congrArg B.length e;simp at this;rw[this]at o;simp at o,ZE (JI y d),by rw[Zk,Uz hy hL];rfl,fun v J=> ?_⟩;obtain⟨p,H,rfl⟩:=Zj.1 J;have:=VK G H;exact⟨this.1,this.2⟩
theorem QMa(Q:QJ a){row r:B Sp}{k:B A}(H:HasQ r k)(R:k.length=K a.za)(G:row.length=K r)(u: ∀(i:D) t z,r[i]? =F t->row[i]? =F z->t.sub z)(W: ∀w∈ws,w≠[])
    (h:freeB (YF a row) ws=E):freeB (YF a r) ws=E:=by
  rw[qw]at h;have T:=H.1;have Y:=Hh a.za row (Xz a) o3;have I:=Hh a.za r (Xz a) o3;have X:=Hi a.za k (Xs a) R;refine vB W (fun i s C=> ?_) h;have j:=(Ze.1 C).1;have j:i<K a.za:=by simp[YF,XP,I]at j;omega
  obtain⟨d,hL⟩: ∃d,a.za[i]? =F d:=⟨_,L j⟩
  obtain⟨y,hy⟩: ∃y,(XX (Xz a) a.za row)[i]? =F y:=⟨_,L o3⟩
  obtain⟨y',hy'⟩: ∃y,(XX (Xz a) a.za r)[i]? =F y:=⟨_,L o3⟩
  obtain⟨g,hgx⟩: ∃g,(XH (Xs a) a.za k)[i]? =F g:=⟨_,L o3⟩
  have J:=KR a.za r k (Xz a) (Xs a) (KS a) H i y' g hy' hgx;have U:=QMG a.za r row k (Xz a) (Xz a) (Xs a) (KS a) H (QbL _) G.symm (fun i t z O P=>u i t z O P) i y' y hy' hy;obtain⟨N,x⟩:=QVq J U d;rw[qw,Zk,Zk,Uz hy' hL]at C;cases C
  have o:=((Q.za d (Zd hL)).zt).lo;obtain⟨p,S⟩: ∃p,p∈d.shape:=B.exists_mem_of_ne_nil _ (fun e=>by rw[e]at o;simp at o);have M:=VK J S;refine⟨by simp[Xi],ZE (JI y d),by rw[Zk,Uz hy hL];rfl,fun v V=> ?_⟩;exact l7 (QJm (ZE (JI y' d)) ⟨M.1.ok,M.2.ok⟩ v V) ⟨N.1,x.1,N.2,x.2⟩
theorem QRH(h:QY l):(∃p∈l,∃q∈l,p.1<q.1)/\ ∃p∈l,∃q∈l,p.2<q.2:=by
  have r:=h.lo;obtain⟨a,ha⟩: ∃a,l[0]? =F a:=⟨_,L o3⟩
  obtain⟨b,hb⟩: ∃b,l[(0+1) % l.length]? =F b:=⟨_,L (D.mod_lt _ o3)⟩
  obtain⟨c,hc⟩: ∃c,l[(0+2) % l.length]? =F c:=⟨_,L (D.mod_lt _ o3)⟩
  have i:=h.left 0 2 a b c (D.le_refl _) o3 ha hb hc;have g:=Zd ha;have j:=Zd hb;have o:=Zd hc;unfold lft at i;have t: ∀x y:A,x<y\/x=y\/y<x:=fun x y=>j4
  constructor
  · rcases t a.1 b.1 with k | k | k
    · exact⟨a,g,b,j,k⟩
    · rcases t a.1 c.1 with d | d | d
      · exact⟨a,g,c,o,d⟩
      · exfalso;rw[<-k,<-d]at i;have e:(a.1-a.1)*(c.2-a.2)-(b.2-a.2)*(a.1-a.1)=0:=j4
        rw[e]at i;exact H i A.lt_irrefl
      · exact⟨c,o,a,g,d⟩
    · exact⟨b,j,a,g,k⟩
  · rcases t a.2 b.2 with k | k | k
    · exact⟨a,g,b,j,k⟩
    · rcases t a.2 c.2 with d | d | d
      · exact⟨a,g,c,o,d⟩
      · exfalso;rw[<-k,<-d]at i;have e:(b.1-a.1)*(a.2-a.2)-(a.2-a.2)*(c.1-a.1)=0:=j4
        rw[e]at i;exact H i A.lt_irrefl
      · exact⟨c,o,a,g,d⟩
    · exact⟨b,j,a,g,k⟩
theorem QRI(w:b.x1<b.x2)(x:b.y1<b.y2):QY (Xi b):=by
  have u:0<(b.x2-b.x1)*(b.y2-b.y1):=A.mul_pos j4 j4;refine⟨by simp[Xi],by simp[Xi],fun i k p q r s g h j o=> ?_⟩;have t:i<4:=by have:=(Ze.1 h).1;simpa [Xi]using this
  have g:k<4:=by simpa [Xi]using g
  have e:k=2\/k=3:=o3
  have d:i=0\/i=1\/i=2\/i=3:=o3
  rcases d with rfl | rfl | rfl | rfl<;>rcases e with rfl | rfl<;>(simp[Xi]at h j o;subst h j o;unfold lft;simp only;grind)
theorem QRJ {l:LoV}{L:QV}(h:l.has f)(A:QY L.shape):(JI l L).1.lo<(JI l L).1.hi/\(JI l L).2.lo<(JI l L).2.hi:=by
 obtain⟨⟨p,e,q,i,s⟩,⟨u,k,v,r,t⟩⟩:=QRH (vV f A);obtain⟨w,d,rfl⟩:=Zj.1 e;obtain⟨x,g,rfl⟩:=Zj.1 i;obtain⟨y,j,rfl⟩:=Zj.1 k;obtain⟨z,o,rfl⟩:=Zj.1 r;have B:=(VK h d).1.1;have C:=(VK h g).1.2;have D:=(VK h j).2.1;have G:=(VK h o).2.2;have s:Vu f w.1 w.2<Vu f x.1 x.2:=s;have t:Vv f y.1 y.2<Vv f z.1 z.2:=t;exact⟨j4,j4⟩
theorem nJ(h:p.length=K q)(n k:D):(YA p q n k).length=K p:=c9 h
theorem cb(h:p.length=K q){k x:D}(e:0<n)(d:0<m)(h1:k*m<=x*n)(g:x*n<=(k+1)*m):HasQ (X0 p q n k) (YA p q m x):=
 QRG h (QOU e d h1) (QOU d e g)
theorem Hm(s:QJ a)(u:p.length=K a.za)(z:q.length=K a.za){x:D}(o:0<n)(j:0<m)(A:x<=m){g:B FrV}(r:g++[f]=XH (Xs a) a.za (YA p q m x))(i:g.length=K a.za)(y: ∀w∈ws,w≠[])
    (h:S6 a (YB p q n) ws=E):freeB (X6 g a.za) ws=E:=by
  have d:p.length=K q:=o3
  have t:(YA p q m x).length=K a.za:=by rw[nJ d];exact u
  obtain⟨k,hk,h1,h2⟩: ∃k,k<n/\k*m<=x*n/\x*n<=(k+1)*m:=by
    by_cases e:x=m
    · subst e;exact⟨n-1,o3,by rw[D.mul_comm x n];exact D.mul_le_mul_right _ o3,by rw[(o3:n-1+1=n),D.mul_comm];exact D.le_refl _⟩
    · refine⟨x*n/m,(D.div_lt_iff_lt_mul j).2 ?_,D.div_mul_le_self _ _,?_⟩
      · rw[D.mul_comm n m];exact D.mul_lt_mul_of_pos_right o3 o
      · have:=D.lt_div_mul_add j (a:=x*n);rw[D.add_mul,D.one_mul];omega
  exact QVr s (cb d o j h1 h2) t r i y (eM.1 h k hk)
end Go.Proofs
