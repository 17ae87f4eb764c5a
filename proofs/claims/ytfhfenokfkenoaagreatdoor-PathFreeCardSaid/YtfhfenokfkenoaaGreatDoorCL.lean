/- Polygons apart, free lists of polygons, polygons within boxes: plain laws. -/
import Derived.Test.YtfhfenokfkenoaaGreatDoorPE
import Derived.Test.YtfhfenokfkenoaaGreatDoorS3
open Rat renaming le_trans → Za, le_refl → Zb, mul_le_mul_of_nonneg_left → Ze, le_total → Zm
open List renaming getElem?_eq_getElem → Zc, mem_of_getElem? → Zd, all_eq_true → Zf, getElem?_eq_some_iff → Zg, getD_cons_zero → Zh, getD_cons_succ → Zi, mem_map → Zj, getElem?_map → Zk, any_eq_true → Zl, mem_range → Zn
namespace Go.Proofs
open Go Go.Eng
def QBd (n v:Rat×Rat):Rat:=n.1*v.1+n.2*v.2
def QEX (p q:Rat×Rat):Rat×Rat:=(q.2-p.2,-(q.1-p.1))
def KB (p q:Rat×Rat)(b:List (Rat×Rat)):Bool:=b.all fun v=>decide (0<QBd (QEX p q) (v.1-p.1,v.2-p.2))
def Ve (a b:List (Rat×Rat)):Bool:=(List.range a.length).any fun i=>KB (a.getD i (0,0)) (a.getD ((i+1) % a.length) (0,0)) b
def UD (a b:List (Rat×Rat)):Bool:= !Ve a b&& !Ve b a
def Xh (l:List (Rat×Rat)):Xn:=l.tail.foldl Qp ⟨(l.headD (0,0)).1,(l.headD (0,0)).2,(l.headD (0,0)).1,(l.headD (0,0)).2⟩
def Xn.ok (b:Xn):Bool:=decide (b.x1<=b.x2)&&decide (b.y1<=b.y2)
def Jg (a b:Xn):Bool:=a.ok&&(b.ok&&(decide (a.x1<=b.x2)&&(decide (b.x1<=a.x2)&&(decide (a.y1<=b.y2)&&decide (b.y1<=a.y2)))))
def freeB (l m:List (List (Rat×Rat))):Bool:=l.all fun a=>m.all fun b=> !(Jg (Xh a) (Xh b)) || !(UD a b)
def XS (b:Xn):List (Rat×Rat):=[(b.x1,b.y1),(b.x2,b.y1),(b.x2,b.y2),(b.x1,b.y2)]
structure Xn.has (b:Xn)(v:Rat×Rat):Prop where
 x:b.x1<=v.1/\v.1<=b.x2
 y:b.y1<=v.2/\v.2<=b.y2
theorem QBe {l m:List (List (Rat×Rat))}:freeB l m=true↔ ∀a∈l,∀b∈m,Jg (Xh a) (Xh b)=true->UD a b=false:=by
 unfold freeB;simp only[Zf,Bool.or_eq_true,Bool.not_eq_true'];constructor
 ·intro h a ha b hb hx;rcases h a ha b hb with k | k
  ·rw[hx]at k;cases k
  ·exact k
 ·intro h a ha b hb;cases hx:Jg (Xh a) (Xh b)with
  | false=>exact .inl rfl
  | true=>exact .inr (h a ha b hb hx)
theorem QYo (b:Xn)(v:Rat×Rat):(Qp b v).x1<=b.x1/\(Qp b v).y1<=b.y1/\b.x2<=(Qp b v).x2/\b.y2<=(Qp b v).y2:=by
 unfold Qp;refine⟨?_,?_,?_,?_⟩<;>simp only[XA,XH]<;>split<;>grind
theorem QQF (b:Xn)(v:Rat×Rat):(Qp b v).has v:=by
 unfold Qp;refine⟨⟨?_,?_⟩,?_,?_⟩<;>simp only[XA,XH]<;>split<;>grind
theorem QBf {b c:Xn}{v:Rat×Rat}(h:b.has v)(k:c.x1<=b.x1/\c.y1<=b.y1/\b.x2<=c.x2/\b.y2<=c.y2):c.has v:=
 ⟨⟨Za k.1 h.x.1,Za h.x.2 k.2.2.1⟩,Za k.2.1 h.y.1,Za h.y.2 k.2.2.2⟩
theorem QC3: ∀(l:List (Rat×Rat)) (b:Xn),(l.foldl Qp b).x1<=b.x1/\(l.foldl Qp b).y1<=b.y1/\b.x2<=(l.foldl Qp b).x2/\b.y2<=(l.foldl Qp b).y2:=by
 intro l;induction l with
 | nil=>intro b;exact⟨Zb,Zb,Zb,Zb⟩
 | cons v l ih=>
  intro b;obtain⟨a1,a2,a3,a4⟩:=ih (Qp b v);obtain⟨b1,b2,b3,b4⟩:=QYo b v;exact⟨Za a1 b1,Za a2 b2,Za b3 a3,Za b4 a4⟩
theorem QQG: ∀(l:List (Rat×Rat)) (b:Xn) (v:Rat×Rat),v∈l->(l.foldl Qp b).has v:=by
 intro l;induction l with
 | nil=>intro b v h;cases h
 | cons u l ih=>
  intro b v h;rcases List.mem_cons.1 h with rfl | h
  ·exact QBf (QQF b v) (QC3 l _)
  ·exact ih _ v h
theorem QGh {l:List (Rat×Rat)}{v:Rat×Rat}(h:v∈l):(Xh l).has v:=by
 cases l with
 | nil=>cases h
 | cons u l=>
  unfold Xh;rcases List.mem_cons.1 h with rfl | h
  ·exact QBf (b:=⟨v.1,v.2,v.1,v.2⟩) ⟨⟨Zb,Zb⟩,Zb,Zb⟩ (QC3 l _)
  ·exact QQG l _ v h
theorem QUU {c:Xn}: ∀(l:List (Rat×Rat)) (b:Xn),(c.x1<=b.x1/\c.y1<=b.y1/\b.x2<=c.x2/\b.y2<=c.y2)->(∀v∈l,c.has v)->c.x1<=(l.foldl Qp b).x1/\c.y1<=(l.foldl Qp b).y1/\(l.foldl Qp b).x2<=c.x2/\(l.foldl Qp b).y2<=c.y2:=by
 intro l;induction l with
 | nil=>intro b h _;exact h
 | cons v l ih=>
  intro b h hv;refine ih _ ?_ fun u hu=>hv u (by simp[hu])
  have:=hv v (by simp);obtain⟨⟨v1,v2⟩,v3,v4⟩:=this;obtain⟨h1,h2,h3,h4⟩:=h;unfold Qp;refine⟨?_,?_,?_,?_⟩<;>simp only[XA,XH]<;>split<;>assumption
theorem QKQ {l:List (Rat×Rat)}{c:Xn}(hl:l≠[])(h: ∀v∈l,c.has v):c.x1<=(Xh l).x1/\c.y1<=(Xh l).y1/\(Xh l).x2<=c.x2/\(Xh l).y2<=c.y2:=by
 cases l with
 | nil=>exact absurd rfl hl
 | cons u l=>
  obtain⟨⟨v1,v2⟩,v3,v4⟩:=h u (by simp);exact QUU l _ ⟨v1,v3,v2,v4⟩ fun v hv=>h v (by simp[hv])
theorem QMY (sel:Xn->Rat)(co:Rat×Rat->Rat)(hs: ∀b v,sel (Qp b v)=sel b∨sel (Qp b v)=co v): ∀(l:List (Rat×Rat)) (b:Xn),sel (l.foldl Qp b)=sel b∨ ∃v∈l,co v=sel (l.foldl Qp b):=by
 intro l;induction l with
 | nil=>intro b;exact .inl rfl
 | cons v l ih=>
  intro b;rcases ih (Qp b v)with e | ⟨u,hu,e⟩
  ·rcases hs b v with e2 | e2
   ·exact .inl (e.trans e2)
   ·exact .inr ⟨v,by simp,(e.trans e2).symm⟩
  ·exact .inr ⟨u,by simp[hu],e⟩
theorem Vz {l:List (Rat×Rat)}(hl:l≠[])(sel:Xn->Rat)(co:Rat×Rat->Rat)(hs: ∀b v,sel (Qp b v)=sel b∨sel (Qp b v)=co v)(h0: ∀v:Rat×Rat,sel ⟨v.1,v.2,v.1,v.2⟩=co v): ∃v∈l,co v=sel (Xh l):=by
 cases l with
 | nil=>exact absurd rfl hl
 | cons u l=>
  rcases QMY sel co hs l ⟨u.1,u.2,u.1,u.2⟩with e | ⟨v,hv,e⟩
  ·exact⟨u,by simp,(h0 u).symm.trans e.symm⟩
  ·exact⟨v,by simp[hv],e⟩
theorem QUV {l:List (Rat×Rat)}(hl:l≠[]): ∃v∈l,v.1=(Xh l).x1:=Vz hl (·.x1) (·.1) (fun b v=>by simp only[Qp,XA];split<;>simp) (fun _=>rfl)
theorem QUW {l:List (Rat×Rat)}(hl:l≠[]): ∃v∈l,v.1=(Xh l).x2:=Vz hl (·.x2) (·.1) (fun b v=>by simp only[Qp,XH];split<;>simp) (fun _=>rfl)
theorem QUX {l:List (Rat×Rat)}(hl:l≠[]): ∃v∈l,v.2=(Xh l).y1:=Vz hl (·.y1) (·.2) (fun b v=>by simp only[Qp,XA];split<;>simp) (fun _=>rfl)
theorem QUY {l:List (Rat×Rat)}(hl:l≠[]): ∃v∈l,v.2=(Xh l).y2:=Vz hl (·.y2) (·.2) (fun b v=>by simp only[Qp,XH];split<;>simp) (fun _=>rfl)
theorem QC4 {a b:Xn}:Jg a b=true↔(a.x1<=a.x2/\a.y1<=a.y2)/\(b.x1<=b.x2/\b.y1<=b.y2)/\a.x1<=b.x2/\b.x1<=a.x2/\a.y1<=b.y2/\b.y1<=a.y2:=by
 unfold Jg Xn.ok;simp only[Bool.and_eq_true,decide_eq_true_eq]
theorem QJC (b:Xn)(n p:Rat×Rat)(h: ∀c∈XS b,0<QBd n (c.1-p.1,c.2-p.2)){v:Rat×Rat}(hv:b.has v):0<QBd n (v.1-p.1,v.2-p.2):=by
  obtain⟨⟨v1,v2⟩,v3,v4⟩:=hv;have key: ∀(x y:Rat),(x,y)∈XS b->n.1*x<=n.1*v.1->n.2*y<=n.2*v.2->0<QBd n (v.1-p.1,v.2-p.2):=by
    intro x y hm h1 h2;have:=h (x,y) hm;unfold QBd at this⊢;simp only at this⊢;grind
  have mx: ∀(m a c:Rat),0<=m->a<=c->m*a<=m*c:=fun m a c hm hac=>Ze hac hm;have mn: ∀(m a c:Rat),m<=0->a<=c->m*c<=m*a:=fun m a c hm hac=>by
    have:=Ze hac (show 0<= -m by grind);grind
  rcases Zm (a:=0) (b:=n.1)with a | a<;>rcases Zm (a:=0) (b:=n.2)with c | c
  · exact key b.x1 b.y1 (by simp[XS]) (mx _ _ _ a v1) (mx _ _ _ c v3)
  · exact key b.x1 b.y2 (by simp[XS]) (mx _ _ _ a v1) (mn _ _ _ c v4)
  · exact key b.x2 b.y1 (by simp[XS]) (mn _ _ _ a v2) (mx _ _ _ c v3)
  · exact key b.x2 b.y2 (by simp[XS]) (mn _ _ _ a v2) (mn _ _ _ c v4)
theorem QGi (b:Xn)(h:b.x1<=b.x2/\b.y1<=b.y2): ∀c∈XS b,b.has c:=by
 intro c hc;simp only[XS,List.mem_cons,List.not_mem_nil,or_false]at hc;rcases hc with rfl | rfl | rfl | rfl
 ·exact⟨⟨Zb,h.1⟩,Zb,h.2⟩
 ·exact⟨⟨h.1,Zb⟩,Zb,h.2⟩
 ·exact⟨⟨h.1,Zb⟩,h.2,Zb⟩
 ·exact⟨⟨Zb,h.1⟩,h.2,Zb⟩
theorem QEY {m d:Rat}(hm:0<=m)(h:0<m*d):0<d:=by
 rcases Zm (a:=d) (b:=0)with k | k
 ·exfalso;have:=Ze k hm;rw[Rat.mul_zero]at this;exact absurd h (Rat.not_lt.2 this)
 ·refine Rat.lt_iff_le_and_ne.2 ⟨k,fun e=> ?_⟩;rw[<-e,Rat.mul_zero]at h;exact absurd h Rat.lt_irrefl
theorem QUZ {b:Xn}(hb:b.x1<=b.x2/\b.y1<=b.y2){w:List (Rat×Rat)}(h:Ve (XS b) w=true):(∀v∈w,v.2<b.y1)∨(∀v∈w,b.x2<v.1)∨(∀v∈w,b.y2<v.2)∨(∀v∈w,v.1<b.x1):=by
  obtain⟨i,hi,he⟩:=Zl.1 h;have hi:i<4:=Zn.1 hi;have hv: ∀v∈w,0<QBd (QEX ((XS b).getD i (0,0)) ((XS b).getD ((i+1) % 4) (0,0))) (v.1-((XS b).getD i (0,0)).1,v.2-((XS b).getD i (0,0)).2):=fun v hv=>R5 (Zf.1 he v hv);obtain⟨h1,h2⟩:=hb;match i,hi with
  | 0,_=>
    refine .inl fun v hm=> ?_
    have:=hv v hm;simp only[XS,Zh,Zi,QBd,QEX,show(0+1) % 4=1 from rfl]at this;have:=QEY (m:=b.x2-b.x1) (d:=b.y1-v.2) (by grind) (by grind);grind
  | 1,_=>
    refine .inr (.inl fun v hm=> ?_);have:=hv v hm;simp only[XS,Zh,Zi,QBd,QEX,show(1+1) % 4=2 from rfl]at this;have:=QEY (m:=b.y2-b.y1) (d:=v.1-b.x2) (by grind) (by grind);grind
  | 2,_=>
    refine .inr (.inr (.inl fun v hm=> ?_));have:=hv v hm;simp only[XS,Zh,Zi,QBd,QEX,show(2+1) % 4=3 from rfl]at this;have:=QEY (m:=b.x2-b.x1) (d:=v.2-b.y2) (by grind) (by grind);grind
  | 3,_=>
    refine .inr (.inr (.inr fun v hm=> ?_));have:=hv v hm;simp only[XS,Zh,Zi,QBd,QEX,show(3+1) % 4=0 from rfl]at this;have:=QEY (m:=b.y2-b.y1) (d:=b.x1-v.1) (by grind) (by grind);grind
theorem QUa {b:Xn}(hb:b.x1<=b.x2/\b.y1<=b.y2){s w:List (Rat×Rat)}(hs:s≠[])(hw:w≠[])(hsb: ∀v∈s,b.has v)(h:Jg (Xh (XS b)) (Xh w)=true->UD (XS b) w=false):
    Jg (Xh s) (Xh w)=true->UD s w=false:=by
  intro hx;obtain⟨_,hwok,k1,k2,k3,k4⟩:=QC4.1 hx;have hcin:=QKQ (l:=XS b) (c:=b) (by simp[XS]) (QGi b hb);have c1:=QGh (l:=XS b) (v:=(b.x1,b.y1)) (by simp[XS]);have c2:=QGh (l:=XS b) (v:=(b.x2,b.y2)) (by simp[XS]);have hin:=QKQ hs hsb;have hbx:Jg (Xh (XS b)) (Xh w)=true:=by
    refine QC4.2 ⟨⟨Za c1.x.1 (Za hb.1 c2.x.2),Za c1.y.1 (Za hb.2 c2.y.2)⟩,hwok,?_,?_,?_,?_⟩
    · exact Za c1.x.1 (Za hin.1 k1)
    · exact Za k2 (Za hin.2.2.1 c2.x.2)
    · exact Za c1.y.1 (Za hin.2.1 k3)
    · exact Za k4 (Za hin.2.2.2 c2.y.2)
  have hm:=h hbx;unfold UD at hm⊢;cases hy:Ve (XS b) w with
  | true=>
    exfalso;have at1: ∃v∈w,v.1=(Xh w).x1:=QUV hw;have at2: ∃v∈w,v.1=(Xh w).x2:=QUW hw;have at3: ∃v∈w,v.2=(Xh w).y1:=QUX hw;have at4: ∃v∈w,v.2=(Xh w).y2:=QUY hw;rcases QUZ hb hy with h' | h' | h' | h'
    · obtain⟨v,hv,e⟩:=at4;have:=h' v hv;rw[e]at this;exact absurd (Za hin.2.1 k3) (Rat.not_le.2 this)
    · obtain⟨v,hv,e⟩:=at1;have:=h' v hv;rw[e]at this;exact absurd (Za k2 hin.2.2.1) (Rat.not_le.2 this)
    · obtain⟨v,hv,e⟩:=at3;have:=h' v hv;rw[e]at this;exact absurd (Za k4 hin.2.2.2) (Rat.not_le.2 this)
    · obtain⟨v,hv,e⟩:=at2;have:=h' v hv;rw[e]at this;exact absurd (Za hin.1 k1) (Rat.not_le.2 this)
  | false=>
    rw[hy]at hm;have hwb:Ve w (XS b)=true:=by simpa using hm
    have:Ve w s=true:=by
      obtain⟨i,hi,he⟩:=Zl.1 hwb;refine Zl.2 ⟨i,hi,Zf.2 fun v hv=>decide_eq_true ?_⟩;exact QJC b _ _ (fun c hc=>R5 (Zf.1 he c hc)) (hsb v hv)
    rw[this];simp
end Go.Proofs
namespace Go.Proofs
open Go Go.Eng
def QQH (k n:Nat):Rat:=((k:Int):Rat)/((n:Int):Rat)
def Xy (p q:List Rat)(n k:Nat):List Rat:=Wj (QQH k n) p q
def Xe (p q:List Rat)(n k:Nat):List Sp:=KA (Xy p q n k) (Xy p q n (k+1))
def Xr (p q:List Rat)(n:Nat):List (List Sp):=(List.range n).map (Xe p q n)
def QMZ (b:Sp×Sp):Xn:=⟨b.1.lo,b.2.lo,b.1.hi,b.2.hi⟩
def Xt (a:ArmV)(row:List Sp):List (List (Rat×Rat)):=(XC (XL (Xp a) a.links row) a.links).map fun b=>XS (QMZ b)
def QBg (a:ArmV)(rows:List (List Sp))(ws:List (List (Rat×Rat))):Bool:=rows.all fun row=>freeB (Xt a row) ws
theorem QEZ {a:ArmV}{p q:List Rat}{n:Nat}{ws:List (List (Rat×Rat))}:QBg a (Xr p q n) ws=true↔ ∀k,k<n->freeB (Xt a (Xe p q n k)) ws=true:=by
 unfold QBg Xr;rw[List.all_map,Zf];exact⟨fun h k hk=>h k (Zn.2 hk),fun h k hk=>h k (Zn.1 hk)⟩
theorem QQI {n:Nat}(hn:0<n):((n:Int):Rat)≠0:=fun e=>by
 have:((n:Int):Rat)=((0:Int):Rat):=e;have:=Rat.intCast_inj.1 this;omega
theorem QUb {p q s1 s s2:Rat}(h1:s1<=s)(h2:s<=s2):XA (p+s1*(q-p)) (p+s2*(q-p))<=p+s*(q-p)/\p+s*(q-p)<=XH (p+s1*(q-p)) (p+s2*(q-p)):=by
 have mx: ∀(m a c:Rat),0<=m->a<=c->a*m<=c*m:=fun m a c hm hac=>Rat.mul_le_mul_of_nonneg_right hac hm;rcases Zm (a:=p) (b:=q)with k | k
 ·have a1:=mx (q-p) s1 s (by grind) h1;have a2:=mx (q-p) s s2 (by grind) h2;exact⟨Za (YE _ _) (by grind),Za (b:=p+s2*(q-p)) (by grind) (JL _ _)⟩
 ·have a1:=mx (p-q) s1 s (by grind) h1;have a2:=mx (p-q) s s2 (by grind) h2;exact⟨Za (JK _ _) (by grind),Za (b:=p+s1*(q-p)) (by grind) (YF _ _)⟩
theorem QMa {p q:List Rat}(h:p.length=q.length){s1 s s2:Rat}(h1:s1<=s)(h2:s<=s2):HasQ (KA (Wj s1 p q) (Wj s2 p q)) (Wj s p q):=by
 refine⟨by simp[KA,Wj],fun i t x ht hx=> ?_⟩;have hi:=(Zg.1 hx).1;rw[G0 h]at hi;obtain⟨a,ha⟩: ∃a,p[i]? =some a:=⟨_,Zc hi⟩
 obtain⟨b,hb⟩: ∃b,q[i]? =some b:=⟨_,Zc (by omega)⟩
 rw[G4 ha hb]at hx;cases hx
 simp only[KA,List.getElem?_zipWith,G4 ha hb]at ht;cases ht
 exact QUb h1 h2
theorem QKR {a b n m:Nat}(hn:0<n)(hm:0<m)(h:a*m<=b*n):QQH a n<=QQH b m:=by
 have hn0:(0:Rat)<((n:Int):Rat):=by
  have:((0:Int):Rat)<((n:Int):Rat):=Rat.intCast_lt_intCast.2 (by omega);exact this
 have hm0:(0:Rat)<((m:Int):Rat):=by
  have:((0:Int):Rat)<((m:Int):Rat):=Rat.intCast_lt_intCast.2 (by omega);exact this
 unfold QQH;have h':((a:Int):Rat)*((m:Int):Rat)<=((b:Int):Rat)*((n:Int):Rat):=by
  rw[<-Rat.intCast_mul,<-Rat.intCast_mul];exact Rat.intCast_le_intCast.2 (by exact_mod_cast h)
 have e1:((a:Int):Rat)/((n:Int):Rat)*((n:Int):Rat)=((a:Int):Rat):=Rat.div_mul_cancel (QQI hn);have e2:((b:Int):Rat)/((m:Int):Rat)*((m:Int):Rat)=((b:Int):Rat):=Rat.div_mul_cancel (QQI hm);generalize ((a:Int):Rat)/((n:Int):Rat)=x at*;generalize ((b:Int):Rat)/((m:Int):Rat)=y at*;rw[<-e1,<-e2]at h';have hp:0<((n:Int):Rat)*((m:Int):Rat):=Rat.mul_pos hn0 hm0;refine Rat.le_of_mul_le_mul_right (c:=((n:Int):Rat)*((m:Int):Rat)) ?_ hp
 grind
theorem QEa {l l':LoV}{f:FrV}(h:l.has f)(hs:l.sub l')(v:Rat×Rat):(atX l v).sub (atX l' v)/\(atY l v).sub (atY l' v):=by
 have o: ∀x:Rat,(WG x).sub (WG x):=fun x=>⟨Zb,Zb⟩
 exact⟨WW hs.x (QCu (YG Zb h.c.ok (o _) hs.c) (YG Zb h.s.ok (o _) hs.s)),
  WW hs.y (WW (YG Zb h.s.ok (o _) hs.s) (YG Zb h.c.ok (o _) hs.c))⟩
theorem QYp {l l':LoV}{f:FrV}(h:l.has f)(hs:l.sub l'): ∀(vs:List (Rat×Rat)) (x x':Sp),x.sub x'->(hX l vs x).sub (hX l' vs x'):=by
 intro vs;induction vs with
 | nil=>intro x x' hx;exact hx
 | cons v vs ih=>intro x x' hx;exact ih _ _ (QBU hx (QEa h hs v).1)
theorem QYq {l l':LoV}{f:FrV}(h:l.has f)(hs:l.sub l'): ∀(vs:List (Rat×Rat)) (x x':Sp),x.sub x'->(hY l vs x).sub (hY l' vs x'):=by
 intro vs;induction vs with
 | nil=>intro x x' hx;exact hx
 | cons v vs ih=>intro x x' hx;exact ih _ _ (QBU hx (QEa h hs v).2)
theorem QQJ {l l':LoV}{f:FrV}(h:l.has f)(hs:l.sub l')(L:Qf):(YW l L).1.sub (YW l' L).1/\(YW l L).2.sub (YW l' L).2:=
 ⟨QYp h hs _ _ _ (QEa h hs _).1,QYq h hs _ _ _ (QEa h hs _).2⟩
theorem QQK {bs:List Xn}{ss ws:List (List (Rat×Rat))}(hw: ∀w∈ws,w≠[])(hs: ∀(i:Nat) s,ss[i]? =some s->s≠[]/\ ∃b,bs[i]? =some b/\ ∀v∈s,b.has v)(h:freeB (bs.map XS) ws=true):freeB ss ws=true:=by
 refine QBe.2 fun s hm w hwm=> ?_
 obtain⟨i,hi⟩:=List.getElem?_of_mem hm
 obtain⟨hne,b,hb,hv⟩:=hs i s hi;obtain⟨v,hvm⟩:=List.exists_mem_of_ne_nil s hne;have hk:=hv v hvm;exact QUa ⟨Za hk.x.1 hk.x.2,Za hk.y.1 hk.y.2⟩ hne (hw w hwm) hv (QBe.1 h _ (Zj.2 ⟨b,Zd hb,rfl⟩) w hwm)
theorem QGj (a:ArmV)(row:List Sp):Xt a row=((XC (XL (Xp a) a.links row) a.links).map QMZ).map XS:=by
 unfold Xt;rw[List.map_map];rfl
theorem QJD {a:ArmV}(hg:QJ a){row row':List Sp}{qs:List Rat}(hq:HasQ row' qs)(hl:qs.length=a.links.length)(hl':row.length=row'.length)(hsub: ∀(i:Nat) t t',row'[i]? =some t->row[i]? =some t'->t.sub t'){ws:List (List (Rat×Rat))}(hw: ∀w∈ws,w≠[])
    (h:freeB (Xt a row) ws=true):freeB (Xt a row') ws=true:=by
  rw[QGj]at h;have hrl:=hq.1;have sl:=QBZ a.links row (Xp a) (by omega);have sl':=QBZ a.links row' (Xp a) (by omega);have fl:=UW a.links qs (Wx a) hl;refine QQK hw (fun i s hi=> ?_) h;have hi2:=(Zg.1 hi).1;have hi2:i<a.links.length:=by simp[Xt,XC,sl']at hi2;omega
  obtain⟨L,hL⟩: ∃L,a.links[i]? =some L:=⟨_,Zc hi2⟩
  obtain⟨y,hy⟩: ∃y,(XL (Xp a) a.links row)[i]? =some y:=⟨_,Zc (by omega)⟩
  obtain⟨y',hy'⟩: ∃y,(XL (Xp a) a.links row')[i]? =some y:=⟨_,Zc (by omega)⟩
  obtain⟨g,hgx⟩: ∃g,(WO (Wx a) a.links qs)[i]? =some g:=⟨_,Zc (by omega)⟩
  have hh:=Kp a.links row' qs (Xp a) (Wx a) (KS a) hq i y' g hy' hgx;have hs:=QIu a.links row' row qs (Xp a) (Xp a) (Wx a) (KS a) hq (QUQ _) hl'.symm (fun i t t' h1 h2=>hsub i t t' h1 h2) i y' y hy' hy;obtain⟨hx,hyy⟩:=QQJ hh hs L;rw[QGj,Zk,Zk,Hy hy' hL]at hi;cases hi
  have hpo:=((hg.links L (Zd hL)).poly).lo;obtain⟨p,hp⟩: ∃p,p∈L.shape:=List.exists_mem_of_ne_nil _ (fun e=>by rw[e]at hpo;simp at hpo);have hk:=Vd hh hp;refine⟨by simp[XS],QMZ (YW y L),by rw[Zk,Hy hy hL];rfl,fun v hv=> ?_⟩;exact QBf (QGi (QMZ (YW y' L)) ⟨hk.1.ok,hk.2.ok⟩ v hv) ⟨hx.1,hyy.1,hx.2,hyy.2⟩
theorem QMb {l:List (Rat×Rat)}(h:QX l):(∃p∈l,∃q∈l,p.1<q.1)/\ ∃p∈l,∃q∈l,p.2<q.2:=by
  have h1:=h.lo;obtain⟨a,ha⟩: ∃a,l[0]? =some a:=⟨_,Zc (by omega)⟩
  obtain⟨b,hb⟩: ∃b,l[(0+1) % l.length]? =some b:=⟨_,Zc (Nat.mod_lt _ (by omega))⟩
  obtain⟨c,hc⟩: ∃c,l[(0+2) % l.length]? =some c:=⟨_,Zc (Nat.mod_lt _ (by omega))⟩
  have hl:=h.left 0 2 a b c (Nat.le_refl _) (by omega) ha hb hc;have ma:=Zd ha;have mb:=Zd hb;have mc:=Zd hc;unfold lft at hl;have tri: ∀x y:Rat,x<y∨x=y∨y<x:=fun x y=>by grind
  constructor
  · rcases tri a.1 b.1 with k | k | k
    · exact⟨a,ma,b,mb,k⟩
    · rcases tri a.1 c.1 with k2 | k2 | k2
      · exact⟨a,ma,c,mc,k2⟩
      · exfalso;rw[<-k,<-k2]at hl;have e:(a.1-a.1)*(c.2-a.2)-(b.2-a.2)*(a.1-a.1)=0:=by grind
        rw[e]at hl;exact absurd hl Rat.lt_irrefl
      · exact⟨c,mc,a,ma,k2⟩
    · exact⟨b,mb,a,ma,k⟩
  · rcases tri a.2 b.2 with k | k | k
    · exact⟨a,ma,b,mb,k⟩
    · rcases tri a.2 c.2 with k2 | k2 | k2
      · exact⟨a,ma,c,mc,k2⟩
      · exfalso;rw[<-k,<-k2]at hl;have e:(b.1-a.1)*(a.2-a.2)-(a.2-a.2)*(c.1-a.1)=0:=by grind
        rw[e]at hl;exact absurd hl Rat.lt_irrefl
      · exact⟨c,mc,a,ma,k2⟩
    · exact⟨b,mb,a,ma,k⟩
theorem QMc {b:Xn}(hx:b.x1<b.x2)(hy:b.y1<b.y2):QX (XS b):=by
  have hp:0<(b.x2-b.x1)*(b.y2-b.y1):=Rat.mul_pos (by grind) (by grind);refine⟨by simp[XS],by simp[XS],fun i k p q r h2 hk hp' hq hr=> ?_⟩;have hi:i<4:=by have:=(Zg.1 hp').1;simpa [XS]using this
  have hk:k<4:=by simpa [XS]using hk
  have hk2:k=2∨k=3:=by omega
  have hi2:i=0∨i=1∨i=2∨i=3:=by omega
  rcases hi2 with rfl | rfl | rfl | rfl<;>rcases hk2 with rfl | rfl<;>(simp[XS]at hp' hq hr;subst hp' hq hr;unfold lft;simp only;grind)
theorem QMd {l:LoV}{f:FrV}{L:Qf}(h:l.has f)(hp:QX L.shape):(YW l L).1.lo<(YW l L).1.hi/\(YW l L).2.lo<(YW l L).2.hi:=by
 obtain⟨⟨p,hpm,q,hqm,h1⟩,⟨u,hum,v,hvm,h2⟩⟩:=QMb (QT7 f hp);obtain⟨p0,hp0,rfl⟩:=Zj.1 hpm;obtain⟨q0,hq0,rfl⟩:=Zj.1 hqm;obtain⟨u0,hu0,rfl⟩:=Zj.1 hum;obtain⟨v0,hv0,rfl⟩:=Zj.1 hvm;have a1:=(Vd h hp0).1.1;have a2:=(Vd h hq0).1.2;have a3:=(Vd h hu0).2.1;have a4:=(Vd h hv0).2.2;have h1:Gj f p0.1 p0.2<Gj f q0.1 q0.2:=h1;have h2:Gk f u0.1 u0.2<Gk f v0.1 v0.2:=h2;exact⟨by grind,by grind⟩
theorem QKS {p q:List Rat}(h:p.length=q.length)(n k:Nat):(Xy p q n k).length=p.length:=G0 h
theorem QEb {p q:List Rat}(h:p.length=q.length){n k m x:Nat}(hn:0<n)(hm:0<m)(h1:k*m<=x*n)(h2:x*n<=(k+1)*m):HasQ (Xe p q n k) (Xy p q m x):=
 QMa h (QKR hn hm h1) (QKR hm hn h2)
end Go.Proofs
