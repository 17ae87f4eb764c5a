/- Polygons apart, free lists of polygons, polygons within boxes: plain laws. -/
import Derived.Test.YtnbkdgmgbaangaaGreatDoorPE
import Derived.Test.YtnbkdgmgbaangaaGreatDoorS3
open List renaming getElem?_eq_getElem → Za, mem_of_getElem? → Zb, mem_map → Zc
namespace Go.Proofs
open Go Go.Eng
def QhI (n v:Rat×Rat):Rat:=n.1*v.1+n.2*v.2
def QYh (p q:Rat×Rat):Rat×Rat:=(q.2-p.2,-(q.1-p.1))
def Wv (p q:Rat×Rat)(b:List (Rat×Rat)):Bool:=b.all fun v=>decide (0<QhI (QYh p q) (v.1-p.1,v.2-p.2))
def UG (a b:List (Rat×Rat)):Bool:=(List.range a.length).any fun i=>Wv (a.getD i (0,0)) (a.getD ((i+1) % a.length) (0,0)) b
def Gn (a b:List (Rat×Rat)):Bool:= !UG a b&& !UG b a
def JU (l:List (Rat×Rat)):X2:=l.tail.foldl KU ⟨(l.headD (0,0)).1,(l.headD (0,0)).2,(l.headD (0,0)).1,(l.headD (0,0)).2⟩
def X2.ok (b:X2):Bool:=decide (b.x1<=b.x2)&&decide (b.y1<=b.y2)
def KV (a b:X2):Bool:=a.ok&&(b.ok&&(decide (a.x1<=b.x2)&&(decide (b.x1<=a.x2)&&(decide (a.y1<=b.y2)&&decide (b.y1<=a.y2)))))
def freeB (l m:List (List (Rat×Rat))):Bool:=l.all fun a=>m.all fun b=> !(KV (JU a) (JU b)) || !(Gn a b)
def Vu (b:X2):List (Rat×Rat):=[(b.x1,b.y1),(b.x2,b.y1),(b.x2,b.y2),(b.x1,b.y2)]
structure X2.has (b:X2)(v:Rat×Rat):Prop where
 x:b.x1<=v.1/\v.1<=b.x2
 y:b.y1<=v.2/\v.2<=b.y2
theorem QT2 {l m:List (List (Rat×Rat))}:freeB l m=true↔ ∀a∈l,∀b∈m,KV (JU a) (JU b)=true->Gn a b=false:=by
 unfold freeB;simp only[List.all_eq_true,Bool.or_eq_true,Bool.not_eq_true'];constructor
 ·intro h a ha b hb hx;rcases h a ha b hb with k | k
  ·rw[hx]at k;cases k
  ·exact k
 ·intro h a ha b hb;cases hx:KV (JU a) (JU b)with
  | false=>exact .inl rfl
  | true=>exact .inr (h a ha b hb hx)
end Go.Proofs
namespace Go.Proofs
open Go Go.Eng
def QHU (k n:Nat):Rat:=((k:Int):Rat)/((n:Int):Rat)
def X6 (p q:List Rat)(n k:Nat):List Rat:=J7 (QHU k n) p q
def XX (p q:List Rat)(n k:Nat):List Sp:=WX (X6 p q n k) (X6 p q n (k+1))
def Xd (p q:List Rat)(n:Nat):List (List Sp):=(List.range n).map (XX p q n)
def Qd5 (b:Sp×Sp):X2:=⟨b.1.lo,b.2.lo,b.1.hi,b.2.hi⟩
def YE (a:QN)(row:List Sp):List (List (Rat×Rat)):=(XD (Xm (YY a) a.links row) a.links).map fun b=>Vu (Qd5 b)
def Hz (a:QN)(rows:List (List Sp))(ws:List (List (Rat×Rat))):Bool:=rows.all fun row=>freeB (YE a row) ws
theorem QHV {a:QN}{p q:List Rat}{n:Nat}{ws:List (List (Rat×Rat))}:Hz a (Xd p q n) ws=true↔ ∀k,k<n->freeB (YE a (XX p q n k)) ws=true:=by
 unfold Hz Xd;rw[List.all_map,List.all_eq_true];exact⟨fun h k hk=>h k (List.mem_range.2 hk),fun h k hk=>h k (List.mem_range.1 hk)⟩
theorem QMU {n:Nat}(hn:0<n):((n:Int):Rat)≠0:=fun e=>by
 have:((n:Int):Rat)=((0:Int):Rat):=e;have:=Rat.intCast_inj.1 this;omega
theorem QJx {k j n:Nat}(hn:0<n)(h:k+j=n):QHU k n+QHU j n=1:=by
 unfold QHU;have hne:=QMU hn;have e:((k:Int):Rat)+((j:Int):Rat)=((n:Int):Rat):=by
  rw[<-Rat.intCast_add];congr 1;omega
 rw[Rat.div_def,Rat.div_def,<-Rat.add_mul,e,Rat.mul_inv_cancel _ hne]
theorem QPw (a b:Rat):XC a b=XC b a:=by unfold XC;split<;>split<;>grind
theorem QPx (a b:Rat):XF a b=XF b a:=by unfold XF;split<;>split<;>grind
theorem QMV (a b:List Rat):WX a b=WX b a:=by
 unfold WX;rw[List.zipWith_comm];congr 1;funext p q;rw[QPw,QPx]
theorem QJy {p q:List Rat}{n k:Nat}(hk:k<n):XX q p n k=XX p q n (n-1-k):=by
 unfold XX X6;rw[QJb (f:=QHU (n-k) n) (QJx (by omega) (by omega)) p q,QJb (f:=QHU (n-1-k) n) (QJx (by omega) (by omega)) p q,QMV,show n-k=n-1-k+1 by omega]
theorem QT3 {a:QN}{p q:List Rat}{n:Nat}{ws:List (List (Rat×Rat))}:Hz a (Xd q p n) ws=Hz a (Xd p q n) ws:=by
  rw[Bool.eq_iff_iff,QHV,QHV];constructor
  · intro h k hk;have:=h (n-1-k) (by omega);rw[QJy (by omega)]at this;rw[show n-1-(n-1-k)=k by omega]at this;exact this
  · intro h k hk;rw[QJy hk];exact h _ (by omega)
theorem QYi {p q s1 s s2:Rat}(h1:s1<=s)(h2:s<=s2):XC (p+s1*(q-p)) (p+s2*(q-p))<=p+s*(q-p)/\p+s*(q-p)<=XF (p+s1*(q-p)) (p+s2*(q-p)):=by
 have mx: ∀(m a c:Rat),0<=m->a<=c->a*m<=c*m:=fun m a c hm hac=>Rat.mul_le_mul_of_nonneg_right hac hm;rcases Rat.le_total (a:=p) (b:=q)with k | k
 ·have a1:=mx (q-p) s1 s (by grind) h1;have a2:=mx (q-p) s s2 (by grind) h2;exact⟨Rat.le_trans (Y9 _ _) (by grind),Rat.le_trans (b:=p+s2*(q-p)) (by grind) (WG _ _)⟩
 ·have a1:=mx (p-q) s1 s (by grind) h1;have a2:=mx (p-q) s s2 (by grind) h2;exact⟨Rat.le_trans (WE _ _) (by grind),Rat.le_trans (b:=p+s1*(q-p)) (by grind) (JA _ _)⟩
theorem QPy {p q:List Rat}(h:p.length=q.length){s1 s s2:Rat}(h1:s1<=s)(h2:s<=s2):HasQ (WX (J7 s1 p q) (J7 s2 p q)) (J7 s p q):=by
 refine⟨by simp[WX,J7],fun i t x ht hx=> ?_⟩;have hi:=(List.getElem?_eq_some_iff.1 hx).1;rw[QG6 h]at hi;obtain⟨a,ha⟩: ∃a,p[i]? =some a:=⟨_,Za hi⟩
 obtain⟨b,hb⟩: ∃b,q[i]? =some b:=⟨_,Za (by omega)⟩
 rw[QG7 ha hb]at hx;cases hx
 simp only[WX,List.getElem?_zipWith,QG7 ha hb]at ht;cases ht
 exact QYi h1 h2
theorem QNj {a b n m:Nat}(hn:0<n)(hm:0<m)(h:a*m<=b*n):QHU a n<=QHU b m:=by
 have hn0:(0:Rat)<((n:Int):Rat):=by
  have:((0:Int):Rat)<((n:Int):Rat):=Rat.intCast_lt_intCast.2 (by omega);exact this
 have hm0:(0:Rat)<((m:Int):Rat):=by
  have:((0:Int):Rat)<((m:Int):Rat):=Rat.intCast_lt_intCast.2 (by omega);exact this
 unfold QHU;have h':((a:Int):Rat)*((m:Int):Rat)<=((b:Int):Rat)*((n:Int):Rat):=by
  rw[<-Rat.intCast_mul,<-Rat.intCast_mul];exact Rat.intCast_le_intCast.2 (by exact_mod_cast h)
 have e1:((a:Int):Rat)/((n:Int):Rat)*((n:Int):Rat)=((a:Int):Rat):=Rat.div_mul_cancel (QMU hn);have e2:((b:Int):Rat)/((m:Int):Rat)*((m:Int):Rat)=((b:Int):Rat):=Rat.div_mul_cancel (QMU hm);generalize ((a:Int):Rat)/((n:Int):Rat)=x at*;generalize ((b:Int):Rat)/((m:Int):Rat)=y at*;rw[<-e1,<-e2]at h';have hp:0<((n:Int):Rat)*((m:Int):Rat):=Rat.mul_pos hn0 hm0;refine Rat.le_of_mul_le_mul_right (c:=((n:Int):Rat)*((m:Int):Rat)) ?_ hp
 grind
theorem QPz {l:List (Rat×Rat)}(h:Qb l):(∃p∈l,∃q∈l,p.1<q.1)/\ ∃p∈l,∃q∈l,p.2<q.2:=by
  have h1:=h.lo;obtain⟨a,ha⟩: ∃a,l[0]? =some a:=⟨_,Za (by omega)⟩
  obtain⟨b,hb⟩: ∃b,l[(0+1) % l.length]? =some b:=⟨_,Za (Nat.mod_lt _ (by omega))⟩
  obtain⟨c,hc⟩: ∃c,l[(0+2) % l.length]? =some c:=⟨_,Za (Nat.mod_lt _ (by omega))⟩
  have hl:=h.left 0 2 a b c (Nat.le_refl _) (by omega) ha hb hc;have ma:=Zb ha;have mb:=Zb hb;have mc:=Zb hc;unfold lft at hl;have tri: ∀x y:Rat,x<y∨x=y∨y<x:=fun x y=>by grind
  constructor
  · rcases tri a.1 b.1 with k | k | k
    · exact⟨a,ma,b,mb,k⟩
    · rcases tri a.1 c.1 with k2 | k2 | k2
      · exact⟨a,ma,c,mc,k2⟩
      · exfalso;rw[<-k,<-k2]at hl;have e:(a.1-a.1)*(c.2-a.2)-(b.2-a.2)*(a.1-a.1)=0:=by grind
        rw[e]at hl;exact absurd hl Rat.lt_irrefl
      · exact⟨c,mc,a,ma,k2⟩
    · exact⟨b,mb,a,ma,k⟩
  · rcases tri a.2 b.2 with k | k | k
    · exact⟨a,ma,b,mb,k⟩
    · rcases tri a.2 c.2 with k2 | k2 | k2
      · exact⟨a,ma,c,mc,k2⟩
      · exfalso;rw[<-k,<-k2]at hl;have e:(b.1-a.1)*(a.2-a.2)-(a.2-a.2)*(c.1-a.1)=0:=by grind
        rw[e]at hl;exact absurd hl Rat.lt_irrefl
      · exact⟨c,mc,a,ma,k2⟩
    · exact⟨b,mb,a,ma,k⟩
theorem QP0 {b:X2}(hx:b.x1<b.x2)(hy:b.y1<b.y2):Qb (Vu b):=by
  have hp:0<(b.x2-b.x1)*(b.y2-b.y1):=Rat.mul_pos (by grind) (by grind);refine⟨by simp[Vu],by simp[Vu],fun i k p q r h2 hk hp' hq hr=> ?_⟩;have hi:i<4:=by have:=(List.getElem?_eq_some_iff.1 hp').1;simpa [Vu]using this
  have hk:k<4:=by simpa [Vu]using hk
  have hk2:k=2∨k=3:=by omega
  have hi2:i=0∨i=1∨i=2∨i=3:=by omega
  rcases hi2 with rfl | rfl | rfl | rfl<;>rcases hk2 with rfl | rfl<;>(simp[Vu]at hp' hq hr;subst hp' hq hr;unfold lft;simp only;grind)
theorem QP1 {l:LoV}{f:FrV}{L:Qi}(h:l.has f)(hp:Qb L.shape):(Jr l L).1.lo<(Jr l L).1.hi/\(Jr l L).2.lo<(Jr l L).2.hi:=by
 obtain⟨⟨p,hpm,q,hqm,h1⟩,⟨u,hum,v,hvm,h2⟩⟩:=QPz (QX8 f hp);obtain⟨p0,hp0,rfl⟩:=Zc.1 hpm;obtain⟨q0,hq0,rfl⟩:=Zc.1 hqm;obtain⟨u0,hu0,rfl⟩:=Zc.1 hum;obtain⟨v0,hv0,rfl⟩:=Zc.1 hvm;have a1:=(Uy h hp0).1.1;have a2:=(Uy h hq0).1.2;have a3:=(Uy h hu0).2.1;have a4:=(Uy h hv0).2.2;have h1:QAG f p0.1 p0.2<QAG f q0.1 q0.2:=h1;have h2:QAH f u0.1 u0.2<QAH f v0.1 v0.2:=h2;exact⟨by grind,by grind⟩
theorem QNk {p q:List Rat}(h:p.length=q.length)(n k:Nat):(X6 p q n k).length=p.length:=QG6 h
theorem QYj {p q:List Rat}(h:p.length=q.length){n k m x:Nat}(hn:0<n)(hm:0<m)(h1:k*m<=x*n)(h2:x*n<=(k+1)*m):HasQ (XX p q n k) (X6 p q m x):=
 QPy h (QNj hn hm h1) (QNj hm hn h2)
end Go.Proofs
