/- Polygons apart, free lists of polygons, polygons within boxes: plain laws. -/
import Derived.Test.YtnbkdgmgbaangaaGreatDoorPE
import Derived.Test.YtnbkdgmgbaangaaGreatDoorS3
open List renaming getElem?_eq_getElem → Za, all_eq_true → Zb, mem_of_getElem? → Zc, mem_map → Zd
namespace Go.Proofs
open Go Go.Eng
def QhH (n v:Rat×Rat):Rat:=n.1*v.1+n.2*v.2
def QYd (p q:Rat×Rat):Rat×Rat:=(q.2-p.2,-(q.1-p.1))
def Wv (p q:Rat×Rat)(b:List (Rat×Rat)):Bool:=b.all fun v=>decide (0<QhH (QYd p q) (v.1-p.1,v.2-p.2))
def UI (a b:List (Rat×Rat)):Bool:=(List.range a.length).any fun i=>Wv (a.getD i (0,0)) (a.getD ((i+1) % a.length) (0,0)) b
def Gs (a b:List (Rat×Rat)):Bool:= !UI a b&& !UI b a
def JU (l:List (Rat×Rat)):X5:=l.tail.foldl KV ⟨(l.headD (0,0)).1,(l.headD (0,0)).2,(l.headD (0,0)).1,(l.headD (0,0)).2⟩
def X5.ok (b:X5):Bool:=decide (b.x1<=b.x2)&&decide (b.y1<=b.y2)
def KW (a b:X5):Bool:=a.ok&&(b.ok&&(decide (a.x1<=b.x2)&&(decide (b.x1<=a.x2)&&(decide (a.y1<=b.y2)&&decide (b.y1<=a.y2)))))
def freeB (l m:List (List (Rat×Rat))):Bool:=l.all fun a=>m.all fun b=> !(KW (JU a) (JU b)) || !(Gs a b)
def Vw (b:X5):List (Rat×Rat):=[(b.x1,b.y1),(b.x2,b.y1),(b.x2,b.y2),(b.x1,b.y2)]
structure X5.has (b:X5)(v:Rat×Rat):Prop where
 x:b.x1<=v.1/\v.1<=b.x2
 y:b.y1<=v.2/\v.2<=b.y2
theorem QCm {l m:List (List (Rat×Rat))}:freeB l m=true↔ ∀a∈l,∀b∈m,KW (JU a) (JU b)=true->Gs a b=false:=by
 unfold freeB;simp only[Zb,Bool.or_eq_true,Bool.not_eq_true'];constructor
 ·intro h a ha b hb hx;rcases h a ha b hb with k | k
  ·rw[hx]at k;cases k
  ·exact k
 ·intro h a ha b hb;cases hx:KW (JU a) (JU b)with
  | false=>exact .inl rfl
  | true=>exact .inr (h a ha b hb hx)
theorem QPq {l m:List (List (Rat×Rat))}(k:Nat)(h:freeB l m=true):freeB l (m.take k)=true:=
 QCm.2 fun a ha b hb=>QCm.1 h a ha b (List.mem_of_mem_take hb)
end Go.Proofs
namespace Go.Proofs
open Go Go.Eng
def QYe (k n:Nat):Rat:=((k:Int):Rat)/((n:Int):Rat)
def YB (p q:List Rat)(n k:Nat):List Rat:=Wt (QYe k n) p q
def Xc (p q:List Rat)(n k:Nat):List Sp:=VK (YB p q n k) (YB p q n (k+1))
def Xj (p q:List Rat)(n:Nat):List (List Sp):=(List.range n).map (Xc p q n)
def Qd4 (b:Sp×Sp):X5:=⟨b.1.lo,b.2.lo,b.1.hi,b.2.hi⟩
def YF (a:QN)(row:List Sp):List (List (Rat×Rat)):=(XD (Xn (YZ a) a.links row) a.links).map fun b=>Vw (Qd4 b)
def H5 (a:QN)(rows:List (List Sp))(ws:List (List (Rat×Rat))):Bool:=rows.all fun row=>freeB (YF a row) ws
theorem QTw {a:QN}{rows:List (List Sp)}{ws:List (List (Rat×Rat))}(k:Nat)(h:H5 a rows ws=true):H5 a rows (ws.take k)=true:=
 Zb.2 fun row hr=>QPq k (Zb.1 h row hr)
theorem QYf {a:QN}{p q:List Rat}{n:Nat}{ws:List (List (Rat×Rat))}:H5 a (Xj p q n) ws=true↔ ∀k,k<n->freeB (YF a (Xc p q n k)) ws=true:=by
 unfold H5 Xj;rw[List.all_map,Zb];exact⟨fun h k hk=>h k (List.mem_range.2 hk),fun h k hk=>h k (List.mem_range.1 hk)⟩
theorem QTx {n:Nat}(hn:0<n):((n:Int):Rat)≠0:=fun e=>by
 have:((n:Int):Rat)=((0:Int):Rat):=e;have:=Rat.intCast_inj.1 this;omega
theorem QYg {p q s1 s s2:Rat}(h1:s1<=s)(h2:s<=s2):XF (p+s1*(q-p)) (p+s2*(q-p))<=p+s*(q-p)/\p+s*(q-p)<=XJ (p+s1*(q-p)) (p+s2*(q-p)):=by
 have mx: ∀(m a c:Rat),0<=m->a<=c->a*m<=c*m:=fun m a c hm hac=>Rat.mul_le_mul_of_nonneg_right hac hm;rcases Rat.le_total (a:=p) (b:=q)with k | k
 ·have a1:=mx (q-p) s1 s (by grind) h1;have a2:=mx (q-p) s s2 (by grind) h2;exact⟨Rat.le_trans (Y9 _ _) (by grind),Rat.le_trans (b:=p+s2*(q-p)) (by grind) (WG _ _)⟩
 ·have a1:=mx (p-q) s1 s (by grind) h1;have a2:=mx (p-q) s s2 (by grind) h2;exact⟨Rat.le_trans (WE _ _) (by grind),Rat.le_trans (b:=p+s1*(q-p)) (by grind) (JA _ _)⟩
theorem QPr {p q:List Rat}(h:p.length=q.length){s1 s s2:Rat}(h1:s1<=s)(h2:s<=s2):HasQ (VK (Wt s1 p q) (Wt s2 p q)) (Wt s p q):=by
 refine⟨by simp[VK,Wt],fun i t x ht hx=> ?_⟩;have hi:=(List.getElem?_eq_some_iff.1 hx).1;rw[QHB h]at hi;obtain⟨a,ha⟩: ∃a,p[i]? =some a:=⟨_,Za hi⟩
 obtain⟨b,hb⟩: ∃b,q[i]? =some b:=⟨_,Za (by omega)⟩
 rw[QHC ha hb]at hx;cases hx
 simp only[VK,List.getElem?_zipWith,QHC ha hb]at ht;cases ht
 exact QYg h1 h2
theorem QNg {a b n m:Nat}(hn:0<n)(hm:0<m)(h:a*m<=b*n):QYe a n<=QYe b m:=by
 have hn0:(0:Rat)<((n:Int):Rat):=by
  have:((0:Int):Rat)<((n:Int):Rat):=Rat.intCast_lt_intCast.2 (by omega);exact this
 have hm0:(0:Rat)<((m:Int):Rat):=by
  have:((0:Int):Rat)<((m:Int):Rat):=Rat.intCast_lt_intCast.2 (by omega);exact this
 unfold QYe;have h':((a:Int):Rat)*((m:Int):Rat)<=((b:Int):Rat)*((n:Int):Rat):=by
  rw[<-Rat.intCast_mul,<-Rat.intCast_mul];exact Rat.intCast_le_intCast.2 (by exact_mod_cast h)
 have e1:((a:Int):Rat)/((n:Int):Rat)*((n:Int):Rat)=((a:Int):Rat):=Rat.div_mul_cancel (QTx hn);have e2:((b:Int):Rat)/((m:Int):Rat)*((m:Int):Rat)=((b:Int):Rat):=Rat.div_mul_cancel (QTx hm);generalize ((a:Int):Rat)/((n:Int):Rat)=x at*;generalize ((b:Int):Rat)/((m:Int):Rat)=y at*;rw[<-e1,<-e2]at h';have hp:0<((n:Int):Rat)*((m:Int):Rat):=Rat.mul_pos hn0 hm0;refine Rat.le_of_mul_le_mul_right (c:=((n:Int):Rat)*((m:Int):Rat)) ?_ hp
 grind
theorem QPs {l:List (Rat×Rat)}(h:QZ l):(∃p∈l,∃q∈l,p.1<q.1)/\ ∃p∈l,∃q∈l,p.2<q.2:=by
  have h1:=h.lo;obtain⟨a,ha⟩: ∃a,l[0]? =some a:=⟨_,Za (by omega)⟩
  obtain⟨b,hb⟩: ∃b,l[(0+1) % l.length]? =some b:=⟨_,Za (Nat.mod_lt _ (by omega))⟩
  obtain⟨c,hc⟩: ∃c,l[(0+2) % l.length]? =some c:=⟨_,Za (Nat.mod_lt _ (by omega))⟩
  have hl:=h.left 0 2 a b c (Nat.le_refl _) (by omega) ha hb hc;have ma:=Zc ha;have mb:=Zc hb;have mc:=Zc hc;unfold lft at hl;have tri: ∀x y:Rat,x<y∨x=y∨y<x:=fun x y=>by grind
  constructor
  · rcases tri a.1 b.1 with k | k | k
    · exact⟨a,ma,b,mb,k⟩
    · rcases tri a.1 c.1 with k2 | k2 | k2
      · exact⟨a,ma,c,mc,k2⟩
      · exfalso;rw[<-k,<-k2]at hl;have e:(a.1-a.1)*(c.2-a.2)-(b.2-a.2)*(a.1-a.1)=0:=by grind
        rw[e]at hl;exact absurd hl Rat.lt_irrefl
      · exact⟨c,mc,a,ma,k2⟩
    · exact⟨b,mb,a,ma,k⟩
  · rcases tri a.2 b.2 with k | k | k
    · exact⟨a,ma,b,mb,k⟩
    · rcases tri a.2 c.2 with k2 | k2 | k2
      · exact⟨a,ma,c,mc,k2⟩
      · exfalso;rw[<-k,<-k2]at hl;have e:(b.1-a.1)*(a.2-a.2)-(a.2-a.2)*(c.1-a.1)=0:=by grind
        rw[e]at hl;exact absurd hl Rat.lt_irrefl
      · exact⟨c,mc,a,ma,k2⟩
    · exact⟨b,mb,a,ma,k⟩
theorem QPt {b:X5}(hx:b.x1<b.x2)(hy:b.y1<b.y2):QZ (Vw b):=by
  have hp:0<(b.x2-b.x1)*(b.y2-b.y1):=Rat.mul_pos (by grind) (by grind);refine⟨by simp[Vw],by simp[Vw],fun i k p q r h2 hk hp' hq hr=> ?_⟩;have hi:i<4:=by have:=(List.getElem?_eq_some_iff.1 hp').1;simpa [Vw]using this
  have hk:k<4:=by simpa [Vw]using hk
  have hk2:k=2∨k=3:=by omega
  have hi2:i=0∨i=1∨i=2∨i=3:=by omega
  rcases hi2 with rfl | rfl | rfl | rfl<;>rcases hk2 with rfl | rfl<;>(simp[Vw]at hp' hq hr;subst hp' hq hr;unfold lft;simp only;grind)
theorem QPu {l:LoV}{f:FrV}{L:Qg}(h:l.has f)(hp:QZ L.shape):(Jr l L).1.lo<(Jr l L).1.hi/\(Jr l L).2.lo<(Jr l L).2.hi:=by
 obtain⟨⟨p,hpm,q,hqm,h1⟩,⟨u,hum,v,hvm,h2⟩⟩:=QPs (QX4 f hp);obtain⟨p0,hp0,rfl⟩:=Zd.1 hpm;obtain⟨q0,hq0,rfl⟩:=Zd.1 hqm;obtain⟨u0,hu0,rfl⟩:=Zd.1 hum;obtain⟨v0,hv0,rfl⟩:=Zd.1 hvm;have a1:=(U0 h hp0).1.1;have a2:=(U0 h hq0).1.2;have a3:=(U0 h hu0).2.1;have a4:=(U0 h hv0).2.2;have h1:QAL f p0.1 p0.2<QAL f q0.1 q0.2:=h1;have h2:QAM f u0.1 u0.2<QAM f v0.1 v0.2:=h2;exact⟨by grind,by grind⟩
theorem QNh {p q:List Rat}(h:p.length=q.length)(n k:Nat):(YB p q n k).length=p.length:=QHB h
theorem QYh {p q:List Rat}(h:p.length=q.length){n k m x:Nat}(hn:0<n)(hm:0<m)(h1:k*m<=x*n)(h2:x*n<=(k+1)*m):HasQ (Xc p q n k) (YB p q m x):=
 QPr h (QNg hn hm h1) (QNg hm hn h2)
end Go.Proofs
