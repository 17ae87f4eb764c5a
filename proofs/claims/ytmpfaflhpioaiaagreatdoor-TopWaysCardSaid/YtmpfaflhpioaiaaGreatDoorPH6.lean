/- path: PathFree. -/
import Derived.Test.YtmpfaflhpioaiaaGreatDoorPH5
open _root_ renaming List → A
open List renaming length → B, getElem?_eq_getElem → Za, getD_eq_getElem?_getD → Zb
namespace Go.Proofs
open Go Go.Eng
theorem QXf (s:Rat)(p:A Rat):KP s p p=p:=by
 unfold KP;rw[A.zipWith_self];have:(fun a:Rat=>a+s*(a-a))=id:=by
  funext a;show a+s*(a-a)=a
  grind
 rw[this,A.map_id]
variable{p q:A Rat}
theorem QXg(h:p.length=B q):KP 0 p q=p:=by
 apply A.ext_getElem?
 intro i;by_cases d:i<p.length
 ·have b:p[i]? =some p[i]:=Za d
  have c:q[i]? =some (q[i]'o3):=Za o3
  rw[dN b c,b];congr 1;grind
 ·rw[A.getElem?_eq_none (by rw[c9 h];omega),A.getElem?_eq_none o3]
variable{a:ArmV}
theorem QcQ(r:QJ a){x:A Rat}(u:p.length=B a.za)(C:x.length=B a.za){ws:A (A (Rat×Rat))}(v: ∀w∈ws,QY w)(h:goV a ws 2 p x=true):goV a ws 2 p p=true:=by
  have b:p.length=B x:=o3
  have o:YA p x 2 0=p:=by
    unfold YA;rw[(j5:TW 0 2=0)];exact QXg b
  have f: ∀k,YA p p 2 k=p:=fun k=>QXf _ _;have d:HasQ (X0 p x 2 0) p:=by
    have:=cb b (n:=2) (k:=0) (m:=2) (x:=0) o3 o3 o3 o3;rw[o]at this;exact this
  unfold goV;refine eM.2 fun k z=> ?_
  have l:HasQ (X0 p p 2 k) p:=by
    have:=cb (p:=p) (q:=p) rfl (n:=2) (k:=k) (m:=2) (x:=k) o3 o3 (Nat.le_refl _) (Nat.mul_le_mul_right _ o3);rw[f]at this;exact this
  refine QMa r (row:=X0 p x 2 0) l u (by rw[d.1,l.1]) (fun i t y c g=>QRD d d i t y ?_ g) (fun w j=> ?_) (eM.1 h 0 o3)
  · have c:(Kz (YA p p 2 k) (YA p p 2 (k+1)))[i]? =some t:=c
    rw[f,f]at c;exact c
  · intro e;have:=(v w j).lo;rw[e]at this;simp at this
variable{s:Int}{out:A (A Int)}
theorem nQ{j:Nat}{l:A Int}(h:out[j]? =some l):atW (p::out.map (XQ a s)++[q]) (j+1)=XQ a s l:=by
 have b:=(A.getElem?_eq_some_iff.1 h).1;unfold atW;rw[A.cons_append,Zb,A.getElem?_cons_succ,A.getElem?_append_left ((j9 b)),A.getElem?_map,h];rfl
theorem Qhr:atW (p::out.map (XQ a s)++[q]) (B out+1)=q:=by
 unfold atW;rw[A.cons_append,Zb,A.getElem?_cons_succ,A.getElem?_append_right o6];simp
theorem QXh(f:QJ a){ws:A (A (Rat×Rat))}(o: ∀w∈ws,QY w)(k:p.length=B a.za)(h:FdY a ws s p q out):Z1 (goV a ws 2) (p::out.map (XQ a s)++[q])=true:=by
  have r:=h.len;have vl: ∀l∈out,(XQ a s l).length=B a.za:=fun l g=>by simp[XQ,(h.zn.ok l g).1]
  have first:=h.zn.first
  have b:=h.zn.last;have d:goV a ws 2 p (XQ a s (Q8 a s p))=true:=h.b;unfold Z1;rw[A.all_eq_true];intro i c;rw[A.mem_range]at c;have c:i<B out+2:=(j9 c)
  match i with
  | 0=>exact QcQ f k (vl _ (A.mem_of_getElem? first)) o d
  | 1=>rw[nQ first];exact d
  | j+2=>
    rw[Nat.add_sub_cancel (n:=j+1) (m:=1)];obtain⟨x,hx⟩: ∃x,out[j]? =some x:=⟨_,Za o3⟩
    rw[nQ hx];by_cases e:j+1<out.length
    · obtain⟨y,hy⟩: ∃y,out[j+1]? =some y:=⟨_,Za e⟩
      rw[nQ hy];exact(h.zn.ch j x y hx hy).2.2
    · have e:out.length=j+1:=o3
      rw[(o3:j+2=B out+1),Qhr];rw[e,Nat.add_sub_cancel,hx]at b;cases b
      exact h.e
theorem QXi(h:1<=B a.za/\a.za.length<=2)(d:1<=s/\s<=3):NS a s<=16:=by
 unfold NS;have b:a.za.length=1\/a.za.length=2:=o3
 have c:s=1\/s=2\/s=3:=o3
 rcases b with e | e<;>rw[e]<;>rcases c with rfl | rfl | rfl<;>decide
end Go.Proofs
