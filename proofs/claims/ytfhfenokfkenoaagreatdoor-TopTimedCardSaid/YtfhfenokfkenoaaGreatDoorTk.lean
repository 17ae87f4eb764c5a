
open List renaming getElem?_eq_getElem → Za, getElem?_eq_none → Zb

namespace Go.Proofs
structure Qh where
  tick:Int
  n:Nat
  q:List Rat
def mix (s:Rat)(p q:List Rat):List Rat:=List.zipWith (fun x y=>x+s*(y-x)) p q
def XQ (a b:Qh)(t:Int):Rat:=((t:Rat)-(a.tick:Rat))/((b.tick:Rat)-(a.tick:Rat))
def Qd (a b:Qh)(t:Int):List Rat:=mix (XQ a b t) a.q b.q
def Xr:Qh->List Qh->Int->List Rat×Nat
 | a,[],_=>(a.q,a.n+65)
 | a,b::ks,t=>if b.tick<=t then Xr b ks t else(Qd a b t,2*a.n+b.n+260)
def atR:List Qh->Int->List Rat×Nat
 | [],_=>([],0)
 | a::ks,t=>if t<=a.tick then(a.q,a.n+65)else Xr a ks t
structure Q1 (ks:List Qh)(m N:Nat):Prop where
 len: ∀k∈ks,k.q.length=m
 n: ∀k∈ks,k.n<=N
 tick: ∀k∈ks,0<=k.tick/\k.tick<=2000
 inc: ∀(i:Nat) (a b:Qh),ks[i]? =some a->ks[i+1]? =some b->a.tick<b.tick
theorem W6 {s:Rat}{p q:List Rat}(h:p.length=q.length):(mix s p q).length=p.length:=by simp[mix,h]
theorem VI {s:Rat}{p q:List Rat}{i:Nat}{x y:Rat}(hx:p[i]? =some x)(hy:q[i]? =some y):(mix s p q)[i]? =some (x+s*(y-x)):=by
 simp[mix,List.getElem?_zipWith,hx,hy]
theorem QLz {p q:List Rat}(h:p.length=q.length):mix 0 p q=p:=by
 apply List.ext_getElem?
 intro i;by_cases hi:i<p.length
 ·obtain⟨x,hx⟩: ∃x,p[i]? =some x:=⟨_,Za hi⟩
  obtain⟨y,hy⟩: ∃y,q[i]? =some y:=⟨_,Za (by omega)⟩
  rw[VI hx hy,hx];congr 1;grind
 ·rw[Zb (by rw[W6 h];omega),Zb (by omega)]
theorem QPw {p q:List Rat}(h:p.length=q.length):mix 1 p q=q:=by
 apply List.ext_getElem?
 intro i;by_cases hi:i<p.length
 ·obtain⟨x,hx⟩: ∃x,p[i]? =some x:=⟨_,Za hi⟩
  obtain⟨y,hy⟩: ∃y,q[i]? =some y:=⟨_,Za (by omega)⟩
  rw[VI hx hy,hy];congr 1;grind
 ·rw[Zb (by rw[W6 h];omega),Zb (by omega)]
theorem QL0 (a b:Qh):XQ a b a.tick=0:=by unfold XQ;grind
theorem W7 {a b:Qh}(h:a.tick<b.tick):(a.tick:Rat)<(b.tick:Rat):=by exact_mod_cast h
theorem QL1 {a b:Qh}(h:a.tick<b.tick):XQ a b b.tick=1:=by
 have:=W7 h;unfold XQ;grind
theorem HK {a b:Qh}{t:Int}(h:a.tick<b.tick)(h1:a.tick<=t)(h2:t<=b.tick):0<=XQ a b t/\XQ a b t<=1:=by
 have h0:=W7 h;have h3:(a.tick:Rat)<=(t:Rat):=by exact_mod_cast h1
 have h4:(t:Rat)<=(b.tick:Rat):=by exact_mod_cast h2
 unfold XQ;generalize (a.tick:Rat)=x at*;generalize (b.tick:Rat)=y at*;generalize (t:Rat)=z at*;have hp:0<y-x:=by grind
 have hi:0<(y-x)⁻¹:=Rat.inv_pos.2 hp;rw[Rat.div_def];constructor
 ·exact Rat.mul_nonneg (by grind) (Rat.le_of_lt hi)
 ·have:=Rat.mul_le_mul_of_nonneg_right (show z-x<=y-x by grind) (Rat.le_of_lt hi);have e:(y-x)*(y-x)⁻¹=1:=by grind
  grind
theorem Q1.tail {a:Qh}{ks:List Qh}{m N:Nat}(h:Q1 (a::ks) m N):Q1 ks m N:=
 ⟨fun k hk=>h.len k (by simp[hk]),fun k hk=>h.n k (by simp[hk]),fun k hk=>h.tick k (by simp[hk]),fun i x y hx hy=>h.inc (i+1) x y (by simpa using hx) (by simpa using hy)⟩
theorem Q1.head {a b:Qh}{ks:List Qh}{m N:Nat}(h:Q1 (a::b::ks) m N):a.tick<b.tick:=h.inc 0 a b rfl rfl
theorem Q1.mono {ks:List Qh}{m N:Nat}(h:Q1 ks m N): ∀{j i:Nat} {a b:Qh},i<=j->ks[i]? =some a->ks[j]? =some b->a.tick<=b.tick:=by
  intro j;induction j with
  | zero => intro i a b hij ha hb; have : i = 0 := by omega
            subst this;rw[ha]at hb;cases hb;exact Int.le_refl _
  | succ j ih=>
    intro i a b hij ha hb;by_cases e:i=j+1
    · subst e;rw[ha]at hb;cases hb;exact Int.le_refl _
    · have hlt:=(List.getElem?_eq_some_iff.1 hb).1;have hc:ks[j]? =some ks[j]:=Za (by omega)
      have h1:=ih (by omega) ha hc;have h2:=h.inc j _ b hc hb;omega
theorem Q1.head_len {a b:Qh}{ks:List Qh}{m N:Nat}(h:Q1 (a::b::ks) m N):a.q.length=b.q.length:=by rw[h.len a (by simp),h.len b (by simp)]
theorem Gx {m N:Nat}: ∀{ks:List Qh} {a:Qh},Q1 (a::ks) m N->(Xr a ks a.tick).1=a.q:=by
 intro ks a h;cases ks with
 | nil=>rfl
 | cons b ks=>
  unfold Xr;have:=h.head;rw[if_neg (by omega)];show Qd a b a.tick=a.q
  unfold Qd;rw[QL0,QLz h.head_len]
theorem QJ1 {a b:Qh}(h:a.tick<b.tick)(hl:a.q.length=b.q.length):Qd a b b.tick=b.q:=by
 unfold Qd;rw[QL1 h,QPw hl]
theorem QL2 {m N:Nat}: ∀{ks:List Qh} {a:Qh} {t:Int},Q1 (a::ks) m N->a.tick<=t->
    (∃(i:Nat) (x y:Qh),(a::ks)[i]? =some x/\(a::ks)[i+1]? =some y/\x.tick<=t/\t<y.tick/\(Xr a ks t).1=Qd x y t/\(Xr a ks (t+1)).1=Qd x y (t+1))∨
    (∃z:Qh,(a::ks)[ks.length]? =some z/\z.tick<=t/\(Xr a ks t).1=z.q/\(Xr a ks (t+1)).1=z.q):=by
  intro ks;induction ks with
  | nil=>intro a t _ ht;exact .inr ⟨a,rfl,ht,rfl,rfl⟩
  | cons b ks ih=>
    intro a t h ht;by_cases hb:b.tick<=t
    · have e1:Xr a (b::ks) t=Xr b ks t:=by rw[Xr,if_pos hb]
      have e2:Xr a (b::ks) (t+1)=Xr b ks (t+1):=by rw[Xr,if_pos (show b.tick<=t+1 by omega)]
      rw[e1,e2];rcases ih h.tail hb with⟨i,x,y,h1,h2,h3⟩ | ⟨z,h1,h2⟩
      · exact .inl ⟨i+1,x,y,by simpa using h1,by simpa using h2,h3⟩
      · exact .inr ⟨z,by simpa using h1,h2⟩
    · refine .inl ⟨0,a,b,rfl,rfl,ht,by omega,by rw[Xr,if_neg hb],?_⟩;by_cases hb':b.tick<=t+1
      · have e:t+1=b.tick:=by omega
        rw[Xr,if_pos hb',e,Gx h.tail,QJ1 h.head h.head_len]
      · rw[Xr,if_neg hb']
theorem V7 {m N:Nat}{ks:List Qh}(h:Q1 ks m N)(hne:ks≠[])(t:Int):
  (∃a,ks[0]? =some a/\t<a.tick/\(atR ks t).1=a.q/\(atR ks (t+1)).1=a.q)∨
  (∃(i:Nat) (x y:Qh),ks[i]? =some x/\ks[i+1]? =some y/\x.tick<=t/\t<y.tick/\(atR ks t).1=Qd x y t/\(atR ks (t+1)).1=Qd x y (t+1))∨
  (∃z:Qh,ks[ks.length-1]? =some z/\z.tick<=t/\(atR ks t).1=z.q/\(atR ks (t+1)).1=z.q):=by
 match ks,hne,h with
 | a::ks,_,h=>
  by_cases ha:t<a.tick
  ·exact .inl ⟨a,rfl,ha,by rw[atR,if_pos (show t<=a.tick by omega)],by rw[atR,if_pos (show t+1<=a.tick by omega)]⟩
  ·have e1:(atR (a::ks) t).1=(Xr a ks t).1:=by
    by_cases e:t<=a.tick
    ·have:t=a.tick:=by omega
     subst this;rw[atR,if_pos e,Gx h]
    ·rw[atR,if_neg e]
   have e2:(atR (a::ks) (t+1)).1=(Xr a ks (t+1)).1:=by rw[atR,if_neg (show ¬t+1<=a.tick by omega)]
   rw[e1,e2];rcases QL2 h (show a.tick<=t by omega)with h | ⟨z,h1,h2⟩
   ·exact .inr (.inl h)
   ·exact .inr (.inr ⟨z,by simpa using h1,h2⟩)
theorem QL3 {m N:Nat}: ∀{ks:List Qh} {a:Qh} {t:Int},Q1 (a::ks) m N->(Xr a ks t).2<=3*N+260/\(Xr a ks t).1.length=m:=by
 intro ks;induction ks with
 | nil=>intro a t h;have:=h.n a (by simp);exact⟨by simp only[Xr];omega,h.len a (by simp)⟩
 | cons b ks ih=>
  intro a t h;rw[Xr];split
  ·exact ih h.tail
  ·have h1:=h.n a (by simp);have h2:=h.n b (by simp);exact⟨by simp only;omega,by simp only[Qd];rw[W6 h.head_len];exact h.len a (by simp)⟩
theorem Ks {m N:Nat}{ks:List Qh}{t:Int}(h:Q1 ks m N)(hne:ks≠[]):(atR ks t).2<=3*N+260/\(atR ks t).1.length=m:=by
 match ks,hne,h with
 | a::ks,_,h=>
  rw[atR];split
  ·have:=h.n a (by simp);exact⟨by simp only;omega,h.len a (by simp)⟩
  ·exact QL3 h
end Go.Proofs
