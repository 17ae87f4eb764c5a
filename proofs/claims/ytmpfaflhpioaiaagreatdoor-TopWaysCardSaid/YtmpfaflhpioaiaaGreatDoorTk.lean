
open _root_ renaming List → A, Rat → C, if_pos → D
open Option renaming some → B
open List renaming length → E, getElem?_eq_getElem → Za, getElem?_eq_none → Zb

namespace Go.Proofs
structure XF where
  tick:Int
  n:Nat
  q:A C
def mix (s:C)(p q:A C):A C:=A.zipWith (fun x y=>x+s*(y-x)) p q
def WQ (a b:XF)(t:Int):C:=((t:C)-(a.tick:C))/((b.tick:C)-(a.tick:C))
def XV (a b:XF)(t:Int):A C:=mix (WQ a b t) a.q b.q
def Jo:XF->A XF->Int->A C×Nat
 | a,[],_=>(a.q,a.n+65)
 | a,b::ks,t=>if b.tick<=t then Jo b ks t else(XV a b t,2*a.n+b.n+260)
def atR:A XF->Int->A C×Nat
 | [],_=>([],0)
 | a::ks,t=>if t<=a.tick then(a.q,a.n+65)else Jo a ks t
structure YG (ks:A XF)(m N:Nat):Prop where
 len: ∀k∈ks,E k.q=m
 n: ∀k∈ks,k.n<=N
 tick: ∀k∈ks,0<=k.tick/\k.tick<=2000
 inc: ∀(i:Nat) (a b:XF),ks[i]? =B a->ks[i+1]? =B b->a.tick<b.tick
variable{p q:A C}
theorem ca {s:C}(h:p.length=E q):(mix s p q).length=E p:=by simp[mix,h]
theorem mh {s:C}{i:Nat}{x y:C}(h:p[i]? =B x)(c:q[i]? =B y):(mix s p q)[i]? =B (x+s*(y-x)):=by
 simp[mix,A.getElem?_zipWith,h,c]
theorem QIl(h:p.length=E q):mix 0 p q=p:=by
 apply A.ext_getElem?
 intro i;by_cases c:i<p.length
 ·obtain⟨x,hx⟩: ∃x,p[i]? =B x:=⟨_,Za c⟩
  obtain⟨y,hy⟩: ∃y,q[i]? =B y:=⟨_,Za (by omega)⟩
  rw[mh hx hy,hx];congr 1;grind
 ·rw[Zb (by rw[ca h];omega),Zb (by omega)]
theorem QNm(h:p.length=E q):mix 1 p q=q:=by
 apply A.ext_getElem?
 intro i;by_cases c:i<p.length
 ·obtain⟨x,hx⟩: ∃x,p[i]? =B x:=⟨_,Za c⟩
  obtain⟨y,hy⟩: ∃y,q[i]? =B y:=⟨_,Za (by omega)⟩
  rw[mh hx hy,hy];congr 1;grind
 ·rw[Zb (by rw[ca h];omega),Zb (by omega)]
theorem QS8 (a b:XF):WQ a b a.tick=0:=by unfold WQ;grind
variable{a b:XF}
theorem xO(h:a.tick<b.tick):(a.tick:C)<(b.tick:C):=by exact_mod_cast h
theorem QS9(h:a.tick<b.tick):WQ a b b.tick=1:=by
 have:=xO h;unfold WQ;grind
variable{ks:A XF}{N m:Nat}
theorem YG.tail(h:YG (a::ks) m N):YG ks m N:=
 ⟨fun k c=>h.len k (by simp[c]),fun k c=>h.n k (by simp[c]),fun k c=>h.tick k (by simp[c]),fun i x y d e=>h.inc (i+1) x y (by simpa using d) (by simpa using e)⟩
theorem YG.head(h:YG (a::b::ks) m N):a.tick<b.tick:=h.inc 0 a b rfl rfl
theorem YG.mono(h:YG ks m N): ∀{j i:Nat} {a b:XF},i<=j->ks[i]? =B a->ks[j]? =B b->a.tick<=b.tick:=by
  intro j;induction j with
  | zero => intro i a b f d c; have : i = 0 := by omega
            subst this;rw[d]at c;cases c;exact Int.le_refl _
  | succ j l=>
    intro i a b f d c;by_cases e:i=j+1
    · subst e;rw[d]at c;cases c;exact Int.le_refl _
    · have k:=(A.getElem?_eq_some_iff.1 c).1;have g:ks[j]? =B ks[j]:=Za (by omega)
      have n:=l (by omega) d g;have o:=h.inc j _ b g c;omega
theorem YG.head_len(h:YG (a::b::ks) m N):a.q.length=E b.q:=by rw[h.len a (by simp),h.len b (by simp)]
theorem wY: ∀{ks:A XF} {a:XF},YG (a::ks) m N->(Jo a ks a.tick).1=a.q:=by
 intro ks a h;cases ks with
 | nil=>rfl
 | cons b ks=>
  unfold Jo;have:=h.head;rw[if_neg (by omega)];show XV a b a.tick=a.q
  unfold XV;rw[QS8,QIl h.head_len]
theorem QQN(h:a.tick<b.tick)(c:a.q.length=E b.q):XV a b b.tick=b.q:=by
 unfold XV;rw[QS9 h,QNm c]
theorem QTA: ∀{ks:A XF} {a:XF} {t:Int},YG (a::ks) m N->a.tick<=t->
    (∃(i:Nat) (x y:XF),(a::ks)[i]? =B x/\(a::ks)[i+1]? =B y/\x.tick<=t/\t<y.tick/\(Jo a ks t).1=XV x y t/\(Jo a ks (t+1)).1=XV x y (t+1))\/
    (∃z:XF,(a::ks)[E ks]? =B z/\z.tick<=t/\(Jo a ks t).1=z.q/\(Jo a ks (t+1)).1=z.q):=by
  intro ks;induction ks with
  | nil=>intro a t _ j;exact .inr ⟨a,rfl,j,rfl,rfl⟩
  | cons b ks o=>
    intro a t h j;by_cases g:b.tick<=t
    · have k:Jo a (b::ks) t=Jo b ks t:=by rw[Jo,D g]
      have l:Jo a (b::ks) (t+1)=Jo b ks (t+1):=by rw[Jo,D (show b.tick<=t+1 by omega)]
      rw[k,l];rcases o h.tail g with⟨i,x,y,d,f,n⟩ | ⟨z,d,f⟩
      · exact .inl ⟨i+1,x,y,by simpa using d,by simpa using f,n⟩
      · exact .inr ⟨z,by simpa using d,f⟩
    · refine .inl ⟨0,a,b,rfl,rfl,j,by omega,by rw[Jo,if_neg g],?_⟩;by_cases c:b.tick<=t+1
      · have e:t+1=b.tick:=by omega
        rw[Jo,D c,e,wY h.tail,QQN h.head h.head_len]
      · rw[Jo,if_neg c]
theorem QIn(h:YG ks m N)(c:ks≠[])(t:Int):
  (∃a,ks[0]? =B a/\t<a.tick/\(atR ks t).1=a.q/\(atR ks (t+1)).1=a.q)\/
  (∃(i:Nat) (x y:XF),ks[i]? =B x/\ks[i+1]? =B y/\x.tick<=t/\t<y.tick/\(atR ks t).1=XV x y t/\(atR ks (t+1)).1=XV x y (t+1))\/
  (∃z:XF,ks[E ks-1]? =B z/\z.tick<=t/\(atR ks t).1=z.q/\(atR ks (t+1)).1=z.q):=by
 match ks,c,h with
 | a::ks,_,h=>
  by_cases g:t<a.tick
  ·exact .inl ⟨a,rfl,g,by rw[atR,D (show t<=a.tick by omega)],by rw[atR,D (show t+1<=a.tick by omega)]⟩
  ·have d:(atR (a::ks) t).1=(Jo a ks t).1:=by
    by_cases e:t<=a.tick
    ·have:t=a.tick:=by omega
     subst this;rw[atR,D e,wY h]
    ·rw[atR,if_neg e]
   have f:(atR (a::ks) (t+1)).1=(Jo a ks (t+1)).1:=by rw[atR,if_neg (show ¬t+1<=a.tick by omega)]
   rw[d,f];rcases QTA h (show a.tick<=t by omega)with h | ⟨z,h1,h2⟩
   ·exact .inr (.inl h)
   ·exact .inr (.inr ⟨z,by simpa using h1,h2⟩)
theorem QTB: ∀{ks:A XF} {a:XF} {t:Int},YG (a::ks) m N->(Jo a ks t).2<=3*N+260/\(Jo a ks t).1.length=m:=by
 intro ks;induction ks with
 | nil=>intro a t h;have:=h.n a (by simp);exact⟨by simp only[Jo];omega,h.len a (by simp)⟩
 | cons b ks i=>
  intro a t h;rw[Jo];split
  ·exact i h.tail
  ·have c:=h.n a (by simp);have d:=h.n b (by simp);exact⟨by simp only;omega,by simp only[XV];rw[ca h.head_len];exact h.len a (by simp)⟩
theorem QTC{t:Int}(h:YG ks m N)(c:ks≠[]):(atR ks t).2<=3*N+260/\(atR ks t).1.length=m:=by
 match ks,c,h with
 | a::ks,_,h=>
  rw[atR];split
  ·have:=h.n a (by simp);exact⟨by simp only;omega,h.len a (by simp)⟩
  ·exact QTB h
end Go.Proofs
