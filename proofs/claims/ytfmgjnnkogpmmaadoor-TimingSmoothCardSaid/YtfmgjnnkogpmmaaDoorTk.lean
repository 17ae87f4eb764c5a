
open List renaming getElem?_eq_getElem → Za, getElem?_eq_none → Zb

namespace Go.Proofs
structure Qg where
  tick:Int
  n:Nat
  q:List Rat
def mix (s:Rat)(p q:List Rat):List Rat:=List.zipWith (fun x y=>x+s*(y-x)) p q
def WA (a b:Qg)(t:Int):Rat:=((t:Rat)-(a.tick:Rat))/((b.tick:Rat)-(a.tick:Rat))
def XA (a b:Qg)(t:Int):List Rat:=mix (WA a b t) a.q b.q
def YS:Qg->List Qg->Int->List Rat×Nat
 | a,[],_=>(a.q,a.n+65)
 | a,b::ks,t=>if b.tick<=t then YS b ks t else(XA a b t,2*a.n+b.n+260)
def atR:List Qg->Int->List Rat×Nat
 | [],_=>([],0)
 | a::ks,t=>if t<=a.tick then(a.q,a.n+65)else YS a ks t
structure XD (ks:List Qg)(m N:Nat):Prop where
 len: ∀k∈ks,k.q.length=m
 n: ∀k∈ks,k.n<=N
 tick: ∀k∈ks,0<=k.tick/\k.tick<=2000
 inc: ∀(i:Nat) (a b:Qg),ks[i]? =some a->ks[i+1]? =some b->a.tick<b.tick
theorem U6 {s:Rat}{p q:List Rat}(h:p.length=q.length):(mix s p q).length=p.length:=by simp[mix,h]
theorem QBM {s:Rat}{p q:List Rat}{i:Nat}{x y:Rat}(hx:p[i]? =some x)(hy:q[i]? =some y):(mix s p q)[i]? =some (x+s*(y-x)):=by
 simp[mix,List.getElem?_zipWith,hx,hy]
theorem QJK {p q:List Rat}(h:p.length=q.length):mix 0 p q=p:=by
 apply List.ext_getElem?
 intro i;by_cases hi:i<p.length
 ·obtain⟨x,hx⟩: ∃x,p[i]? =some x:=⟨_,Za hi⟩
  obtain⟨y,hy⟩: ∃y,q[i]? =some y:=⟨_,Za (by omega)⟩
  rw[QBM hx hy,hx];congr 1;grind
 ·rw[Zb (by rw[U6 h];omega),Zb (by omega)]
theorem QL6 {p q:List Rat}(h:p.length=q.length):mix 1 p q=q:=by
 apply List.ext_getElem?
 intro i;by_cases hi:i<p.length
 ·obtain⟨x,hx⟩: ∃x,p[i]? =some x:=⟨_,Za hi⟩
  obtain⟨y,hy⟩: ∃y,q[i]? =some y:=⟨_,Za (by omega)⟩
  rw[QBM hx hy,hy];congr 1;grind
 ·rw[Zb (by rw[U6 h];omega),Zb (by omega)]
theorem QJL (a b:Qg):WA a b a.tick=0:=by unfold WA;grind
theorem QF1 {a b:Qg}(h:a.tick<b.tick):(a.tick:Rat)<(b.tick:Rat):=by exact_mod_cast h
theorem QJM {a b:Qg}(h:a.tick<b.tick):WA a b b.tick=1:=by
 have:=QF1 h;unfold WA;grind
theorem XD.tail {a:Qg}{ks:List Qg}{m N:Nat}(h:XD (a::ks) m N):XD ks m N:=
 ⟨fun k hk=>h.len k (by simp[hk]),fun k hk=>h.n k (by simp[hk]),fun k hk=>h.tick k (by simp[hk]),fun i x y hx hy=>h.inc (i+1) x y (by simpa using hx) (by simpa using hy)⟩
theorem XD.head {a b:Qg}{ks:List Qg}{m N:Nat}(h:XD (a::b::ks) m N):a.tick<b.tick:=h.inc 0 a b rfl rfl
theorem XD.mono {ks:List Qg}{m N:Nat}(h:XD ks m N): ∀{j i:Nat} {a b:Qg},i<=j->ks[i]? =some a->ks[j]? =some b->a.tick<=b.tick:=by
  intro j;induction j with
  | zero => intro i a b hij ha hb; have : i = 0 := by omega
            subst this;rw[ha]at hb;cases hb;exact Int.le_refl _
  | succ j ih=>
    intro i a b hij ha hb;by_cases e:i=j+1
    · subst e;rw[ha]at hb;cases hb;exact Int.le_refl _
    · have hlt:=(List.getElem?_eq_some_iff.1 hb).1;have hc:ks[j]? =some ks[j]:=Za (by omega)
      have h1:=ih (by omega) ha hc;have h2:=h.inc j _ b hc hb;omega
theorem XD.head_len {a b:Qg}{ks:List Qg}{m N:Nat}(h:XD (a::b::ks) m N):a.q.length=b.q.length:=by rw[h.len a (by simp),h.len b (by simp)]
theorem H5 {m N:Nat}: ∀{ks:List Qg} {a:Qg},XD (a::ks) m N->(YS a ks a.tick).1=a.q:=by
 intro ks a h;cases ks with
 | nil=>rfl
 | cons b ks=>
  unfold YS;have:=h.head;rw[if_neg (by omega)];show XA a b a.tick=a.q
  unfold XA;rw[QJL,QJK h.head_len]
theorem QHZ {a b:Qg}(h:a.tick<b.tick)(hl:a.q.length=b.q.length):XA a b b.tick=b.q:=by
 unfold XA;rw[QJM h,QL6 hl]
theorem QJN {m N:Nat}: ∀{ks:List Qg} {a:Qg} {t:Int},XD (a::ks) m N->a.tick<=t->
    (∃(i:Nat) (x y:Qg),(a::ks)[i]? =some x/\(a::ks)[i+1]? =some y/\x.tick<=t/\t<y.tick/\(YS a ks t).1=XA x y t/\(YS a ks (t+1)).1=XA x y (t+1))∨
    (∃z:Qg,(a::ks)[ks.length]? =some z/\z.tick<=t/\(YS a ks t).1=z.q/\(YS a ks (t+1)).1=z.q):=by
  intro ks;induction ks with
  | nil=>intro a t _ ht;exact .inr ⟨a,rfl,ht,rfl,rfl⟩
  | cons b ks ih=>
    intro a t h ht;by_cases hb:b.tick<=t
    · have e1:YS a (b::ks) t=YS b ks t:=by rw[YS,if_pos hb]
      have e2:YS a (b::ks) (t+1)=YS b ks (t+1):=by rw[YS,if_pos (show b.tick<=t+1 by omega)]
      rw[e1,e2];rcases ih h.tail hb with⟨i,x,y,h1,h2,h3⟩ | ⟨z,h1,h2⟩
      · exact .inl ⟨i+1,x,y,by simpa using h1,by simpa using h2,h3⟩
      · exact .inr ⟨z,by simpa using h1,h2⟩
    · refine .inl ⟨0,a,b,rfl,rfl,ht,by omega,by rw[YS,if_neg hb],?_⟩;by_cases hb':b.tick<=t+1
      · have e:t+1=b.tick:=by omega
        rw[YS,if_pos hb',e,H5 h.tail,QHZ h.head h.head_len]
      · rw[YS,if_neg hb']
theorem QJO {m N:Nat}{ks:List Qg}(h:XD ks m N)(hne:ks≠[])(t:Int):
  (∃a,ks[0]? =some a/\t<a.tick/\(atR ks t).1=a.q/\(atR ks (t+1)).1=a.q)∨
  (∃(i:Nat) (x y:Qg),ks[i]? =some x/\ks[i+1]? =some y/\x.tick<=t/\t<y.tick/\(atR ks t).1=XA x y t/\(atR ks (t+1)).1=XA x y (t+1))∨
  (∃z:Qg,ks[ks.length-1]? =some z/\z.tick<=t/\(atR ks t).1=z.q/\(atR ks (t+1)).1=z.q):=by
 match ks,hne,h with
 | a::ks,_,h=>
  by_cases ha:t<a.tick
  ·exact .inl ⟨a,rfl,ha,by rw[atR,if_pos (show t<=a.tick by omega)],by rw[atR,if_pos (show t+1<=a.tick by omega)]⟩
  ·have e1:(atR (a::ks) t).1=(YS a ks t).1:=by
    by_cases e:t<=a.tick
    ·have:t=a.tick:=by omega
     subst this;rw[atR,if_pos e,H5 h]
    ·rw[atR,if_neg e]
   have e2:(atR (a::ks) (t+1)).1=(YS a ks (t+1)).1:=by rw[atR,if_neg (show ¬t+1<=a.tick by omega)]
   rw[e1,e2];rcases QJN h (show a.tick<=t by omega)with h | ⟨z,h1,h2⟩
   ·exact .inr (.inl h)
   ·exact .inr (.inr ⟨z,by simpa using h1,h2⟩)
theorem QJP {m N:Nat}: ∀{ks:List Qg} {a:Qg} {t:Int},XD (a::ks) m N->(YS a ks t).2<=3*N+260/\(YS a ks t).1.length=m:=by
 intro ks;induction ks with
 | nil=>intro a t h;have:=h.n a (by simp);exact⟨by simp only[YS];omega,h.len a (by simp)⟩
 | cons b ks ih=>
  intro a t h;rw[YS];split
  ·exact ih h.tail
  ·have h1:=h.n a (by simp);have h2:=h.n b (by simp);exact⟨by simp only;omega,by simp only[XA];rw[U6 h.head_len];exact h.len a (by simp)⟩
theorem H6 {m N:Nat}{ks:List Qg}{t:Int}(h:XD ks m N)(hne:ks≠[]):(atR ks t).2<=3*N+260/\(atR ks t).1.length=m:=by
 match ks,hne,h with
 | a::ks,_,h=>
  rw[atR];split
  ·have:=h.n a (by simp);exact⟨by simp only;omega,h.len a (by simp)⟩
  ·exact QJP h
end Go.Proofs
