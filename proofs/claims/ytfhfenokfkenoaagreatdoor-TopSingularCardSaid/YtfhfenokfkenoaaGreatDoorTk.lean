

namespace Go.Proofs
structure Ke where
  tick:Int
  n:Nat
  q:List Rat
def mix (s:Rat)(p q:List Rat):List Rat:=List.zipWith (fun x y=>x+s*(y-x)) p q
def QYc (a b:Ke)(t:Int):Rat:=((t:Rat)-(a.tick:Rat))/((b.tick:Rat)-(a.tick:Rat))
def QVi (a b:Ke)(t:Int):List Rat:=mix (QYc a b t) a.q b.q
def QYd:Ke->List Ke->Int->List Rat×Nat
 | a,[],_=>(a.q,a.n+65)
 | a,b::ks,t=>if b.tick<=t then QYd b ks t else(QVi a b t,2*a.n+b.n+260)
def atR:List Ke->Int->List Rat×Nat
 | [],_=>([],0)
 | a::ks,t=>if t<=a.tick then(a.q,a.n+65)else QYd a ks t
structure UF (ks:List Ke)(m N:Nat):Prop where
 len: ∀k∈ks,k.q.length=m
 n: ∀k∈ks,k.n<=N
 tick: ∀k∈ks,0<=k.tick/\k.tick<=2000
 inc: ∀(i:Nat) (a b:Ke),ks[i]? =some a->ks[i+1]? =some b->a.tick<b.tick
theorem UF.tail {a:Ke}{ks:List Ke}{m N:Nat}(h:UF (a::ks) m N):UF ks m N:=
 ⟨fun k hk=>h.len k (by simp[hk]),fun k hk=>h.n k (by simp[hk]),fun k hk=>h.tick k (by simp[hk]),fun i x y hx hy=>h.inc (i+1) x y (by simpa using hx) (by simpa using hy)⟩
theorem UF.head {a b:Ke}{ks:List Ke}{m N:Nat}(h:UF (a::b::ks) m N):a.tick<b.tick:=h.inc 0 a b rfl rfl
theorem UF.mono {ks:List Ke}{m N:Nat}(h:UF ks m N): ∀{j i:Nat} {a b:Ke},i<=j->ks[i]? =some a->ks[j]? =some b->a.tick<=b.tick:=by
  intro j;induction j with
  | zero => intro i a b hij ha hb; have : i = 0 := by omega
            subst this;rw[ha]at hb;cases hb;exact Int.le_refl _
  | succ j ih=>
    intro i a b hij ha hb;by_cases e:i=j+1
    · subst e;rw[ha]at hb;cases hb;exact Int.le_refl _
    · have hlt:=(List.getElem?_eq_some_iff.1 hb).1;have hc:ks[j]? =some ks[j]:=List.getElem?_eq_getElem (by omega)
      have h1:=ih (by omega) ha hc;have h2:=h.inc j _ b hc hb;omega
end Go.Proofs
