/- Sets of all numbers between two numbers: plain laws. -/
import Derived.Test.YtjdhppdpbkoihaaGreatDoorFL
open Rat renaming le_trans → Za
namespace Go.Proofs
open Go Go.Eng
structure Sp where
 lo:Rat
 hi:Rat
def Sp.has (s:Sp)(x:Rat):Prop:=s.lo<=x/\x<=s.hi
def Sp.sub (s t:Sp):Prop:=t.lo<=s.lo/\s.hi<=t.hi
def Js (s t:Sp):Sp:=⟨Q9 (Q9 (Q9 (s.lo*t.lo) (s.lo*t.hi)) (s.hi*t.lo)) (s.hi*t.hi),XL (XL (XL (s.lo*t.lo) (s.lo*t.hi)) (s.hi*t.lo)) (s.hi*t.hi)⟩
def Qm (s:Sp)(x:Rat):Bool:=decide (s.lo<=x)&&decide (x<=s.hi)
theorem GC (a b:Rat):Q9 a b<=a:=by unfold Q9;split<;>grind
theorem GD (a b:Rat):Q9 a b<=b:=by unfold Q9;split<;>grind
theorem GF (a b:Rat):a<=XL a b:=by unfold XL;split<;>grind
theorem GG (a b:Rat):b<=XL a b:=by unfold XL;split<;>grind
theorem QIc (a b:Rat):Q9 a b=a∨Q9 a b=b:=by unfold Q9;split<;>simp
theorem QId (a b:Rat):XL a b=a∨XL a b=b:=by unfold XL;split<;>simp
theorem Sp.has.ok {s:Sp}{x:Rat}(h:s.has x):s.lo<=s.hi:=Za h.1 h.2
theorem Sp.has.sub {s t:Sp}{x:Rat}(h:s.has x)(k:s.sub t):t.has x:=⟨Za k.1 h.1,Za h.2 k.2⟩
theorem We {s:Sp}{x:Rat}:Qm s x=true↔s.has x:=by
 unfold Qm Sp.has;simp
theorem QEP {a b:Rat}(h:0<=a)(k:0<=b):0<=a*b:=Rat.mul_nonneg h k
theorem QEQ {p a b x y:Rat}(h1:p<=a*y)(h2:p<=b*y)(ha:a<=x)(hb:x<=b):p<=x*y:=by
 rcases @Rat.le_total 0 y with h | h
 ·have:=QEP (show 0<=x-a by grind) h;grind
 ·have:=QEP (show 0<=b-x by grind) (show 0<= -y by grind);grind
theorem QER {p a b x y:Rat}(h1:a*y<=p)(h2:b*y<=p)(ha:a<=x)(hb:x<=b):x*y<=p:=by
 rcases @Rat.le_total 0 y with h | h
 ·have:=QEP (show 0<=b-x by grind) h;grind
 ·have:=QEP (show 0<=x-a by grind) (show 0<= -y by grind);grind
theorem QOl {p a b x y:Rat}(h1:p<=y*a)(h2:p<=y*b)(ha:a<=x)(hb:x<=b):p<=y*x:=by
 rw[Rat.mul_comm]at h1 h2⊢;exact QEQ h1 h2 ha hb
theorem QOm {p a b x y:Rat}(h1:y*a<=p)(h2:y*b<=p)(ha:a<=x)(hb:x<=b):y*x<=p:=by
 rw[Rat.mul_comm]at h1 h2⊢;exact QER h1 h2 ha hb
theorem GH {s t:Sp}{x y:Rat}(h:s.has x)(k:t.has y):(Js s t).has (x*y):=by
 obtain⟨h1,h2⟩:=h;obtain⟨k1,k2⟩:=k;have tr:=fun {a b c:Rat} (h:a<=b) (k:b<=c)=>Za h k;have a1:=GC (Q9 (Q9 (s.lo*t.lo) (s.lo*t.hi)) (s.hi*t.lo)) (s.hi*t.hi);have a2:=GD (Q9 (Q9 (s.lo*t.lo) (s.lo*t.hi)) (s.hi*t.lo)) (s.hi*t.hi);have a3:=GC (Q9 (s.lo*t.lo) (s.lo*t.hi)) (s.hi*t.lo);have a4:=GD (Q9 (s.lo*t.lo) (s.lo*t.hi)) (s.hi*t.lo);have a5:=GC (s.lo*t.lo) (s.lo*t.hi);have a6:=GD (s.lo*t.lo) (s.lo*t.hi);have b1:=GF (XL (XL (s.lo*t.lo) (s.lo*t.hi)) (s.hi*t.lo)) (s.hi*t.hi);have b2:=GG (XL (XL (s.lo*t.lo) (s.lo*t.hi)) (s.hi*t.lo)) (s.hi*t.hi)
 have b3:=GF (XL (s.lo*t.lo) (s.lo*t.hi)) (s.hi*t.lo);have b4:=GG (XL (s.lo*t.lo) (s.lo*t.hi)) (s.hi*t.lo);have b5:=GF (s.lo*t.lo) (s.lo*t.hi);have b6:=GG (s.lo*t.lo) (s.lo*t.hi);refine⟨QOl (QEQ (tr a1 (tr a3 a5)) (tr a1 a4) h1 h2) (QEQ (tr a1 (tr a3 a6)) a2 h1 h2) k1 k2,QOm (QER (tr (tr b5 b3) b1) (tr b4 b1) h1 h2) (QER (tr (tr b6 b3) b1) b2 h1 h2) k1 k2⟩
theorem Sp.sub.trans {s t u:Sp}(h:s.sub t)(k:t.sub u):s.sub u:=⟨Za k.1 h.1,Za h.2 k.2⟩
end Go.Proofs
namespace Go.Proofs
open Go Go.Eng
structure LoV where
 x:Sp
 y:Sp
 c:Sp
 s:Sp
structure LoV.has (l:LoV)(f:FrV):Prop where
 x:l.x.has f.x
 y:l.y.has f.y
 c:l.c.has (QK f.h f.t)
 s:l.s.has (QO f.h f.t)
structure LoV.sub (l m:LoV):Prop where
 x:l.x.sub m.x
 y:l.y.sub m.y
 c:l.c.sub m.c
 s:l.s.sub m.s
def HasQ (ts:List Sp)(qs:List Rat):Prop:=ts.length=qs.length/\ ∀(i:Nat) t q,ts[i]? =some t->qs[i]? =some q->t.has q
theorem HasQ.tail {t:Sp}{ts:List Sp}{q:Rat}{qs:List Rat}(h:HasQ (t::ts) (q::qs)):t.has q/\HasQ ts qs:=
 ⟨h.2 0 t q rfl rfl,by simpa using h.1,fun i t q h1 h2=>h.2 (i+1) t q h1 h2⟩
end Go.Proofs
