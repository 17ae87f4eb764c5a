/- Sets of all numbers between two numbers: plain laws. -/
import Derived.Test.YtjdhppdpbkoihaaGreatDoorFL
namespace Go.Proofs
open Go Go.Eng
structure Sp where
 lo:Rat
 hi:Rat
def Sp.has (s:Sp)(x:Rat):Prop:=s.lo<=x/\x<=s.hi
def Sp.sub (s t:Sp):Prop:=t.lo<=s.lo/\s.hi<=t.hi
def QN7 (a:Rat):Sp:=⟨a,a⟩
def QKl (s t:Sp):Sp:=⟨s.lo+t.lo,s.hi+t.hi⟩
def QT5 (s t:Sp):Sp:=⟨s.lo-t.hi,s.hi-t.lo⟩
def QGY (s t:Sp):Sp:=⟨Y4 (Y4 (Y4 (s.lo*t.lo) (s.lo*t.hi)) (s.hi*t.lo)) (s.hi*t.hi),UQ (UQ (UQ (s.lo*t.lo) (s.lo*t.hi)) (s.hi*t.lo)) (s.hi*t.hi)⟩
def QKm (s:Sp)(x:Rat):Bool:=decide (s.lo<=x)&&decide (x<=s.hi)
def QKn (s t:Sp):Sp:=⟨Y4 s.lo t.lo,UQ s.hi t.hi⟩
theorem Sp.has.ok {s:Sp}{x:Rat}(h:s.has x):s.lo<=s.hi:=Rat.le_trans h.1 h.2
theorem Sp.has.sub {s t:Sp}{x:Rat}(h:s.has x)(k:s.sub t):t.has x:=⟨Rat.le_trans k.1 h.1,Rat.le_trans h.2 k.2⟩
theorem Sp.sub.trans {s t u:Sp}(h:s.sub t)(k:t.sub u):s.sub u:=⟨Rat.le_trans k.1 h.1,Rat.le_trans h.2 k.2⟩
end Go.Proofs
namespace Go.Proofs
open Go Go.Eng
structure LoV where
 x:Sp
 y:Sp
 c:Sp
 s:Sp
structure LoV.has (l:LoV)(f:FrV):Prop where
 x:l.x.has f.x
 y:l.y.has f.y
 c:l.c.has (Q7 f.h f.t)
 s:l.s.has (XA f.h f.t)
structure LoV.sub (l m:LoV):Prop where
 x:l.x.sub m.x
 y:l.y.sub m.y
 c:l.c.sub m.c
 s:l.s.sub m.s
def HasQ (ts:List Sp)(qs:List Rat):Prop:=ts.length=qs.length/\ ∀(i:Nat) t q,ts[i]? =some t->qs[i]? =some q->t.has q
theorem HasQ.tail {t:Sp}{ts:List Sp}{q:Rat}{qs:List Rat}(h:HasQ (t::ts) (q::qs)):t.has q/\HasQ ts qs:=
 ⟨h.2 0 t q rfl rfl,by simpa using h.1,fun i t q h1 h2=>h.2 (i+1) t q h1 h2⟩
end Go.Proofs
