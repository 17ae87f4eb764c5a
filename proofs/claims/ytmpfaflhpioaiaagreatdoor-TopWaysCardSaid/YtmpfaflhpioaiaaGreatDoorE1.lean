/- The engine, part A: abstract values, how they stand for Go values in a world, and small lemmas on them. -/
import Derived.Below
import Derived.Orders
import Derived.Laws.IdiomCopy
import Derived.Laws.CopyRow
import Derived.Laws.Cells
import Derived.Laws.Entries
import Derived.Laws.Append
import Derived.Laws.AppendOwn
import Derived.Laws.MakeOwn
open Option renaming some → A, none → D, map_eq_some_iff → Zn
open _root_ renaming List → B, Nat → C, Bool → L, Option → Q, Array → R, if_pos → X, Int → Y, False → c, absurd → At, BitVec → hZ
open Go renaming Value → E, World → G, grownCap → S, run_underlying → U, typeInfo → Z, IntKind → z, Program → Lm, sizeOf → be
open Bool renaming false → F, true → I
open List renaming length → J, getElem?_take → Za, getElem?_drop → Zc, append_assoc → Zg, getElem?_append_right → Zb, getElem?_append_left → Zd, length_take → Zm, length_append → Zk, getElem?_eq_some_iff → Zi, length_drop → Zp, eq_nil_of_length_eq_zero → Zj, ext_getElem? → Zt
open Go.Value renaming oneCell' → Zf
open Nat renaming add_mul → Zh, mul_le_mul_right → Ze, one_mul → Zr, lt_of_lt_of_le → Zq, eq_of_beq_eq_true → Zo
open Array renaming getElem?_eq_some_iff → Zl, length_toList → Zs
namespace Go.Eng
open Go
theorem o3{p:Prop}(h:p:=by omega):p:=h
theorem o5{p:Prop}(h:p:=by simp only;omega):p:=h
theorem o6{p:Prop}(h:p:=by simp):p:=h
theorem o8{p:Prop}(h:p:=by decide):p:=h
theorem o9{p:Prop}(h:p:=by simp;omega):p:=h
theorem j4{p:Prop}(h:p:=by grind):p:=h
theorem j5{p:Prop}(h:p:=by decide+kernel):p:=h
theorem j6{p:Prop}(h:p:=by rfl):p:=h
theorem j7{c p:Prop}[Decidable c](h:decide c=I)(k:c->p:=by intro h;omega):p:=k (_root_.of_decide_eq_true h)
theorem j8{c p:Prop}[Decidable c](h:decide c=F)(k: ¬c->p:=by intro h;omega):p:=k (_root_.of_decide_eq_false h)
theorem j9{p q:Prop}(h:q)(k:q->p:=by intro h;simpa using h):p:=k h
theorem R0(p:Prop):(True/\p)=p:=_root_.true_and p
theorem R1(p:Prop):(p/\True)=p:=_root_.and_true p
theorem R2(p:Prop):(True\/p)=True:=_root_.true_or p
theorem R3(p:Prop):(p\/True)=True:=_root_.or_true p
theorem R4(p:Prop):(True->p)=p:=_root_.true_implies p
theorem R5{p:Prop}[Decidable p](h:decide p=I):p:=_root_.of_decide_eq_true h
theorem R6{p:Prop}[Decidable p](h:decide p=F):¬p:=_root_.of_decide_eq_false h
theorem R7{c:Sort _}{a b:c}:cond I a b=a:=rfl
theorem R8{c:Sort _}{a b:c}:cond F a b=b:=rfl
def nbF:C->C->B UInt8
 | 0,_=>[]
 | f+1,m=>match m with
  | 0=>[]
  | n+1=>nbF f ((n+1)/256)++[UInt8.ofNat ((n+1) % 256)]
def QB (m:C):B UInt8:=nbF m m

def Ja (l:B UInt8):E:= .string ⟨l.toArray⟩
def TP (q:Rat):E:= .bool (decide (q.num<0))
def numV (q:Rat):E:=Ja (QB q.num.natAbs)
def Tm (q:Rat):E:=Ja (QB q.den)
def Bd (n:C)(q:Rat):Prop:=q.num.natAbs<2^n/\q.den<2^n

inductive Ch where
  | v (x:Value)
  | r (q:Rat) (n:C)
  | b (m n:C)
  | s (sz:C) (xs:B (B Ch))
  | p (k o:C)
  | w (k o n:C)
  | e (k i o:C)
  | y (sz:C) (xs:B (B Ch)) (i o:C)
  | f (fid:C) (ks:B C)
  | i (t:C) (agg:L) (cs:B Ch)
  | m (k:C)
  | yl (k:C)
  | u
  deriving Inhabited

structure WM where
 zc:C
 cap:C
 len:C
 sz:C
 isNil:L
abbrev Env:=C->Q WM
structure K8 (w:World)(O:C->Prop)(b o sz:C)(xs:B (B Ch))(f:C->B Value):Prop where
  lt:b<w.heap.size
  free: ¬O b
  cell: ∀i x,xs[i]? =A x->(f i).length=sz/\ ∀j,j<sz->w.cell? ⟨b,o+i*sz+j,D⟩=(f i)[j]?

def KD (ρ:Env)(k:C):E:= .pointer ((ρ k).map fun bd=>⟨bd.zc,0,D⟩)
variable{k:C}
theorem Jq {ρ:Env}{bd:WM}(h:ρ k=A bd):KD ρ k= .pointer (A ⟨bd.zc,0,D⟩):=by simp[KD,h]
inductive CC (w:World)(O:C->Prop):Env->B Ch->B Value->Prop
 | nil {ρ:Env}:CC w O ρ [] []
 | v {ρ:Env} {x:Value} {cs:B Ch} {vs:B Value} (h1:x.oneCell'=I) (h:CC w O ρ cs vs):CC w O ρ (.v x::cs) (x::vs)
 | r {ρ:Env} {q:Rat} {n:C} {cs:B Ch} {vs:B Value} (hb:Bd n q) (h:CC w O ρ cs vs):CC w O ρ (.r q n::cs) (TP q::numV q::Tm q::vs)
 | b {ρ:Env} {m n:C} {cs:B Ch} {vs:B Value} (hb:m<2^n) (h:CC w O ρ cs vs):CC w O ρ (.b m n::cs) (Ja (QB m)::vs)
 | s0 {ρ:Env} {sz:C} {cs:B Ch} {vs:B Value} (h:CC w O ρ cs vs):CC w O ρ (.s sz []::cs) (.slice D 0 0::vs)
 | s00 {ρ:Env} {sz b o cap:C} {cs:B Ch} {vs:B Value} (h:CC w O ρ cs vs):CC w O ρ (.s sz []::cs) (.slice (A ⟨b,o,D⟩) 0 cap::vs)
 | s {ρ:Env} {sz b o cap:C} {xs:B (B Ch)} {f:C->B Value} {cs:B Ch} {vs:B Value} (hr:K8 w O b o sz xs f) (hx: ∀i x,xs[i]? =A x->CC w O (fun _=>D) x (f i)) (hcap:xs.length<=cap) (h:CC w O ρ cs vs):
   CC w O ρ (.s sz xs::cs) (.slice (A ⟨b,o,D⟩) xs.length cap::vs)
 | p {ρ:Env} {k o:C} {bd:WM} {cs:B Ch} {vs:B Value} (hk:ρ k=A bd) (hn:bd.isNil=F) (h:CC w O ρ cs vs):CC w O ρ (.p k o::cs) (.pointer (A ⟨bd.zc,o,D⟩)::vs)
 | w {ρ:Env} {k o n cap:C} {bd:WM} {cs:B Ch} {vs:B Value} (hk:ρ k=A bd) (hn:bd.isNil=F) (hl:o+n<=bd.len) (hc:n<=cap) (hcap:o+cap<=bd.cap) (h:CC w O ρ cs vs):CC w O ρ (.w k o n::cs) (.slice (A ⟨bd.zc,o*bd.sz,D⟩) n cap::vs)
 | w0 {ρ:Env} {k:C} {bd:WM} {cs:B Ch} {vs:B Value} (hk:ρ k=A bd) (hn:bd.isNil=I) (h:CC w O ρ cs vs):CC w O ρ (.w k 0 0::cs) (.slice D 0 0::vs)
 | w00 {ρ:Env} {k o b o':C} {bd:WM} {cs:B Ch} {vs:B Value} (hk:ρ k=A bd) (h:CC w O ρ cs vs):CC w O ρ (.w k o 0::cs) (.slice (A ⟨b,o',D⟩) 0 0::vs)
 | e {ρ:Env} {k i o:C} {bd:WM} {cs:B Ch} {vs:B Value} (hk:ρ k=A bd) (hn:bd.isNil=F) (h:CC w O ρ cs vs):CC w O ρ (.e k i o::cs) (.pointer (A ⟨bd.zc,i*bd.sz+o,D⟩)::vs)
 | y {ρ:Env} {sz b o i j:C} {xs:B (B Ch)} {f:C->B Value} {cs:B Ch} {vs:B Value} (hr:K8 w O b o sz xs f) (hx: ∀i x,xs[i]? =A x->CC w O (fun _=>D) x (f i)) (h:CC w O ρ cs vs):
   CC w O ρ (.y sz xs i j::cs) (.pointer (A ⟨b,o+i*sz+j,D⟩)::vs)
 | f {ρ:Env} {fid:C} {ks:B C} {cs:B Ch} {vs:B Value} (hk: ∀k∈ks,∃bd,ρ k=A bd/\bd.isNil=F) (h:CC w O ρ cs vs):CC w O ρ (.f fid ks::cs) (.func (.func fid) #[] (ks.map (KD ρ)).toArray::vs)
 | i {ρ:Env} {t:C} {agg:L} {ics:B Ch} {ivs:B Value} {iv:Value} {cs:B Ch} {vs:B Value} (hx:CC w O (fun _=>D) ics ivs) (hv:if agg then iv= .agg ivs.toArray else ivs=[iv]) (h:CC w O ρ cs vs):CC w O ρ (.i t agg ics::cs) (.iface t iv::vs)
 | m {ρ:Env} {k:C} {bd:WM} {cs:B Ch} {vs:B Value} (hk:ρ k=A bd) (hn:bd.isNil=F) (h:CC w O ρ cs vs):CC w O ρ (.m k::cs) (.map (A bd.zc)::vs)
 | yl {ρ:Env} {k:C} {bd:WM} {cs:B Ch} {vs:B Value} (hk:ρ k=A bd) (hn:bd.isNil=F) (h:CC w O ρ cs vs):CC w O ρ (.yl k::cs) (.func (.yield bd.zc) #[] #[]::vs)
 | u {ρ:Env} {x:Value} {cs:B Ch} {vs:B Value} (h1:x.oneCell'=I) (h:CC w O ρ cs vs):CC w O ρ (.u::cs) (x::vs)
variable{w':G}
theorem QKN{w:G}{b:C}(h:w'.heap[b]? =w.heap[b]?)(o:C):w'.cell? ⟨b,o,D⟩=w.cell? ⟨b,o,D⟩:=by
 unfold G.cell?;simp only[h]
structure KE (O:C->Prop)(w w':World):Prop where
  size:w.heap.size<=w'.heap.size
  block: ∀b,b<w.heap.size-> ¬O b->w'.heap[b]? =w.heap[b]?

theorem KE.refl (O:C->Prop)(w:G):KE O w w:=⟨C.le_refl _,fun _ _ _=>rfl⟩
theorem KE.trans {O:C->Prop}{w e f:G}(h:KE O w e)(k:KE O e f):KE O w f:=
 ⟨C.le_trans h.size k.size,fun b a c=>(k.block b (Zq a h.size) c).trans (h.block b a c)⟩
variable{O':C->Prop}
theorem K8.mono{w:G}{O:C->Prop}{b o sz:C}{xs:B (B Ch)}{f:C->B E}(hk:KE O w w')(c: ∀b,b<w.heap.size->O' b->O b)(h:K8 w O b o sz xs f):K8 w' O' b o sz xs f:=
 ⟨Zq h.lt hk.size,fun e=>h.free (c _ h.lt e),fun i x a=>⟨(h.cell i x a).1,fun j g=>by rw[QKN (hk.block b h.lt h.free)];exact(h.cell i x a).2 j g⟩⟩
variable{ρ':Env}
theorem Gp{ρ:Env}{ks:B C}(hk: ∀k∈ks,∃bd,ρ k=A bd/\bd.isNil=F)(a: ∀k bd,ρ k=A bd->ρ' k=A bd):ks.map (KD ρ)=ks.map (KD ρ')/\ ∀k∈ks,∃bd,ρ' k=A bd/\bd.isNil=F:=
 ⟨B.map_congr_left fun k h=>by obtain⟨bd,e,_⟩:=hk k h;rw[Jq e,Jq (a _ _ e)],fun k h=>let ⟨bd,e,c⟩:=hk k h;⟨bd,a _ _ e,c⟩⟩
variable{cs:B Ch}{vs:B E}
theorem CC.mono{w:G}{O:C->Prop}(hk:KE O w w')(E: ∀b,b<w.heap.size->O' b->O b)
  {ρ:Env} (h:CC w O ρ cs vs): ∀{ρ':Env},(∀k bd,ρ k=A bd->ρ' k=A bd)->CC w' O' ρ' cs vs:=by
 induction h with
 | nil=>exact fun _=> .nil
 | v g _ c=>exact fun a=> .v g (c a)
 | r q _ c=>exact fun a=> .r q (c a)
 | b q _ c=>exact fun a=> .b q (c a)
 | s0 _ c=>exact fun a=> .s0 (c a)
 | s00 _ c=>exact fun a=> .s00 (c a)
 | s z _ Q _ l c=>exact fun a=> .s (z.mono hk E) (fun i x B=>l i x B fun _ _ h=>h) Q (c a)
 | p g j _ c=>exact fun a=> .p (a _ _ g) j (c a)
 | w g j J L N _ c=>exact fun a=> .w (a _ _ g) j J L N (c a)
 | w0 g j _ c=>exact fun a=> .w0 (a _ _ g) j (c a)
 | w00 g _ c=>exact fun a=> .w00 (a _ _ g) (c a)
 | e g j _ c=>exact fun a=> .e (a _ _ g) j (c a)
 | y z _ _ l c=>exact fun a=> .y (z.mono hk E) (fun i x B=>l i x B fun _ _ h=>h) (c a)
 | f g _ c=>exact fun a=>by rw[(Gp g a).1];exact .f (Gp g a).2 (c a)
 | i _ R _ l c=>exact fun a=> .i (l fun _ _ h=>h) R (c a)
 | m g j _ c=>exact fun a=> .m (a _ _ g) j (c a)
 | yl g j _ c=>exact fun a=> .yl (a _ _ g) j (c a)
 | u g _ c=>exact fun a=> .u g (c a)
def Ch.len:Ch->C
 | .r .. =>3
 | _=>1
def Qj:B Ch->C
 | []=>0
 | c::cs=>c.len+Qj cs
def Ks:B Ch->C->Q (B Ch)
 | cs,0=>A cs
 | [],_+1=>D
 | .r q n::cs,k+1=>
  match k with
  | 0=>A (.b q.num.natAbs n:: .b q.den n::cs)
  | 1=>A (.b q.den n::cs)
  | k+2=>Ks cs k
 | _::cs,k+1=>Ks cs k
def Ku:B Ch->C->Q (B Ch)
 | _,0=>A []
 | [],_+1=>D
 | .r q n::cs,k+1=>
  match k with
  | 0=>A [.v (TP q)]
  | 1=>A [.v (TP q),.b q.num.natAbs n]
  | k+2=>(Ku cs k).map (.r q n:: ·)
 | c::cs,k+1=>(Ku cs k).map (c:: ·)
variable {w:G}{O:C->Prop}{ρ:Env}
variable{ds:B Ch}
theorem CC.append{us:B E}(h:CC w O ρ cs vs)(k:CC w O ρ ds us):CC w O ρ (cs++ds) (vs++us):=by
 induction h with
 | nil=>exact k
 | v c _ a=>exact .v c (a k)
 | r l _ a=>exact .r l (a k)
 | b l _ a=>exact .b l (a k)
 | s0 _ a=>exact .s0 (a k)
 | s00 _ a=>exact .s00 (a k)
 | s q j G _ _ a=>exact .s q j G (a k)
 | p c g _ a=>exact .p c g (a k)
 | w c g x z C _ a=>exact .w c g x z C (a k)
 | w0 c g _ a=>exact .w0 c g (a k)
 | w00 c _ a=>exact .w00 c (a k)
 | e c g _ a=>exact .e c g (a k)
 | y q j _ _ a=>exact .y q j (a k)
 | f c _ a=>exact .f c (a k)
 | i j J _ _ a=>exact .i j J (a k)
 | m c g _ a=>exact .m c g (a k)
 | yl c g _ a=>exact .yl c g (a k)
 | u c _ a=>exact .u c (a k)
theorem CC.length(h:CC w O ρ cs vs):vs.length=Qj cs:=by
 induction h with
 | nil=>rfl
 | s _ _ _ _ _ a=>simp[Qj,Ch.len,a];omega
 | y _ _ _ _ a=>simp[Qj,Ch.len,a];omega
 | i _ _ _ _ a=>simp[Qj,Ch.len,a];omega
 | _=>simp_all [Qj,Ch.len]<;>omega
theorem CC.cons {c:Ch}(h:CC w O ρ (c::cs) vs): ∃us rest,vs=us++rest/\us.length=c.len/\CC w O ρ [c] us/\CC w O ρ cs rest:=by
  cases h with
  | v a h=>exact⟨[_],_,rfl,rfl,.v a .nil,h⟩
  | r l h=>exact⟨[_,_,_],_,rfl,rfl,.r l .nil,h⟩
  | b l h=>exact⟨[_],_,rfl,rfl,.b l .nil,h⟩
  | s0 h=>exact⟨[_],_,rfl,rfl,.s0 .nil,h⟩
  | s00 h=>exact⟨[_],_,rfl,rfl,.s00 .nil,h⟩
  | s q j C h=>exact⟨[_],_,rfl,rfl,.s q j C .nil,h⟩
  | p a g h=>exact⟨[_],_,rfl,rfl,.p a g .nil,h⟩
  | w a g x z B h=>exact⟨[_],_,rfl,rfl,.w a g x z B .nil,h⟩
  | w0 a g h=>exact⟨[_],_,rfl,rfl,.w0 a g .nil,h⟩
  | w00 a h=>exact⟨[_],_,rfl,rfl,.w00 a .nil,h⟩
  | e a g h=>exact⟨[_],_,rfl,rfl,.e a g .nil,h⟩
  | y q j h=>exact⟨[_],_,rfl,rfl,.y q j .nil,h⟩
  | f a h=>exact⟨[_],_,rfl,rfl,.f a .nil,h⟩
  | i j E h=>exact⟨[_],_,rfl,rfl,.i j E .nil,h⟩
  | m a g h=>exact⟨[_],_,rfl,rfl,.m a g .nil,h⟩
  | yl a g h=>exact⟨[_],_,rfl,rfl,.yl a g .nil,h⟩
  | u a h=>exact⟨[_],_,rfl,rfl,.u a .nil,h⟩

theorem CC.drop(h:CC w O ρ cs vs)(a:Ks cs k=A ds):CC w O ρ ds (vs.drop k):=by
 fun_induction Ks cs k generalizing vs with
 | case1=>simp at a;subst a;simpa using h
 | case2=>simp at a
 | case3=>
  simp at a;subst a;cases h with
  | r e h=>exact .b e.1 (.b e.2 h)
 | case4=>
  simp at a;subst a;cases h with
  | r e h=>exact .b e.2 h
 | case5 cs q n k g=>
  cases h with
  | r e h=>exact g h a
 | case6 c cs k f g=>
  obtain⟨us,rest,rfl,m,_,j⟩:=h.cons;have l:c.len=1:=by cases c<;>first | rfl | exact At rfl (f _ _)
  have:=g j a;match us,(by omega:us.length=1)with
  | [x],_=>exact this
theorem CC.take(h:CC w O ρ cs vs)(a:Ku cs k=A ds):CC w O ρ ds (vs.take k):=by
 fun_induction Ku cs k generalizing vs ds with
 | case1=>simp at a;subst a;simpa using CC.nil
 | case2=>simp at a
 | case3=>
  simp at a;subst a;cases h with
  | r e h=>exact .v rfl .nil
 | case4=>
  simp at a;subst a;cases h with
  | r e h=>exact .v rfl (.b e.1 .nil)
 | case5 cs q n k j=>
  simp only[Zn]at a;obtain⟨l,f,rfl⟩:=a;cases h with
  | r e h=>exact .r e (j h f)
 | case6 c cs k g j=>
  simp only[Zn]at a;obtain⟨l,f,rfl⟩:=a;obtain⟨us,rest,rfl,u,m,p⟩:=h.cons;have s:c.len=1:=by cases c<;>first | rfl | exact At rfl (g _ _)
  have:=m.append (j p f);match us,(by omega:us.length=1)with
  | [x],_=>simpa using this
def Vj (cs:B Ch)(o:C)(c:B Ch):Q (B Ch):=
  match Ku cs o,Ks cs (o+Qj c)with
  | some a,A b=>A (a++(c++b))
  | _,_=>D

inductive AV where
  | x (agg:L) (cs:B Ch)
  | t (vs:B (L×B Ch))
  | n
  | u
  deriving Inhabited

def ConcX (w:G)(O:C->Prop)(ρ:Env)(c:L)(cs:B Ch)(v:E):Prop:=
 ∃a,CC w O ρ cs a/\if c then v= .agg a.toArray else a=[v]
inductive Vx (w:World)(O:C->Prop)(ρ:Env):B (L×B Ch)->B Value->Prop
 | nil:Vx w O ρ [] []
 | cons {b:L} {cs:B Ch} {l:B (L×B Ch)} {v:Value} {vs:B Value} (h:ConcX w O ρ b cs v) (t:Vx w O ρ l vs):Vx w O ρ ((b,cs)::l) (v::vs)
def ConcV (w:G)(O:C->Prop)(ρ:Env):AV->E->Prop
 | .x b cs,v=>ConcX w O ρ b cs v
 | .t l,v=> ∃vs,Vx w O ρ l vs/\v= .tuple vs.toArray
 | .n,v=>v=undef
 | .u,_=>True
theorem ConcX.mono{w:G}{O:C->Prop}{ρ:Env}(hk:KE O w w')(g: ∀b,b<w.heap.size->O' b->O b)(c: ∀k bd,ρ k=A bd->ρ' k=A bd){b:L}{v:E}(h:ConcX w O ρ b cs v):ConcX w' O' ρ' b cs v:=
 let ⟨a,e,f⟩:=h;⟨a,e.mono hk g c,f⟩
theorem Vx.mono{w:G}{O:C->Prop}{ρ:Env}(hk:KE O w w')(c: ∀b,b<w.heap.size->O' b->O b)(a: ∀k bd,ρ k=A bd->ρ' k=A bd){l:B (L×B Ch)}(h:Vx w O ρ l vs):Vx w' O' ρ' l vs:=by
 induction h with
 | nil=>exact .nil
 | cons h _ e=>exact .cons (h.mono hk c a) e
theorem ConcV.mono{w:G}{O:C->Prop}{ρ:Env}(hk:KE O w w')(c: ∀b,b<w.heap.size->O' b->O b)(a: ∀k bd,ρ k=A bd->ρ' k=A bd){av:AV}{v:E}(h:ConcV w O ρ av v):ConcV w' O' ρ' av v:=by
 cases av with
 | x b cs=>exact ConcX.mono hk c a h
 | t l=>obtain⟨vs,e,f⟩:=h;exact⟨vs,e.mono hk c a,f⟩
 | n=>exact h
 | u=>trivial
theorem CC.one {w:G}{O:C->Prop}{ρ:Env}(h:CC w O ρ cs vs): ∀v∈vs,v.oneCell'=I:=by
 induction h with
 | nil=>simp
 | v c _ a=>simpa using⟨c,a⟩
 | r _ _ a=>simpa [TP,numV,Tm,Ja,Zf]using a
 | b _ _ a=>simpa [Ja,Zf]using a
 | s0 _ a=>simpa [Zf]using a
 | s00 _ a=>simpa [Zf]using a
 | s _ _ _ _ _ a=>simpa [Zf]using a
 | p _ _ _ a=>simpa [Zf]using a
 | w _ _ _ _ _ _ a=>simpa [Zf]using a
 | w0 _ _ _ a=>simpa [Zf]using a
 | w00 _ _ a=>simpa [Zf]using a
 | e _ _ _ a=>simpa [Zf]using a
 | y _ _ _ _ a=>simpa [Zf]using a
 | f _ _ a=>simpa [Zf]using a
 | i _ _ _ _ a=>simpa [Zf]using a
 | m _ _ _ a=>simpa [Zf]using a
 | yl _ _ _ a=>simpa [Zf]using a
 | u c _ a=>simpa using⟨c,a⟩
end Go.Eng
namespace Go.Eng
open Go
def upd {a:Type}(f:C->a)(k:C)(v:a):C->a:=fun t=>bif t.beq k then v else f t
theorem QT {a:Type}(f:C->a)(k:C)(v:a):upd f k v k=v:=by simp[upd]
variable{k:C}
theorem Qc {a:Type}(f:C->a){t:C}(v:a)(h:t≠k):upd f k v t=f t:=by
 have e:t.beq k=F:=by
  cases c:t.beq k
  ·rfl
  ·exact At ((j9 c)) h
 simp only[upd,e,R8]
theorem QSK {e:Type}(f:C->e){j:C}(u v:e)(h:k≠j):upd (upd f k u) j v=upd (upd f j v) k u:=by
 funext t;by_cases a:t=k
 ·subst a;rw[Qc _ _ h,QT,QT]
 ·by_cases c:t=j
  ·subst c;rw[QT,Qc _ _ a,QT]
  ·rw[Qc _ _ c,Qc _ _ a,Qc _ _ a,Qc _ _ c]
inductive Blk where
  | box (t:C) (cs:B Ch)
  | row (t sz:C) (xs:B (B Ch))
  | lp (s:C)
  | mp (f:Y->Q Y)
  | dead
  deriving Inhabited

abbrev HP:=C->Q Blk
abbrev TM:=C->AV
def Xt:Q Blk->L
 | some (.box ..) | some (.row ..) | some (.lp _) | some (.mp _)=>I
 | _=>F
def own (ρ:Env)(H:HP)(b:C):Prop:= ∃k bd,ρ k=A bd/\bd.isNil=F/\bd.zc=b/\Xt (H k)=I
structure Ctx where
  m:C->Prop
  x:C->Prop
  g:C
  zb:B Value
  zg:Env
  zp:C->Q Loop
  zk:B (TM×R Value)
  nd:L
def ow (M:Ctx)(ρ:Env)(H:HP)(b:C):Prop:=M.x b\/own ρ H b
def Qt (arr:R E)(sz i:C):B E:=(arr.toList.drop (i*sz)).take sz
def bc (r:Loop):Loop:={r with state:= .ready,pending:=D}
def cr (s:C)(r:Loop):Prop:=match s with
 | 0=>r.state= .ready/\r.pending=D
 | 1=>r.state= .busy
 | 2=>r.state= .done/\r.pending=A .ret
 | i+3=>r.state= .done/\r.pending=A (.exit i)
def MapIs:B MapEntry->(Y->Q Y)->Prop
  | [],f=> ∀k,f k=D
  | e::c,f=> ∃a b g,e.key= .int .i64 a/\e.val= .int .i64 b/\MapIs c g/\ ∀k,f k=bif a==k then A b else g k

def BlkOK (L:C->Q Loop)(w:G)(O:C->Prop)(ρ:Env)(bd:WM):Blk->Prop
 | .box t cs=>bd.isNil=F/\ ∃v,w.heap[bd.zc]? =A (.cells v.toArray t (0,0))/\CC w O ρ cs v
 | .row t sz a=>bd.len=J a/\bd.sz=sz/\((bd.isNil=I/\a=[])\/
   (bd.isNil=F/\ ∃arr:R E,w.heap[bd.zc]? =A (.cells arr t (0,0))/\arr.size=bd.cap*sz/\a.length<=bd.cap/\ ∀i x,a[i]? =A x->CC w O (fun _=>D) x (Qt arr sz i)))
 | .lp s=>bd.isNil=F/\ ∃r,w.heap[bd.zc]? =A (.loop r)/\cr s r/\L bd.zc=A (bc r)
 | .mp f=>bd.isNil=F/\ ∃e c,w.heap[bd.zc]? =A (.map e c)/\MapIs e.toList f
 | .dead=>True
def Tz (w:G)(g:C)(z:B E):Prop:= ∃t f,w.heap[g]? =A (.cells z.toArray t f)

structure HS (w0:World)(M:Ctx)(ρ:Env)(H:HP)(w:World):Prop where
 os:w.os=w0.os
 tape:w.tape=w0.tape
 output:w.output=w0.output
 size:w0.heap.size<=w.heap.size
 zi:Tz w0 M.g M.zb/\ ¬M.m M.g/\M.g<w0.heap.size/\ ∀b,M.x b->b<w0.heap.size/\ ¬M.m b
 zj: ∀b,b<w0.heap.size-> ¬M.m b->w.heap[b]? =w0.heap[b]?
 zc: ∀k b,H k=A b->Xt (A b)=I-> ∃bd,ρ k=A bd/\BlkOK M.zp w (ow M ρ H) ρ bd b
 zq: ∀k,H k=D->ρ k=D
 zh: ∀k bd,ρ k=A bd->bd.isNil=F->Xt (H k)=I->bd.zc<w.heap.size/\(w0.heap.size<=bd.zc\/M.m bd.zc)
 ze: ∀k k' bd bd',ρ k=A bd->ρ k'=A bd'->bd.isNil=F->bd'.isNil=F->Xt (H k)=I->Xt (H k')=I->bd.zc=bd'.zc->k=k'
structure Ext (ρ:Env)(H:HP)(w:World)(ρ':Env)(H':HP)(w':World):Prop where
  keeps:KE (own ρ H) w w'
  own: ∀b,b<w.heap.size->own ρ' H' b->own ρ H b
  env: ∀k bd,ρ k=A bd->ρ' k=A bd
  ids: ∀k,H k≠D->ρ' k=ρ k/\H' k≠D

theorem Ext.refl (ρ:Env)(H:HP)(w:G):Ext ρ H w ρ H w:=⟨.refl _ _,fun _ _ h=>h,fun _ _ h=>h,fun _ h=>⟨rfl,h⟩⟩
variable{ρ:Env}{H:HP}{w:G}
theorem Ext.trans{e f:Env}{l m:HP}{p q:G}(h:Ext ρ H w e l p)(k:Ext e l p f m q):Ext ρ H w f m q:=
 ⟨⟨C.le_trans h.keeps.size k.keeps.size,fun b a g=>(k.keeps.block b (Zq a h.keeps.size) (fun j=>g (h.own b a j))).trans (h.keeps.block b a g)⟩,
  fun b a g=>h.own b a (k.own b (Zq a h.keeps.size) g),fun i bd c=>k.env i bd (h.env i bd c),
  fun i c=>⟨(k.ids i (h.ids i c).2).1.trans (h.ids i c).1,(k.ids i (h.ids i c).2).2⟩⟩
variable{ρ':Env}{H':HP}{w':G}
theorem Ext.ow {M:Ctx}(h:Ext ρ H w ρ' H' w'):KE (Eng.ow M ρ H) w w'/\ ∀b,b<w.heap.size->Eng.ow M ρ' H' b->Eng.ow M ρ H b:=
 ⟨⟨h.keeps.size,fun b a c=>h.keeps.block b a (fun e=>c (.inr e))⟩,fun b a c=>c.imp id (h.own b a)⟩
theorem Ext.conc {M:Ctx}(h:Ext ρ H w ρ' H' w'){av:AV}{v:E}(a:ConcV w (Eng.ow M ρ H) ρ av v):ConcV w' (Eng.ow M ρ' H') ρ' av v:=
 a.mono h.ow.1 h.ow.2 h.env
theorem Ext.cc {M:Ctx}(h:Ext ρ H w ρ' H' w'){cs:B Ch}{vs:B E}(a:CC w (Eng.ow M ρ H) ρ cs vs):CC w' (Eng.ow M ρ' H') ρ' cs vs:=
 a.mono h.ow.1 h.ow.2 h.env
theorem Ext.cc0 {M:Ctx}(h:Ext ρ H w ρ' H' w'){cs:B Ch}{vs:B E}(a:CC w (Eng.ow M ρ H) (fun _=>D) cs vs):CC w' (Eng.ow M ρ' H') (fun _=>D) cs vs:=
 a.mono h.ow.1 h.ow.2 (fun _ _ h=>h)
variable{b:Blk}{bd:WM}
theorem BlkOK.ext {M:Ctx}(h:Ext ρ H w ρ' H' w')(g:bd.isNil=F->Xt (A b)=I->w'.heap[bd.zc]? =w.heap[bd.zc]?)
    (j:BlkOK M.zp w (ow M ρ H) ρ bd b):BlkOK M.zp w' (ow M ρ' H') ρ' bd b:=by
  cases b with
  | box t cs=>
    obtain⟨a,v,e,c⟩:=j;exact⟨a,v,(g a rfl).trans e,h.cc c⟩
  | row t sz B=>
    obtain⟨a,e,c | ⟨c,arr,p,q,u,y⟩⟩:=j
    · exact⟨a,e,.inl c⟩
    · exact⟨a,e,.inr ⟨c,arr,(g c rfl).trans p,q,u,fun i x z=>h.cc0 (y i x z)⟩⟩
  | lp s=>obtain⟨a,r,e,c⟩:=j;exact⟨a,r,(g a rfl).trans e,c⟩
  | mp f=>obtain⟨a,m,l,e,c⟩:=j;exact⟨a,m,l,(g a rfl).trans e,c⟩
  | dead=>trivial

variable {w0:G}{M:Ctx}
theorem HS.nx(h:HS w0 M ρ H w)(h1:ρ k=A bd)(e:bd.isNil=F)(f:Xt (H k)=I): ¬M.x bd.zc:=fun g=>by
  obtain⟨a,b⟩:=h.zi.2.2.2 _ g;rcases(h.zh k bd h1 e f).2 with c | c
  · omega
  · exact b c

theorem HS.globw(h:HS w0 M ρ H w):Tz w M.g M.zb:=by
 obtain⟨⟨t,f,e⟩,a,c,_⟩:=h.zi;exact⟨t,f,by rw[h.zj _ c a];exact e⟩
theorem HS.same(h:HS w0 M ρ H w)(f:w'.heap=w.heap)(h1:w'.os=w.os)(j:w'.tape=w.tape)(l:w'.output=w.output):
    HS w0 M ρ H w'/\Ext ρ H w ρ H w':=by
  have g:Ext ρ H w ρ H w':=⟨⟨by rw[f];exact C.le_refl _,fun _ _ _=>by rw[f]⟩,fun _ _ h=>h,fun _ _ h=>h,fun _ h=>⟨rfl,h⟩⟩
  exact⟨⟨h1.trans h.os,j.trans h.tape,l.trans h.output,by rw[f];exact h.size,h.zi,fun b m r=>by rw[f];exact h.zj b m r,
    fun k b p q=>let ⟨bd,e,s⟩:=h.zc k b p q;⟨bd,e,s.ext g (fun _ _=>by rw[f])⟩,h.zq,fun k bd a b c=>by rw[f];exact h.zh k bd a b c,h.ze⟩,g⟩

theorem HS.alloc(h:HS w0 M ρ H w){d:C}(z:H d=D){o:Obj}(s:bd.zc=w.heap.size)
    (S:w'.heap=w.heap.push o) (h1:w'.os=w.os) (T:w'.tape=w.tape) (U:w'.output=w.output)
    (L:Ext ρ H w (upd ρ d (A bd)) (upd H d (A b)) w'->BlkOK M.zp w' (ow M (upd ρ d (A bd)) (upd H d (A b))) (upd ρ d (A bd)) bd b):
    HS w0 M (upd ρ d (A bd)) (upd H d (A b)) w'/\Ext ρ H w (upd ρ d (A bd)) (upd H d (A b)) w':=by
  have Q:ρ d=D:=h.zq d z;have G: ∀k c,ρ k=A c->k≠d:=fun k c a e=>by subst e;rw[Q]at a;cases a
  have X: ∀k c,H k=A c->k≠d:=fun k c a e=>by subst e;rw[z]at a;cases a
  have Y:w'.heap.size=w.heap.size+1:=by rw[S];simp
  have j: ∀b,b<w.heap.size->w'.heap[b]? =w.heap[b]? :=fun b s=>by rw[S,R.getElem?_push,if_neg o3]
  have N:Ext ρ H w (upd ρ d (A bd)) (upd H d (A b)) w':=
    ⟨⟨o3,fun b s _=>j b s⟩,fun b V ⟨k,c,a,p,y,g⟩=>by
      by_cases e:k=d
      · subst e;rw[QT]at a;cases a;omega
      · rw[Qc _ _ e]at a g;exact⟨k,c,a,p,y,g⟩,
    fun k c a=>by rw[Qc _ _ (G k c a)];exact a,fun k a=>by
      have e:k≠d:=fun e=>a (e▸z)
      rw[Qc _ _ e,Qc _ _ e];exact⟨rfl,a⟩⟩
  refine⟨⟨h1.trans h.os,T.trans h.tape,U.trans h.output,by have:=h.size;omega,h.zi,fun b s W=>(j b (by have:=h.size;omega)).trans (h.zj b s W),?_,?_,?_,?_⟩,N⟩
  · intro k c a E;by_cases e:k=d
    · subst e;rw[QT]at a;cases a
      exact⟨bd,QT _ _ _,L N⟩
    · rw[Qc _ _ e]at a;obtain⟨q,m,Z⟩:=h.zc k c a E;exact⟨q,by rw[Qc _ _ e];exact m,Z.ext N (fun J g=>j _ (h.zh k q m J (by rw[a];exact g)).1)⟩
  · intro k a;by_cases e:k=d
    · subst e;rw[QT]at a;cases a
    · rw[Qc _ _ e]at a⊢;exact h.zq k a
  · intro k c a p g;by_cases e:k=d
    · subst e;rw[QT]at a;cases a
      exact⟨o3,.inl (by have:=h.size;omega)⟩
    · rw[Qc _ _ e]at a g;have:=h.zh k c a p g;exact⟨o3,this.2⟩
  · intro k x c r a f u v g l B;by_cases e:k=d
    · by_cases m:x=d
      · omega
      · subst e;rw[QT]at a;cases a
        rw[Qc _ _ m]at f l;have:=(h.zh x r f v l).1;omega
    · by_cases m:x=d
      · subst m;rw[QT]at f;cases f
        rw[Qc _ _ e]at a g;have:=(h.zh k c a u g).1;omega
      · rw[Qc _ _ e]at a g;rw[Qc _ _ m]at f l;exact h.ze k x c r a f u v g l B

theorem HS.allocNil(h:HS w0 M ρ H w){d:C}(B:H d=D)(t sz:C):
    HS w0 M (upd ρ d (A ⟨0,0,0,sz,I⟩)) (upd H d (A (.row t sz []))) w/\Ext ρ H w (upd ρ d (A ⟨0,0,0,sz,I⟩)) (upd H d (A (.row t sz []))) w:=by
  have z:ρ d=D:=h.zq d B;have y: ∀k c,ρ k=A c->k≠d:=fun k c a e=>by subst e;rw[z]at a;cases a
  have E:Ext ρ H w (upd ρ d (A ⟨0,0,0,sz,I⟩)) (upd H d (A (.row t sz []))) w:=
    ⟨.refl _ _,fun b J ⟨k,c,a,f,u,j⟩=>by
      by_cases e:k=d
      · subst e;rw[QT]at a;cases a;cases f
      · rw[Qc _ _ e]at a j;exact⟨k,c,a,f,u,j⟩,
    fun k c a=>by rw[Qc _ _ (y k c a)];exact a,fun k a=>by
      have e:k≠d:=fun e=>a (e▸B)
      rw[Qc _ _ e,Qc _ _ e];exact⟨rfl,a⟩⟩
  refine⟨⟨h.os,h.tape,h.output,h.size,h.zi,h.zj,?_,?_,?_,?_⟩,E⟩
  · intro k c a x;by_cases e:k=d
    · subst e;rw[QT]at a;cases a
      exact⟨_,QT _ _ _,rfl,rfl,.inl ⟨rfl,rfl⟩⟩
    · rw[Qc _ _ e]at a;obtain⟨r,q,L⟩:=h.zc k c a x;exact⟨r,by rw[Qc _ _ e];exact q,L.ext E (fun _ _=>rfl)⟩
  · intro k a;by_cases e:k=d
    · subst e;rw[QT]at a;cases a
    · rw[Qc _ _ e]at a⊢;exact h.zq k a
  · intro k c a f j;by_cases e:k=d
    · subst e;rw[QT]at a;cases a;cases f
    · rw[Qc _ _ e]at a j;exact h.zh k c a f j
  · intro k G c s a g m p j l v;by_cases e:k=d
    · subst e;rw[QT]at a;cases a;cases m
    · by_cases q:G=d
      · subst q;rw[QT]at g;cases g;cases p
      · rw[Qc _ _ e]at a j;rw[Qc _ _ q]at g l;exact h.ze k G c s a g m p j l v

theorem HS.write(h:HS w0 M ρ H w){b':Blk}(hk:H k=A b)(r:Xt (A b)=I)(x:Xt (A b')=I)(l:ρ k=A bd)(z:bd.isNil=F)
    (a: ∀j,j≠bd.zc->w'.heap[j]? =w.heap[j]?) (hs:w'.heap.size=w.heap.size) (h1:w'.os=w.os) (W:w'.tape=w.tape) (X:w'.output=w.output)
    (E:Ext ρ H w ρ (upd H k (A b')) w'->BlkOK M.zp w' (ow M ρ (upd H k (A b'))) ρ bd b'):
    HS w0 M ρ (upd H k (A b')) w'/\Ext ρ H w ρ (upd H k (A b')) w':=by
  have f: ∀j,Xt (upd H k (A b') j)=Xt (H j):=fun j=>by
    by_cases e:j=k
    · subst e;rw[QT,hk,r,x]
    · rw[Qc _ _ e]
  have q:own ρ H bd.zc:=⟨k,bd,l,z,rfl,by rw[hk];exact r⟩;have G:Ext ρ H w ρ (upd H k (A b')) w':=
    ⟨⟨o3,fun b Y Z=>a b (fun e=>Z (e▸q))⟩,fun b Y ⟨j,m,S,T,U,V⟩=>⟨j,m,S,T,U,by rw[<-f];exact V⟩,fun _ _ h=>h,fun j c=>⟨rfl,by
      by_cases e:j=k
      · subst e;rw[QT];simp
      · rw[Qc _ _ e];exact c⟩⟩
  refine⟨⟨h1.trans h.os,W.trans h.tape,X.trans h.output,by have:=h.size;omega,h.zi,?_,?_,?_,?_,?_⟩,G⟩
  · intro j c N;rw[a j (fun e=> ?_)]
    · exact h.zj j c N
    · have:=(h.zh k bd l z (by rw[hk];exact r)).2;rcases this with L | L
      · omega
      · exact N (e▸L)
  · intro j m c y;by_cases e:j=k
    · subst e;rw[QT]at c;cases c
      exact⟨bd,l,E G⟩
    · rw[Qc _ _ e]at c;obtain⟨p,J,ok⟩:=h.zc j m c y;exact⟨p,J,ok.ext G (fun C g=>a _ (fun u=>e (h.ze j k p bd J l C z (by rw[c];exact g) (by rw[hk];exact r) u)))⟩
  · intro j c;by_cases e:j=k
    · subst e;rw[QT]at c;cases c
    · rw[Qc _ _ e]at c;exact h.zq j c
  · intro j m c B g;rw[f]at g;have:=h.zh j m c B g;exact⟨o3,this.2⟩
  · intro j j' m s c v n1 n2 Q R u;rw[f]at Q R;exact h.ze j j' m s c v n1 n2 Q R u

theorem HS.kill(h:HS w0 M ρ H w)(hk:H k=A b):
    HS w0 M ρ (upd H k (A .dead)) w/\Ext ρ H w ρ (upd H k (A .dead)) w:=by
  have c: ∀j,Xt (upd H k (A .dead) j)=I->j≠k/\Xt (H j)=I:=fun j a=>by
    by_cases e:j=k
    · subst e;rw[QT]at a;cases a
    · rw[Qc _ _ e]at a;exact⟨e,a⟩
  have s:Ext ρ H w ρ (upd H k (A .dead)) w:=
    ⟨.refl _ _,fun b Q ⟨j,f,v,x,y,z⟩=>⟨j,f,v,x,y,(c j z).2⟩,fun _ _ h=>h,fun j a=>⟨rfl,by
      by_cases e:j=k
      · subst e;rw[QT];simp
      · rw[Qc _ _ e];exact a⟩⟩
  refine⟨⟨h.os,h.tape,h.output,h.size,h.zi,h.zj,?_,?_,?_,?_⟩,s⟩
  · intro j f a g;by_cases e:j=k
    · subst e;rw[QT]at a;cases a;cases g
    · rw[Qc _ _ e]at a;obtain⟨l,B,N⟩:=h.zc j f a g;exact⟨l,B,N.ext s (fun _ _=>rfl)⟩
  · intro j a;by_cases e:j=k
    · subst e;rw[QT]at a;cases a
    · rw[Qc _ _ e]at a;exact h.zq j a
  · intro j f a r q;exact h.zh j f a r (c j q).2
  · intro j u f m a p J L E G C;exact h.ze j u f m a p J L (c j E).2 (c u G).2 C

structure St where
 T:TM
 H:HP
def xE:Obj->L
  | .deferred _=>I
  | _=>F
def NC (w w':G):Prop:= ∀(b:C) (o:Obj),w.heap[b]? =A o->xE o=I->w'.heap[b]? =A o
theorem NC.refl (w:G):NC w w:=fun _ _ h _=>h
theorem NC.trans{c e:G}(h:NC w c)(k:NC c e):NC w e:=fun b o f a=>k b o (h b o f a) a
theorem HS.own_rf(h:HS w0 M ρ H w){b:C}(u:own ρ H b){o:Obj}(c:w.heap[b]? =A o):xE o=F:=by
 obtain⟨k,bd,p,l,rfl,a⟩:=u;cases g:H k with
 | none=>rw[g]at a;cases a
 | some B=>
  obtain⟨m,e,j⟩:=h.zc k B g (by rw[<-g];exact a);rw[p]at e;cases e
  cases B with
  | box t cs=>obtain⟨_,v,e,_⟩:=j;rw[c]at e;cases e;rfl
  | row t sz z=>
   obtain⟨_,_,q | ⟨_,arr,e,_⟩⟩:=j
   ·rw[q.1]at l;cases l
   ·rw[c]at e;cases e;rfl
  | lp s=>obtain⟨_,r,e,_⟩:=j;rw[c]at e;cases e;rfl
  | mp f=>obtain⟨_,y,x,e,_⟩:=j;rw[c]at e;cases e;rfl
  | dead=>rw[g]at a;cases a
theorem Ext.nc(e:HS w0 M ρ H w)(g:Ext ρ H w ρ' H' w'):NC w w':=by
 intro b o h c;have a:=(Zl.1 h).1;rw[g.keeps.block b a (fun f=>by rw[e.own_rf f h]at c;cases c)];exact h
def Marks (w0 w:G)(ds:B Deferred):Prop:= ∃a:B C,ds=a.map (fun r=>({target:= .collected r,args:= #[]}:Deferred))/\a.Nodup/\ ∀r∈a,w.heap[r]? =A (.deferred (A []))/\w0.heap.size<=r
theorem Marks.nil{w0:G}:Marks w0 w []:=⟨[],rfl,o6,o6⟩
theorem Marks.nc{w0:G}{ds:B Deferred}(h:Marks w0 w ds)(g:NC w w'):Marks w0 w' ds:=
 let ⟨j,e,f,a⟩:=h;⟨j,e,f,fun r c=>⟨g r _ (a r c).1 rfl,(a r c).2⟩⟩
structure Sim (w0:World)(M:Ctx)(N:C)(ρ:Env)(σ:St)(a:Act)(w:World):Prop where
 size:a.tmps.size=N
 dfr:Marks w0 w a.defers
 dfn:M.nd=I->a.defers=[]
 zg: ∀k bd,M.zg k=A bd->ρ k=A bd
 tmps: ∀t,ConcV w (ow M ρ σ.H) ρ (σ.T t) (a.tmps.getD t undef)
 zk: ∀p∈M.zk,∀t,ConcV w (ow M ρ σ.H) ρ (p.1 t) (p.2.getD t undef)
 hs:HS w0 M ρ σ.H w
def JR (T:TM)(d:Q C)(av:AV):TM:=
 match d with
 | some d=>upd T d av
 | none=>T
theorem Sim.put {N:C}{l:St}{a:Act}(h:Sim w0 M N ρ l a w)(m:HS w0 M ρ' H' w')(c:Ext ρ l.H w ρ' H' w'){d:Q C}(q: ∀t,d=A t->t<N)
  {av:AV} {v:E} (s:ConcV w' (ow M ρ' H') ρ' av v):Sim w0 M N ρ' ⟨JR l.T d av,H'⟩ (a.put d v) w':=by
 cases d with
 | none=>exact⟨h.size,h.dfr.nc (c.nc h.hs),h.dfn,fun k bd f=>c.env k bd (h.zg k bd f),fun t=>c.conc (h.tmps t),fun p j t=>c.conc (h.zk p j t),m⟩
 | some d=>
  have g:=q d rfl;refine⟨by simp[Act.put,h.size],h.dfr.nc (c.nc h.hs),h.dfn,fun k bd f=>c.env k bd (h.zg k bd f),fun t=> ?_,fun p j t=>c.conc (h.zk p j t),m⟩;by_cases e:t=d
  ·subst e;have:(a.put (A t) v).tmps.getD t undef=v:=by simp[Act.put,h.size,g]
   rw[this];simpa [JR,QT]using s
  ·have:(a.put (A d) v).tmps.getD t undef=a.tmps.getD t undef:=by
    simp only[Act.put,R.getD_eq_getD_getElem?];rw[R.getElem?_setIfInBounds_ne (fun r=>e r.symm)]
   rw[this];simpa [JR,Qc _ _ e]using c.conc (h.tmps t)
end Go.Eng
namespace Go.Eng
open Go
structure TyI where
 cells:C
 zero:B Value
 agg:L
 bytes:C
 zd:TypeDesc
 eq:L
abbrev TB:=C->Q TyI
structure JK (P:Program)(t:C)(i:TyI):Prop where
 info: ∃ti z,P.info? t=A ti/\ti.size=i.cells/\ti.bytes=i.bytes/\ti.zero=A z/\z.cells=i.zero.toArray
 zd:P.underlying t=A i.zd
 agg:i.agg=match i.zd with | .struct _ | .array _ _=>I | _=>F
 one:i.agg=F->i.cells=1
 zlen:i.zero.length=i.cells
 zone:i.zero.all (·.oneCell')=I
 zval: ∀k,i.zd= .int k-> ∃ti v,P.info? t=A ti/\ti.zero=A v/\i.zero=[v]
 eqok:i.eq=I->P.stoodInHeld t=F/\P.eqGuardType P.depth t=F/\ ∀fs,i.zd= .struct fs-> ∀f∈fs.toList,f.name≠ "_"
def Wf (P:Lm)(tb:TB):Prop:= ∀t i,tb t=A i->JK P t i
section mem
variable {P:Lm}{tb:TB}
variable{t:C}{i:TyI}
theorem Ht(h:JK P t i)(w:G): ∃a z,(Z t).run P w= .ok a w/\a.size=i.cells/\a.bytes=i.bytes/\a.zero=A z/\z.cells=i.zero.toArray:=by
 obtain⟨a,z,c,e,f,g,j⟩:=h.info;exact⟨a,z,by simp[Z,c],e,f,g,j⟩
theorem XU(h:JK P t i)(w:G):(be t).run P w= .ok i.cells w:=by
 obtain⟨e,z,a,c,_⟩:=Ht h w;simp[be,a,c]
theorem Uj(h:JK P t i)(w:G):(isAgg t).run P w= .ok i.agg w:=by
 simp only[isAgg,Sem.run_bind,U h.zd,Result.andThen_ok,h.agg];cases i.zd<;>rfl
theorem Kv(h:JK P t i)(w:G): ∃z,(zeroValue t).run P w= .ok z w/\z.cells=i.zero.toArray:=by
 obtain⟨f,z,a,_,_,c,e⟩:=Ht h w;exact⟨z,by simp[zeroValue,a,c],e⟩
def VP (w:G)(b o:C)(vs:B E):Prop:= ∀j v,vs[j]? =A v->w.cell? ⟨b,o+j,D⟩=A v

theorem Jj (b o j:C):(⟨b,o,D⟩:Addr).add j=⟨b,o+j,D⟩:=by
 unfold Addr.add;split<;>simp_all
variable{b:C}{w:G}
theorem Kc{arr:R E}{f:C×C}(h:w.heap[b]? =A (.cells arr t f))(o n:C):VP w b o ((arr.toList.drop o).take n):=by
 intro j v a;rw[Za]at a;split at a
 ·rw[Zc]at a;simp only[G.cell?,h];simpa using a
 ·cases a
variable{vs:B E}{o:C}
theorem K9(h:VP w b o vs):(loadCells ⟨b,o,D⟩ vs.length).run P w= .ok vs.toArray w:=
 run_loadCells_list w ⟨b,o,D⟩ vs fun j v a=>by rw[Jj];exact h j v a
theorem Vy(a:JK P t i)(h:VP w b o vs)(e:vs.length=i.cells):
  ∃v,(loadVar t ⟨b,o,D⟩).run P w= .ok v w/\(if i.agg then v= .agg vs.toArray else vs=[v]):=by
 cases c:i.agg with
 | true=>
  refine⟨.agg vs.toArray,?_,o6⟩;have:=K9 (P:=P) h;rw[e]at this;simp[loadVar,Uj a,c,XU a,this]
 | false=>
  have f:=a.one c;match vs,(by omega:vs.length=1)with
  | [v],_=>
   refine⟨v,?_,o6⟩;have:=h 0 v rfl;simp only[C.add_zero]at this;simp[loadVar,Uj a,c,this]
theorem Vk(e:JK P t i){u:C}{arr:R E}(h:w.heap[b]? =A (.cells arr u (0,0))){v:E}(f:v.cells=vs.toArray)(a:vs.length=i.cells)
  (c:o+J vs<=arr.size) (h1: ∀v∈vs,v.oneCell'=I):
  (storeVar t ⟨b,o,D⟩ v).run P w= .ok () (w.setRow b (arr.toList.take o++vs++arr.toList.drop (o+J vs)).toArray):=by
 have:=run_storeCells_at (P:=P) b o u vs 0 arr w h ((j9 c)) h1;simp only[C.add_zero]at this;simp[storeVar,f,XU e,a,this]
end mem
variable{ρ:Env}{O:C->Prop}{w:G}
theorem ConcX.cells{b:L}{cs:B Ch}{v:E}(h:ConcX w O ρ b cs v): ∃a,CC w O ρ cs a/\v.cells=a.toArray/\(if b then v= .agg a.toArray else a=[v]):=by
 obtain⟨a,e,c⟩:=h;refine⟨a,e,?_,c⟩;cases b with
 | true=>simp at c;subst c;rfl
 | false=>
  simp at c;subst c;have:=e.one v o6;cases v<;>first | rfl | simp[Zf]at this
theorem ConcX.one{x:E}{v:E}(h:ConcX w O ρ F [.v x] v):v=x/\x.oneCell'=I:=by
 obtain⟨c,e,a⟩:=h;simp at a;subst a;cases e with
 | v h _=>exact⟨rfl,h⟩
theorem ConcX.mk1{x:E}(h:x.oneCell'=I):ConcX w O ρ F [.v x] x:=⟨[x],.v h .nil,o6⟩
end Go.Eng
namespace Go.Eng
open Go
inductive BR where
  | ok (v:Value)
  | need (p:Prop) (v:Value)
  | bad

def BR.run (K:E->Prop):BR->Prop
 | .ok v=>K v
 | .need p v=>p/\K v
 | .bad=>c
def QiT (k:z)(a b:Y):Y:=k.wrap (hZ.ofInt k.bits a&&&hZ.ofInt k.bits b).toNat
def orI (k:z)(a b:Y):Y:=k.wrap (hZ.ofInt k.bits a ||| BitVec.ofInt k.bits b).toNat
def uf (k:z)(a b:Y):Y:=k.wrap (hZ.ofInt k.bits a^^^hZ.ofInt k.bits b).toNat
def QdL (k:z)(a b:Y):Y:=k.wrap (hZ.ofInt k.bits a&&& ~~~hZ.ofInt k.bits b).toNat
def YM (k:z)(a b:Y):Y:=k.wrap (a*2^(min b.toNat k.bits))
def XE (k:z)(a b:Y):Y:=a.fdiv (2^(min b.toNat k.bits))
def me (c:BinOp)(k:z)(a b:Y):BR:=
  match c with
  | .add=> .ok (.int k (k.wrap (a+b)))
  | .sub=> .ok (.int k (k.wrap (a-b)))
  | .mul=> .ok (.int k (k.wrap (a*b)))
  | .quo=> .need (b≠0) (.int k (k.wrap (a.tdiv b)))
  | .rem=> .need (b≠0) (.int k (a.tmod b))
  | .and=> .ok (.int k (QiT k a b))
  | .or=> .ok (.int k (orI k a b))
  | .xor=> .ok (.int k (uf k a b))
  | .andNot=> .ok (.int k (QdL k a b))
  | .eql=> .ok (.bool (a==b))
  | .neq=> .ok (.bool (a !=b))
  | .lss=> .ok (.bool (decide (a<b)))
  | .leq=> .ok (.bool (decide (a<=b)))
  | .gtr=> .ok (.bool (decide (a>b)))
  | .geq=> .ok (.bool (decide (a>=b)))
  | _=> .bad

def fA (op:BinOp)(x y:E):BR:=
 match x,y with
 | .int k a,.int c b=>
  match op with
  | .shl=> .need (0<=b) (.int k (YM k a b))
  | .shr=> .need (0<=b) (.int k (XE k a b))
  | op=>if k=c then me op k a b else .bad
 | .string a,.string b=>
  match op with
  | .eql=> .ok (.bool (a.toList==b.toList))
  | .neq=> .ok (.bool !(a.toList==b.toList))
  | .lss=> .ok (.bool (Op.bytesLess a.toList b.toList))
  | .add=> .need (((a.size+b.size:C):Y)<=9223372036854775807) (.string (a++b))
  | _=> .bad
 | _,_=> .bad
def ldS (cs:B Ch)(o n:C)(a:L):Q AV:=
  match Ks cs o with
  | some ds=>match Ku ds n with
    | some e=>A (.x a e)
    | none=>D
  | none=>D

def orF (o:Q AV)(K:AV->Prop):Prop:=match o with | some v=>K v | none=>c
inductive Sh where
  | int (k:IntKind)
  | bool
  | str
  | rat
  | sl (sz:C)
  | val
  | ifc (t:C) (ag:L)

def TN:B Sh->(B Ch->Prop)->Prop
  | [],K=>K []
  | .int k::s,K=> ∃d:Y,TN s fun cs=>K (.v (.int k d)::cs)
  | .bool::s,K=> ∃b:L,TN s fun cs=>K (.v (.bool b)::cs)
  | .str::s,K=> ∃b:ByteArray,TN s fun cs=>K (.v (.string b)::cs)
  | .rat::s,K=> ∃(q:Rat) (n:C),TN s fun cs=>K (.r q n::cs)
  | .sl sz::s,K=> ∃y:B (B Ch),TN s fun cs=>K (.s sz y::cs)
  | .val::s,K=> ∃x:E,TN s fun cs=>K (.v x::cs)
  | .ifc t a::s,K=> ∃ds:B Ch,TN s fun cs=>K (.i t a ds::cs)

inductive U6:B Sh->B Ch->Prop
 | nil:U6 [] []
 | int {k:IntKind} {d:Y} {s:B Sh} {cs:B Ch} (h:U6 s cs):U6 (.int k::s) (.v (.int k d)::cs)
 | bool {b:L} {s:B Sh} {cs:B Ch} (h:U6 s cs):U6 (.bool::s) (.v (.bool b)::cs)
 | str {b:ByteArray} {s:B Sh} {cs:B Ch} (h:U6 s cs):U6 (.str::s) (.v (.string b)::cs)
 | rat {q:Rat} {n:C} {s:B Sh} {cs:B Ch} (h:U6 s cs):U6 (.rat::s) (.r q n::cs)
 | sl {sz:C} {ys:B (B Ch)} {s:B Sh} {cs:B Ch} (h:U6 s cs):U6 (.sl sz::s) (.s sz ys::cs)
 | val {x:Value} {s:B Sh} {cs:B Ch} (h:U6 s cs):U6 (.val::s) (.v x::cs)
 | ifc {t:C} {ag:L} {ds:B Ch} {s:B Sh} {cs:B Ch} (h:U6 s cs):U6 (.ifc t ag::s) (.i t ag ds::cs)
theorem Hu: ∀{s:B Sh} {K:B Ch->Prop},TN s K↔ ∃cs,U6 s cs/\K cs:=by
 intro s;induction s with
 | nil=>intro K;exact⟨fun h=>⟨[],.nil,h⟩,fun⟨_,h,a⟩=>by cases h;exact a⟩
 | cons x s c=>
  intro K;cases x<;>simp only[TN,c]
  ·exact⟨fun⟨d,cs,h,a⟩=>⟨_,.int h,a⟩,fun⟨_,h,a⟩=>by cases h with | int h=>exact⟨_,_,h,a⟩⟩
  ·exact⟨fun⟨d,cs,h,a⟩=>⟨_,.bool h,a⟩,fun⟨_,h,a⟩=>by cases h with | bool h=>exact⟨_,_,h,a⟩⟩
  ·exact⟨fun⟨d,cs,h,a⟩=>⟨_,.str h,a⟩,fun⟨_,h,a⟩=>by cases h with | str h=>exact⟨_,_,h,a⟩⟩
  ·exact⟨fun⟨q,n,cs,h,a⟩=>⟨_,.rat h,a⟩,fun⟨_,h,a⟩=>by cases h with | rat h=>exact⟨_,_,_,h,a⟩⟩
  ·exact⟨fun⟨d,cs,h,a⟩=>⟨_,.sl h,a⟩,fun⟨_,h,a⟩=>by cases h with | sl h=>exact⟨_,_,h,a⟩⟩
  ·exact⟨fun⟨d,cs,h,a⟩=>⟨_,.val h,a⟩,fun⟨_,h,a⟩=>by cases h with | val h=>exact⟨_,_,h,a⟩⟩
  ·exact⟨fun⟨d,cs,h,a⟩=>⟨_,.ifc h,a⟩,fun⟨_,h,a⟩=>by cases h with | ifc h=>exact⟨_,_,h,a⟩⟩
def k9 (r:TyI->B Sh)(tb:TB):B Field->B Sh
 | []=>[]
 | f::c=>(match tb f.type with
  | some a=>r a
  | none=>[.val])++k9 r tb c
def ng (tb:TB):C->TyI->B Sh
  | 0,_=>[]
  | d+1,i=>match i.zd with
    | .int k=>[.int k]
    | .bool=>[.bool]
    | .string=>[.str]
    | .slice e=>match tb e with
      | some g=>[.sl g.cells]
      | none=>[.val]
    | .struct f=>match f.toList with
      | [a,b,c]=>match tb a.type,tb b.type,tb c.type with
        | some ⟨_,_,_,_,.bool,_⟩,A ⟨_,_,_,_,.string,_⟩,A ⟨_,_,_,_,.string,_⟩=>[.rat]
        | _,_,_=>k9 (ng tb d) tb f.toList
      | l=>k9 (ng tb d) tb l
    | _=>[.val]

def ldE (xs:B (B Ch))(j o n:C):Q (B Ch):=
  match xs[j]? with
  | some e=>match Ks e o with
    | some ds=>Ku ds n
    | none=>D
  | none=>D

def ldP (s:B Sh)(xs:B (B Ch))(j o n:C)(a:L)(K:AV->Prop):Prop:=TN s fun cs=>ldE xs j o n=A cs/\K (.x a cs)
variable{K:AV->Prop}{n:C}
theorem vR {s:B Sh}{xs:B (B Ch)}{j o:C}{c:L}(h:ldP s xs j o n c K): ∃e,xs[j]? =A e/\orF (ldS e o n c) K:=by
 obtain⟨cs,_,a,g⟩:=Hu.1 h;unfold ldE at a;split at a
 ·rename_i e f;refine⟨e,f,?_⟩;unfold ldS;split at a
  ·rename_i ds l;simp only[a];exact g
  ·cases a
 ·cases a
def aR (i:TyI)(s:B Sh)(a:AV)(H:HP)(K:AV->Prop):Prop:=
 match a with
 | .x F [.p k o]=>match H k with
  | some (.box _ cs)=>orF (ldS cs o i.cells i.agg) K
  | _=>c
 | .x F [.y _ x j o]=>ldP s x j o i.cells i.agg K
 | .x F [.e k j o]=>match H k with
  | some (.row _ _ x)=>ldP s x j o i.cells i.agg K
  | _=>c
 | _=>c
variable{cs:B Ch}
theorem QKP{ds:B Ch}(h:Ku cs n=A ds):Qj ds=n:=by
 fun_induction Ku cs n generalizing ds with
 | case1=>simp at h;subst h;rfl
 | case2=>simp at h
 | case3=>simp at h;subst h;rfl
 | case4=>simp at h;subst h;rfl
 | case5 cs q n k f=>
  simp only[Zn]at h;obtain⟨g,a,rfl⟩:=h;have:=f a;simp[Qj,Ch.len];omega
 | case6 c cs k e f=>
  simp only[Zn]at h;obtain⟨g,a,rfl⟩:=h;have:=f a;have j:c.len=1:=by cases c<;>first | rfl | exact At rfl (e _ _)
  simp[Qj,j];omega
theorem KF {w:G}{O:C->Prop}{ρ:Env}{v:B E}(h:CC w O ρ cs v){o:C}{c:L}(a:orF (ldS cs o n c) K):
  ∃e us,K (.x c e)/\CC w O ρ e us/\us=(v.drop o).take n/\us.length=n:=by
 unfold ldS at a;split at a
 ·rename_i ds j;split at a
  ·rename_i e g;have f:=(h.drop j).take g;exact⟨e,_,a,f,rfl,by rw[f.length,QKP g]⟩
  ·exact a.elim
 ·exact a.elim
variable {P:Lm}{w0:G}{M:Ctx}{ρ:Env}{H:HP}{w:G}
theorem CC.sub0 {w:G}{O:C->Prop}{ρ:Env}{vs:B E}(h:CC w O (fun _=>D) cs vs):CC w O ρ cs vs:=
 h.mono (.refl _ _) (fun _ _ h=>h) (fun _ _ h=>by cases h)
theorem QIA {t:C}{i:TyI}{sh:B Sh}(ht:JK P t i)(hs:HS w0 M ρ H w){a:AV}{v:E}(Y:ConcV w (ow M ρ H) ρ a v)(h:aR i sh a H K):
    ∃u av,(Instr.loadAt t v).run P w= .ok u w/\ConcV w (ow M ρ H) ρ av u/\K av:=by
  have L: ∀{b o:C} {cs:B Ch} {vs:B E},v= .pointer (A ⟨b,o,D⟩)->VP w b o vs->J vs=i.cells->CC w (ow M ρ H) ρ cs vs->K (.x i.agg cs)->
      ∃u av,(Instr.loadAt t v).run P w= .ok u w/\ConcV w (ow M ρ H) ρ av u/\K av:=by
    intro b o cs vs r hc hl c W;obtain⟨u,N,Q⟩:=Vy ht hc hl;exact⟨u,.x i.agg cs,by simp[Instr.loadAt,Instr.sureAddr,r,N],⟨vs,c,Q⟩,W⟩
  unfold aR at h;split at h
  · -- a box
    rename_i k o;split at h
    · rename_i ty cs W;obtain⟨q,c,r⟩:=Y;simp at r;subst r;obtain⟨bd,T,ok⟩:=hs.zc k _ W rfl;cases c with
      | p l hn _=>
        rw[T]at l;cases l
        obtain⟨_,q,Z,ja⟩:=ok;obtain⟨es,us,N,Q,U,V⟩:=KF ja h;refine L rfl ?_ V Q N
        rw[U];simpa using Kc Z o i.cells
    · exact h.elim
  · -- an immutable row
    rename_i sz xs j o;obtain⟨X,s,S⟩:=vR h;obtain⟨q,c,r⟩:=Y;simp at r;subst r;cases c with
    | @y _ _ b o' _ _ _ f _ _ hr hx _=>
      obtain⟨es,us,N,Q,U,V⟩:=KF (hx j X s) S;obtain⟨hl,R⟩:=hr.cell j X s;refine L rfl ?_ V Q.sub0 N
      intro m x g;rw[U,Za]at g;split at g
      · rw[Zc]at g;have jb:o+m<sz:=by
          have:=(Zi.1 g).1;omega
        have:=R (o+m) jb;rw[(o3:o'+j*sz+o+m=o'+j*sz+(o+m)),this,g]
      · cases g
  · -- an element of an own row
    rename_i k j o;split at h
    · rename_i ty sz xs W;obtain⟨X,s,S⟩:=vR h;obtain⟨q,c,r⟩:=Y;simp at r;subst r;obtain⟨bd,T,ok⟩:=hs.zc k _ W rfl;cases c with
      | e l hn _=>
        rw[T]at l;cases l
        obtain⟨_,jd,⟨z,_⟩ | ⟨_,arr,Z,jc,je,hx⟩⟩:=ok
        · rw[hn]at z;cases z
        · obtain⟨es,us,N,Q,U,V⟩:=KF (hx j X s) S;refine L rfl ?_ V Q.sub0 N
          intro m x g;rw[U,Za]at g;split at g
          · rw[Zc,Qt,Za]at g;split at g
            · rw[Zc]at g;rw[jd];simp only[G.cell?,Z];rw[(o3:j*sz+o+m=j*sz+(o+m))];simpa using g
            · cases g
          · cases g
    · exact h.elim
  · exact h.elim

end Go.Eng
namespace Go.Eng
open Go
def orH {a:Type}(o:Q a)(K:a->Prop):Prop:=match o with | some v=>K v | none=>c
def S7:Ch->L
 | .v _ | .r .. | .b .. | .s .. | .i .. =>I
 | _=>F
def U7 (H:HP):B Ch->Q (B Ch)
  | []=>A []
  | c::cs=>
    match(match c with
      | .w k o n=>match H k with
        | some (.row _ sz x)=>A (Ch.s sz ((x.drop o).take n))
        | _=>D
      | .p .. | .e .. | .y .. | .f .. | .m .. | .yl .. | .u=>D
      | c=>A c),U7 H cs with
    | some e,A a=>A (e::a)
    | _,_=>D

def killL (H:HP):B Ch->HP
  | []=>H
  | .w k _ _::cs=>killL (upd H k (A .dead)) cs
  | _::cs=>killL H cs

def stE (xs:B (B Ch))(j o:C)(cs:B Ch):Q (B Ch):=
  match xs[j]? with
  | some e=>Vj e o cs
  | none=>D

def pG (i:TyI)(a v:AV)(H:HP)(K:HP->Prop):Prop:=
 match a,v with
 | .x F [.p k o],.x g cs=>bif(Qj cs).beq i.cells&&(g==i.agg)then(match H k with
  | some (.box t l)=>orH (Vj l o cs) fun h=>K (upd H k (A (.box t h)))
  | _=>c)else c
 | .x F [.e k j o],.x g cs=>bif(Qj cs).beq i.cells&&(g==i.agg)then orH (U7 H cs) fun e=>
  (match killL H cs k with
  | some (.row t sz x)=>bif o.beq 0&&(Qj cs).beq sz then j<J x/\K (upd (killL H cs) k (A (.row t sz (x.set j e))))else
    ∃f,stE x j o e=A f/\K (upd (killL H cs) k (A (.row t sz (x.set j f))))
  | _=>c)else c
 | _,_=>c
variable {P:Lm}{w0:G}{M:Ctx}{ρ:Env}{H:HP}{w:G}
variable{cs ds:B Ch}{us:B E}{o:C}
theorem Gq{c:B Ch}(h:Vj cs o c=A ds){w:G}{O:C->Prop}{ρ:Env}{v:B E}(e:CC w O ρ cs v)(f:CC w O ρ c us):
  CC w O ρ ds (v.take o++us++v.drop (o+J us)):=by
 unfold Vj at h;split at h
 ·rename_i a b g j;simp at h;subst h;rw[f.length,Zg];exact(e.take g).append (f.append (e.drop j))
 ·cases h
theorem QPc{n:C}(h:Ks cs n=A ds):n<=Qj cs:=by
 fun_induction Ks cs n generalizing ds with
 | case1=>omega
 | case2=>simp at h
 | case3=>simp[Qj,Ch.len];omega
 | case4=>simp[Qj,Ch.len];omega
 | case5 cs q n k e=>have:=e h;simp[Qj,Ch.len];omega
 | case6 c cs k a e=>
  have:=e h;have f:c.len=1:=by cases c<;>first | rfl | exact At rfl (a _ _)
  simp[Qj,f];omega
theorem pY{c:B Ch}(h:Vj cs o c=A ds):o+Qj c<=Qj cs:=by
 unfold Vj at h;split at h
 ·rename_i a b f e;exact QPc e
 ·cases h
variable{arr:R E}{t:C}
theorem Vz {w:G}{b:C}{arr':R E}{f:C×C}(h:w.heap[b]? =A (.cells arr t f)):
    (w.setRow b arr').heap[b]? =A (.cells arr' t f)/\(∀j,j≠b->(w.setRow b arr').heap[j]? =w.heap[j]?)/\(w.setRow b arr').heap.size=w.heap.size:=by
  have c:b<w.heap.size:=(Zl.1 h).1;refine⟨?_,?_,?_⟩
  · simp[World.setRow,R.getElem?_modify,h]
  · intro j a;simp only[World.setRow,R.getElem?_modify];rw[if_neg (fun e=>a e.symm)]
  · simp[World.setRow]

variable{k:C}
theorem HS.storeBox (q:HS w0 M ρ H w){j c:B Ch}(hk:H k=A (.box t j)){bd:WM}(g:ρ k=A bd)(h:Vj j o cs=A c)(m:CC w (ow M ρ H) ρ cs us):
  ∃arr:R E,w.heap[bd.zc]? =A (.cells arr t (0,0))/\o+J us<=arr.size/\
   HS w0 M ρ (upd H k (A (.box t c))) (w.setRow bd.zc (arr.toList.take o++us++arr.toList.drop (o+J us)).toArray)/\
   Ext ρ H w ρ (upd H k (A (.box t c))) (w.setRow bd.zc (arr.toList.take o++us++arr.toList.drop (o+J us)).toArray):=by
 obtain⟨r,a,z⟩:=q.zc k _ hk rfl;rw[g]at a;cases a
 obtain⟨p,v,l,e⟩:=z;have f:=pY h;refine⟨v.toArray,l,by rw[m.length];simpa [e.length]using f,?_⟩;obtain⟨s,u,x⟩:=Vz (arr':=(v.toArray.toList.take o++us++v.toArray.toList.drop (o+J us)).toArray) l;refine q.write hk rfl rfl g p u x rfl rfl rfl fun y=>⟨p,_,s,y.cc ?_⟩;simpa using Gq h e m
def Jx:B Ch->B C
  | []=>[]
  | .w k _ _::cs=>k::Jx cs
  | _::cs=>Jx cs

variable{sz:C}
theorem uA{cap i:C}(a:arr.size=cap*sz)(h:i<cap):(Qt arr sz i).length=sz:=by
 simp only[Qt,Zm,Zp,Zs,a];have:(i+1)*sz<=cap*sz:=Ze _ h;rw[Zh]at this;omega
theorem QNc (W:HS w0 M ρ H w){n:C}{xs:B (B Ch)}(hk:H k=A (.row t sz xs)){v:E}(R:CC w (ow M ρ H) ρ [.w k o n] [v]){O':C->Prop}(Q: ∀b,O' b->ow M ρ H b)
    (T: ∀bd,ρ k=A bd->bd.isNil=F-> ¬O' bd.zc):CC w O' (fun _=>D) [.s sz ((xs.drop o).take n)] [v]:=by
  obtain⟨bd,l,L,y,Z⟩:=W.zc k _ hk rfl;cases R with
  | @w _ _ _ _ cap _ _ _ g N hl S J _=>
    rw[l]at g;cases g
    rcases Z with⟨a,_⟩ | ⟨_,arr,z,c,V,Y⟩
    · rw[N]at a;cases a
    · have u:bd.zc<w.heap.size:=(Zl.1 z).1;have s:((xs.drop o).take n).length=n:=o9
      have m:=CC.s (ρ:=fun _=>D) (w:=w) (O:=O') (sz:=sz) (b:=bd.zc) (o:=o*sz) (cap:=cap) (xs:=(xs.drop o).take n) (f:=fun i=>Qt arr sz (o+i)) (cs:=[]) (vs:=[]) ?_ ?_ o3 .nil
      · rw[s]at m;rw[y];exact m
      · refine⟨u,T _ l N,fun i x e=> ?_⟩;have q:o+i<bd.cap:=by
          have:=(Zi.1 e).1;simp at this;omega
        have p:=uA c q;refine⟨p,fun j U=> ?_⟩;simp only[G.cell?,z,Qt];rw[Za,X U,Zc];rw[show o*sz+i*sz+j=(o+i)*sz+j by rw[Zh]];simp
      · intro i x e;have r:xs[o+i]? =A x:=by
          rw[Za]at e;split at e
          · rwa [Zc]at e
          · cases e
        exact(Y (o+i) x r).mono (.refl _ _) (fun b _ h=>Q b h) (fun _ _ h=>h)
  | w0=>
    rw[(o6:((xs.drop 0).take 0)=[])];exact .s0 .nil
  | w00=>
    rw[B.take_zero];exact .s00 .nil

theorem QB5 (Z:HS w0 M ρ H w){O':C->Prop}(Q: ∀b,O' b->ow M ρ H b): ∀{cs ds:B Ch} {vs:B E},CC w (ow M ρ H) ρ cs vs->U7 H cs=A ds->
  (∀k∈Jx cs,∀bd,ρ k=A bd->bd.isNil=F-> ¬O' bd.zc)->CC w O' (fun _=>D) ds vs:=by
 have l: ∀{cs:B Ch} {vs:B E},CC w (ow M ρ H) (fun _=>D) cs vs->CC w O' (fun _=>D) cs vs:=fun h=>h.mono (.refl _ _) (fun b _ h=>Q b h) (fun _ _ h=>h);intro cs;induction cs with
 | nil=>intro ds vs h z _;cases h;simp[U7]at z;subst z;exact .nil
 | cons c cs L=>
  intro ds vs h z G;simp only[U7]at z;split at z
  ·rename_i c' V g J;simp at z;subst z;cases c with
   | w k o n=>
    simp only at g;split at g
    ·rename_i t sz xs j;simp at g;subst g;obtain⟨us,rest,rfl,X,R,S⟩:=h.cons;match us,X with
     | [v],_=>
      have W:=QNc Z j R Q (G k (by simp[Jx]));exact W.append (L S J (fun k' T=>G k' (by simp[Jx,T])))
    ·cases g
   | p=>cases g
   | e=>cases g
   | y=>cases g
   | f=>cases g
   | m=>cases g
   | yl=>cases g
   | u=>cases g
   | i t ag ja=>simp at g;subst g;cases h with | i U hv h=>exact .i (l U) hv (L h J (fun k j=>G k (by simpa [Jx]using j)))
   | v x=>simp at g;subst g;cases h with | v a h=>exact .v a (L h J (fun k j=>G k (by simpa [Jx]using j)))
   | r q n=>simp at g;subst g;cases h with | r a h=>exact .r a (L h J (fun k j=>G k (by simpa [Jx]using j)))
   | b m n=>simp at g;subst g;cases h with | b a h=>exact .b a (L h J (fun k j=>G k (by simpa [Jx]using j)))
   | s sz xs=>
    simp at g;subst g;cases h with
    | s00 h=>exact .s00 (L h J (fun k j=>G k (by simpa [Jx]using j)))
    | s0 h=>exact .s0 (L h J (fun k j=>G k (by simpa [Jx]using j)))
    | s Y U N h=>exact .s (Y.mono (.refl _ _) (fun b _ h=>Q b h)) (fun i x z=>l (U i x z)) N (L h J (fun k j=>G k (by simpa [Jx]using j)))
  ·cases z
theorem Hv (cs:B Ch): ∀(H:HP) (k:C),killL H cs k=if k∈Jx cs then A .dead else H k:=by
 induction cs with
 | nil=>intro H k;simp[killL,Jx]
 | cons c cs a=>
  intro H k;cases c with
  | w f o n=>
   simp only[killL,Jx,B.mem_cons];rw[a];by_cases h:k∈Jx cs
   ·simp[h]
   ·by_cases e:k=f
    ·subst e;simp[h,QT]
    ·simp[h,e,Qc _ _ e]
  | _=>simp only[killL,Jx];exact a H k
theorem HS.killL (g:HS w0 M ρ H w): ∀{cs:B Ch},(∀k∈Jx cs,∃b,H k=A b)->HS w0 M ρ (Eng.killL H cs) w/\Ext ρ H w ρ (Eng.killL H cs) w:=by
 intro cs;induction cs generalizing H with
 | nil=>exact fun _=>⟨g,.refl _ _ _⟩
 | cons c cs j=>
  intro f;cases c with
  | w k o n=>
   obtain⟨b,p⟩:=f k (by simp[Jx]);obtain⟨l,m⟩:=g.kill p
   have:=j l (fun a h=>by
    by_cases e:a=k
    ·subst e;exact⟨_,QT _ _ _⟩
    ·rw[Qc _ _ e];exact f a (by simp[Jx,h]))
   exact⟨this.1,m.trans this.2⟩
  | _=>exact j g (fun a h=>f a (by simpa [Jx]using h))
theorem VA(h:U7 H cs=A ds): ∀k∈Jx cs,∃t sz xs,H k=A (.row t sz xs):=by
 induction cs generalizing ds with
 | nil=>simp[Jx]
 | cons c cs j=>
  simp only[U7]at h;split at h
  ·rename_i p l e g;cases c with
   | w k o n=>
    simp only at e;split at e
    ·rename_i t sz xs m;intro f a;simp only[Jx,B.mem_cons]at a;rcases a with rfl | a
     ·exact⟨t,sz,xs,m⟩
     ·exact j g f a
    ·cases e
   | _=>exact fun f a=>j g f (by simpa [Jx]using a)
  ·cases h
theorem QPd (j:HS w0 M ρ H w){vs:B E}(x:CC w (ow M ρ H) ρ cs vs)(s:U7 H cs=A ds):CC w (ow M ρ (Eng.killL H cs)) (fun _=>D) ds vs:=by
  have v:=VA s;obtain⟨C,G⟩:=j.killL (cs:=cs) (fun k g=>let ⟨t,sz,z,e⟩:=v k g;⟨_,e⟩);have c: ∀b,ow M ρ (Eng.killL H cs) b->ow M ρ H b:=by
    rintro b (h | ⟨k,bd,l,m,p,a⟩)
    · exact .inl h
    · rw[Hv]at a;split at a
      · cases a
      · exact .inr ⟨k,bd,l,m,p,a⟩
  refine QB5 j c x s fun k g bd f u h=> ?_
  obtain⟨t,sz,z,e⟩:=v k g;rcases h with h | ⟨y,q,l,m,p,a⟩
  · exact j.nx f u (by rw[e];rfl) h
  · rw[Hv]at a;split at a
    · cases a
    · rename_i r;have:=j.ze y k q bd l f m u a (by rw[e];rfl) p;subst this;exact r g

theorem QKR{cap j:C}(s:arr.size=cap*sz)(g:j<cap)(r:o+J us<=sz)(i:C):
  Qt ((arr.toList.take (j*sz+o)++us++arr.toList.drop (j*sz+o+J us)).toArray) sz i=
   if i=j then(Qt arr sz j).take o++us++(Qt arr sz j).drop (o+J us)else Qt arr sz i:=by
 have l:j*sz+sz<=arr.size:=by
  have:(j+1)*sz<=cap*sz:=Ze _ g;rw[Zh,Zr]at this;omega
 have h:arr.toList.length=arr.size:=o6
 apply Zt;intro m;simp only[Qt];rw[Za];by_cases c:m<sz
 ·rw[X c,Zc];by_cases a:i=j
  ·subst a;rw[X rfl];by_cases p:m<o
   ·rw[Zg,Zd o9,Zg,Zd o9];simp only[Za];rw[X o3,X o3,X o3,Zc]
   ·by_cases q:m<o+us.length
    ·rw[Zg,Zb o9,Zd o9];rw[Zg,Zb o9,Zd o9];congr 1;simp;omega
    ·rw[Zg,Zb o9,Zb o9];rw[Zg,Zb o9,Zb o9];simp only[Zc,Za,Zm,Zp,h];rw[X o3];congr 1;omega
  ·rw[if_neg a,Za,X c,Zc];by_cases f:i<j
   ·have:i*sz+sz<=j*sz:=by
     have:(i+1)*sz<=j*sz:=Ze _ f;rw[Zh,Zr]at this;omega
    rw[Zg,Zd o9,Za,X o3]
   ·have:j*sz+sz<=i*sz:=by
     have:(j+1)*sz<=i*sz:=Ze _ o3;rw[Zh,Zr]at this;omega
    rw[Zg,Zb o9,Zb o9,Zc];congr 1;simp only[Zm,h];omega
 ·rw[if_neg c];split
  ·rename_i e;subst e;symm;rw[B.getElem?_eq_none];simp only[Zk,Zm,Zp];omega
  ·rw[Za,if_neg c]
theorem HS.storeRow (T:HS w0 M ρ H w){j:C}{xs:B (B Ch)}{z l:B Ch}(hk:H k=A (.row t sz xs)){bd:WM}(y:ρ k=A bd)(N:bd.isNil=F)(p:xs[j]? =A z)
  (f:Vj z o cs=A l) (S:CC w (ow M ρ H) (fun _=>D) cs us):
  ∃arr:R E,w.heap[bd.zc]? =A (.cells arr t (0,0))/\bd.sz=sz/\j*sz+o+J us<=arr.size/\
   HS w0 M ρ (upd H k (A (.row t sz (xs.set j l)))) (w.setRow bd.zc (arr.toList.take (j*sz+o)++us++arr.toList.drop (j*sz+o+J us)).toArray)/\
   Ext ρ H w ρ (upd H k (A (.row t sz (xs.set j l)))) (w.setRow bd.zc (arr.toList.take (j*sz+o)++us++arr.toList.drop (j*sz+o+J us)).toArray):=by
 obtain⟨V,g,q,s,ok⟩:=T.zc k _ hk rfl;rw[y]at g;cases g
 rcases ok with⟨c,_⟩ | ⟨_,arr,Q,a,L,U⟩
 ·rw[N]at c;cases c
 have G:j<bd.cap:=by have:=(Zi.1 p).1;omega
 have v:=U j z p;have r:=pY f;rw[<-S.length,<-v.length,uA a G]at r;have ja:j*sz+sz<=arr.size:=by
  have:(j+1)*sz<=bd.cap*sz:=Ze _ G;rw[Zh,Zr]at this;omega
 refine⟨arr,Q,s,o3,?_⟩;obtain⟨W,Y,Z⟩:=Vz (arr':=(arr.toList.take (j*sz+o)++us++arr.toList.drop (j*sz+o+J us)).toArray) Q;refine T.write hk rfl rfl y N Y Z rfl rfl rfl fun u=>⟨(j9 q),s,.inr ⟨N,_,W,?_,(j9 L),?_⟩⟩
 ·simp;omega
 ·intro i x m;rw[QKR a G r];rw[B.getElem?_set]at m;split at m
  ·rename_i e;subst e;split at m
   ·simp at m;subst m;rw[X rfl];exact u.cc0 (Gq f v S)
   ·cases m
  ·rename_i e;rw[if_neg (fun h=>e h.symm)];exact u.cc0 (U i x m)
theorem QKS (cs:B Ch):Ks cs (Qj cs)=A []:=by
 induction cs with
 | nil=>rfl
 | cons c cs a=>
  cases c with
  | r q n=>rw[show Qj (.r q n::cs)=Qj cs+2+1 by simp[Qj,Ch.len];omega];exact a
  | v x=>rw[show Qj (.v x::cs)=Qj cs+1 by simp[Qj,Ch.len];omega];exact a
  | b m n=>rw[show Qj (.b m n::cs)=Qj cs+1 by simp[Qj,Ch.len];omega];exact a
  | s sz j=>rw[show Qj (.s sz j::cs)=Qj cs+1 by simp[Qj,Ch.len];omega];exact a
  | p k o=>rw[show Qj (.p k o::cs)=Qj cs+1 by simp[Qj,Ch.len];omega];exact a
  | w k o n=>rw[show Qj (.w k o n::cs)=Qj cs+1 by simp[Qj,Ch.len];omega];exact a
  | e k i o=>rw[show Qj (.e k i o::cs)=Qj cs+1 by simp[Qj,Ch.len];omega];exact a
  | y sz j i o=>rw[show Qj (.y sz j i o::cs)=Qj cs+1 by simp[Qj,Ch.len];omega];exact a
  | f g z=>rw[show Qj (.f g z::cs)=Qj cs+1 by simp[Qj,Ch.len];omega];exact a
  | i t l h=>rw[show Qj (.i t l h::cs)=Qj cs+1 by simp[Qj,Ch.len];omega];exact a
  | m k=>rw[show Qj (.m k::cs)=Qj cs+1 by simp[Qj,Ch.len];omega];exact a
  | yl k=>rw[show Qj (.yl k::cs)=Qj cs+1 by simp[Qj,Ch.len];omega];exact a
  | u=>rw[show Qj (.u::cs)=Qj cs+1 by simp[Qj,Ch.len];omega];exact a
theorem QKT{e:B Ch}(h:Qj cs=Qj e):Vj e 0 cs=A cs:=by
  unfold Vj;have a:Ku e 0=A []:=by cases e<;>rfl
  rw[a,C.zero_add,h,QKS];simp

theorem QSM {H:HP}: ∀{cs ds:B Ch},U7 H cs=A ds->Qj ds=Qj cs:=by
 intro cs;induction cs with
 | nil=>intro ds h;simp[U7]at h;subst h;rfl
 | cons c cs l=>
  intro ds h;simp only[U7]at h;split at h
  ·rename_i e f a g;simp at h;subst h;have:=l g;have j:e.len=c.len:=by
    cases c<;>simp at a<;>first | (subst a;rfl) | skip
    split at a
    ·simp at a;subst a;rfl
    ·cases a
   simp only[Qj,this,j]
  ·cases h
theorem QFq{i:TyI}(ht:JK P t i)(Y:HS w0 M ρ H w){a v:AV}{va vv:E}(ha:ConcV w (ow M ρ H) ρ a va)(hv:ConcV w (ow M ρ H) ρ v vv){K:HP->Prop}(h:pG i a v H K):
    ∃w' H',(Instr.storeAt t va vv).run P w= .ok () w'/\HS w0 M ρ H' w'/\Ext ρ H w ρ H' w'/\K H':=by
  unfold pG at h;split at h
  · rename_i k o Z cs;cases x:((Qj cs).beq i.cells&&(Z==i.agg))with
    | false=>rw[x]at h;exact h.elim
    | true=>
      rw[x]at h;simp only[L.and_eq_true]at x;simp only[R7]at h;split at h
      · rename_i t' bs C;unfold orH at h;split at h
        · rename_i jf r;obtain⟨Q,q,g⟩:=ha;simp at g;subst g;cases q with
          | @p _ _ _ bd _ _ s X _=>
            obtain⟨us,l,f,_⟩:=hv.cells;obtain⟨arr,hb,y,T,h2⟩:=Y.storeBox C s r l;refine⟨_,_,?_,T,h2,h⟩;simp only[Instr.storeAt,Instr.sureAddr,Sem.run_bind,Sem.run_pure,Result.andThen_ok];exact Vk ht hb f (by rw[l.length];exact Zo x.1) y l.one
        · exact h.elim
      · exact h.elim
  · rename_i k j o Z cs;cases x:((Qj cs).beq i.cells&&(Z==i.agg))with
    | false=>rw[x]at h;exact h.elim
    | true=>
      rw[x]at h;simp only[L.and_eq_true]at x;simp only[R7]at h;unfold orH at h;split at h
      · rename_i jb W;split at h
        · rename_i t' sz S C;have N: ∀{V u:B Ch},S[j]? =A V->Vj V o jb=A u->K (upd (Eng.killL H cs) k (A (.row t' sz (S.set j u))))->
              ∃w' H',(Instr.storeAt t va vv).run P w= .ok () w'/\HS w0 M ρ H' w'/\Ext ρ H w ρ H' w'/\K H':=by
            intro V u m r h;obtain⟨Q,q,g⟩:=ha;simp at g;subst g;cases q with
            | @e _ _ _ _ bd _ _ s X _=>
              obtain⟨us,l,f,_⟩:=hv.cells;have hr:=VA W;obtain⟨R,je⟩:=Y.killL (cs:=cs) (fun k C=>let ⟨t,sz,S,e⟩:=hr k C;⟨_,e⟩);obtain⟨arr,hb,jd,y,T,h2⟩:=R.storeRow C s X m r (QPd Y l W);refine⟨_,_,?_,T,je.trans h2,h⟩;simp only[Instr.storeAt,Instr.sureAddr,Sem.run_bind,Sem.run_pure,Result.andThen_ok];rw[jd];exact Vk ht hb f (by rw[l.length];exact Zo x.1) y l.one
          cases c:(o.beq 0&&(Qj cs).beq sz)with
          | true=>
            rw[c]at h;simp only[L.and_eq_true]at c;obtain⟨hj,h⟩:=h;have ho:=Zo c.1;have hl:=Zo c.2;have m:S[j]? =A S[j]:=B.getElem?_eq_getElem hj
            refine N m ?_ h
            -- the whole element
            have R:=(Y.killL (cs:=cs) (fun k C=>let ⟨t,sz,S,e⟩:=VA W k C;⟨_,e⟩)).1;have U:Qj S[j]=sz:=by
              obtain⟨Q,q,g⟩:=ha;simp at g;subst g;cases q with
              | @e _ _ _ _ bd _ _ s X _=>
                obtain⟨ja,J,_,_,⟨G,_⟩ | ⟨_,arr,_,jc,y,hx⟩⟩:=R.zc k _ C rfl
                · rw[s]at J;cases J;rw[X]at G;cases G
                · have:=(hx j _ m).length;rw[<-this];have T:(j+1)*sz<=ja.cap*sz:=Ze _ o3;rw[Zh,Zr]at T;simp only[Qt,Zm,Zp,Zs];omega
            rw[ho];exact QKT (by rw[QSM W,hl,U])
          | false=>
            rw[c]at h;obtain⟨u,z,h⟩:=h;unfold stE at z;split at z
            · rename_i V m;exact N m z h
            · cases z
        · exact h.elim
      · exact h.elim
  · exact h.elim

end Go.Eng
namespace Go.Eng
open Go
variable {P:Lm}{w0:G}{M:Ctx}{ρ:Env}{H:HP}{w:G}
variable{d:C}
theorem HS.move {w':G}(h:HS w0 M ρ H w){k:C}{bd bd':WM}{b b':Blk}(hk:H k=A b)(v:Xt (A b)=I)(Q:H d=D)(m:ρ k=A bd)(x:bd.isNil=F)
    (s:bd'.zc=bd.zc)
    (g: ∀j,j≠bd.zc->w'.heap[j]? =w.heap[j]?) (hs:w'.heap.size=w.heap.size) (h1:w'.os=w.os) (h2:w'.tape=w.tape) (h3:w'.output=w.output)
    (T:Ext ρ H w (upd ρ d (A bd')) (upd (upd H k (A .dead)) d (A b')) w'->BlkOK M.zp w' (ow M (upd ρ d (A bd')) (upd (upd H k (A .dead)) d (A b'))) (upd ρ d (A bd')) bd' b'):
    HS w0 M (upd ρ d (A bd')) (upd (upd H k (A .dead)) d (A b')) w'/\Ext ρ H w (upd ρ d (A bd')) (upd (upd H k (A .dead)) d (A b')) w':=by
  have ja:k≠d:=fun e=>by subst e;rw[hk]at Q;cases Q
  have L:ρ d=D:=h.zq d Q;have u:own ρ H bd.zc:=⟨k,bd,m,x,rfl,by rw[hk];exact v⟩;have c: ∀j,j≠d->Xt (upd (upd H k (A .dead)) d (A b') j)=I->j≠k/\Xt (H j)=I:=fun j a f=>by
    rw[Qc _ _ a]at f;by_cases e:j=k
    · subst e;rw[QT]at f;cases f
    · rw[Qc _ _ e]at f;exact⟨e,f⟩
  have U:Ext ρ H w (upd ρ d (A bd')) (upd (upd H k (A .dead)) d (A b')) w':=by
    refine⟨⟨o3,fun b hb ho=>g b (fun e=>ho (e▸u))⟩,fun b hb ⟨j,p,N,a2,V,a4⟩=> ?_,fun j p a=> ?_,fun j a=> ?_⟩
    · by_cases e:j=d
      · subst e;rw[QT]at N;cases N
        rw[<-V,s];exact u
      · rw[Qc _ _ e]at N;exact⟨j,p,N,a2,V,(c j e a4).2⟩
    · rw[Qc _ _ (fun e=>by subst e;rw[L]at a;cases a)];exact a
    · have e:j≠d:=fun e=>a (e▸Q);rw[Qc _ _ e,Qc _ _ e];refine⟨rfl,?_⟩;by_cases r:j=k
      · subst r;rw[QT];simp
      · rw[Qc _ _ r];exact a
  refine⟨⟨h1.trans h.os,h2.trans h.tape,h3.trans h.output,by have:=h.size;omega,h.zi,?_,?_,?_,?_,?_⟩,U⟩
  · intro j a W;rw[g j (fun e=> ?_)]
    · exact h.zj j a W
    · rcases(h.zh k bd m x (by rw[hk];exact v)).2 with h' | h'
      · omega
      · exact W (e▸h')
  · intro j p a J;by_cases e:j=d
    · subst e;rw[QT]at a;cases a
      exact⟨bd',QT _ _ _,T U⟩
    · rw[Qc _ _ e]at a⊢;by_cases r:j=k
      · subst r;rw[QT]at a;cases a;cases J
      · rw[Qc _ _ r]at a;obtain⟨z,q,ok⟩:=h.zc j p a J;exact⟨z,q,ok.ext U (fun S f=>g _ (fun E=>r (h.ze j k z bd q m S x (by rw[a];exact f) (by rw[hk];exact v) E)))⟩
  · intro j a;by_cases e:j=d
    · subst e;rw[QT]at a;cases a
    · rw[Qc _ _ e]at a⊢;by_cases r:j=k
      · subst r;rw[QT]at a;cases a
      · rw[Qc _ _ r]at a;exact h.zq j a
  · intro j p a R f;by_cases e:j=d
    · subst e;rw[QT]at a;cases a
      have:=h.zh k bd m x (by rw[hk];exact v);rw[s];exact⟨o3,this.2⟩
    · rw[Qc _ _ e]at a;have:=h.zh j p a R (c j e f).2;exact⟨o3,this.2⟩
  · intro j y p B a l Z n2 X Y E;by_cases e:j=d
    · by_cases q:y=d
      · omega
      · subst e;rw[QT]at a;cases a
        rw[Qc _ _ q]at l;have:=c y q Y;exact At (h.ze y k B bd l m n2 x this.2 (by rw[hk];exact v) (by rw[<-E,s])) this.1
    · by_cases q:y=d
      · subst q;rw[QT]at l;cases l
        rw[Qc _ _ e]at a;have:=c j e X;exact At (h.ze j k p bd a m Z x this.2 (by rw[hk];exact v) (by rw[E,s])) this.1
      · rw[Qc _ _ e]at a;rw[Qc _ _ q]at l;exact h.ze j y p B a l Z n2 (c j e X).2 (c y q Y).2 E

theorem CC.vals {w:G}{O:C->Prop}{ρ:Env}: ∀{vs:B E},vs.all (·.oneCell')=I->CC w O ρ (vs.map Ch.v) vs
 | [],_=> .nil
 | x::a,h=>by
  simp only[B.all_cons,L.and_eq_true]at h;exact .v h.1 (CC.vals h.2)
variable{t:C}
theorem HS.box (e:HS w0 M ρ H w)(c:H d=D){cs:B Ch}{us:B E}(a:CC w (ow M ρ H) ρ cs us):
  ∃ρ',HS w0 M ρ' (upd H d (A (.box t cs))) (w.alloc (.cells us.toArray t))/\Ext ρ H w ρ' (upd H d (A (.box t cs))) (w.alloc (.cells us.toArray t))/\
   ConcV (w.alloc (.cells us.toArray t)) (ow M ρ' (upd H d (A (.box t cs)))) ρ' (.x F [.p d 0]) (.pointer (A ⟨w.heap.size,0,D⟩)):=by
 have h:=e.alloc c (o:= .cells us.toArray t) (bd:=⟨w.heap.size,0,0,0,F⟩) (b:= .box t cs) (w':=w.alloc (.cells us.toArray t)) rfl rfl rfl rfl rfl
  (fun f=>⟨rfl,us,heap_alloc_new w _,f.cc a⟩)
 exact⟨_,h.1,h.2,[_],.p (QT _ _ _) rfl .nil,rfl⟩
variable{pre rest:B E}{i sz:C}
theorem Wg(n:C)(c:pre.length=n*sz)(a:i<n):Qt (pre++rest).toArray sz i=Qt pre.toArray sz i:=by
  have h:(i+1)*sz<=n*sz:=Ze _ a;rw[Zh,Zr]at h;apply Zt;intro m;simp only[Qt];rw[Za,Za];split
  · rw[Zc,Zc,Zd o3]
  · rfl

theorem VQ(n:C)(h:pre.length=n*sz):Qt (pre++rest).toArray sz (n+i)=Qt rest.toArray sz i:=by
 simp only[Qt];rw[Zh,<-h,<-B.drop_drop,B.drop_left]
theorem QFr{m:B E}(n:C)(a:pre.length=n*sz)(h:i<n):Qt (pre++m++rest).toArray sz i=Qt pre.toArray sz i:=by
 rw[Zg];exact Wg n a h
theorem QIC{m:B E}(n:C)(h:pre.length=n*sz):Qt (pre++m++rest).toArray sz (n+i)=Qt (m++rest).toArray sz i:=by
 rw[Zg];exact VQ n h
theorem HS.row (q:HS w0 M ρ H w){w':G}(l:H d=D){cap:C}{xs:B (B Ch)}{arr:R E}(a:arr.size=cap*sz)(c:xs.length<=cap)
    (f:w'.heap=w.heap.push (.cells arr t (0,0))) (h1:w'.os=w.os) (g:w'.tape=w.tape) (j:w'.output=w.output)
    (r: ∀i x,xs[i]? =A x->CC w (ow M ρ H) (fun _=>D) x (Qt arr sz i)):
    ∃ρ',HS w0 M ρ' (upd H d (A (.row t sz xs))) w'/\Ext ρ H w ρ' (upd H d (A (.row t sz xs))) w'/\
      ∀n,n<=J xs->ConcV w' (ow M ρ' (upd H d (A (.row t sz xs)))) ρ' (.x F [.w d 0 n]) (.slice (A ⟨w.heap.size,0,D⟩) n cap):=by
  have h:=q.alloc l (o:= .cells arr t) (bd:=⟨w.heap.size,cap,J xs,sz,F⟩) (b:= .row t sz xs) (w':=w') rfl f h1 g j
    (fun e=>⟨rfl,rfl,.inr ⟨rfl,arr,by simp[f],a,c,fun i x m=>e.cc0 (r i x m)⟩⟩)
  refine⟨_,h.1,h.2,fun n p=>⟨[_],?_,rfl⟩⟩;have:=CC.w (w:=w') (O:=ow M (upd ρ d (A ⟨w.heap.size,cap,J xs,sz,F⟩)) (upd H d (A (.row t sz xs)))) (k:=d) (o:=0) (n:=n) (cap:=cap) (QT ρ d (A ⟨w.heap.size,cap,J xs,sz,F⟩)) rfl ((j9 p)) o3 o6 .nil;simpa using this

structure VR (w:World)(v:Value)(sz:C)(ys:B (B Ch))(O:C->Prop)(news:B Value):Prop where
  len:news.length=J ys*sz
  one: ∀u∈news,u.oneCell'=I
  el: ∀i x,ys[i]? =A x->CC w O (fun _=>D) x (Qt news.toArray sz i)
  cell:(v= .slice D 0 0/\ys=[])\/ ∃b o cap,v= .slice (A ⟨b,o,D⟩) ys.length cap/\VP w b o news

theorem QFs {w:G}{O:C->Prop}{b o:C}: ∀{c:B (B Ch)} {f:C->B E},K8 w O b o sz c f->(∀i x,c[i]? =A x->CC w O (fun _=>D) x (f i))->
  ∃a:B E,J a=J c*sz/\(∀u∈a,u.oneCell'=I)/\(∀i x,c[i]? =A x->CC w O (fun _=>D) x (Qt a.toArray sz i))/\VP w b o a:=by
 intro c;induction c generalizing o with
 | nil=>intro f _ _;exact⟨[],o6,o6,o6,fun j v h=>by simp at h⟩
 | cons y c R=>
  intro f l r;obtain⟨m,Q⟩:=l.cell 0 y rfl
  have p:K8 w O b (o+sz) sz c (fun i=>f (i+1)):=⟨l.lt,l.free,fun i x e=>by
   have:=l.cell (i+1) x ((j9 e));refine⟨this.1,fun j g=> ?_⟩
   rw[<-this.2 j g];congr 2;rw[Zh];omega⟩
  obtain⟨a,s,z,L,N⟩:=R p (fun i x e=>r (i+1) x ((j9 e)));have q:=r 0 y rfl;refine⟨f 0++a,by simp[m,s,Zh];omega,?_,?_,?_⟩
  ·intro u hu;rcases B.mem_append.1 hu with hu | hu
   ·exact q.one u hu
   ·exact z u hu
  ·intro i x e;cases i with
   | zero=>
    simp at e;subst e;have:Qt (f 0++a).toArray sz 0=f 0:=by simp[Qt,<-m]
    rw[this];exact q
   | succ i=>
    rw[C.add_comm i 1,VQ 1 ((j9 m))];exact L i x ((j9 e))
  ·intro j v g;by_cases h:j<sz
   ·rw[Zd o3]at g;have:=Q j h;simp only[C.zero_mul,C.add_zero]at this;rw[this,g]
   ·rw[Zb o3]at g;have:=N _ _ g;rw[<-this];congr 2;omega
theorem QY2 {w:G}{O:C->Prop}{ρ:Env}{y:B (B Ch)}{v:E}(h:CC w O ρ [.s sz y] [v]): ∃a,VR w v sz y O a:=by
 cases h with
 | s0 _=>exact⟨[],o6,o6,o6,.inl ⟨rfl,rfl⟩⟩
 | s00 _=>exact⟨[],o6,o6,o6,.inr ⟨_,_,_,rfl,fun j v h=>by simp at h⟩⟩
 | s l m _ _=>
  obtain⟨a,c,e,f,g⟩:=QFs l m;exact⟨a,c,e,f,.inr ⟨_,_,_,rfl,g⟩⟩
theorem QAt (arr:R E)(sz:C)(pre:B E)(n:C)(h:arr.toList.take (n*sz)=pre)(c:i<n):Qt arr sz i=Qt pre.toArray sz i:=by
 have a:(i+1)*sz<=n*sz:=Ze _ c;rw[Zh,Zr]at a;apply Zt;intro m;simp only[Qt];rw[Za,Za];split
 ·rw[Zc,Zc,<-h,Za,X o3]
 ·rfl
def tJ (P:Lm)(w0:G)(M:Ctx)(ρ:Env)(H:HP)(w:G)(t e:C)(sz k n d:C)(tt:TypeId)(xs y:B (B Ch))(v x:E):Prop:=
 ∃w' ρ' u,(Builtin.append_ #[t,t] tt #[v,x]).run P w= .ok u w'/\HS w0 M ρ' (upd (upd H k (A .dead)) d (A (.row e sz (xs.take n++y)))) w'/\
   Ext ρ H w ρ' (upd (upd H k (A .dead)) d (A (.row e sz (xs.take n++y)))) w'/\
   ConcV w' (ow M ρ' (upd (upd H k (A .dead)) d (A (.row e sz (xs.take n++y))))) ρ' (.x F [.w d 0 (n+J y)]) u
theorem QFt{e:C}{g:TyI}(ht:P.underlying t=A (.slice e))(he:JK P e g)(hs:HS w0 M ρ H w){k n:C}{tt:TypeId}(hd:H d=D){xs f:B (B Ch)}{v x:E}
    (hk:H k=A (.row e g.cells xs)) (hv:CC w (ow M ρ H) ρ [.w k 0 n] [v]) {c:B E} (L:VR w x g.cells f (ow M ρ H) c) (s:(n+J f)*g.bytes<=140737488355328) (jJ:n+J f<=9223372036854775807):
    tJ P w0 M ρ H w t e g.cells k n d tt xs f v x:=by
  obtain⟨ti,z,hi,Y,jl,hz,jF⟩:=he.info;have jG:z.cells.size=g.cells:=by rw[jF];simpa using he.zlen
  obtain⟨r,jc⟩:=hs.kill hk;have jE:d≠k:=fun h=>by subst h;rw[hd]at hk;cases hk
  have jd:upd H k (A Blk.dead) d=D:=by rw[Qc _ _ jE];exact hd
  obtain⟨bd,jj,jD,jH,ok⟩:=hs.zc k _ hk rfl;-- the growing of a row, and the making of one out of nil
  have Q: ∀(l:B E) (zj:C),zj<n+J f->J l=n*g.cells->(∀i y,(xs.take n)[i]? =A y->CC w (ow M ρ H) (fun _=>D) y (Qt l.toArray g.cells i))->
      (xs.take n).length=n->
      (Builtin.append_ #[t,t] tt #[v,x]).run P w= .ok (.slice (A ⟨w.heap.size,0,D⟩) (n+J f) (S w (n+J f) zj e))
        (w.drew.alloc (.cells (l.toArray++c.toArray++Builtin.zeroCells z.cells (S w (n+J f) zj e-(n+J f))) e))->tJ P w0 M ρ H w t e g.cells k n d tt xs f v x:=by
    intro l zj ho jq jB N jC;have jL:=grownCap_ge w (n+J f) zj e;have V:=r.same (w':=w.drew) rfl rfl rfl rfl;have e1:n+J f+(S w (n+J f) zj e-(n+J f))=S w (n+J f) zj e:=o3
    have hS:(l.toArray++c.toArray++Builtin.zeroCells z.cells (S w (n+J f) zj e-(n+J f))).size=S w (n+J f) zj e*g.cells:=by
      simp only[R.size_append,B.size_toArray,size_zeroCells,jG,jq,L.len,<-Zh,e1]
    have hL:(xs.take n++f).length<=S w (n+J f) zj e:=by simp only[Zk,N];omega
    have hE: ∀i y,(xs.take n++f)[i]? =A y->CC w.drew (ow M ρ (upd H k (A .dead))) (fun _=>D) y (Qt (l.toArray++c.toArray++Builtin.zeroCells z.cells (S w (n+J f) zj e-(n+J f))) g.cells i):=by
      intro i y q;have jx:(l.toArray++c.toArray++Builtin.zeroCells z.cells (S w (n+J f) zj e-(n+J f)))=(l++(c++(Builtin.zeroCells z.cells (S w (n+J f) zj e-(n+J f))).toList)).toArray:=by
        apply R.ext';simp
      rw[jx];have jk: ∀{cs vs},CC w (ow M ρ H) (fun _=>D) cs vs->CC w.drew (ow M ρ (upd H k (A .dead))) (fun _=>D) cs vs:=fun h=>V.2.cc0 (jc.cc0 h);by_cases T:i<n
      · rw[Zd o3]at q;rw[Wg n jq T];exact jk (jB i y q)
      · rw[Zb o3,N]at q;have:i=n+(i-n):=o3
        rw[this,VQ n jq];have jn:i-n<J f:=(Zi.1 q).1;rw[Wg f.length L.len jn];exact jk (L.el _ y q)
    obtain⟨ρ',a1,a2,a3⟩:=V.1.row (w':=w.drew.alloc (.cells (l.toArray++c.toArray++Builtin.zeroCells z.cells (S w (n+J f) zj e-(n+J f))) e)) jd hS hL rfl rfl rfl rfl hE;exact⟨_,ρ',_,jC,a1,jc.trans (V.2.trans a2),by simpa using a3 (n+J f) (by simp only[Zk,N];omega)⟩
  have G: ∀{b o cap},x= .slice (A ⟨b,o,D⟩) f.length cap->VP w b o c-> ∀j u,c[j]? =A u->w.cell? ((⟨b,o,D⟩:Addr).add j)=A u:=fun _ hc j u hu=>by rw[Jj];exact hc j u hu
  cases hv with
  | @w _ _ _ _ p _ _ _ je hn hl jy jz _=>
    rw[jj]at je;cases je
    rcases ok with⟨ja,_⟩ | ⟨_,arr,hb,W,jM,ju⟩
    · rw[hn]at ja;cases ja
    have jK:bd.zc<w.heap.size:=(Zl.1 hb).1;have jN:n<=J xs:=o3
    have N:(xs.take n).length=n:=o9
    have jI:n*g.cells<=arr.size:=by rw[W];exact Ze _ o3
    simp only[C.zero_mul]at*;rcases L.cell with⟨rfl,rfl⟩ | ⟨b,o,cap,rfl,m⟩
    · -- nothing is appended
      have ja:c=[]:=Zj ((j9 L.len));have jf:=hs.move (w':=w) hk rfl (b':= .row e g.cells (xs.take n++[])) hd jj hn (bd':=⟨bd.zc,bd.cap,n,g.cells,F⟩) rfl (fun _ _=>rfl) rfl rfl rfl rfl
        (fun ji=>⟨o9,rfl,.inr ⟨rfl,arr,hb,W,o9,fun i y q=>ji.cc0 (ju i y (by
          rw[B.append_nil,Za]at q;split at q; · exact q
          · cases q))⟩⟩)
      refine⟨w,_,.slice (A ⟨bd.zc,0,D⟩) n p,?_,jf.1,jf.2,[_],?_,rfl⟩
      · have jm:n<=p:=jy;simp[Builtin.append_,U ht,be,Z,hi,Builtin.lenOf,Builtin.firstCells,jm,storeCells]
      · have:=CC.w (w:=w) (O:=ow M (upd ρ d (A ⟨bd.zc,bd.cap,n,g.cells,F⟩)) (upd (upd H k (A .dead)) d (A (.row e g.cells (xs.take n++[]))))) (k:=d) (o:=0) (n:=n) (cap:=p) (QT ρ d (A ⟨bd.zc,bd.cap,n,g.cells,F⟩)) rfl o6 jy ((j9 jz)) .nil;simpa using this
    · by_cases jb:n+J f<=p
      · have jh:n+J f<=bd.cap:=o3
        have hr:=run_append_room (P:=P) w t tt e ti ht hi bd.zc n p arr hb ⟨b,o,D⟩ f.length cap c (by rw[L.len,Y]) (G rfl m) L.one jb (by
          rw[L.len,Y,W,<-Zh];exact Ze _ jh)
        obtain⟨e1,e2,e3⟩:=Vz (arr':=(arr.toList.take (n*ti.size)++c++arr.toList.drop (n*ti.size+J c)).toArray) hb;rw[Y]at hr e1 e2 e3;have jf:=hs.move hk rfl (b':= .row e g.cells (xs.take n++f)) hd jj hn (bd':=⟨bd.zc,bd.cap,n+J f,g.cells,F⟩) rfl e2 e3 rfl rfl rfl
          (fun ji=>⟨by simp only[Zk,N],rfl,.inr ⟨rfl,_,e1,by
            simp only[B.size_toArray,Zk,Zm,Zp,Zs,L.len];have:(n+J f)*g.cells<=bd.cap*g.cells:=Ze _ jh;rw[Zh]at this;omega,by simp only[Zk,N];omega,fun i y q=>by
              have jg:(arr.toList.take (n*g.cells)).length=n*g.cells:=o9
              by_cases T:i<n
              · rw[Zd o3,Za,X T]at q;rw[QFr n jg T,<-QAt arr g.cells _ n rfl T];exact ji.cc0 (ju i y q)
              · rw[Zb o3,N]at q;have:i=n+(i-n):=o3
                rw[this,QIC n jg];have jn:i-n<J f:=(Zi.1 q).1;rw[Wg f.length L.len jn]
                exact ji.cc0 (L.el _ y q)⟩⟩)
        refine⟨_,_,_,hr,jf.1,jf.2,[_],?_,rfl⟩;have:=CC.w (w:=w.setRow bd.zc (arr.toList.take (n*g.cells)++c++arr.toList.drop (n*g.cells+J c)).toArray) (O:=ow M (upd ρ d (A ⟨bd.zc,bd.cap,n+J f,g.cells,F⟩)) (upd (upd H k (A .dead)) d (A (.row e g.cells (xs.take n++f))))) (k:=d) (o:=0) (n:=n+J f) (cap:=p) (QT ρ d (A ⟨bd.zc,bd.cap,n+J f,g.cells,F⟩)) rfl o6 jb ((j9 jz)) .nil;simpa using this
      · have jr: ∀j u,(arr.toList.take (n*g.cells))[j]? =A u->w.cell? ((⟨bd.zc,0,D⟩:Addr).add j)=A u:=fun j u hu=>by
          rw[Jj];exact Kc hb 0 (n*g.cells) j u ((j9 hu))
        have jg:(arr.toList.take (n*g.cells)).length=n*g.cells:=o9
        have hr:=run_append_grow (P:=P) w t tt e ti z ht hi hz ⟨bd.zc,0,D⟩ n p (arr.toList.take (n*g.cells)) (by rw[Y];exact jg) jr ⟨b,o,D⟩ f.length cap c (by rw[L.len,Y]) (G rfl m)
          o3 o3 (growslice_fits o3 (by rw[jl];exact s))
        exact Q _ p o3 jg (fun i y q=>by
          rw[Za]at q;split at q
          · rename_i T;rw[<-QAt arr g.cells _ n rfl T];exact ju i y q
          · cases q) N hr
  | w0 je hn _=>
    rw[jj]at je;cases je
    rcases ok with⟨_,jt⟩ | ⟨jA,_⟩
    · subst jt;rcases L.cell with⟨rfl,rfl⟩ | ⟨b,o,cap,rfl,m⟩
      · have:=r.allocNil (d:=d) jd e g.cells;refine⟨w,_,.slice D 0 0,?_,(j9 this.1),by simpa using jc.trans this.2,[_],?_,rfl⟩
        · simp[Builtin.append_,U ht,be,Z,hi,Builtin.lenOf,Builtin.firstCells]
        · exact .w0 (QT _ _ _) rfl .nil
      · by_cases jv:f.length=0
        · have jw:f=[]:=Zj jv;subst jw;have ja:c=[]:=Zj ((j9 L.len));have:=r.allocNil (d:=d) jd e g.cells;refine⟨w,_,.slice D 0 0,?_,(j9 this.1),by simpa using jc.trans this.2,[_],?_,rfl⟩
          · simp[Builtin.append_,U ht,be,Z,hi,Builtin.lenOf,Builtin.firstCells,loadCells,loadCellsFrom]
          · exact .w0 (QT _ _ _) rfl .nil
        · have hr:=run_append_nil (P:=P) w t tt e ti z ht hi hz ⟨b,o,D⟩ f.length cap c (by rw[L.len,Y]) (G rfl m) o3 o3 (by rw[jl];simp at s;omega);refine Q [] 0 o3 o6 (fun i y q=>by simp at q) o6 ?_
          simpa using hr
    · rw[hn]at jA;cases jA
  | @w00 _ _ _ b' o' _ _ _ _ _=>
    rcases L.cell with⟨rfl,rfl⟩ | ⟨b,o,cap,rfl,m⟩
    · have:=r.allocNil (d:=d) jd e g.cells;refine⟨w,_,.slice (A ⟨b',o',D⟩) 0 0,?_,(j9 this.1),by simpa using jc.trans this.2,[_],?_,rfl⟩
      · simp[Builtin.append_,U ht,be,Z,hi,Builtin.lenOf,Builtin.firstCells,storeCells]
      · exact .w00 (QT _ _ _) .nil
    · by_cases jv:f.length=0
      · have jw:f=[]:=Zj jv;subst jw;have:=r.allocNil (d:=d) jd e g.cells;refine⟨w,_,.slice (A ⟨b',o',D⟩) 0 0,?_,(j9 this.1),by simpa using jc.trans this.2,[_],?_,rfl⟩
        · simp[Builtin.append_,U ht,be,Z,hi,Builtin.lenOf,Builtin.firstCells,loadCells,loadCellsFrom,storeCells]
        · exact .w00 (QT _ _ _) .nil
      · have hr:=run_append_grow (P:=P) w t tt e ti z ht hi hz ⟨b',o',D⟩ 0 0 [] o6 (fun j u h=>by simp at h) ⟨b,o,D⟩ f.length cap c (by rw[L.len,Y]) (G rfl m)
          o3 o3 (growslice_fits o3 (by rw[jl];exact s))
        exact Q [] 0 o3 o6 (fun i y q=>by simp at q) o6 ((j9 hr))

end Go.Eng
