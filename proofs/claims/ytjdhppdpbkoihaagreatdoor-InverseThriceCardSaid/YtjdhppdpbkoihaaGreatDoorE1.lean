/- The engine, part A: abstract values, how they stand for Go values in a world, and small lemmas on them. -/
import Derived.Below
import Derived.Orders
import Derived.Laws.IdiomCopy
import Derived.Laws.CopyRow
import Derived.Laws.Cells
import Derived.Laws.Entries
import Derived.Laws.Append
import Derived.Laws.AppendOwn
import Derived.Laws.MakeOwn
open List renaming getElem?_take → Za, getElem?_append_right → Zb, getElem?_drop → Zc, getElem?_append_left → Zd, append_assoc → Zg, getElem?_eq_some_iff → Zi, eq_nil_of_length_eq_zero → Zj, length_append → Zk, length_take → Zm, length_drop → Zp, ext_getElem? → Zt
open Nat renaming mul_le_mul_right → Ze, add_mul → Zh, eq_of_beq_eq_true → Zo, lt_of_lt_of_le → Zq, one_mul → Zr
open Go.Value renaming oneCell' → Zf
open Array renaming getElem?_eq_some_iff → Zl, length_toList → Zs
open Option renaming map_eq_some_iff → Zn
namespace Go.Eng
open Go
theorem R0(p:Prop):(True/\p)=p:=_root_.true_and p
theorem R1(p:Prop):(p/\True)=p:=_root_.and_true p
theorem R2(p:Prop):(True∨p)=True:=_root_.true_or p
theorem R3(p:Prop):(p∨True)=True:=_root_.or_true p
theorem R4(p:Prop):(True->p)=p:=_root_.true_implies p
theorem R5{p:Prop}[Decidable p](h:decide p=true):p:=_root_.of_decide_eq_true h
theorem R6{p:Prop}[Decidable p](h:decide p=false):¬p:=_root_.of_decide_eq_false h
theorem R7{α:Sort _}{a b:α}:cond true a b=a:=rfl
theorem R8{α:Sort _}{a b:α}:cond false a b=b:=rfl
def nbF:Nat->Nat->List UInt8
 | 0,_=>[]
 | f+1,m=>match m with
  | 0=>[]
  | n+1=>nbF f ((n+1)/256)++[UInt8.ofNat ((n+1) % 256)]
def QA (m:Nat):List UInt8:=nbF m m

def JI (l:List UInt8):Value:= .string ⟨l.toArray⟩
def QCA (q:Rat):Value:= .bool (decide (q.num<0))
def QEv (q:Rat):Value:=JI (QA q.num.natAbs)
def QEw (q:Rat):Value:=JI (QA q.den)
def Bd (n:Nat)(q:Rat):Prop:=q.num.natAbs<2^n/\q.den<2^n

inductive Ch where
  | v (x:Value)
  | r (q:Rat) (n:Nat)
  | b (m n:Nat)
  | s (sz:Nat) (xs:List (List Ch))
  | p (k o:Nat)
  | w (k o n:Nat)
  | e (k i o:Nat)
  | y (sz:Nat) (xs:List (List Ch)) (i o:Nat)
  | f (fid:Nat) (ks:List Nat)
  | i (t:Nat) (agg:Bool) (cs:List Ch)
  | m (k:Nat)
  | yl (k:Nat)
  | u
  deriving Inhabited

structure Jv where
 blk:Nat
 cap:Nat
 len:Nat
 sz:Nat
 isNil:Bool
abbrev Env:=Nat->Option Jv
structure KQ (w:World)(O:Nat->Prop)(b o sz:Nat)(xs:List (List Ch))(f:Nat->List Value):Prop where
  lt:b<w.heap.size
  free: ¬O b
  cell: ∀i x,xs[i]? =some x->(f i).length=sz/\ ∀j,j<sz->w.cell? ⟨b,o+i*sz+j,none⟩=(f i)[j]?

def Wf (ρ:Env)(k:Nat):Value:= .pointer ((ρ k).map fun bd=>⟨bd.blk,0,none⟩)
theorem Ja {ρ:Env}{k:Nat}{bd:Jv}(h:ρ k=some bd):Wf ρ k= .pointer (some ⟨bd.blk,0,none⟩):=by simp[Wf,h]
inductive CC (w:World)(O:Nat->Prop):Env->List Ch->List Value->Prop
 | nil {ρ:Env}:CC w O ρ [] []
 | v {ρ:Env} {x:Value} {cs:List Ch} {vs:List Value} (h1:x.oneCell'=true) (h:CC w O ρ cs vs):CC w O ρ (.v x::cs) (x::vs)
 | r {ρ:Env} {q:Rat} {n:Nat} {cs:List Ch} {vs:List Value} (hb:Bd n q) (h:CC w O ρ cs vs):CC w O ρ (.r q n::cs) (QCA q::QEv q::QEw q::vs)
 | b {ρ:Env} {m n:Nat} {cs:List Ch} {vs:List Value} (hb:m<2^n) (h:CC w O ρ cs vs):CC w O ρ (.b m n::cs) (JI (QA m)::vs)
 | s0 {ρ:Env} {sz:Nat} {cs:List Ch} {vs:List Value} (h:CC w O ρ cs vs):CC w O ρ (.s sz []::cs) (.slice none 0 0::vs)
 | s00 {ρ:Env} {sz b o cap:Nat} {cs:List Ch} {vs:List Value} (h:CC w O ρ cs vs):CC w O ρ (.s sz []::cs) (.slice (some ⟨b,o,none⟩) 0 cap::vs)
 | s {ρ:Env} {sz b o cap:Nat} {xs:List (List Ch)} {f:Nat->List Value} {cs:List Ch} {vs:List Value} (hr:KQ w O b o sz xs f) (hx: ∀i x,xs[i]? =some x->CC w O (fun _=>none) x (f i)) (hcap:xs.length<=cap) (h:CC w O ρ cs vs):
   CC w O ρ (.s sz xs::cs) (.slice (some ⟨b,o,none⟩) xs.length cap::vs)
 | p {ρ:Env} {k o:Nat} {bd:Jv} {cs:List Ch} {vs:List Value} (hk:ρ k=some bd) (hn:bd.isNil=false) (h:CC w O ρ cs vs):CC w O ρ (.p k o::cs) (.pointer (some ⟨bd.blk,o,none⟩)::vs)
 | w {ρ:Env} {k o n cap:Nat} {bd:Jv} {cs:List Ch} {vs:List Value} (hk:ρ k=some bd) (hn:bd.isNil=false) (hl:o+n<=bd.len) (hc:n<=cap) (hcap:o+cap<=bd.cap) (h:CC w O ρ cs vs):CC w O ρ (.w k o n::cs) (.slice (some ⟨bd.blk,o*bd.sz,none⟩) n cap::vs)
 | w0 {ρ:Env} {k:Nat} {bd:Jv} {cs:List Ch} {vs:List Value} (hk:ρ k=some bd) (hn:bd.isNil=true) (h:CC w O ρ cs vs):CC w O ρ (.w k 0 0::cs) (.slice none 0 0::vs)
 | w00 {ρ:Env} {k o b o':Nat} {bd:Jv} {cs:List Ch} {vs:List Value} (hk:ρ k=some bd) (h:CC w O ρ cs vs):CC w O ρ (.w k o 0::cs) (.slice (some ⟨b,o',none⟩) 0 0::vs)
 | e {ρ:Env} {k i o:Nat} {bd:Jv} {cs:List Ch} {vs:List Value} (hk:ρ k=some bd) (hn:bd.isNil=false) (h:CC w O ρ cs vs):CC w O ρ (.e k i o::cs) (.pointer (some ⟨bd.blk,i*bd.sz+o,none⟩)::vs)
 | y {ρ:Env} {sz b o i j:Nat} {xs:List (List Ch)} {f:Nat->List Value} {cs:List Ch} {vs:List Value} (hr:KQ w O b o sz xs f) (hx: ∀i x,xs[i]? =some x->CC w O (fun _=>none) x (f i)) (h:CC w O ρ cs vs):
   CC w O ρ (.y sz xs i j::cs) (.pointer (some ⟨b,o+i*sz+j,none⟩)::vs)
 | f {ρ:Env} {fid:Nat} {ks:List Nat} {cs:List Ch} {vs:List Value} (hk: ∀k∈ks,∃bd,ρ k=some bd/\bd.isNil=false) (h:CC w O ρ cs vs):CC w O ρ (.f fid ks::cs) (.func (.func fid) #[] (ks.map (Wf ρ)).toArray::vs)
 | i {ρ:Env} {t:Nat} {agg:Bool} {ics:List Ch} {ivs:List Value} {iv:Value} {cs:List Ch} {vs:List Value} (hx:CC w O (fun _=>none) ics ivs) (hv:if agg then iv= .agg ivs.toArray else ivs=[iv]) (h:CC w O ρ cs vs):CC w O ρ (.i t agg ics::cs) (.iface t iv::vs)
 | m {ρ:Env} {k:Nat} {bd:Jv} {cs:List Ch} {vs:List Value} (hk:ρ k=some bd) (hn:bd.isNil=false) (h:CC w O ρ cs vs):CC w O ρ (.m k::cs) (.map (some bd.blk)::vs)
 | yl {ρ:Env} {k:Nat} {bd:Jv} {cs:List Ch} {vs:List Value} (hk:ρ k=some bd) (hn:bd.isNil=false) (h:CC w O ρ cs vs):CC w O ρ (.yl k::cs) (.func (.yield bd.blk) #[] #[]::vs)
 | u {ρ:Env} {x:Value} {cs:List Ch} {vs:List Value} (h1:x.oneCell'=true) (h:CC w O ρ cs vs):CC w O ρ (.u::cs) (x::vs)
theorem QGo {w w':World}{b:Nat}(h:w'.heap[b]? =w.heap[b]?)(o:Nat):w'.cell? ⟨b,o,none⟩=w.cell? ⟨b,o,none⟩:=by
 unfold World.cell?;simp only[h]
structure Wg (O:Nat->Prop)(w w':World):Prop where
  size:w.heap.size<=w'.heap.size
  block: ∀b,b<w.heap.size-> ¬O b->w'.heap[b]? =w.heap[b]?

theorem Wg.refl (O:Nat->Prop)(w:World):Wg O w w:=⟨Nat.le_refl _,fun _ _ _=>rfl⟩
theorem Wg.trans {O:Nat->Prop}{w w1 w2:World}(h:Wg O w w1)(k:Wg O w1 w2):Wg O w w2:=
 ⟨Nat.le_trans h.size k.size,fun b hb ho=>(k.block b (Zq hb h.size) ho).trans (h.block b hb ho)⟩
theorem KQ.mono {w w':World}{O O':Nat->Prop}{b o sz:Nat}{xs:List (List Ch)}{f:Nat->List Value}(hk:Wg O w w')(hO: ∀b,b<w.heap.size->O' b->O b)(h:KQ w O b o sz xs f):KQ w' O' b o sz xs f:=
 ⟨Zq h.lt hk.size,fun hb=>h.free (hO _ h.lt hb),fun i x hx=>⟨(h.cell i x hx).1,fun j hj=>by rw[QGo (hk.block b h.lt h.free)];exact(h.cell i x hx).2 j hj⟩⟩
theorem HU {ρ ρ':Env}{ks:List Nat}(hk: ∀k∈ks,∃bd,ρ k=some bd/\bd.isNil=false)(hρ: ∀k bd,ρ k=some bd->ρ' k=some bd):ks.map (Wf ρ)=ks.map (Wf ρ')/\ ∀k∈ks,∃bd,ρ' k=some bd/\bd.isNil=false:=
 ⟨List.map_congr_left fun k h=>by obtain⟨bd,e,_⟩:=hk k h;rw[Ja e,Ja (hρ _ _ e)],fun k h=>let ⟨bd,e,hn⟩:=hk k h;⟨bd,hρ _ _ e,hn⟩⟩
theorem CC.mono {w w':World}{O O':Nat->Prop}(hk:Wg O w w')(hO: ∀b,b<w.heap.size->O' b->O b)
  {ρ:Env} {cs:List Ch} {vs:List Value} (h:CC w O ρ cs vs): ∀{ρ':Env},(∀k bd,ρ k=some bd->ρ' k=some bd)->CC w' O' ρ' cs vs:=by
 induction h with
 | nil=>exact fun _=> .nil
 | v h1 _ ih=>exact fun hρ=> .v h1 (ih hρ)
 | r hb _ ih=>exact fun hρ=> .r hb (ih hρ)
 | b hb _ ih=>exact fun hρ=> .b hb (ih hρ)
 | s0 _ ih=>exact fun hρ=> .s0 (ih hρ)
 | s00 _ ih=>exact fun hρ=> .s00 (ih hρ)
 | s hr _ hc _ ihx ih=>exact fun hρ=> .s (hr.mono hk hO) (fun i x hx=>ihx i x hx fun _ _ h=>h) hc (ih hρ)
 | p h1 h2 _ ih=>exact fun hρ=> .p (hρ _ _ h1) h2 (ih hρ)
 | w h1 h2 h3 h4 h5 _ ih=>exact fun hρ=> .w (hρ _ _ h1) h2 h3 h4 h5 (ih hρ)
 | w0 h1 h2 _ ih=>exact fun hρ=> .w0 (hρ _ _ h1) h2 (ih hρ)
 | w00 h1 _ ih=>exact fun hρ=> .w00 (hρ _ _ h1) (ih hρ)
 | e h1 h2 _ ih=>exact fun hρ=> .e (hρ _ _ h1) h2 (ih hρ)
 | y hr _ _ ihx ih=>exact fun hρ=> .y (hr.mono hk hO) (fun i x hx=>ihx i x hx fun _ _ h=>h) (ih hρ)
 | f h1 _ ih=>exact fun hρ=>by rw[(HU h1 hρ).1];exact .f (HU h1 hρ).2 (ih hρ)
 | i _ hv _ ihx ih=>exact fun hρ=> .i (ihx fun _ _ h=>h) hv (ih hρ)
 | m h1 h2 _ ih=>exact fun hρ=> .m (hρ _ _ h1) h2 (ih hρ)
 | yl h1 h2 _ ih=>exact fun hρ=> .yl (hρ _ _ h1) h2 (ih hρ)
 | u h1 _ ih=>exact fun hρ=> .u h1 (ih hρ)
def Ch.len:Ch->Nat
 | .r .. =>3
 | _=>1
def Qh:List Ch->Nat
 | []=>0
 | c::cs=>c.len+Qh cs
def KF:List Ch->Nat->Option (List Ch)
 | cs,0=>some cs
 | [],_+1=>none
 | .r q n::cs,k+1=>
  match k with
  | 0=>some (.b q.num.natAbs n:: .b q.den n::cs)
  | 1=>some (.b q.den n::cs)
  | k+2=>KF cs k
 | _::cs,k+1=>KF cs k
def KG:List Ch->Nat->Option (List Ch)
 | _,0=>some []
 | [],_+1=>none
 | .r q n::cs,k+1=>
  match k with
  | 0=>some [.v (QCA q)]
  | 1=>some [.v (QCA q),.b q.num.natAbs n]
  | k+2=>(KG cs k).map (.r q n:: ·)
 | c::cs,k+1=>(KG cs k).map (c:: ·)
variable {w:World}{O:Nat->Prop}{ρ:Env}
theorem CC.append {cs ds:List Ch}{vs us:List Value}(h:CC w O ρ cs vs)(k:CC w O ρ ds us):CC w O ρ (cs++ds) (vs++us):=by
 induction h with
 | nil=>exact k
 | v h1 _ ih=>exact .v h1 (ih k)
 | r hb _ ih=>exact .r hb (ih k)
 | b hb _ ih=>exact .b hb (ih k)
 | s0 _ ih=>exact .s0 (ih k)
 | s00 _ ih=>exact .s00 (ih k)
 | s hr hx hc _ _ ih=>exact .s hr hx hc (ih k)
 | p h1 h2 _ ih=>exact .p h1 h2 (ih k)
 | w h1 h2 h3 h4 h5 _ ih=>exact .w h1 h2 h3 h4 h5 (ih k)
 | w0 h1 h2 _ ih=>exact .w0 h1 h2 (ih k)
 | w00 h1 _ ih=>exact .w00 h1 (ih k)
 | e h1 h2 _ ih=>exact .e h1 h2 (ih k)
 | y hr hx _ _ ih=>exact .y hr hx (ih k)
 | f h1 _ ih=>exact .f h1 (ih k)
 | i hx hv _ _ ih=>exact .i hx hv (ih k)
 | m h1 h2 _ ih=>exact .m h1 h2 (ih k)
 | yl h1 h2 _ ih=>exact .yl h1 h2 (ih k)
 | u h1 _ ih=>exact .u h1 (ih k)
theorem CC.length {cs:List Ch}{vs:List Value}(h:CC w O ρ cs vs):vs.length=Qh cs:=by
 induction h with
 | nil=>rfl
 | s _ _ _ _ _ ih=>simp[Qh,Ch.len,ih];omega
 | y _ _ _ _ ih=>simp[Qh,Ch.len,ih];omega
 | i _ _ _ _ ih=>simp[Qh,Ch.len,ih];omega
 | _=>simp_all [Qh,Ch.len]<;>omega
theorem CC.cons {c:Ch}{cs:List Ch}{vs:List Value}(h:CC w O ρ (c::cs) vs): ∃us rest,vs=us++rest/\us.length=c.len/\CC w O ρ [c] us/\CC w O ρ cs rest:=by
  cases h with
  | v h1 h=>exact⟨[_],_,rfl,rfl,.v h1 .nil,h⟩
  | r hb h=>exact⟨[_,_,_],_,rfl,rfl,.r hb .nil,h⟩
  | b hb h=>exact⟨[_],_,rfl,rfl,.b hb .nil,h⟩
  | s0 h=>exact⟨[_],_,rfl,rfl,.s0 .nil,h⟩
  | s00 h=>exact⟨[_],_,rfl,rfl,.s00 .nil,h⟩
  | s hr hx hc h=>exact⟨[_],_,rfl,rfl,.s hr hx hc .nil,h⟩
  | p h1 h2 h=>exact⟨[_],_,rfl,rfl,.p h1 h2 .nil,h⟩
  | w h1 h2 h3 h4 h5 h=>exact⟨[_],_,rfl,rfl,.w h1 h2 h3 h4 h5 .nil,h⟩
  | w0 h1 h2 h=>exact⟨[_],_,rfl,rfl,.w0 h1 h2 .nil,h⟩
  | w00 h1 h=>exact⟨[_],_,rfl,rfl,.w00 h1 .nil,h⟩
  | e h1 h2 h=>exact⟨[_],_,rfl,rfl,.e h1 h2 .nil,h⟩
  | y hr hx h=>exact⟨[_],_,rfl,rfl,.y hr hx .nil,h⟩
  | f h1 h=>exact⟨[_],_,rfl,rfl,.f h1 .nil,h⟩
  | i hx hv h=>exact⟨[_],_,rfl,rfl,.i hx hv .nil,h⟩
  | m h1 h2 h=>exact⟨[_],_,rfl,rfl,.m h1 h2 .nil,h⟩
  | yl h1 h2 h=>exact⟨[_],_,rfl,rfl,.yl h1 h2 .nil,h⟩
  | u h1 h=>exact⟨[_],_,rfl,rfl,.u h1 .nil,h⟩

theorem CC.drop {cs ds:List Ch}{k:Nat}{vs:List Value}(h:CC w O ρ cs vs)(hd:KF cs k=some ds):CC w O ρ ds (vs.drop k):=by
 fun_induction KF cs k generalizing vs with
 | case1=>simp at hd;subst hd;simpa using h
 | case2=>simp at hd
 | case3=>
  simp at hd;subst hd;cases h with
  | r hb h=>exact .b hb.1 (.b hb.2 h)
 | case4=>
  simp at hd;subst hd;cases h with
  | r hb h=>exact .b hb.2 h
 | case5 cs q n k ih=>
  cases h with
  | r hb h=>exact ih h hd
 | case6 c cs k hne ih=>
  obtain⟨us,rest,rfl,hl,_,h2⟩:=h.cons;have hc:c.len=1:=by cases c<;>first | rfl | exact absurd rfl (hne _ _)
  have:=ih h2 hd;match us,(by omega:us.length=1)with
  | [x],_=>exact this
theorem CC.take {cs ds:List Ch}{k:Nat}{vs:List Value}(h:CC w O ρ cs vs)(hd:KG cs k=some ds):CC w O ρ ds (vs.take k):=by
 fun_induction KG cs k generalizing vs ds with
 | case1=>simp at hd;subst hd;simpa using CC.nil
 | case2=>simp at hd
 | case3=>
  simp at hd;subst hd;cases h with
  | r hb h=>exact .v rfl .nil
 | case4=>
  simp at hd;subst hd;cases h with
  | r hb h=>exact .v rfl (.b hb.1 .nil)
 | case5 cs q n k ih=>
  simp only[Zn]at hd;obtain⟨es,he,rfl⟩:=hd;cases h with
  | r hb h=>exact .r hb (ih h he)
 | case6 c cs k hne ih=>
  simp only[Zn]at hd;obtain⟨es,he,rfl⟩:=hd;obtain⟨us,rest,rfl,hl,h1,h2⟩:=h.cons;have hc:c.len=1:=by cases c<;>first | rfl | exact absurd rfl (hne _ _)
  have:=h1.append (ih h2 he);match us,(by omega:us.length=1)with
  | [x],_=>simpa using this
def VA (cs:List Ch)(o:Nat)(new:List Ch):Option (List Ch):=
  match KG cs o,KF cs (o+Qh new)with
  | some a,some b=>some (a++(new++b))
  | _,_=>none

inductive AV where
  | x (agg:Bool) (cs:List Ch)
  | t (vs:List (Bool×List Ch))
  | n
  | u
  deriving Inhabited

def ConcX (w:World)(O:Nat->Prop)(ρ:Env)(agg:Bool)(cs:List Ch)(v:Value):Prop:=
 ∃vals,CC w O ρ cs vals/\if agg then v= .agg vals.toArray else vals=[v]
inductive VI (w:World)(O:Nat->Prop)(ρ:Env):List (Bool×List Ch)->List Value->Prop
 | nil:VI w O ρ [] []
 | cons {b:Bool} {cs:List Ch} {l:List (Bool×List Ch)} {v:Value} {vs:List Value} (h:ConcX w O ρ b cs v) (t:VI w O ρ l vs):VI w O ρ ((b,cs)::l) (v::vs)
def ConcV (w:World)(O:Nat->Prop)(ρ:Env):AV->Value->Prop
 | .x b cs,v=>ConcX w O ρ b cs v
 | .t l,v=> ∃vs,VI w O ρ l vs/\v= .tuple vs.toArray
 | .n,v=>v=undef
 | .u,_=>True
theorem ConcX.mono {w w':World}{O O':Nat->Prop}{ρ ρ':Env}(hk:Wg O w w')(hO: ∀b,b<w.heap.size->O' b->O b)(hρ: ∀k bd,ρ k=some bd->ρ' k=some bd){b:Bool}{cs:List Ch}{v:Value}(h:ConcX w O ρ b cs v):ConcX w' O' ρ' b cs v:=
 let ⟨vals,h1,h2⟩:=h;⟨vals,h1.mono hk hO hρ,h2⟩
theorem VI.mono {w w':World}{O O':Nat->Prop}{ρ ρ':Env}(hk:Wg O w w')(hO: ∀b,b<w.heap.size->O' b->O b)(hρ: ∀k bd,ρ k=some bd->ρ' k=some bd){l:List (Bool×List Ch)}{vs:List Value}(h:VI w O ρ l vs):VI w' O' ρ' l vs:=by
 induction h with
 | nil=>exact .nil
 | cons h _ ih=>exact .cons (h.mono hk hO hρ) ih
theorem ConcV.mono {w w':World}{O O':Nat->Prop}{ρ ρ':Env}(hk:Wg O w w')(hO: ∀b,b<w.heap.size->O' b->O b)(hρ: ∀k bd,ρ k=some bd->ρ' k=some bd){av:AV}{v:Value}(h:ConcV w O ρ av v):ConcV w' O' ρ' av v:=by
 cases av with
 | x b cs=>exact ConcX.mono hk hO hρ h
 | t l=>obtain⟨vs,h1,h2⟩:=h;exact⟨vs,h1.mono hk hO hρ,h2⟩
 | n=>exact h
 | u=>trivial
theorem CC.one {w:World}{O:Nat->Prop}{ρ:Env}{cs:List Ch}{vs:List Value}(h:CC w O ρ cs vs): ∀v∈vs,v.oneCell'=true:=by
 induction h with
 | nil=>simp
 | v h1 _ ih=>simpa using⟨h1,ih⟩
 | r _ _ ih=>simpa [QCA,QEv,QEw,JI,Zf]using ih
 | b _ _ ih=>simpa [JI,Zf]using ih
 | s0 _ ih=>simpa [Zf]using ih
 | s00 _ ih=>simpa [Zf]using ih
 | s _ _ _ _ _ ih=>simpa [Zf]using ih
 | p _ _ _ ih=>simpa [Zf]using ih
 | w _ _ _ _ _ _ ih=>simpa [Zf]using ih
 | w0 _ _ _ ih=>simpa [Zf]using ih
 | w00 _ _ ih=>simpa [Zf]using ih
 | e _ _ _ ih=>simpa [Zf]using ih
 | y _ _ _ _ ih=>simpa [Zf]using ih
 | f _ _ ih=>simpa [Zf]using ih
 | i _ _ _ _ ih=>simpa [Zf]using ih
 | m _ _ _ ih=>simpa [Zf]using ih
 | yl _ _ _ ih=>simpa [Zf]using ih
 | u h1 _ ih=>simpa using⟨h1,ih⟩
end Go.Eng
namespace Go.Eng
open Go
def upd {α:Type}(f:Nat->α)(k:Nat)(v:α):Nat->α:=fun t=>bif t.beq k then v else f t
theorem QT {α:Type}(f:Nat->α)(k:Nat)(v:α):upd f k v k=v:=by simp[upd]
theorem QY {α:Type}(f:Nat->α){k t:Nat}(v:α)(h:t≠k):upd f k v t=f t:=by
 have e:t.beq k=false:=by
  cases hb:t.beq k
  ·rfl
  ·exact absurd (by simpa using hb) h
 simp only[upd,e,R8]
theorem QMh {α:Type}(f:Nat->α){k j:Nat}(u v:α)(h:k≠j):upd (upd f k u) j v=upd (upd f j v) k u:=by
 funext t;by_cases h1:t=k
 ·subst h1;rw[QY _ _ h,QT,QT]
 ·by_cases h2:t=j
  ·subst h2;rw[QT,QY _ _ h1,QT]
  ·rw[QY _ _ h2,QY _ _ h1,QY _ _ h1,QY _ _ h2]
inductive Blk where
  | box (t:Nat) (cs:List Ch)
  | row (t sz:Nat) (xs:List (List Ch))
  | lp (s:Nat)
  | mp (f:Int->Option Int)
  | dead
  deriving Inhabited

abbrev HP:=Nat->Option Blk
abbrev TM:=Nat->AV
def XW:Option Blk->Bool
 | some (.box ..) | some (.row ..) | some (.lp _) | some (.mp _)=>true
 | _=>false
def own (ρ:Env)(H:HP)(b:Nat):Prop:= ∃k bd,ρ k=some bd/\bd.isNil=false/\bd.blk=b/\XW (H k)=true
structure Ctx where
  m:Nat->Prop
  x:Nat->Prop
  g:Nat
  tab:List Value
  pin:Env
  lps:Nat->Option Loop
  stk:List (TM×Array Value)
  nd:Bool
def ow (M:Ctx)(ρ:Env)(H:HP)(b:Nat):Prop:=M.x b∨own ρ H b
def Qr (arr:Array Value)(sz i:Nat):List Value:=(arr.toList.drop (i*sz)).take sz
def QEx (r:Loop):Loop:={r with state:= .ready,pending:=none}
def QQq (s:Nat)(r:Loop):Prop:=match s with
 | 0=>r.state= .ready/\r.pending=none
 | 1=>r.state= .busy
 | 2=>r.state= .done/\r.pending=some .ret
 | i+3=>r.state= .done/\r.pending=some (.exit i)
def MapIs:List MapEntry->(Int->Option Int)->Prop
  | [],f=> ∀k,f k=none
  | e::es,f=> ∃a b g,e.key= .int .i64 a/\e.val= .int .i64 b/\MapIs es g/\ ∀k,f k=bif a==k then some b else g k

def BlkOK (Lp:Nat->Option Loop)(w:World)(O:Nat->Prop)(ρ:Env)(bd:Jv):Blk->Prop
 | .box t cs=>bd.isNil=false/\ ∃vals,w.heap[bd.blk]? =some (.cells vals.toArray t (0,0))/\CC w O ρ cs vals
 | .row t sz xs=>bd.len=xs.length/\bd.sz=sz/\((bd.isNil=true/\xs=[])∨
   (bd.isNil=false/\ ∃arr:Array Value,w.heap[bd.blk]? =some (.cells arr t (0,0))/\arr.size=bd.cap*sz/\xs.length<=bd.cap/\ ∀i x,xs[i]? =some x->CC w O (fun _=>none) x (Qr arr sz i)))
 | .lp s=>bd.isNil=false/\ ∃r,w.heap[bd.blk]? =some (.loop r)/\QQq s r/\Lp bd.blk=some (QEx r)
 | .mp f=>bd.isNil=false/\ ∃es clock,w.heap[bd.blk]? =some (.map es clock)/\MapIs es.toList f
 | .dead=>True
def QGp (w:World)(g:Nat)(tab:List Value):Prop:= ∃t fr,w.heap[g]? =some (.cells tab.toArray t fr)

structure HS (w0:World)(M:Ctx)(ρ:Env)(H:HP)(w:World):Prop where
 os:w.os=w0.os
 tape:w.tape=w0.tape
 output:w.output=w0.output
 size:w0.heap.size<=w.heap.size
 glob:QGp w0 M.g M.tab/\ ¬M.m M.g/\M.g<w0.heap.size/\ ∀b,M.x b->b<w0.heap.size/\ ¬M.m b
 old: ∀b,b<w0.heap.size-> ¬M.m b->w.heap[b]? =w0.heap[b]?
 blk: ∀k b,H k=some b->XW (some b)=true-> ∃bd,ρ k=some bd/\BlkOK M.lps w (ow M ρ H) ρ bd b
 dom: ∀k,H k=none->ρ k=none
 rng: ∀k bd,ρ k=some bd->bd.isNil=false->XW (H k)=true->bd.blk<w.heap.size/\(w0.heap.size<=bd.blk∨M.m bd.blk)
 dist: ∀k k' bd bd',ρ k=some bd->ρ k'=some bd'->bd.isNil=false->bd'.isNil=false->XW (H k)=true->XW (H k')=true->bd.blk=bd'.blk->k=k'
structure Ext (ρ:Env)(H:HP)(w:World)(ρ':Env)(H':HP)(w':World):Prop where
  keeps:Wg (own ρ H) w w'
  own: ∀b,b<w.heap.size->own ρ' H' b->own ρ H b
  env: ∀k bd,ρ k=some bd->ρ' k=some bd
  ids: ∀k,H k≠none->ρ' k=ρ k/\H' k≠none

theorem Ext.refl (ρ:Env)(H:HP)(w:World):Ext ρ H w ρ H w:=⟨.refl _ _,fun _ _ h=>h,fun _ _ h=>h,fun _ h=>⟨rfl,h⟩⟩
theorem Ext.trans {ρ ρ1 ρ2:Env}{H H1 H2:HP}{w w1 w2:World}(h:Ext ρ H w ρ1 H1 w1)(k:Ext ρ1 H1 w1 ρ2 H2 w2):Ext ρ H w ρ2 H2 w2:=
 ⟨⟨Nat.le_trans h.keeps.size k.keeps.size,fun b hb ho=>(k.keeps.block b (Zq hb h.keeps.size) (fun ho1=>ho (h.own b hb ho1))).trans (h.keeps.block b hb ho)⟩,
  fun b hb ho=>h.own b hb (k.own b (Zq hb h.keeps.size) ho),fun i bd hi=>k.env i bd (h.env i bd hi),
  fun i hi=>⟨(k.ids i (h.ids i hi).2).1.trans (h.ids i hi).1,(k.ids i (h.ids i hi).2).2⟩⟩
theorem Ext.ow {M:Ctx}{ρ ρ':Env}{H H':HP}{w w':World}(h:Ext ρ H w ρ' H' w'):Wg (Eng.ow M ρ H) w w'/\ ∀b,b<w.heap.size->Eng.ow M ρ' H' b->Eng.ow M ρ H b:=
 ⟨⟨h.keeps.size,fun b hb ho=>h.keeps.block b hb (fun h'=>ho (.inr h'))⟩,fun b hb ho=>ho.imp id (h.own b hb)⟩
theorem Ext.conc {M:Ctx}{ρ ρ':Env}{H H':HP}{w w':World}(h:Ext ρ H w ρ' H' w'){av:AV}{v:Value}(hc:ConcV w (Eng.ow M ρ H) ρ av v):ConcV w' (Eng.ow M ρ' H') ρ' av v:=
 hc.mono h.ow.1 h.ow.2 h.env
theorem Ext.cc {M:Ctx}{ρ ρ':Env}{H H':HP}{w w':World}(h:Ext ρ H w ρ' H' w'){cs:List Ch}{vs:List Value}(hc:CC w (Eng.ow M ρ H) ρ cs vs):CC w' (Eng.ow M ρ' H') ρ' cs vs:=
 hc.mono h.ow.1 h.ow.2 h.env
theorem Ext.cc0 {M:Ctx}{ρ ρ':Env}{H H':HP}{w w':World}(h:Ext ρ H w ρ' H' w'){cs:List Ch}{vs:List Value}(hc:CC w (Eng.ow M ρ H) (fun _=>none) cs vs):CC w' (Eng.ow M ρ' H') (fun _=>none) cs vs:=
 hc.mono h.ow.1 h.ow.2 (fun _ _ h=>h)
theorem BlkOK.ext {M:Ctx}{ρ ρ':Env}{H H':HP}{w w':World}(h:Ext ρ H w ρ' H' w'){bd:Jv}{b:Blk}(hb:bd.isNil=false->XW (some b)=true->w'.heap[bd.blk]? =w.heap[bd.blk]?)
    (hc:BlkOK M.lps w (ow M ρ H) ρ bd b):BlkOK M.lps w' (ow M ρ' H') ρ' bd b:=by
  cases b with
  | box t cs=>
    obtain⟨h1,vals,h2,h3⟩:=hc;exact⟨h1,vals,(hb h1 rfl).trans h2,h.cc h3⟩
  | row t sz xs=>
    obtain⟨h1,h2,h3 | ⟨h3,arr,h4,h5,h6,h7⟩⟩:=hc
    · exact⟨h1,h2,.inl h3⟩
    · exact⟨h1,h2,.inr ⟨h3,arr,(hb h3 rfl).trans h4,h5,h6,fun i x hx=>h.cc0 (h7 i x hx)⟩⟩
  | lp s=>obtain⟨h1,r,h2,h3⟩:=hc;exact⟨h1,r,(hb h1 rfl).trans h2,h3⟩
  | mp f=>obtain⟨h1,es,cl,h2,h3⟩:=hc;exact⟨h1,es,cl,(hb h1 rfl).trans h2,h3⟩
  | dead=>trivial

variable {w0:World}{M:Ctx}
theorem HS.nx {ρ:Env}{H:HP}{w:World}(h:HS w0 M ρ H w){k:Nat}{bd:Jv}(h1:ρ k=some bd)(h2:bd.isNil=false)(h3:XW (H k)=true): ¬M.x bd.blk:=fun hx=>by
  obtain⟨a,b⟩:=h.glob.2.2.2 _ hx;rcases(h.rng k bd h1 h2 h3).2 with c | c
  · omega
  · exact b c

theorem HS.globw {ρ:Env}{H:HP}{w:World}(h:HS w0 M ρ H w):QGp w M.g M.tab:=by
 obtain⟨⟨t,fr,e⟩,h2,h3,_⟩:=h.glob;exact⟨t,fr,by rw[h.old _ h3 h2];exact e⟩
theorem HS.same {ρ:Env}{H:HP}{w w':World}(h:HS w0 M ρ H w)(hh:w'.heap=w.heap)(h1:w'.os=w.os)(h2:w'.tape=w.tape)(h3:w'.output=w.output):
    HS w0 M ρ H w'/\Ext ρ H w ρ H w':=by
  have hx:Ext ρ H w ρ H w':=⟨⟨by rw[hh];exact Nat.le_refl _,fun _ _ _=>by rw[hh]⟩,fun _ _ h=>h,fun _ _ h=>h,fun _ h=>⟨rfl,h⟩⟩
  exact⟨⟨h1.trans h.os,h2.trans h.tape,h3.trans h.output,by rw[hh];exact h.size,h.glob,fun b hb hm=>by rw[hh];exact h.old b hb hm,
    fun k b hk hl=>let ⟨bd,e,ok⟩:=h.blk k b hk hl;⟨bd,e,ok.ext hx (fun _ _=>by rw[hh])⟩,h.dom,fun k bd a b c=>by rw[hh];exact h.rng k bd a b c,h.dist⟩,hx⟩

theorem HS.alloc {ρ:Env}{H:HP}{w w':World}(h:HS w0 M ρ H w){d:Nat}(hd:H d=none){o:Obj}{bd:Jv}{b:Blk}(hb:bd.blk=w.heap.size)
    (hh:w'.heap=w.heap.push o) (h1:w'.os=w.os) (h2:w'.tape=w.tape) (h3:w'.output=w.output)
    (hok:Ext ρ H w (upd ρ d (some bd)) (upd H d (some b)) w'->BlkOK M.lps w' (ow M (upd ρ d (some bd)) (upd H d (some b))) (upd ρ d (some bd)) bd b):
    HS w0 M (upd ρ d (some bd)) (upd H d (some b)) w'/\Ext ρ H w (upd ρ d (some bd)) (upd H d (some b)) w':=by
  have hρ:ρ d=none:=h.dom d hd;have hne: ∀k bk,ρ k=some bk->k≠d:=fun k bk hk e=>by subst e;rw[hρ]at hk;cases hk
  have hnH: ∀k bk,H k=some bk->k≠d:=fun k bk hk e=>by subst e;rw[hd]at hk;cases hk
  have hsz:w'.heap.size=w.heap.size+1:=by rw[hh];simp
  have hold: ∀b,b<w.heap.size->w'.heap[b]? =w.heap[b]? :=fun b hb=>by rw[hh,Array.getElem?_push,if_neg (by omega)]
  have hx:Ext ρ H w (upd ρ d (some bd)) (upd H d (some b)) w':=
    ⟨⟨by omega,fun b hb _=>hold b hb⟩,fun b hlt ⟨k,bk,hk,hnk,hbk,hl⟩=>by
      by_cases e:k=d
      · subst e;rw[QT]at hk;cases hk;omega
      · rw[QY _ _ e]at hk hl;exact⟨k,bk,hk,hnk,hbk,hl⟩,
    fun k bk hk=>by rw[QY _ _ (hne k bk hk)];exact hk,fun k hk=>by
      have e:k≠d:=fun e=>hk (e▸hd)
      rw[QY _ _ e,QY _ _ e];exact⟨rfl,hk⟩⟩
  refine⟨⟨h1.trans h.os,h2.trans h.tape,h3.trans h.output,by have:=h.size;omega,h.glob,fun b hb hm=>(hold b (by have:=h.size;omega)).trans (h.old b hb hm),?_,?_,?_,?_⟩,hx⟩
  · intro k bk hk hlv;by_cases e:k=d
    · subst e;rw[QT]at hk;cases hk
      exact⟨bd,QT _ _ _,hok hx⟩
    · rw[QY _ _ e]at hk;obtain⟨bd',e',ok⟩:=h.blk k bk hk hlv;exact⟨bd',by rw[QY _ _ e];exact e',ok.ext hx (fun hnn hl=>hold _ (h.rng k bd' e' hnn (by rw[hk];exact hl)).1)⟩
  · intro k hk;by_cases e:k=d
    · subst e;rw[QT]at hk;cases hk
    · rw[QY _ _ e]at hk⊢;exact h.dom k hk
  · intro k bk hk hnk hl;by_cases e:k=d
    · subst e;rw[QT]at hk;cases hk
      exact⟨by omega,.inl (by have:=h.size;omega)⟩
    · rw[QY _ _ e]at hk hl;have:=h.rng k bk hk hnk hl;exact⟨by omega,this.2⟩
  · intro k k' bk bk' hk hk' hn1 hn2 hl hl' heq;by_cases e:k=d
    · by_cases e':k'=d
      · omega
      · subst e;rw[QT]at hk;cases hk
        rw[QY _ _ e']at hk' hl';have:=(h.rng k' bk' hk' hn2 hl').1;omega
    · by_cases e':k'=d
      · subst e';rw[QT]at hk';cases hk'
        rw[QY _ _ e]at hk hl;have:=(h.rng k bk hk hn1 hl).1;omega
      · rw[QY _ _ e]at hk hl;rw[QY _ _ e']at hk' hl';exact h.dist k k' bk bk' hk hk' hn1 hn2 hl hl' heq

theorem HS.allocNil {ρ:Env}{H:HP}{w:World}(h:HS w0 M ρ H w){d:Nat}(hd:H d=none)(t sz:Nat):
    HS w0 M (upd ρ d (some ⟨0,0,0,sz,true⟩)) (upd H d (some (.row t sz []))) w/\Ext ρ H w (upd ρ d (some ⟨0,0,0,sz,true⟩)) (upd H d (some (.row t sz []))) w:=by
  have hρ:ρ d=none:=h.dom d hd;have hne: ∀k bk,ρ k=some bk->k≠d:=fun k bk hk e=>by subst e;rw[hρ]at hk;cases hk
  have hx:Ext ρ H w (upd ρ d (some ⟨0,0,0,sz,true⟩)) (upd H d (some (.row t sz []))) w:=
    ⟨.refl _ _,fun b hlt ⟨k,bk,hk,hnk,hbk,hl⟩=>by
      by_cases e:k=d
      · subst e;rw[QT]at hk;cases hk;cases hnk
      · rw[QY _ _ e]at hk hl;exact⟨k,bk,hk,hnk,hbk,hl⟩,
    fun k bk hk=>by rw[QY _ _ (hne k bk hk)];exact hk,fun k hk=>by
      have e:k≠d:=fun e=>hk (e▸hd)
      rw[QY _ _ e,QY _ _ e];exact⟨rfl,hk⟩⟩
  refine⟨⟨h.os,h.tape,h.output,h.size,h.glob,h.old,?_,?_,?_,?_⟩,hx⟩
  · intro k bk hk hlv;by_cases e:k=d
    · subst e;rw[QT]at hk;cases hk
      exact⟨_,QT _ _ _,rfl,rfl,.inl ⟨rfl,rfl⟩⟩
    · rw[QY _ _ e]at hk;obtain⟨bd',e',ok⟩:=h.blk k bk hk hlv;exact⟨bd',by rw[QY _ _ e];exact e',ok.ext hx (fun _ _=>rfl)⟩
  · intro k hk;by_cases e:k=d
    · subst e;rw[QT]at hk;cases hk
    · rw[QY _ _ e]at hk⊢;exact h.dom k hk
  · intro k bk hk hnk hl;by_cases e:k=d
    · subst e;rw[QT]at hk;cases hk;cases hnk
    · rw[QY _ _ e]at hk hl;exact h.rng k bk hk hnk hl
  · intro k k' bk bk' hk hk' hn1 hn2 hl hl' heq;by_cases e:k=d
    · subst e;rw[QT]at hk;cases hk;cases hn1
    · by_cases e':k'=d
      · subst e';rw[QT]at hk';cases hk';cases hn2
      · rw[QY _ _ e]at hk hl;rw[QY _ _ e']at hk' hl';exact h.dist k k' bk bk' hk hk' hn1 hn2 hl hl' heq

theorem HS.write {ρ:Env}{H:HP}{w w':World}(h:HS w0 M ρ H w){k:Nat}{bd:Jv}{b b':Blk}(hk:H k=some b)(hl:XW (some b)=true)(hl':XW (some b')=true)(hρ:ρ k=some bd)(hn:bd.isNil=false)
    (hother: ∀j,j≠bd.blk->w'.heap[j]? =w.heap[j]?) (hs:w'.heap.size=w.heap.size) (h1:w'.os=w.os) (h2:w'.tape=w.tape) (h3:w'.output=w.output)
    (hok:Ext ρ H w ρ (upd H k (some b')) w'->BlkOK M.lps w' (ow M ρ (upd H k (some b'))) ρ bd b'):
    HS w0 M ρ (upd H k (some b')) w'/\Ext ρ H w ρ (upd H k (some b')) w':=by
  have hlive: ∀j,XW (upd H k (some b') j)=XW (H j):=fun j=>by
    by_cases e:j=k
    · subst e;rw[QT,hk,hl,hl']
    · rw[QY _ _ e]
  have hown:own ρ H bd.blk:=⟨k,bd,hρ,hn,rfl,by rw[hk];exact hl⟩;have hx:Ext ρ H w ρ (upd H k (some b')) w':=
    ⟨⟨by omega,fun b hb ho=>hother b (fun e=>ho (e▸hown))⟩,fun b hb ⟨j,bj,a1,a2,a3,a4⟩=>⟨j,bj,a1,a2,a3,by rw[<-hlive];exact a4⟩,fun _ _ h=>h,fun j hj=>⟨rfl,by
      by_cases e:j=k
      · subst e;rw[QT];simp
      · rw[QY _ _ e];exact hj⟩⟩
  refine⟨⟨h1.trans h.os,h2.trans h.tape,h3.trans h.output,by have:=h.size;omega,h.glob,?_,?_,?_,?_,?_⟩,hx⟩
  · intro j hj hm;rw[hother j (fun e=> ?_)]
    · exact h.old j hj hm
    · have:=(h.rng k bd hρ hn (by rw[hk];exact hl)).2;rcases this with h' | h'
      · omega
      · exact hm (e▸h')
  · intro j bj hj hlv;by_cases e:j=k
    · subst e;rw[QT]at hj;cases hj
      exact⟨bd,hρ,hok hx⟩
    · rw[QY _ _ e]at hj;obtain⟨bd',e',ok⟩:=h.blk j bj hj hlv;exact⟨bd',e',ok.ext hx (fun hnn hlj=>hother _ (fun he=>e (h.dist j k bd' bd e' hρ hnn hn (by rw[hj];exact hlj) (by rw[hk];exact hl) he)))⟩
  · intro j hj;by_cases e:j=k
    · subst e;rw[QT]at hj;cases hj
    · rw[QY _ _ e]at hj;exact h.dom j hj
  · intro j bj hj hnj hlj;rw[hlive]at hlj;have:=h.rng j bj hj hnj hlj;exact⟨by omega,this.2⟩
  · intro j j' bj bj' hj hj' n1 n2 l1 l2 he;rw[hlive]at l1 l2;exact h.dist j j' bj bj' hj hj' n1 n2 l1 l2 he

theorem HS.kill {ρ:Env}{H:HP}{w:World}(h:HS w0 M ρ H w){k:Nat}{b:Blk}(hk:H k=some b):
    HS w0 M ρ (upd H k (some .dead)) w/\Ext ρ H w ρ (upd H k (some .dead)) w:=by
  have hlive: ∀j,XW (upd H k (some .dead) j)=true->j≠k/\XW (H j)=true:=fun j hj=>by
    by_cases e:j=k
    · subst e;rw[QT]at hj;cases hj
    · rw[QY _ _ e]at hj;exact⟨e,hj⟩
  have hx:Ext ρ H w ρ (upd H k (some .dead)) w:=
    ⟨.refl _ _,fun b hb ⟨j,bj,a1,a2,a3,a4⟩=>⟨j,bj,a1,a2,a3,(hlive j a4).2⟩,fun _ _ h=>h,fun j hj=>⟨rfl,by
      by_cases e:j=k
      · subst e;rw[QT];simp
      · rw[QY _ _ e];exact hj⟩⟩
  refine⟨⟨h.os,h.tape,h.output,h.size,h.glob,h.old,?_,?_,?_,?_⟩,hx⟩
  · intro j bj hj hlv;by_cases e:j=k
    · subst e;rw[QT]at hj;cases hj;cases hlv
    · rw[QY _ _ e]at hj;obtain⟨bd',e',ok⟩:=h.blk j bj hj hlv;exact⟨bd',e',ok.ext hx (fun _ _=>rfl)⟩
  · intro j hj;by_cases e:j=k
    · subst e;rw[QT]at hj;cases hj
    · rw[QY _ _ e]at hj;exact h.dom j hj
  · intro j bj hj hnj hlj;exact h.rng j bj hj hnj (hlive j hlj).2
  · intro j j' bj bj' hj hj' n1 n2 l1 l2 he;exact h.dist j j' bj bj' hj hj' n1 n2 (hlive j l1).2 (hlive j' l2).2 he

structure St where
 T:TM
 H:HP
def QXx:Obj->Bool
  | .deferred _=>true
  | _=>false
def NC (w w':World):Prop:= ∀(b:Nat) (o:Obj),w.heap[b]? =some o->QXx o=true->w'.heap[b]? =some o
theorem NC.refl (w:World):NC w w:=fun _ _ h _=>h
theorem NC.trans {w w1 w2:World}(h:NC w w1)(k:NC w1 w2):NC w w2:=fun b o h1 h2=>k b o (h b o h1 h2) h2
theorem HS.own_rf {ρ:Env}{H:HP}{w:World}(h:HS w0 M ρ H w){b:Nat}(ho:own ρ H b){o:Obj}(hb:w.heap[b]? =some o):QXx o=false:=by
 obtain⟨k,bd,h1,h2,rfl,h4⟩:=ho;cases hk:H k with
 | none=>rw[hk]at h4;cases h4
 | some B=>
  obtain⟨bd',e,ok⟩:=h.blk k B hk (by rw[<-hk];exact h4);rw[h1]at e;cases e
  cases B with
  | box t cs=>obtain⟨_,vals,e,_⟩:=ok;rw[hb]at e;cases e;rfl
  | row t sz xs=>
   obtain⟨_,_,h3 | ⟨_,arr,e,_⟩⟩:=ok
   ·rw[h3.1]at h2;cases h2
   ·rw[hb]at e;cases e;rfl
  | lp s=>obtain⟨_,r,e,_⟩:=ok;rw[hb]at e;cases e;rfl
  | mp f=>obtain⟨_,es,cl,e,_⟩:=ok;rw[hb]at e;cases e;rfl
  | dead=>rw[hk]at h4;cases h4
theorem Ext.nc {ρ ρ':Env}{H H':HP}{w w':World}(hs:HS w0 M ρ H w)(hx:Ext ρ H w ρ' H' w'):NC w w':=by
 intro b o hb ho;have hlt:=(Zl.1 hb).1;rw[hx.keeps.block b hlt (fun hw=>by rw[hs.own_rf hw hb]at ho;cases ho)];exact hb
def Marks (w0 w:World)(ds:List Deferred):Prop:= ∃rs:List Nat,ds=rs.map (fun r=>({target:= .collected r,args:= #[]}:Deferred))/\rs.Nodup/\ ∀r∈rs,w.heap[r]? =some (.deferred (some []))/\w0.heap.size<=r
theorem Marks.nil {w0 w:World}:Marks w0 w []:=⟨[],rfl,by simp,by simp⟩
theorem Marks.nc {w0 w w':World}{ds:List Deferred}(h:Marks w0 w ds)(hn:NC w w'):Marks w0 w' ds:=
 let ⟨rs,h1,h2,h3⟩:=h;⟨rs,h1,h2,fun r hr=>⟨hn r _ (h3 r hr).1 rfl,(h3 r hr).2⟩⟩
structure Sim (w0:World)(M:Ctx)(N:Nat)(ρ:Env)(σ:St)(a:Act)(w:World):Prop where
 size:a.tmps.size=N
 dfr:Marks w0 w a.defers
 dfn:M.nd=true->a.defers=[]
 pin: ∀k bd,M.pin k=some bd->ρ k=some bd
 tmps: ∀t,ConcV w (ow M ρ σ.H) ρ (σ.T t) (a.tmps.getD t undef)
 stk: ∀p∈M.stk,∀t,ConcV w (ow M ρ σ.H) ρ (p.1 t) (p.2.getD t undef)
 hs:HS w0 M ρ σ.H w
def JD (T:TM)(d:Option Nat)(av:AV):TM:=
 match d with
 | some d=>upd T d av
 | none=>T
theorem Sim.put {N:Nat}{ρ ρ':Env}{σ:St}{a:Act}{w w':World}(h:Sim w0 M N ρ σ a w){H':HP}(hs:HS w0 M ρ' H' w')(hx:Ext ρ σ.H w ρ' H' w'){d:Option Nat}(hd: ∀t,d=some t->t<N)
  {av:AV} {v:Value} (hv:ConcV w' (ow M ρ' H') ρ' av v):Sim w0 M N ρ' ⟨JD σ.T d av,H'⟩ (a.put d v) w':=by
 cases d with
 | none=>exact⟨h.size,h.dfr.nc (hx.nc h.hs),h.dfn,fun k bd hk=>hx.env k bd (h.pin k bd hk),fun t=>hx.conc (h.tmps t),fun p hp t=>hx.conc (h.stk p hp t),hs⟩
 | some d=>
  have hlt:=hd d rfl;refine⟨by simp[Act.put,h.size],h.dfr.nc (hx.nc h.hs),h.dfn,fun k bd hk=>hx.env k bd (h.pin k bd hk),fun t=> ?_,fun p hp t=>hx.conc (h.stk p hp t),hs⟩;by_cases e:t=d
  ·subst e;have:(a.put (some t) v).tmps.getD t undef=v:=by simp[Act.put,h.size,hlt]
   rw[this];simpa [JD,QT]using hv
  ·have:(a.put (some d) v).tmps.getD t undef=a.tmps.getD t undef:=by
    simp only[Act.put,Array.getD_eq_getD_getElem?];rw[Array.getElem?_setIfInBounds_ne (fun he=>e he.symm)]
   rw[this];simpa [JD,QY _ _ e]using hx.conc (h.tmps t)
end Go.Eng
namespace Go.Eng
open Go
structure TyI where
 cells:Nat
 zero:List Value
 agg:Bool
 bytes:Nat
 und:TypeDesc
 eq:Bool
abbrev TB:=Nat->Option TyI
structure Y6 (P:Program)(t:Nat)(i:TyI):Prop where
 info: ∃ti z,P.info? t=some ti/\ti.size=i.cells/\ti.bytes=i.bytes/\ti.zero=some z/\z.cells=i.zero.toArray
 und:P.underlying t=some i.und
 agg:i.agg=match i.und with | .struct _ | .array _ _=>true | _=>false
 one:i.agg=false->i.cells=1
 zlen:i.zero.length=i.cells
 zone:i.zero.all (·.oneCell')=true
 zval: ∀k,i.und= .int k-> ∃ti v,P.info? t=some ti/\ti.zero=some v/\i.zero=[v]
 eqok:i.eq=true->P.stoodInHeld t=false/\P.eqGuardType P.depth t=false/\ ∀fs,i.und= .struct fs-> ∀f∈fs.toList,f.name≠ "_"
def WA (P:Program)(tb:TB):Prop:= ∀t i,tb t=some i->Y6 P t i
section mem
variable {P:Program}{tb:TB}
theorem Ur {t:Nat}{i:TyI}(h:Y6 P t i)(w:World): ∃ti z,(typeInfo t).run P w= .ok ti w/\ti.size=i.cells/\ti.bytes=i.bytes/\ti.zero=some z/\z.cells=i.zero.toArray:=by
 obtain⟨ti,z,h1,h2,h3,h4,h5⟩:=h.info;exact⟨ti,z,by simp[typeInfo,h1],h2,h3,h4,h5⟩
theorem XK {t:Nat}{i:TyI}(h:Y6 P t i)(w:World):(sizeOf t).run P w= .ok i.cells w:=by
 obtain⟨ti,z,h1,h2,_⟩:=Ur h w;simp[sizeOf,h1,h2]
theorem Vy {t:Nat}{i:TyI}(h:Y6 P t i)(w:World):(isAgg t).run P w= .ok i.agg w:=by
 simp only[isAgg,Sem.run_bind,run_underlying h.und,Result.andThen_ok,h.agg];cases i.und<;>rfl
theorem KH {t:Nat}{i:TyI}(h:Y6 P t i)(w:World): ∃z,(zeroValue t).run P w= .ok z w/\z.cells=i.zero.toArray:=by
 obtain⟨ti,z,h1,_,_,h4,h5⟩:=Ur h w;exact⟨z,by simp[zeroValue,h1,h4],h5⟩
def Ki (w:World)(b o:Nat)(vs:List Value):Prop:= ∀j v,vs[j]? =some v->w.cell? ⟨b,o+j,none⟩=some v

theorem JQ (b o j:Nat):(⟨b,o,none⟩:Addr).add j=⟨b,o+j,none⟩:=by
 unfold Addr.add;split<;>simp_all
theorem W4 {w:World}{b t:Nat}{arr:Array Value}{fr:Nat×Nat}(h:w.heap[b]? =some (.cells arr t fr))(o n:Nat):Ki w b o ((arr.toList.drop o).take n):=by
 intro j v hj;rw[Za]at hj;split at hj
 ·rw[Zc]at hj;simp only[World.cell?,h];simpa using hj
 ·cases hj
theorem KR {w:World}{b o:Nat}{vs:List Value}(h:Ki w b o vs):(loadCells ⟨b,o,none⟩ vs.length).run P w= .ok vs.toArray w:=
 run_loadCells_list w ⟨b,o,none⟩ vs fun j v hj=>by rw[JQ];exact h j v hj
theorem VJ {t:Nat}{i:TyI}(ht:Y6 P t i){w:World}{b o:Nat}{vs:List Value}(h:Ki w b o vs)(hl:vs.length=i.cells):
  ∃v,(loadVar t ⟨b,o,none⟩).run P w= .ok v w/\(if i.agg then v= .agg vs.toArray else vs=[v]):=by
 cases ha:i.agg with
 | true=>
  refine⟨.agg vs.toArray,?_,by simp⟩;have:=KR (P:=P) h;rw[hl]at this;simp[loadVar,Vy ht,ha,XK ht,this]
 | false=>
  have h1:=ht.one ha;match vs,(by omega:vs.length=1)with
  | [v],_=>
   refine⟨v,?_,by simp⟩;have:=h 0 v rfl;simp only[Nat.add_zero]at this;simp[loadVar,Vy ht,ha,this]
theorem VB {t:Nat}{i:TyI}(ht:Y6 P t i){w:World}{b o u:Nat}{arr:Array Value}(hb:w.heap[b]? =some (.cells arr u (0,0))){v:Value}{vs:List Value}(hv:v.cells=vs.toArray)(hl:vs.length=i.cells)
  (ho:o+vs.length<=arr.size) (h1: ∀v∈vs,v.oneCell'=true):
  (storeVar t ⟨b,o,none⟩ v).run P w= .ok () (w.setRow b (arr.toList.take o++vs++arr.toList.drop (o+vs.length)).toArray):=by
 have:=run_storeCells_at (P:=P) b o u vs 0 arr w hb (by simpa using ho) h1;simp only[Nat.add_zero]at this;simp[storeVar,hv,XK ht,hl,this]
end mem
theorem ConcX.cells {w:World}{O:Nat->Prop}{ρ:Env}{b:Bool}{cs:List Ch}{v:Value}(h:ConcX w O ρ b cs v): ∃vals,CC w O ρ cs vals/\v.cells=vals.toArray/\(if b then v= .agg vals.toArray else vals=[v]):=by
 obtain⟨vals,h1,h2⟩:=h;refine⟨vals,h1,?_,h2⟩;cases b with
 | true=>simp at h2;subst h2;rfl
 | false=>
  simp at h2;subst h2;have:=h1.one v (by simp);cases v<;>first | rfl | simp[Zf]at this
theorem ConcX.one {w:World}{O:Nat->Prop}{ρ:Env}{x:Value}{v:Value}(h:ConcX w O ρ false [.v x] v):v=x/\x.oneCell'=true:=by
 obtain⟨vals,h1,h2⟩:=h;simp at h2;subst h2;cases h1 with
 | v h _=>exact⟨rfl,h⟩
theorem ConcX.mk1 {w:World}{O:Nat->Prop}{ρ:Env}{x:Value}(h:x.oneCell'=true):ConcX w O ρ false [.v x] x:=⟨[x],.v h .nil,by simp⟩
end Go.Eng
namespace Go.Eng
open Go
inductive BR where
  | ok (v:Value)
  | need (p:Prop) (v:Value)
  | bad

def BR.run (K:Value->Prop):BR->Prop
 | .ok v=>K v
 | .need p v=>p/\K v
 | .bad=>False
def QXy (k:IntKind)(a b:Int):Int:=k.wrap (BitVec.ofInt k.bits a&&&BitVec.ofInt k.bits b).toNat
def orI (k:IntKind)(a b:Int):Int:=k.wrap (BitVec.ofInt k.bits a ||| BitVec.ofInt k.bits b).toNat
def QXz (k:IntKind)(a b:Int):Int:=k.wrap (BitVec.ofInt k.bits a^^^BitVec.ofInt k.bits b).toNat
def QT7 (k:IntKind)(a b:Int):Int:=k.wrap (BitVec.ofInt k.bits a&&& ~~~BitVec.ofInt k.bits b).toNat
def X8 (k:IntKind)(a b:Int):Int:=k.wrap (a*2^(min b.toNat k.bits))
def XA (k:IntKind)(a b:Int):Int:=a.fdiv (2^(min b.toNat k.bits))
def QVA (op:BinOp)(k:IntKind)(a b:Int):BR:=
  match op with
  | .add=> .ok (.int k (k.wrap (a+b)))
  | .sub=> .ok (.int k (k.wrap (a-b)))
  | .mul=> .ok (.int k (k.wrap (a*b)))
  | .quo=> .need (b≠0) (.int k (k.wrap (a.tdiv b)))
  | .rem=> .need (b≠0) (.int k (a.tmod b))
  | .and=> .ok (.int k (QXy k a b))
  | .or=> .ok (.int k (orI k a b))
  | .xor=> .ok (.int k (QXz k a b))
  | .andNot=> .ok (.int k (QT7 k a b))
  | .eql=> .ok (.bool (a==b))
  | .neq=> .ok (.bool (a !=b))
  | .lss=> .ok (.bool (decide (a<b)))
  | .leq=> .ok (.bool (decide (a<=b)))
  | .gtr=> .ok (.bool (decide (a>b)))
  | .geq=> .ok (.bool (decide (a≥b)))
  | _=> .bad

def QQr (op:BinOp)(x y:Value):BR:=
 match x,y with
 | .int k a,.int k' b=>
  match op with
  | .shl=> .need (0<=b) (.int k (X8 k a b))
  | .shr=> .need (0<=b) (.int k (XA k a b))
  | op=>if k=k' then QVA op k a b else .bad
 | .string a,.string b=>
  match op with
  | .eql=> .ok (.bool (a.toList==b.toList))
  | .neq=> .ok (.bool !(a.toList==b.toList))
  | .lss=> .ok (.bool (Op.bytesLess a.toList b.toList))
  | .add=> .need (((a.size+b.size:Nat):Int)<=9223372036854775807) (.string (a++b))
  | _=> .bad
 | _,_=> .bad
def ldS (cs:List Ch)(o n:Nat)(agg:Bool):Option AV:=
  match KF cs o with
  | some ds=>match KG ds n with
    | some es=>some (.x agg es)
    | none=>none
  | none=>none

def orF (o:Option AV)(K:AV->Prop):Prop:=match o with | some v=>K v | none=>False
inductive Sh where
  | int (k:IntKind)
  | bool
  | str
  | rat
  | sl (sz:Nat)
  | val
  | ifc (t:Nat) (ag:Bool)

def QCB:List Sh->(List Ch->Prop)->Prop
  | [],K=>K []
  | .int k::s,K=> ∃d:Int,QCB s fun cs=>K (.v (.int k d)::cs)
  | .bool::s,K=> ∃b:Bool,QCB s fun cs=>K (.v (.bool b)::cs)
  | .str::s,K=> ∃b:ByteArray,QCB s fun cs=>K (.v (.string b)::cs)
  | .rat::s,K=> ∃(q:Rat) (n:Nat),QCB s fun cs=>K (.r q n::cs)
  | .sl sz::s,K=> ∃ys:List (List Ch),QCB s fun cs=>K (.s sz ys::cs)
  | .val::s,K=> ∃x:Value,QCB s fun cs=>K (.v x::cs)
  | .ifc t ag::s,K=> ∃ds:List Ch,QCB s fun cs=>K (.i t ag ds::cs)

inductive UH:List Sh->List Ch->Prop
 | nil:UH [] []
 | int {k:IntKind} {d:Int} {s:List Sh} {cs:List Ch} (h:UH s cs):UH (.int k::s) (.v (.int k d)::cs)
 | bool {b:Bool} {s:List Sh} {cs:List Ch} (h:UH s cs):UH (.bool::s) (.v (.bool b)::cs)
 | str {b:ByteArray} {s:List Sh} {cs:List Ch} (h:UH s cs):UH (.str::s) (.v (.string b)::cs)
 | rat {q:Rat} {n:Nat} {s:List Sh} {cs:List Ch} (h:UH s cs):UH (.rat::s) (.r q n::cs)
 | sl {sz:Nat} {ys:List (List Ch)} {s:List Sh} {cs:List Ch} (h:UH s cs):UH (.sl sz::s) (.s sz ys::cs)
 | val {x:Value} {s:List Sh} {cs:List Ch} (h:UH s cs):UH (.val::s) (.v x::cs)
 | ifc {t:Nat} {ag:Bool} {ds:List Ch} {s:List Sh} {cs:List Ch} (h:UH s cs):UH (.ifc t ag::s) (.i t ag ds::cs)
theorem Us: ∀{s:List Sh} {K:List Ch->Prop},QCB s K↔ ∃cs,UH s cs/\K cs:=by
 intro s;induction s with
 | nil=>intro K;exact⟨fun h=>⟨[],.nil,h⟩,fun⟨_,h,hk⟩=>by cases h;exact hk⟩
 | cons x s ih=>
  intro K;cases x<;>simp only[QCB,ih]
  ·exact⟨fun⟨d,cs,h,hk⟩=>⟨_,.int h,hk⟩,fun⟨_,h,hk⟩=>by cases h with | int h=>exact⟨_,_,h,hk⟩⟩
  ·exact⟨fun⟨d,cs,h,hk⟩=>⟨_,.bool h,hk⟩,fun⟨_,h,hk⟩=>by cases h with | bool h=>exact⟨_,_,h,hk⟩⟩
  ·exact⟨fun⟨d,cs,h,hk⟩=>⟨_,.str h,hk⟩,fun⟨_,h,hk⟩=>by cases h with | str h=>exact⟨_,_,h,hk⟩⟩
  ·exact⟨fun⟨q,n,cs,h,hk⟩=>⟨_,.rat h,hk⟩,fun⟨_,h,hk⟩=>by cases h with | rat h=>exact⟨_,_,_,h,hk⟩⟩
  ·exact⟨fun⟨d,cs,h,hk⟩=>⟨_,.sl h,hk⟩,fun⟨_,h,hk⟩=>by cases h with | sl h=>exact⟨_,_,h,hk⟩⟩
  ·exact⟨fun⟨d,cs,h,hk⟩=>⟨_,.val h,hk⟩,fun⟨_,h,hk⟩=>by cases h with | val h=>exact⟨_,_,h,hk⟩⟩
  ·exact⟨fun⟨d,cs,h,hk⟩=>⟨_,.ifc h,hk⟩,fun⟨_,h,hk⟩=>by cases h with | ifc h=>exact⟨_,_,h,hk⟩⟩
def QVB (rec:TyI->List Sh)(tb:TB):List Field->List Sh
 | []=>[]
 | f::fs=>(match tb f.type with
  | some fi=>rec fi
  | none=>[.val])++QVB rec tb fs
def QVC (tb:TB):Nat->TyI->List Sh
  | 0,_=>[]
  | d+1,i=>match i.und with
    | .int k=>[.int k]
    | .bool=>[.bool]
    | .string=>[.str]
    | .slice e=>match tb e with
      | some ei=>[.sl ei.cells]
      | none=>[.val]
    | .struct fs=>match fs.toList with
      | [a,b,c]=>match tb a.type,tb b.type,tb c.type with
        | some ⟨_,_,_,_,.bool,_⟩,some ⟨_,_,_,_,.string,_⟩,some ⟨_,_,_,_,.string,_⟩=>[.rat]
        | _,_,_=>QVB (QVC tb d) tb fs.toList
      | l=>QVB (QVC tb d) tb l
    | _=>[.val]

def ldE (xs:List (List Ch))(j o n:Nat):Option (List Ch):=
  match xs[j]? with
  | some el=>match KF el o with
    | some ds=>KG ds n
    | none=>none
  | none=>none

def ldP (sh:List Sh)(xs:List (List Ch))(j o n:Nat)(agg:Bool)(K:AV->Prop):Prop:=QCB sh fun cs=>ldE xs j o n=some cs/\K (.x agg cs)
theorem QMi {sh:List Sh}{xs:List (List Ch)}{j o n:Nat}{agg:Bool}{K:AV->Prop}(h:ldP sh xs j o n agg K): ∃el,xs[j]? =some el/\orF (ldS el o n agg) K:=by
 obtain⟨cs,_,h1,h2⟩:=Us.1 h;unfold ldE at h1;split at h1
 ·rename_i el hel;refine⟨el,hel,?_⟩;unfold ldS;split at h1
  ·rename_i ds hd;simp only[h1];exact h2
  ·cases h1
 ·cases h1
def QCU (i:TyI)(sh:List Sh)(a:AV)(H:HP)(K:AV->Prop):Prop:=
 match a with
 | .x false [.p k o]=>match H k with
  | some (.box _ cs)=>orF (ldS cs o i.cells i.agg) K
  | _=>False
 | .x false [.y _ xs j o]=>ldP sh xs j o i.cells i.agg K
 | .x false [.e k j o]=>match H k with
  | some (.row _ _ xs)=>ldP sh xs j o i.cells i.agg K
  | _=>False
 | _=>False
theorem QGq {cs ds:List Ch}{n:Nat}(h:KG cs n=some ds):Qh ds=n:=by
 fun_induction KG cs n generalizing ds with
 | case1=>simp at h;subst h;rfl
 | case2=>simp at h
 | case3=>simp at h;subst h;rfl
 | case4=>simp at h;subst h;rfl
 | case5 cs q n k ih=>
  simp only[Zn]at h;obtain⟨es,he,rfl⟩:=h;have:=ih he;simp[Qh,Ch.len];omega
 | case6 c cs k hne ih=>
  simp only[Zn]at h;obtain⟨es,he,rfl⟩:=h;have:=ih he;have hc:c.len=1:=by cases c<;>first | rfl | exact absurd rfl (hne _ _)
  simp[Qh,hc];omega
theorem Wh {w:World}{O:Nat->Prop}{ρ:Env}{cs:List Ch}{vals:List Value}(h:CC w O ρ cs vals){o n:Nat}{agg:Bool}{K:AV->Prop}(hs:orF (ldS cs o n agg) K):
  ∃es us,K (.x agg es)/\CC w O ρ es us/\us=(vals.drop o).take n/\us.length=n:=by
 unfold ldS at hs;split at hs
 ·rename_i ds hd;split at hs
  ·rename_i es he;have h1:=(h.drop hd).take he;exact⟨es,_,hs,h1,rfl,by rw[h1.length,QGq he]⟩
  ·exact hs.elim
 ·exact hs.elim
variable {P:Program}{w0:World}{M:Ctx}{ρ:Env}{H:HP}{w:World}
theorem CC.sub0 {w:World}{O:Nat->Prop}{ρ:Env}{cs:List Ch}{vs:List Value}(h:CC w O (fun _=>none) cs vs):CC w O ρ cs vs:=
 h.mono (.refl _ _) (fun _ _ h=>h) (fun _ _ h=>by cases h)
theorem QEy {t:Nat}{i:TyI}{sh:List Sh}(ht:Y6 P t i)(hs:HS w0 M ρ H w){a:AV}{v:Value}(ha:ConcV w (ow M ρ H) ρ a v){K:AV->Prop}(h:QCU i sh a H K):
    ∃u av,(Instr.loadAt t v).run P w= .ok u w/\ConcV w (ow M ρ H) ρ av u/\K av:=by
  have fin: ∀{b o:Nat} {cs:List Ch} {vs:List Value},v= .pointer (some ⟨b,o,none⟩)->Ki w b o vs->vs.length=i.cells->CC w (ow M ρ H) ρ cs vs->K (.x i.agg cs)->
      ∃u av,(Instr.loadAt t v).run P w= .ok u w/\ConcV w (ow M ρ H) ρ av u/\K av:=by
    intro b o cs vs hv hc hl hcc hk;obtain⟨u,h1,h2⟩:=VJ ht hc hl;exact⟨u,.x i.agg cs,by simp[Instr.loadAt,Instr.sureAddr,hv,h1],⟨vs,hcc,h2⟩,hk⟩
  unfold QCU at h;split at h
  · -- a box
    rename_i k o;split at h
    · rename_i ty cs hk;obtain⟨vals,hcc,hv⟩:=ha;simp at hv;subst hv;obtain⟨bd,hρ,ok⟩:=hs.blk k _ hk rfl;cases hcc with
      | p hk' hn _=>
        rw[hρ]at hk';cases hk'
        obtain⟨_,vals,hb,hcs⟩:=ok;obtain⟨es,us,h1,h2,h3,h4⟩:=Wh hcs h;refine fin rfl ?_ h4 h2 h1
        rw[h3];simpa using W4 hb o i.cells
    · exact h.elim
  · -- an immutable row
    rename_i sz xs j o;obtain⟨el,hel,hld⟩:=QMi h;obtain⟨vals,hcc,hv⟩:=ha;simp at hv;subst hv;cases hcc with
    | @y _ _ b o' _ _ _ f _ _ hr hx _=>
      obtain⟨es,us,h1,h2,h3,h4⟩:=Wh (hx j el hel) hld;obtain⟨hl,hcell⟩:=hr.cell j el hel;refine fin rfl ?_ h4 h2.sub0 h1
      intro m x hm;rw[h3,Za]at hm;split at hm
      · rw[Zc]at hm;have hlt:o+m<sz:=by
          have:=(Zi.1 hm).1;omega
        have:=hcell (o+m) hlt;rw[show o'+j*sz+o+m=o'+j*sz+(o+m)by omega,this,hm]
      · cases hm
  · -- an element of an own row
    rename_i k j o;split at h
    · rename_i ty sz xs hk;obtain⟨el,hel,hld⟩:=QMi h;obtain⟨vals,hcc,hv⟩:=ha;simp at hv;subst hv;obtain⟨bd,hρ,ok⟩:=hs.blk k _ hk rfl;cases hcc with
      | e hk' hn _=>
        rw[hρ]at hk';cases hk'
        obtain⟨_,hsz,⟨hnil,_⟩ | ⟨_,arr,hb,hsize,hle,hx⟩⟩:=ok
        · rw[hn]at hnil;cases hnil
        · obtain⟨es,us,h1,h2,h3,h4⟩:=Wh (hx j el hel) hld;refine fin rfl ?_ h4 h2.sub0 h1
          intro m x hm;rw[h3,Za]at hm;split at hm
          · rw[Zc,Qr,Za]at hm;split at hm
            · rw[Zc]at hm;rw[hsz];simp only[World.cell?,hb];rw[show j*sz+o+m=j*sz+(o+m)by omega];simpa using hm
            · cases hm
          · cases hm
    · exact h.elim
  · exact h.elim

end Go.Eng
namespace Go.Eng
open Go
def orH {α:Type}(o:Option α)(K:α->Prop):Prop:=match o with | some v=>K v | none=>False
def QAR:Ch->Bool
 | .v _ | .r .. | .b .. | .s .. | .i .. =>true
 | _=>false
def UI (H:HP):List Ch->Option (List Ch)
  | []=>some []
  | c::cs=>
    match(match c with
      | .w k o n=>match H k with
        | some (.row _ sz xs)=>some (Ch.s sz ((xs.drop o).take n))
        | _=>none
      | .p .. | .e .. | .y .. | .f .. | .m .. | .yl .. | .u=>none
      | c=>some c),UI H cs with
    | some c',some cs'=>some (c'::cs')
    | _,_=>none

def killL (H:HP):List Ch->HP
  | []=>H
  | .w k _ _::cs=>killL (upd H k (some .dead)) cs
  | _::cs=>killL H cs

def stE (xs:List (List Ch))(j o:Nat)(cs:List Ch):Option (List Ch):=
  match xs[j]? with
  | some el=>VA el o cs
  | none=>none

def QGr (i:TyI)(a v:AV)(H:HP)(K:HP->Prop):Prop:=
 match a,v with
 | .x false [.p k o],.x ag cs=>bif(Qh cs).beq i.cells&&(ag==i.agg)then(match H k with
  | some (.box t bs)=>orH (VA bs o cs) fun bs'=>K (upd H k (some (.box t bs')))
  | _=>False)else False
 | .x false [.e k j o],.x ag cs=>bif(Qh cs).beq i.cells&&(ag==i.agg)then orH (UI H cs) fun cs'=>
  (match killL H cs k with
  | some (.row t sz xs)=>bif o.beq 0&&(Qh cs).beq sz then j<xs.length/\K (upd (killL H cs) k (some (.row t sz (xs.set j cs'))))else
    ∃el',stE xs j o cs'=some el'/\K (upd (killL H cs) k (some (.row t sz (xs.set j el'))))
  | _=>False)else False
 | _,_=>False
variable {P:Program}{w0:World}{M:Ctx}{ρ:Env}{H:HP}{w:World}
theorem HW {cs new ds:List Ch}{o:Nat}(h:VA cs o new=some ds){w:World}{O:Nat->Prop}{ρ:Env}{vals us:List Value}(hc:CC w O ρ cs vals)(hn:CC w O ρ new us):
  CC w O ρ ds (vals.take o++us++vals.drop (o+us.length)):=by
 unfold VA at h;split at h
 ·rename_i a b h1 h2;simp at h;subst h;rw[hn.length,Zg];exact(hc.take h1).append (hn.append (hc.drop h2))
 ·cases h
theorem QKp {cs ds:List Ch}{n:Nat}(h:KF cs n=some ds):n<=Qh cs:=by
 fun_induction KF cs n generalizing ds with
 | case1=>omega
 | case2=>simp at h
 | case3=>simp[Qh,Ch.len];omega
 | case4=>simp[Qh,Ch.len];omega
 | case5 cs q n k ih=>have:=ih h;simp[Qh,Ch.len];omega
 | case6 c cs k hne ih=>
  have:=ih h;have hc:c.len=1:=by cases c<;>first | rfl | exact absurd rfl (hne _ _)
  simp[Qh,hc];omega
theorem QAS {cs new ds:List Ch}{o:Nat}(h:VA cs o new=some ds):o+Qh new<=Qh cs:=by
 unfold VA at h;split at h
 ·rename_i a b h1 h2;exact QKp h2
 ·cases h
theorem VK {w:World}{b t:Nat}{arr arr':Array Value}{fr:Nat×Nat}(h:w.heap[b]? =some (.cells arr t fr)):
    (w.setRow b arr').heap[b]? =some (.cells arr' t fr)/\(∀j,j≠b->(w.setRow b arr').heap[j]? =w.heap[j]?)/\(w.setRow b arr').heap.size=w.heap.size:=by
  have hlt:b<w.heap.size:=(Zl.1 h).1;refine⟨?_,?_,?_⟩
  · simp[World.setRow,Array.getElem?_modify,h]
  · intro j hj;simp only[World.setRow,Array.getElem?_modify];rw[if_neg (fun e=>hj e.symm)]
  · simp[World.setRow]

theorem HS.storeBox (hs:HS w0 M ρ H w){k o:Nat}{t:Nat}{bs cs bs':List Ch}(hk:H k=some (.box t bs)){bd:Jv}(hρ:ρ k=some bd)(hset:VA bs o cs=some bs'){us:List Value}(hc:CC w (ow M ρ H) ρ cs us):
  ∃arr:Array Value,w.heap[bd.blk]? =some (.cells arr t (0,0))/\o+us.length<=arr.size/\
   HS w0 M ρ (upd H k (some (.box t bs'))) (w.setRow bd.blk (arr.toList.take o++us++arr.toList.drop (o+us.length)).toArray)/\
   Ext ρ H w ρ (upd H k (some (.box t bs'))) (w.setRow bd.blk (arr.toList.take o++us++arr.toList.drop (o+us.length)).toArray):=by
 obtain⟨bd',hρ',ok⟩:=hs.blk k _ hk rfl;rw[hρ]at hρ';cases hρ'
 obtain⟨hn,vals,hb,hcs⟩:=ok;have hlen:=QAS hset;refine⟨vals.toArray,hb,by rw[hc.length];simpa [hcs.length]using hlen,?_⟩;obtain⟨e1,e2,e3⟩:=VK (arr':=(vals.toArray.toList.take o++us++vals.toArray.toList.drop (o+us.length)).toArray) hb;refine hs.write hk rfl rfl hρ hn e2 e3 rfl rfl rfl fun hx=>⟨hn,_,e1,hx.cc ?_⟩;simpa using HW hset hcs hc
def Je:List Ch->List Nat
  | []=>[]
  | .w k _ _::cs=>k::Je cs
  | _::cs=>Je cs

theorem QEz {arr:Array Value}{cap sz i:Nat}(hs:arr.size=cap*sz)(hi:i<cap):(Qr arr sz i).length=sz:=by
 simp only[Qr,Zm,Zp,Zs,hs];have:(i+1)*sz<=cap*sz:=Ze _ hi;rw[Zh]at this;omega
theorem QJT (hs:HS w0 M ρ H w){k o n t sz:Nat}{xs:List (List Ch)}(hk:H k=some (.row t sz xs)){v:Value}(hc:CC w (ow M ρ H) ρ [.w k o n] [v]){O':Nat->Prop}(hO: ∀b,O' b->ow M ρ H b)
    (hf: ∀bd,ρ k=some bd->bd.isNil=false-> ¬O' bd.blk):CC w O' (fun _=>none) [.s sz ((xs.drop o).take n)] [v]:=by
  obtain⟨bd,hρ,hlen,hsz,ok⟩:=hs.blk k _ hk rfl;cases hc with
  | @w _ _ _ _ cap _ _ _ hk' hn hl hcn hcap _=>
    rw[hρ]at hk';cases hk'
    rcases ok with⟨hnil,_⟩ | ⟨_,arr,hb,hsize,hle,hx⟩
    · rw[hn]at hnil;cases hnil
    · have hlt:bd.blk<w.heap.size:=(Zl.1 hb).1;have hln:((xs.drop o).take n).length=n:=by simp;omega
      have key:=CC.s (ρ:=fun _=>none) (w:=w) (O:=O') (sz:=sz) (b:=bd.blk) (o:=o*sz) (cap:=cap) (xs:=(xs.drop o).take n) (f:=fun i=>Qr arr sz (o+i)) (cs:=[]) (vs:=[]) ?_ ?_ (by omega) .nil
      · rw[hln]at key;rw[hsz];exact key
      · refine⟨hlt,hf _ hρ hn,fun i x hi=> ?_⟩;have hi':o+i<bd.cap:=by
          have:=(Zi.1 hi).1;simp at this;omega
        have hel:=QEz hsize hi';refine⟨hel,fun j hj=> ?_⟩;simp only[World.cell?,hb,Qr];rw[Za,if_pos hj,Zc];rw[show o*sz+i*sz+j=(o+i)*sz+j by rw[Zh]];simp
      · intro i x hi;have hi2:xs[o+i]? =some x:=by
          rw[Za]at hi;split at hi
          · rwa [Zc]at hi
          · cases hi
        exact(hx (o+i) x hi2).mono (.refl _ _) (fun b _ h=>hO b h) (fun _ _ h=>h)
  | w0=>
    rw[show((xs.drop 0).take 0)=[]by simp];exact .s0 .nil
  | w00=>
    rw[List.take_zero];exact .s00 .nil

theorem QAT (hs:HS w0 M ρ H w){O':Nat->Prop}(hO: ∀b,O' b->ow M ρ H b): ∀{cs ds:List Ch} {vs:List Value},CC w (ow M ρ H) ρ cs vs->UI H cs=some ds->
  (∀k∈Je cs,∀bd,ρ k=some bd->bd.isNil=false-> ¬O' bd.blk)->CC w O' (fun _=>none) ds vs:=by
 have mono0: ∀{cs:List Ch} {vs:List Value},CC w (ow M ρ H) (fun _=>none) cs vs->CC w O' (fun _=>none) cs vs:=fun h=>h.mono (.refl _ _) (fun b _ h=>hO b h) (fun _ _ h=>h);intro cs;induction cs with
 | nil=>intro ds vs h hi _;cases h;simp[UI]at hi;subst hi;exact .nil
 | cons c cs ih=>
  intro ds vs h hi hf;simp only[UI]at hi;split at hi
  ·rename_i c' cs' h1 h2;simp at hi;subst hi;cases c with
   | w k o n=>
    simp only at h1;split at h1
    ·rename_i t sz xs hk;simp at h1;subst h1;obtain⟨us,rest,rfl,hl,hc1,hc2⟩:=h.cons;match us,hl with
     | [v],_=>
      have hA:=QJT hs hk hc1 hO (hf k (by simp[Je]));exact hA.append (ih hc2 h2 (fun k' hk'=>hf k' (by simp[Je,hk'])))
    ·cases h1
   | p=>cases h1
   | e=>cases h1
   | y=>cases h1
   | f=>cases h1
   | m=>cases h1
   | yl=>cases h1
   | u=>cases h1
   | i t ag ics=>simp at h1;subst h1;cases h with | i hx hv h=>exact .i (mono0 hx) hv (ih h h2 (fun k hk=>hf k (by simpa [Je]using hk)))
   | v x=>simp at h1;subst h1;cases h with | v a h=>exact .v a (ih h h2 (fun k hk=>hf k (by simpa [Je]using hk)))
   | r q n=>simp at h1;subst h1;cases h with | r a h=>exact .r a (ih h h2 (fun k hk=>hf k (by simpa [Je]using hk)))
   | b m n=>simp at h1;subst h1;cases h with | b a h=>exact .b a (ih h h2 (fun k hk=>hf k (by simpa [Je]using hk)))
   | s sz xs=>
    simp at h1;subst h1;cases h with
    | s00 h=>exact .s00 (ih h h2 (fun k hk=>hf k (by simpa [Je]using hk)))
    | s0 h=>exact .s0 (ih h h2 (fun k hk=>hf k (by simpa [Je]using hk)))
    | s hr hx hcap h=>exact .s (hr.mono (.refl _ _) (fun b _ h=>hO b h)) (fun i x hi=>mono0 (hx i x hi)) hcap (ih h h2 (fun k hk=>hf k (by simpa [Je]using hk)))
  ·cases hi
theorem Ut (cs:List Ch): ∀(H:HP) (k:Nat),killL H cs k=if k∈Je cs then some .dead else H k:=by
 induction cs with
 | nil=>intro H k;simp[killL,Je]
 | cons c cs ih=>
  intro H k;cases c with
  | w k' o n=>
   simp only[killL,Je,List.mem_cons];rw[ih];by_cases h:k∈Je cs
   ·simp[h]
   ·by_cases e:k=k'
    ·subst e;simp[h,QT]
    ·simp[h,e,QY _ _ e]
  | _=>simp only[killL,Je];exact ih H k
theorem HS.killL (hs:HS w0 M ρ H w): ∀{cs:List Ch},(∀k∈Je cs,∃b,H k=some b)->HS w0 M ρ (Eng.killL H cs) w/\Ext ρ H w ρ (Eng.killL H cs) w:=by
 intro cs;induction cs generalizing H with
 | nil=>exact fun _=>⟨hs,.refl _ _ _⟩
 | cons c cs ih=>
  intro hk;cases c with
  | w k o n=>
   obtain⟨b,hb⟩:=hk k (by simp[Je]);obtain⟨h1,h2⟩:=hs.kill hb
   have:=ih h1 (fun k' hk'=>by
    by_cases e:k'=k
    ·subst e;exact⟨_,QT _ _ _⟩
    ·rw[QY _ _ e];exact hk k' (by simp[Je,hk']))
   exact⟨this.1,h2.trans this.2⟩
  | _=>exact ih hs (fun k' hk'=>hk k' (by simpa [Je]using hk'))
theorem KS {cs ds:List Ch}(h:UI H cs=some ds): ∀k∈Je cs,∃t sz xs,H k=some (.row t sz xs):=by
 induction cs generalizing ds with
 | nil=>simp[Je]
 | cons c cs ih=>
  simp only[UI]at h;split at h
  ·rename_i c' cs' h1 h2;cases c with
   | w k o n=>
    simp only at h1;split at h1
    ·rename_i t sz xs hk;intro k' hk';simp only[Je,List.mem_cons]at hk';rcases hk' with rfl | hk'
     ·exact⟨t,sz,xs,hk⟩
     ·exact ih h2 k' hk'
    ·cases h1
   | _=>exact fun k' hk'=>ih h2 k' (by simpa [Je]using hk')
  ·cases h
theorem QKq (hs:HS w0 M ρ H w){cs ds:List Ch}{vs:List Value}(hc:CC w (ow M ρ H) ρ cs vs)(hi:UI H cs=some ds):CC w (ow M ρ (Eng.killL H cs)) (fun _=>none) ds vs:=by
  have hr:=KS hi;obtain⟨h1,h2⟩:=hs.killL (cs:=cs) (fun k hk=>let ⟨t,sz,xs,e⟩:=hr k hk;⟨_,e⟩);have hown: ∀b,ow M ρ (Eng.killL H cs) b->ow M ρ H b:=by
    rintro b (hb | ⟨k,bd,a1,a2,a3,a4⟩)
    · exact .inl hb
    · rw[Ut]at a4;split at a4
      · cases a4
      · exact .inr ⟨k,bd,a1,a2,a3,a4⟩
  refine QAT hs hown hc hi fun k hk bd hρ hn hb=> ?_
  obtain⟨t,sz,xs,e⟩:=hr k hk;rcases hb with hb | ⟨k',bd',a1,a2,a3,a4⟩
  · exact hs.nx hρ hn (by rw[e];rfl) hb
  · rw[Ut]at a4;split at a4
    · cases a4
    · rename_i hne;have:=hs.dist k' k bd' bd a1 hρ a2 hn a4 (by rw[e];rfl) a3;subst this;exact hne hk

theorem QGs {arr:Array Value}{cap sz j o:Nat}{us:List Value}(hs:arr.size=cap*sz)(hj:j<cap)(ho:o+us.length<=sz)(i:Nat):
  Qr ((arr.toList.take (j*sz+o)++us++arr.toList.drop (j*sz+o+us.length)).toArray) sz i=
   if i=j then(Qr arr sz j).take o++us++(Qr arr sz j).drop (o+us.length)else Qr arr sz i:=by
 have hjl:j*sz+sz<=arr.size:=by
  have:(j+1)*sz<=cap*sz:=Ze _ hj;rw[Zh,Zr]at this;omega
 have hal:arr.toList.length=arr.size:=by simp
 apply Zt;intro m;simp only[Qr];rw[Za];by_cases hm:m<sz
 ·rw[if_pos hm,Zc];by_cases hij:i=j
  ·subst hij;rw[if_pos rfl];by_cases h1:m<o
   ·rw[Zg,Zd (by simp;omega),Zg,Zd (by simp;omega)];simp only[Za];rw[if_pos (by omega),if_pos (by omega),if_pos (by omega),Zc]
   ·by_cases h2:m<o+us.length
    ·rw[Zg,Zb (by simp;omega),Zd (by simp;omega)];rw[Zg,Zb (by simp;omega),Zd (by simp;omega)];congr 1;simp;omega
    ·rw[Zg,Zb (by simp;omega),Zb (by simp;omega)];rw[Zg,Zb (by simp;omega),Zb (by simp;omega)];simp only[Zc,Za,Zm,Zp,hal];rw[if_pos (by omega)];congr 1;omega
  ·rw[if_neg hij,Za,if_pos hm,Zc];by_cases hlt:i<j
   ·have:i*sz+sz<=j*sz:=by
     have:(i+1)*sz<=j*sz:=Ze _ hlt;rw[Zh,Zr]at this;omega
    rw[Zg,Zd (by simp;omega),Za,if_pos (by omega)]
   ·have:j*sz+sz<=i*sz:=by
     have:(j+1)*sz<=i*sz:=Ze _ (by omega);rw[Zh,Zr]at this;omega
    rw[Zg,Zb (by simp;omega),Zb (by simp;omega),Zc];congr 1;simp only[Zm,hal];omega
 ·rw[if_neg hm];split
  ·rename_i e;subst e;symm;rw[List.getElem?_eq_none];simp only[Zk,Zm,Zp];omega
  ·rw[Za,if_neg hm]
theorem HS.storeRow (hs:HS w0 M ρ H w){k j o t sz:Nat}{xs:List (List Ch)}{el cs el':List Ch}(hk:H k=some (.row t sz xs)){bd:Jv}(hρ:ρ k=some bd)(hn:bd.isNil=false)(hel:xs[j]? =some el)
  (hset:VA el o cs=some el') {us:List Value} (hc:CC w (ow M ρ H) (fun _=>none) cs us):
  ∃arr:Array Value,w.heap[bd.blk]? =some (.cells arr t (0,0))/\bd.sz=sz/\j*sz+o+us.length<=arr.size/\
   HS w0 M ρ (upd H k (some (.row t sz (xs.set j el')))) (w.setRow bd.blk (arr.toList.take (j*sz+o)++us++arr.toList.drop (j*sz+o+us.length)).toArray)/\
   Ext ρ H w ρ (upd H k (some (.row t sz (xs.set j el')))) (w.setRow bd.blk (arr.toList.take (j*sz+o)++us++arr.toList.drop (j*sz+o+us.length)).toArray):=by
 obtain⟨bd',hρ',hlen,hsz,ok⟩:=hs.blk k _ hk rfl;rw[hρ]at hρ';cases hρ'
 rcases ok with⟨hnil,_⟩ | ⟨_,arr,hb,hsize,hle,hx⟩
 ·rw[hn]at hnil;cases hnil
 have hj:j<bd.cap:=by have:=(Zi.1 hel).1;omega
 have hxj:=hx j el hel;have hsl:=QAS hset;rw[<-hc.length,<-hxj.length,QEz hsize hj]at hsl;have hjl:j*sz+sz<=arr.size:=by
  have:(j+1)*sz<=bd.cap*sz:=Ze _ hj;rw[Zh,Zr]at this;omega
 refine⟨arr,hb,hsz,by omega,?_⟩;obtain⟨e1,e2,e3⟩:=VK (arr':=(arr.toList.take (j*sz+o)++us++arr.toList.drop (j*sz+o+us.length)).toArray) hb;refine hs.write hk rfl rfl hρ hn e2 e3 rfl rfl rfl fun hx'=>⟨by simpa using hlen,hsz,.inr ⟨hn,_,e1,?_,by simpa using hle,?_⟩⟩
 ·simp;omega
 ·intro i x hi;rw[QGs hsize hj hsl];rw[List.getElem?_set]at hi;split at hi
  ·rename_i e;subst e;split at hi
   ·simp at hi;subst hi;rw[if_pos rfl];exact hx'.cc0 (HW hset hxj hc)
   ·cases hi
  ·rename_i e;rw[if_neg (fun h=>e h.symm)];exact hx'.cc0 (hx i x hi)
theorem QGt (cs:List Ch):KF cs (Qh cs)=some []:=by
 induction cs with
 | nil=>rfl
 | cons c cs ih=>
  cases c with
  | r q n=>rw[show Qh (.r q n::cs)=Qh cs+2+1 by simp[Qh,Ch.len];omega];exact ih
  | v x=>rw[show Qh (.v x::cs)=Qh cs+1 by simp[Qh,Ch.len];omega];exact ih
  | b m n=>rw[show Qh (.b m n::cs)=Qh cs+1 by simp[Qh,Ch.len];omega];exact ih
  | s sz xs=>rw[show Qh (.s sz xs::cs)=Qh cs+1 by simp[Qh,Ch.len];omega];exact ih
  | p k o=>rw[show Qh (.p k o::cs)=Qh cs+1 by simp[Qh,Ch.len];omega];exact ih
  | w k o n=>rw[show Qh (.w k o n::cs)=Qh cs+1 by simp[Qh,Ch.len];omega];exact ih
  | e k i o=>rw[show Qh (.e k i o::cs)=Qh cs+1 by simp[Qh,Ch.len];omega];exact ih
  | y sz xs i o=>rw[show Qh (.y sz xs i o::cs)=Qh cs+1 by simp[Qh,Ch.len];omega];exact ih
  | f fid ks=>rw[show Qh (.f fid ks::cs)=Qh cs+1 by simp[Qh,Ch.len];omega];exact ih
  | i t ag ics=>rw[show Qh (.i t ag ics::cs)=Qh cs+1 by simp[Qh,Ch.len];omega];exact ih
  | m k=>rw[show Qh (.m k::cs)=Qh cs+1 by simp[Qh,Ch.len];omega];exact ih
  | yl k=>rw[show Qh (.yl k::cs)=Qh cs+1 by simp[Qh,Ch.len];omega];exact ih
  | u=>rw[show Qh (.u::cs)=Qh cs+1 by simp[Qh,Ch.len];omega];exact ih
theorem QGu {el cs:List Ch}(h:Qh cs=Qh el):VA el 0 cs=some cs:=by
  unfold VA;have h1:KG el 0=some []:=by cases el<;>rfl
  rw[h1,Nat.zero_add,h,QGt];simp

theorem QMj {H:HP}: ∀{cs ds:List Ch},UI H cs=some ds->Qh ds=Qh cs:=by
 intro cs;induction cs with
 | nil=>intro ds h;simp[UI]at h;subst h;rfl
 | cons c cs ih=>
  intro ds h;simp only[UI]at h;split at h
  ·rename_i c' cs' h1 h2;simp at h;subst h;have:=ih h2;have hc:c'.len=c.len:=by
    cases c<;>simp at h1<;>first | (subst h1;rfl) | skip
    split at h1
    ·simp at h1;subst h1;rfl
    ·cases h1
   simp only[Qh,this,hc]
  ·cases h
theorem QDC {t:Nat}{i:TyI}(ht:Y6 P t i)(hs:HS w0 M ρ H w){a v:AV}{va vv:Value}(ha:ConcV w (ow M ρ H) ρ a va)(hv:ConcV w (ow M ρ H) ρ v vv){K:HP->Prop}(h:QGr i a v H K):
    ∃w' H',(Instr.storeAt t va vv).run P w= .ok () w'/\HS w0 M ρ H' w'/\Ext ρ H w ρ H' w'/\K H':=by
  unfold QGr at h;split at h
  · rename_i k o ag cs;cases hg:((Qh cs).beq i.cells&&(ag==i.agg))with
    | false=>rw[hg]at h;exact h.elim
    | true=>
      rw[hg]at h;simp only[Bool.and_eq_true]at hg;simp only[R7]at h;split at h
      · rename_i t' bs hk;unfold orH at h;split at h
        · rename_i bs' hset;obtain⟨vals,hcc,hv1⟩:=ha;simp at hv1;subst hv1;cases hcc with
          | @p _ _ _ bd _ _ hρ hn _=>
            obtain⟨us,hcu,hcells,_⟩:=hv.cells;obtain⟨arr,hb,hle,h1,h2⟩:=hs.storeBox hk hρ hset hcu;refine⟨_,_,?_,h1,h2,h⟩;simp only[Instr.storeAt,Instr.sureAddr,Sem.run_bind,Sem.run_pure,Result.andThen_ok];exact VB ht hb hcells (by rw[hcu.length];exact Zo hg.1) hle hcu.one
        · exact h.elim
      · exact h.elim
  · rename_i k j o ag cs;cases hg:((Qh cs).beq i.cells&&(ag==i.agg))with
    | false=>rw[hg]at h;exact h.elim
    | true=>
      rw[hg]at h;simp only[Bool.and_eq_true]at hg;simp only[R7]at h;unfold orH at h;split at h
      · rename_i cs' hi;split at h
        · rename_i t' sz xs hk;have part: ∀{el el':List Ch},xs[j]? =some el->VA el o cs'=some el'->K (upd (Eng.killL H cs) k (some (.row t' sz (xs.set j el'))))->
              ∃w' H',(Instr.storeAt t va vv).run P w= .ok () w'/\HS w0 M ρ H' w'/\Ext ρ H w ρ H' w'/\K H':=by
            intro el el' hel hset h;obtain⟨vals,hcc,hv1⟩:=ha;simp at hv1;subst hv1;cases hcc with
            | @e _ _ _ _ bd _ _ hρ hn _=>
              obtain⟨us,hcu,hcells,_⟩:=hv.cells;have hr:=KS hi;obtain⟨hs1,hx1⟩:=hs.killL (cs:=cs) (fun k hk=>let ⟨t,sz,xs,e⟩:=hr k hk;⟨_,e⟩);obtain⟨arr,hb,hsz,hle,h1,h2⟩:=hs1.storeRow hk hρ hn hel hset (QKq hs hcu hi);refine⟨_,_,?_,h1,hx1.trans h2,h⟩;simp only[Instr.storeAt,Instr.sureAddr,Sem.run_bind,Sem.run_pure,Result.andThen_ok];rw[hsz];exact VB ht hb hcells (by rw[hcu.length];exact Zo hg.1) hle hcu.one
          cases hfull:(o.beq 0&&(Qh cs).beq sz)with
          | true=>
            rw[hfull]at h;simp only[Bool.and_eq_true]at hfull;obtain⟨hj,h⟩:=h;have ho:=Zo hfull.1;have hl:=Zo hfull.2;have hel:xs[j]? =some xs[j]:=List.getElem?_eq_getElem hj
            refine part hel ?_ h
            -- the whole element
            have hs1:=(hs.killL (cs:=cs) (fun k hk=>let ⟨t,sz,xs,e⟩:=KS hi k hk;⟨_,e⟩)).1;have hlen:Qh xs[j]=sz:=by
              obtain⟨vals,hcc,hv1⟩:=ha;simp at hv1;subst hv1;cases hcc with
              | @e _ _ _ _ bd _ _ hρ hn _=>
                obtain⟨bd',hρ',_,_,⟨hnil,_⟩ | ⟨_,arr,_,hsize,hle,hx⟩⟩:=hs1.blk k _ hk rfl
                · rw[hρ]at hρ';cases hρ';rw[hn]at hnil;cases hnil
                · have:=(hx j _ hel).length;rw[<-this];have h1:(j+1)*sz<=bd'.cap*sz:=Ze _ (by omega);rw[Zh,Zr]at h1;simp only[Qr,Zm,Zp,Zs];omega
            rw[ho];exact QGu (by rw[QMj hi,hl,hlen])
          | false=>
            rw[hfull]at h;obtain⟨el',hst,h⟩:=h;unfold stE at hst;split at hst
            · rename_i el hel;exact part hel hst h
            · cases hst
        · exact h.elim
      · exact h.elim
  · exact h.elim

end Go.Eng
namespace Go.Eng
open Go
variable {P:Program}{w0:World}{M:Ctx}{ρ:Env}{H:HP}{w:World}
theorem HS.move {w':World}(h:HS w0 M ρ H w){k d:Nat}{bd bd':Jv}{b b':Blk}(hk:H k=some b)(hl:XW (some b)=true)(hd:H d=none)(hρ:ρ k=some bd)(hn:bd.isNil=false)
    (hbb:bd'.blk=bd.blk)
    (hother: ∀j,j≠bd.blk->w'.heap[j]? =w.heap[j]?) (hs:w'.heap.size=w.heap.size) (h1:w'.os=w.os) (h2:w'.tape=w.tape) (h3:w'.output=w.output)
    (hok:Ext ρ H w (upd ρ d (some bd')) (upd (upd H k (some .dead)) d (some b')) w'->BlkOK M.lps w' (ow M (upd ρ d (some bd')) (upd (upd H k (some .dead)) d (some b'))) (upd ρ d (some bd')) bd' b'):
    HS w0 M (upd ρ d (some bd')) (upd (upd H k (some .dead)) d (some b')) w'/\Ext ρ H w (upd ρ d (some bd')) (upd (upd H k (some .dead)) d (some b')) w':=by
  have hkd:k≠d:=fun e=>by subst e;rw[hk]at hd;cases hd
  have hρd:ρ d=none:=h.dom d hd;have hown:own ρ H bd.blk:=⟨k,bd,hρ,hn,rfl,by rw[hk];exact hl⟩;have hlive: ∀j,j≠d->XW (upd (upd H k (some .dead)) d (some b') j)=true->j≠k/\XW (H j)=true:=fun j hj hlj=>by
    rw[QY _ _ hj]at hlj;by_cases e:j=k
    · subst e;rw[QT]at hlj;cases hlj
    · rw[QY _ _ e]at hlj;exact⟨e,hlj⟩
  have hx:Ext ρ H w (upd ρ d (some bd')) (upd (upd H k (some .dead)) d (some b')) w':=by
    refine⟨⟨by omega,fun b hb ho=>hother b (fun e=>ho (e▸hown))⟩,fun b hb ⟨j,bj,a1,a2,a3,a4⟩=> ?_,fun j bj hj=> ?_,fun j hj=> ?_⟩
    · by_cases e:j=d
      · subst e;rw[QT]at a1;cases a1
        rw[<-a3,hbb];exact hown
      · rw[QY _ _ e]at a1;exact⟨j,bj,a1,a2,a3,(hlive j e a4).2⟩
    · rw[QY _ _ (fun e=>by subst e;rw[hρd]at hj;cases hj)];exact hj
    · have e:j≠d:=fun e=>hj (e▸hd);rw[QY _ _ e,QY _ _ e];refine⟨rfl,?_⟩;by_cases e2:j=k
      · subst e2;rw[QT];simp
      · rw[QY _ _ e2];exact hj
  refine⟨⟨h1.trans h.os,h2.trans h.tape,h3.trans h.output,by have:=h.size;omega,h.glob,?_,?_,?_,?_,?_⟩,hx⟩
  · intro j hj hm;rw[hother j (fun e=> ?_)]
    · exact h.old j hj hm
    · rcases(h.rng k bd hρ hn (by rw[hk];exact hl)).2 with h' | h'
      · omega
      · exact hm (e▸h')
  · intro j bj hj hlv;by_cases e:j=d
    · subst e;rw[QT]at hj;cases hj
      exact⟨bd',QT _ _ _,hok hx⟩
    · rw[QY _ _ e]at hj⊢;by_cases e2:j=k
      · subst e2;rw[QT]at hj;cases hj;cases hlv
      · rw[QY _ _ e2]at hj;obtain⟨bd2,e',ok⟩:=h.blk j bj hj hlv;exact⟨bd2,e',ok.ext hx (fun hnn hlj=>hother _ (fun he=>e2 (h.dist j k bd2 bd e' hρ hnn hn (by rw[hj];exact hlj) (by rw[hk];exact hl) he)))⟩
  · intro j hj;by_cases e:j=d
    · subst e;rw[QT]at hj;cases hj
    · rw[QY _ _ e]at hj⊢;by_cases e2:j=k
      · subst e2;rw[QT]at hj;cases hj
      · rw[QY _ _ e2]at hj;exact h.dom j hj
  · intro j bj hj hnj hlj;by_cases e:j=d
    · subst e;rw[QT]at hj;cases hj
      have:=h.rng k bd hρ hn (by rw[hk];exact hl);rw[hbb];exact⟨by omega,this.2⟩
    · rw[QY _ _ e]at hj;have:=h.rng j bj hj hnj (hlive j e hlj).2;exact⟨by omega,this.2⟩
  · intro j j' bj bj' hj hj' n1 n2 l1 l2 he;by_cases e:j=d
    · by_cases e':j'=d
      · omega
      · subst e;rw[QT]at hj;cases hj
        rw[QY _ _ e']at hj';have:=hlive j' e' l2;exact absurd (h.dist j' k bj' bd hj' hρ n2 hn this.2 (by rw[hk];exact hl) (by rw[<-he,hbb])) this.1
    · by_cases e':j'=d
      · subst e';rw[QT]at hj';cases hj'
        rw[QY _ _ e]at hj;have:=hlive j e l1;exact absurd (h.dist j k bj bd hj hρ n1 hn this.2 (by rw[hk];exact hl) (by rw[he,hbb])) this.1
      · rw[QY _ _ e]at hj;rw[QY _ _ e']at hj';exact h.dist j j' bj bj' hj hj' n1 n2 (hlive j e l1).2 (hlive j' e' l2).2 he

theorem CC.vals {w:World}{O:Nat->Prop}{ρ:Env}: ∀{vs:List Value},vs.all (·.oneCell')=true->CC w O ρ (vs.map Ch.v) vs
 | [],_=> .nil
 | x::xs,h=>by
  simp only[List.all_cons,Bool.and_eq_true]at h;exact .v h.1 (CC.vals h.2)
theorem HS.box (hs:HS w0 M ρ H w){d:Nat}(hd:H d=none){t:Nat}{cs:List Ch}{us:List Value}(hc:CC w (ow M ρ H) ρ cs us):
  ∃ρ',HS w0 M ρ' (upd H d (some (.box t cs))) (w.alloc (.cells us.toArray t))/\Ext ρ H w ρ' (upd H d (some (.box t cs))) (w.alloc (.cells us.toArray t))/\
   ConcV (w.alloc (.cells us.toArray t)) (ow M ρ' (upd H d (some (.box t cs)))) ρ' (.x false [.p d 0]) (.pointer (some ⟨w.heap.size,0,none⟩)):=by
 have h:=hs.alloc hd (o:= .cells us.toArray t) (bd:=⟨w.heap.size,0,0,0,false⟩) (b:= .box t cs) (w':=w.alloc (.cells us.toArray t)) rfl rfl rfl rfl rfl
  (fun hx=>⟨rfl,us,heap_alloc_new w _,hx.cc hc⟩)
 exact⟨_,h.1,h.2,[_],.p (QT _ _ _) rfl .nil,rfl⟩
theorem WB {pre rest:List Value}{sz i:Nat}(n:Nat)(hp:pre.length=n*sz)(hi:i<n):Qr (pre++rest).toArray sz i=Qr pre.toArray sz i:=by
  have h1:(i+1)*sz<=n*sz:=Ze _ hi;rw[Zh,Zr]at h1;apply Zt;intro m;simp only[Qr];rw[Za,Za];split
  · rw[Zc,Zc,Zd (by omega)]
  · rfl

theorem Kk {pre rest:List Value}{sz i:Nat}(n:Nat)(hp:pre.length=n*sz):Qr (pre++rest).toArray sz (n+i)=Qr rest.toArray sz i:=by
 simp only[Qr];rw[Zh,<-hp,<-List.drop_drop,List.drop_left]
theorem QDD {pre mid rest:List Value}{sz i:Nat}(n:Nat)(hp:pre.length=n*sz)(hi:i<n):Qr (pre++mid++rest).toArray sz i=Qr pre.toArray sz i:=by
 rw[Zg];exact WB n hp hi
theorem QE0 {pre mid rest:List Value}{sz i:Nat}(n:Nat)(hp:pre.length=n*sz):Qr (pre++mid++rest).toArray sz (n+i)=Qr (mid++rest).toArray sz i:=by
 rw[Zg];exact Kk n hp
theorem HS.row (hs:HS w0 M ρ H w){w':World}{d:Nat}(hd:H d=none){t sz cap:Nat}{xs:List (List Ch)}{arr:Array Value}(hsize:arr.size=cap*sz)(hle:xs.length<=cap)
    (hh:w'.heap=w.heap.push (.cells arr t (0,0))) (h1:w'.os=w.os) (h2:w'.tape=w.tape) (h3:w'.output=w.output)
    (hx: ∀i x,xs[i]? =some x->CC w (ow M ρ H) (fun _=>none) x (Qr arr sz i)):
    ∃ρ',HS w0 M ρ' (upd H d (some (.row t sz xs))) w'/\Ext ρ H w ρ' (upd H d (some (.row t sz xs))) w'/\
      ∀n,n<=xs.length->ConcV w' (ow M ρ' (upd H d (some (.row t sz xs)))) ρ' (.x false [.w d 0 n]) (.slice (some ⟨w.heap.size,0,none⟩) n cap):=by
  have h:=hs.alloc hd (o:= .cells arr t) (bd:=⟨w.heap.size,cap,xs.length,sz,false⟩) (b:= .row t sz xs) (w':=w') rfl hh h1 h2 h3
    (fun hx'=>⟨rfl,rfl,.inr ⟨rfl,arr,by simp[hh],hsize,hle,fun i x hi=>hx'.cc0 (hx i x hi)⟩⟩)
  refine⟨_,h.1,h.2,fun n hn=>⟨[_],?_,rfl⟩⟩;have:=CC.w (w:=w') (O:=ow M (upd ρ d (some ⟨w.heap.size,cap,xs.length,sz,false⟩)) (upd H d (some (.row t sz xs)))) (k:=d) (o:=0) (n:=n) (cap:=cap) (QT ρ d (some ⟨w.heap.size,cap,xs.length,sz,false⟩)) rfl (by simpa using hn) (by omega) (by simp) .nil;simpa using this

structure Kl (w:World)(v:Value)(sz:Nat)(ys:List (List Ch))(O:Nat->Prop)(news:List Value):Prop where
  len:news.length=ys.length*sz
  one: ∀u∈news,u.oneCell'=true
  el: ∀i x,ys[i]? =some x->CC w O (fun _=>none) x (Qr news.toArray sz i)
  cell:(v= .slice none 0 0/\ys=[])∨ ∃b o cap,v= .slice (some ⟨b,o,none⟩) ys.length cap/\Ki w b o news

theorem QDE {w:World}{O:Nat->Prop}{b o sz:Nat}: ∀{ys:List (List Ch)} {f:Nat->List Value},KQ w O b o sz ys f->(∀i x,ys[i]? =some x->CC w O (fun _=>none) x (f i))->
  ∃news:List Value,news.length=ys.length*sz/\(∀u∈news,u.oneCell'=true)/\(∀i x,ys[i]? =some x->CC w O (fun _=>none) x (Qr news.toArray sz i))/\Ki w b o news:=by
 intro ys;induction ys generalizing o with
 | nil=>intro f _ _;exact⟨[],by simp,by simp,by simp,fun j v h=>by simp at h⟩
 | cons y ys ih=>
  intro f hr hx;obtain⟨hl,hc⟩:=hr.cell 0 y rfl
  have hr':KQ w O b (o+sz) sz ys (fun i=>f (i+1)):=⟨hr.lt,hr.free,fun i x hi=>by
   have:=hr.cell (i+1) x (by simpa using hi);refine⟨this.1,fun j hj=> ?_⟩
   rw[<-this.2 j hj];congr 2;rw[Zh];omega⟩
  obtain⟨news,h1,h2,h3,h4⟩:=ih hr' (fun i x hi=>hx (i+1) x (by simpa using hi));have h0:=hx 0 y rfl;refine⟨f 0++news,by simp[hl,h1,Zh];omega,?_,?_,?_⟩
  ·intro u hu;rcases List.mem_append.1 hu with hu | hu
   ·exact h0.one u hu
   ·exact h2 u hu
  ·intro i x hi;cases i with
   | zero=>
    simp at hi;subst hi;have:Qr (f 0++news).toArray sz 0=f 0:=by simp[Qr,<-hl]
    rw[this];exact h0
   | succ i=>
    rw[Nat.add_comm i 1,Kk 1 (by simpa using hl)];exact h3 i x (by simpa using hi)
  ·intro j v hj;by_cases h:j<sz
   ·rw[Zd (by omega)]at hj;have:=hc j h;simp only[Nat.zero_mul,Nat.add_zero]at this;rw[this,hj]
   ·rw[Zb (by omega)]at hj;have:=h4 _ _ hj;rw[<-this];congr 2;omega
theorem QQs {w:World}{O:Nat->Prop}{ρ:Env}{sz:Nat}{ys:List (List Ch)}{v:Value}(h:CC w O ρ [.s sz ys] [v]): ∃news,Kl w v sz ys O news:=by
 cases h with
 | s0 _=>exact⟨[],by simp,by simp,by simp,.inl ⟨rfl,rfl⟩⟩
 | s00 _=>exact⟨[],by simp,by simp,by simp,.inr ⟨_,_,_,rfl,fun j v h=>by simp at h⟩⟩
 | s hr hx _ _=>
  obtain⟨news,h1,h2,h3,h4⟩:=QDE hr hx;exact⟨news,h1,h2,h3,.inr ⟨_,_,_,rfl,h4⟩⟩
theorem GV (arr:Array Value)(sz:Nat)(pre:List Value)(n:Nat)(h:arr.toList.take (n*sz)=pre){i:Nat}(hi:i<n):Qr arr sz i=Qr pre.toArray sz i:=by
 have h1:(i+1)*sz<=n*sz:=Ze _ hi;rw[Zh,Zr]at h1;apply Zt;intro m;simp only[Qr];rw[Za,Za];split
 ·rw[Zc,Zc,<-h,Za,if_pos (by omega)]
 ·rfl
def QMk (P:Program)(w0:World)(M:Ctx)(ρ:Env)(H:HP)(w:World)(t e:Nat)(sz k n d:Nat)(tt:TypeId)(xs ys:List (List Ch))(v x:Value):Prop:=
 ∃w' ρ' u,(Builtin.append_ #[t,t] tt #[v,x]).run P w= .ok u w'/\HS w0 M ρ' (upd (upd H k (some .dead)) d (some (.row e sz (xs.take n++ys)))) w'/\
   Ext ρ H w ρ' (upd (upd H k (some .dead)) d (some (.row e sz (xs.take n++ys)))) w'/\
   ConcV w' (ow M ρ' (upd (upd H k (some .dead)) d (some (.row e sz (xs.take n++ys))))) ρ' (.x false [.w d 0 (n+ys.length)]) u
theorem QDF {t e:Nat}{ie:TyI}(ht:P.underlying t=some (.slice e))(he:Y6 P e ie)(hs:HS w0 M ρ H w){k n d:Nat}{tt:TypeId}(hd:H d=none){xs ys:List (List Ch)}{v x:Value}
    (hk:H k=some (.row e ie.cells xs)) (hv:CC w (ow M ρ H) ρ [.w k 0 n] [v]) {news:List Value} (hx:Kl w x ie.cells ys (ow M ρ H) news) (hbytes:(n+ys.length)*ie.bytes<=140737488355328) (h63:n+ys.length<=9223372036854775807):
    QMk P w0 M ρ H w t e ie.cells k n d tt xs ys v x:=by
  obtain⟨ti,z,hi,hsz,hby,hz,hzc⟩:=he.info;have hzs:z.cells.size=ie.cells:=by rw[hzc];simpa using he.zlen
  obtain⟨hkill,hxk⟩:=hs.kill hk;have hdk:d≠k:=fun h=>by subst h;rw[hd]at hk;cases hk
  have hdn:upd H k (some Blk.dead) d=none:=by rw[QY _ _ hdk];exact hd
  obtain⟨bd,hρ,hblen,hbsz,ok⟩:=hs.blk k _ hk rfl;-- the growing of a row, and the making of one out of nil
  have grown: ∀(olds:List Value) (old:Nat),old<n+ys.length->olds.length=n*ie.cells->(∀i y,(xs.take n)[i]? =some y->CC w (ow M ρ H) (fun _=>none) y (Qr olds.toArray ie.cells i))->
      (xs.take n).length=n->
      (Builtin.append_ #[t,t] tt #[v,x]).run P w= .ok (.slice (some ⟨w.heap.size,0,none⟩) (n+ys.length) (grownCap w (n+ys.length) old e))
        (w.drew.alloc (.cells (olds.toArray++news.toArray++Builtin.zeroCells z.cells (grownCap w (n+ys.length) old e-(n+ys.length))) e))->QMk P w0 M ρ H w t e ie.cells k n d tt xs ys v x:=by
    intro olds old ho hol hoel hxl hrun;have hge:=grownCap_ge w (n+ys.length) old e;have hsame:=hkill.same (w':=w.drew) rfl rfl rfl rfl;have e1:n+ys.length+(grownCap w (n+ys.length) old e-(n+ys.length))=grownCap w (n+ys.length) old e:=by omega
    have hS:(olds.toArray++news.toArray++Builtin.zeroCells z.cells (grownCap w (n+ys.length) old e-(n+ys.length))).size=grownCap w (n+ys.length) old e*ie.cells:=by
      simp only[Array.size_append,List.size_toArray,size_zeroCells,hzs,hol,hx.len,<-Zh,e1]
    have hL:(xs.take n++ys).length<=grownCap w (n+ys.length) old e:=by simp only[Zk,hxl];omega
    have hE: ∀i y,(xs.take n++ys)[i]? =some y->CC w.drew (ow M ρ (upd H k (some .dead))) (fun _=>none) y (Qr (olds.toArray++news.toArray++Builtin.zeroCells z.cells (grownCap w (n+ys.length) old e-(n+ys.length))) ie.cells i):=by
      intro i y hy;have harr:(olds.toArray++news.toArray++Builtin.zeroCells z.cells (grownCap w (n+ys.length) old e-(n+ys.length)))=(olds++(news++(Builtin.zeroCells z.cells (grownCap w (n+ys.length) old e-(n+ys.length))).toList)).toArray:=by
        apply Array.ext';simp
      rw[harr];have mono: ∀{cs vs},CC w (ow M ρ H) (fun _=>none) cs vs->CC w.drew (ow M ρ (upd H k (some .dead))) (fun _=>none) cs vs:=fun h=>hsame.2.cc0 (hxk.cc0 h);by_cases hin:i<n
      · rw[Zd (by omega)]at hy;rw[WB n hol hin];exact mono (hoel i y hy)
      · rw[Zb (by omega),hxl]at hy;have:i=n+(i-n):=by omega
        rw[this,Kk n hol];have hlt:i-n<ys.length:=(Zi.1 hy).1;rw[WB ys.length hx.len hlt];exact mono (hx.el _ y hy)
    obtain⟨ρ',a1,a2,a3⟩:=hsame.1.row (w':=w.drew.alloc (.cells (olds.toArray++news.toArray++Builtin.zeroCells z.cells (grownCap w (n+ys.length) old e-(n+ys.length))) e)) hdn hS hL rfl rfl rfl rfl hE;exact⟨_,ρ',_,hrun,a1,hxk.trans (hsame.2.trans a2),by simpa using a3 (n+ys.length) (by simp only[Zk,hxl];omega)⟩
  have hnews: ∀{b o cap},x= .slice (some ⟨b,o,none⟩) ys.length cap->Ki w b o news-> ∀j u,news[j]? =some u->w.cell? ((⟨b,o,none⟩:Addr).add j)=some u:=fun _ hc j u hu=>by rw[JQ];exact hc j u hu
  cases hv with
  | @w _ _ _ _ capv _ _ _ hk' hn hl hcn hcv _=>
    rw[hρ]at hk';cases hk'
    rcases ok with⟨hnil,_⟩ | ⟨_,arr,hb,hsize,hle,hxs⟩
    · rw[hn]at hnil;cases hnil
    have hbl:bd.blk<w.heap.size:=(Zl.1 hb).1;have hnl:n<=xs.length:=by omega
    have hxl:(xs.take n).length=n:=by simp;omega
    have hnsz:n*ie.cells<=arr.size:=by rw[hsize];exact Ze _ (by omega)
    simp only[Nat.zero_mul]at*;rcases hx.cell with⟨rfl,rfl⟩ | ⟨b,o,cap,rfl,hcell⟩
    · -- nothing is appended
      have hnil:news=[]:=Zj (by simpa using hx.len);have hmv:=hs.move (w':=w) hk rfl (b':= .row e ie.cells (xs.take n++[])) hd hρ hn (bd':=⟨bd.blk,bd.cap,n,ie.cells,false⟩) rfl (fun _ _=>rfl) rfl rfl rfl rfl
        (fun hx'=>⟨by simp;omega,rfl,.inr ⟨rfl,arr,hb,hsize,by simp;omega,fun i y hy=>hx'.cc0 (hxs i y (by
          rw[List.append_nil,Za]at hy;split at hy; · exact hy
          · cases hy))⟩⟩)
      refine⟨w,_,.slice (some ⟨bd.blk,0,none⟩) n capv,?_,hmv.1,hmv.2,[_],?_,rfl⟩
      · have hcapn:n<=capv:=hcn;simp[Builtin.append_,run_underlying ht,sizeOf,typeInfo,hi,Builtin.lenOf,Builtin.firstCells,hcapn,storeCells]
      · have:=CC.w (w:=w) (O:=ow M (upd ρ d (some ⟨bd.blk,bd.cap,n,ie.cells,false⟩)) (upd (upd H k (some .dead)) d (some (.row e ie.cells (xs.take n++[]))))) (k:=d) (o:=0) (n:=n) (cap:=capv) (QT ρ d (some ⟨bd.blk,bd.cap,n,ie.cells,false⟩)) rfl (by simp) hcn (by simpa using hcv) .nil;simpa using this
    · by_cases hroom':n+ys.length<=capv
      · have hroom:n+ys.length<=bd.cap:=by omega
        have hr:=run_append_room (P:=P) w t tt e ti ht hi bd.blk n capv arr hb ⟨b,o,none⟩ ys.length cap news (by rw[hx.len,hsz]) (hnews rfl hcell) hx.one hroom' (by
          rw[hx.len,hsz,hsize,<-Zh];exact Ze _ hroom)
        obtain⟨e1,e2,e3⟩:=VK (arr':=(arr.toList.take (n*ti.size)++news++arr.toList.drop (n*ti.size+news.length)).toArray) hb;rw[hsz]at hr e1 e2 e3;have hmv:=hs.move hk rfl (b':= .row e ie.cells (xs.take n++ys)) hd hρ hn (bd':=⟨bd.blk,bd.cap,n+ys.length,ie.cells,false⟩) rfl e2 e3 rfl rfl rfl
          (fun hx'=>⟨by simp only[Zk,hxl],rfl,.inr ⟨rfl,_,e1,by
            simp only[List.size_toArray,Zk,Zm,Zp,Zs,hx.len];have:(n+ys.length)*ie.cells<=bd.cap*ie.cells:=Ze _ hroom;rw[Zh]at this;omega,by simp only[Zk,hxl];omega,fun i y hy=>by
              have hpl:(arr.toList.take (n*ie.cells)).length=n*ie.cells:=by simp;omega
              by_cases hin:i<n
              · rw[Zd (by omega),Za,if_pos hin]at hy;rw[QDD n hpl hin,<-GV arr ie.cells _ n rfl hin];exact hx'.cc0 (hxs i y hy)
              · rw[Zb (by omega),hxl]at hy;have:i=n+(i-n):=by omega
                rw[this,QE0 n hpl];have hlt:i-n<ys.length:=(Zi.1 hy).1;rw[WB ys.length hx.len hlt]
                exact hx'.cc0 (hx.el _ y hy)⟩⟩)
        refine⟨_,_,_,hr,hmv.1,hmv.2,[_],?_,rfl⟩;have:=CC.w (w:=w.setRow bd.blk (arr.toList.take (n*ie.cells)++news++arr.toList.drop (n*ie.cells+news.length)).toArray) (O:=ow M (upd ρ d (some ⟨bd.blk,bd.cap,n+ys.length,ie.cells,false⟩)) (upd (upd H k (some .dead)) d (some (.row e ie.cells (xs.take n++ys))))) (k:=d) (o:=0) (n:=n+ys.length) (cap:=capv) (QT ρ d (some ⟨bd.blk,bd.cap,n+ys.length,ie.cells,false⟩)) rfl (by simp) hroom' (by simpa using hcv) .nil;simpa using this
      · have holds: ∀j u,(arr.toList.take (n*ie.cells))[j]? =some u->w.cell? ((⟨bd.blk,0,none⟩:Addr).add j)=some u:=fun j u hu=>by
          rw[JQ];exact W4 hb 0 (n*ie.cells) j u (by simpa using hu)
        have hpl:(arr.toList.take (n*ie.cells)).length=n*ie.cells:=by simp;omega
        have hr:=run_append_grow (P:=P) w t tt e ti z ht hi hz ⟨bd.blk,0,none⟩ n capv (arr.toList.take (n*ie.cells)) (by rw[hsz];exact hpl) holds ⟨b,o,none⟩ ys.length cap news (by rw[hx.len,hsz]) (hnews rfl hcell)
          (by omega) (by omega) (growslice_fits (by omega) (by rw[hby];exact hbytes))
        exact grown _ capv (by omega) hpl (fun i y hy=>by
          rw[Za]at hy;split at hy
          · rename_i hin;rw[<-GV arr ie.cells _ n rfl hin];exact hxs i y hy
          · cases hy) hxl hr
  | w0 hk' hn _=>
    rw[hρ]at hk';cases hk'
    rcases ok with⟨_,hxnil⟩ | ⟨hnn,_⟩
    · subst hxnil;rcases hx.cell with⟨rfl,rfl⟩ | ⟨b,o,cap,rfl,hcell⟩
      · have:=hkill.allocNil (d:=d) hdn e ie.cells;refine⟨w,_,.slice none 0 0,?_,by simpa using this.1,by simpa using hxk.trans this.2,[_],?_,rfl⟩
        · simp[Builtin.append_,run_underlying ht,sizeOf,typeInfo,hi,Builtin.lenOf,Builtin.firstCells]
        · exact .w0 (QT _ _ _) rfl .nil
      · by_cases hy0:ys.length=0
        · have hyn:ys=[]:=Zj hy0;subst hyn;have hnil:news=[]:=Zj (by simpa using hx.len);have:=hkill.allocNil (d:=d) hdn e ie.cells;refine⟨w,_,.slice none 0 0,?_,by simpa using this.1,by simpa using hxk.trans this.2,[_],?_,rfl⟩
          · simp[Builtin.append_,run_underlying ht,sizeOf,typeInfo,hi,Builtin.lenOf,Builtin.firstCells,loadCells,loadCellsFrom]
          · exact .w0 (QT _ _ _) rfl .nil
        · have hr:=run_append_nil (P:=P) w t tt e ti z ht hi hz ⟨b,o,none⟩ ys.length cap news (by rw[hx.len,hsz]) (hnews rfl hcell) (by omega) (by omega) (by rw[hby];simp at hbytes;omega);refine grown [] 0 (by omega) (by simp) (fun i y hy=>by simp at hy) (by simp) ?_
          simpa using hr
    · rw[hn]at hnn;cases hnn
  | @w00 _ _ _ b' o' _ _ _ _ _=>
    rcases hx.cell with⟨rfl,rfl⟩ | ⟨b,o,cap,rfl,hcell⟩
    · have:=hkill.allocNil (d:=d) hdn e ie.cells;refine⟨w,_,.slice (some ⟨b',o',none⟩) 0 0,?_,by simpa using this.1,by simpa using hxk.trans this.2,[_],?_,rfl⟩
      · simp[Builtin.append_,run_underlying ht,sizeOf,typeInfo,hi,Builtin.lenOf,Builtin.firstCells,storeCells]
      · exact .w00 (QT _ _ _) .nil
    · by_cases hy0:ys.length=0
      · have hyn:ys=[]:=Zj hy0;subst hyn;have:=hkill.allocNil (d:=d) hdn e ie.cells;refine⟨w,_,.slice (some ⟨b',o',none⟩) 0 0,?_,by simpa using this.1,by simpa using hxk.trans this.2,[_],?_,rfl⟩
        · simp[Builtin.append_,run_underlying ht,sizeOf,typeInfo,hi,Builtin.lenOf,Builtin.firstCells,loadCells,loadCellsFrom,storeCells]
        · exact .w00 (QT _ _ _) .nil
      · have hr:=run_append_grow (P:=P) w t tt e ti z ht hi hz ⟨b',o',none⟩ 0 0 [] (by simp) (fun j u h=>by simp at h) ⟨b,o,none⟩ ys.length cap news (by rw[hx.len,hsz]) (hnews rfl hcell)
          (by omega) (by omega) (growslice_fits (by omega) (by rw[hby];exact hbytes))
        exact grown [] 0 (by omega) (by simp) (fun i y hy=>by simp at hy) (by simp) (by simpa using hr)

end Go.Eng
