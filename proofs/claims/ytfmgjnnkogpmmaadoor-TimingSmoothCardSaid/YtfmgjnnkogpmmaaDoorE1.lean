/- The engine, part A: abstract values, how they stand for Go values in a world, and small lemmas on them. -/
import Derived.Below
import Derived.Orders
import Derived.Laws.IdiomCopy
import Derived.Laws.CopyRow
import Derived.Laws.Cells
import Derived.Laws.Entries
import Derived.Laws.Append
import Derived.Laws.AppendOwn
import Derived.Laws.MakeOwn
open List renaming getElem?_take → Za, getElem?_drop → Zb, getElem?_append_right → Zc, getElem?_eq_some_iff → Zd, getElem?_append_left → Zf, getElem?_eq_getElem → Zk, append_assoc → Zl, length_take → Zn, length_append → Zo, eq_nil_of_length_eq_zero → Zp, length_drop → Zq, mem_of_getElem? → Zs, size_toArray → Zw, ext_getElem? → Zx, getElem?_set → Zy, mem_cons → Zz, mem_append → Yc
open Nat renaming mul_le_mul_right → Ze, eq_of_beq_eq_true → Zg, add_mul → Zj, lt_of_lt_of_le → Zm, one_mul → Zu, le_trans → Ya, add_zero → Yb
open Go.Value renaming oneCell' → Zh
open Array renaming getElem?_eq_some_iff → Zi, length_toList → Zt
open Bool renaming and_eq_true → Zr
open Option renaming map_eq_some_iff → Zv
namespace Go.Eng
open Go
theorem R0(p:Prop):(True/\p)=p:=_root_.true_and p
theorem R1(p:Prop):(p/\True)=p:=_root_.and_true p
theorem R2(p:Prop):(True∨p)=True:=_root_.true_or p
theorem R3(p:Prop):(p∨True)=True:=_root_.or_true p
theorem R4(p:Prop):(True->p)=p:=_root_.true_implies p
theorem R5{p:Prop}[Decidable p](h:decide p=true):p:=_root_.of_decide_eq_true h
theorem R6{p:Prop}[Decidable p](h:decide p=false):¬p:=_root_.of_decide_eq_false h
theorem R7{α:Sort _}{a b:α}:cond true a b=a:=rfl
theorem R8{α:Sort _}{a b:α}:cond false a b=b:=rfl
def nbF:Nat->Nat->List UInt8
 | 0,_=>[]
 | f+1,m=>match m with
  | 0=>[]
  | n+1=>nbF f ((n+1)/256)++[UInt8.ofNat ((n+1) % 256)]
def QA (m:Nat):List UInt8:=nbF m m

def YV (l:List UInt8):Value:= .string ⟨l.toArray⟩
def QCC (q:Rat):Value:= .bool (decide (q.num<0))
def QGi (q:Rat):Value:=YV (QA q.num.natAbs)
def QGj (q:Rat):Value:=YV (QA q.den)
def Bd (n:Nat)(q:Rat):Prop:=q.num.natAbs<2^n/\q.den<2^n

inductive Ch where
  | v (x:Value)
  | r (q:Rat) (n:Nat)
  | b (m n:Nat)
  | s (sz:Nat) (xs:List (List Ch))
  | p (k o:Nat)
  | w (k o n:Nat)
  | e (k i o:Nat)
  | y (sz:Nat) (xs:List (List Ch)) (i o:Nat)
  | f (fid:Nat) (ks:List Nat)
  | i (t:Nat) (agg:Bool) (cs:List Ch)
  | m (k:Nat)
  | yl (k:Nat)
  | q (k i n:Nat)
  | z (k i sz j o:Nat)
  | u
  deriving Inhabited

structure Xk where
  blk:Nat
  cap:Nat
  len:Nat
  sz:Nat
  isNil:Bool
  sub:List Nat

def Xk.has (bd:Xk)(b:Nat):Prop:=b=bd.blk∨b∈bd.sub
abbrev Env:=Nat->Option Xk
structure WX (w:World)(O:Nat->Prop)(b o sz:Nat)(xs:List (List Ch))(f:Nat->List Value):Prop where
  lt:b<w.heap.size
  free: ¬O b
  cell: ∀i x,xs[i]? =some x->(f i).length=sz/\ ∀j,j<sz->w.cell? ⟨b,o+i*sz+j,none⟩=(f i)[j]?

def J3 (ρ:Env)(k:Nat):Value:= .pointer ((ρ k).map fun bd=>⟨bd.blk,0,none⟩)
theorem Y4 {ρ:Env}{k:Nat}{bd:Xk}(h:ρ k=some bd):J3 ρ k= .pointer (some ⟨bd.blk,0,none⟩):=by simp[J3,h]
inductive CC (w:World)(O:Nat->Prop):Env->List Ch->List Value->Prop
 | nil {ρ:Env}:CC w O ρ [] []
 | v {ρ:Env} {x:Value} {cs:List Ch} {vs:List Value} (h1:x.oneCell'=true) (h:CC w O ρ cs vs):CC w O ρ (.v x::cs) (x::vs)
 | r {ρ:Env} {q:Rat} {n:Nat} {cs:List Ch} {vs:List Value} (hb:Bd n q) (h:CC w O ρ cs vs):CC w O ρ (.r q n::cs) (QCC q::QGi q::QGj q::vs)
 | b {ρ:Env} {m n:Nat} {cs:List Ch} {vs:List Value} (hb:m<2^n) (h:CC w O ρ cs vs):CC w O ρ (.b m n::cs) (YV (QA m)::vs)
 | s0 {ρ:Env} {sz:Nat} {cs:List Ch} {vs:List Value} (h:CC w O ρ cs vs):CC w O ρ (.s sz []::cs) (.slice none 0 0::vs)
 | s00 {ρ:Env} {sz b o cap:Nat} {cs:List Ch} {vs:List Value} (h:CC w O ρ cs vs):CC w O ρ (.s sz []::cs) (.slice (some ⟨b,o,none⟩) 0 cap::vs)
 | s {ρ:Env} {sz b o cap:Nat} {xs:List (List Ch)} {f:Nat->List Value} {cs:List Ch} {vs:List Value} (hr:WX w O b o sz xs f) (hx: ∀i x,xs[i]? =some x->CC w O (fun _=>none) x (f i)) (hcap:xs.length<=cap) (h:CC w O ρ cs vs):
   CC w O ρ (.s sz xs::cs) (.slice (some ⟨b,o,none⟩) xs.length cap::vs)
 | p {ρ:Env} {k o:Nat} {bd:Xk} {cs:List Ch} {vs:List Value} (hk:ρ k=some bd) (hn:bd.isNil=false) (h:CC w O ρ cs vs):CC w O ρ (.p k o::cs) (.pointer (some ⟨bd.blk,o,none⟩)::vs)
 | w {ρ:Env} {k o n cap:Nat} {bd:Xk} {cs:List Ch} {vs:List Value} (hk:ρ k=some bd) (hn:bd.isNil=false) (hl:o+n<=bd.len) (hc:n<=cap) (hcap:o+cap<=bd.cap) (h:CC w O ρ cs vs):CC w O ρ (.w k o n::cs) (.slice (some ⟨bd.blk,o*bd.sz,none⟩) n cap::vs)
 | w0 {ρ:Env} {k:Nat} {bd:Xk} {cs:List Ch} {vs:List Value} (hk:ρ k=some bd) (hn:bd.isNil=true) (h:CC w O ρ cs vs):CC w O ρ (.w k 0 0::cs) (.slice none 0 0::vs)
 | w00 {ρ:Env} {k o b o':Nat} {bd:Xk} {cs:List Ch} {vs:List Value} (hk:ρ k=some bd) (h:CC w O ρ cs vs):CC w O ρ (.w k o 0::cs) (.slice (some ⟨b,o',none⟩) 0 0::vs)
 | e {ρ:Env} {k i o:Nat} {bd:Xk} {cs:List Ch} {vs:List Value} (hk:ρ k=some bd) (hn:bd.isNil=false) (h:CC w O ρ cs vs):CC w O ρ (.e k i o::cs) (.pointer (some ⟨bd.blk,i*bd.sz+o,none⟩)::vs)
 | y {ρ:Env} {sz b o i j:Nat} {xs:List (List Ch)} {f:Nat->List Value} {cs:List Ch} {vs:List Value} (hr:WX w O b o sz xs f) (hx: ∀i x,xs[i]? =some x->CC w O (fun _=>none) x (f i)) (h:CC w O ρ cs vs):
   CC w O ρ (.y sz xs i j::cs) (.pointer (some ⟨b,o+i*sz+j,none⟩)::vs)
 | f {ρ:Env} {fid:Nat} {ks:List Nat} {cs:List Ch} {vs:List Value} (hk: ∀k∈ks,∃bd,ρ k=some bd/\bd.isNil=false) (h:CC w O ρ cs vs):CC w O ρ (.f fid ks::cs) (.func (.func fid) #[] (ks.map (J3 ρ)).toArray::vs)
 | i {ρ:Env} {t:Nat} {agg:Bool} {ics:List Ch} {ivs:List Value} {iv:Value} {cs:List Ch} {vs:List Value} (hx:CC w O (fun _=>none) ics ivs) (hv:if agg then iv= .agg ivs.toArray else ivs=[iv]) (h:CC w O ρ cs vs):CC w O ρ (.i t agg ics::cs) (.iface t iv::vs)
 | m {ρ:Env} {k:Nat} {bd:Xk} {cs:List Ch} {vs:List Value} (hk:ρ k=some bd) (hn:bd.isNil=false) (h:CC w O ρ cs vs):CC w O ρ (.m k::cs) (.map (some bd.blk)::vs)
 | yl {ρ:Env} {k:Nat} {bd:Xk} {cs:List Ch} {vs:List Value} (hk:ρ k=some bd) (hn:bd.isNil=false) (h:CC w O ρ cs vs):CC w O ρ (.yl k::cs) (.func (.yield bd.blk) #[] #[]::vs)
 | q {ρ:Env} {k i n cap β:Nat} {bd:Xk} {cs:List Ch} {vs:List Value} (hk:ρ k=some bd) (hn:bd.isNil=false) (hβ:bd.sub[i]? =some β) (hc:n<=cap) (h:CC w O ρ cs vs):CC w O ρ (.q k i n::cs) (.slice (some ⟨β,0,none⟩) n cap::vs)
 | z {ρ:Env} {k i sz j o β:Nat} {bd:Xk} {cs:List Ch} {vs:List Value} (hk:ρ k=some bd) (hn:bd.isNil=false) (hβ:bd.sub[i]? =some β) (h:CC w O ρ cs vs):CC w O ρ (.z k i sz j o::cs) (.pointer (some ⟨β,j*sz+o,none⟩)::vs)
 | u {ρ:Env} {x:Value} {cs:List Ch} {vs:List Value} (h1:x.oneCell'=true) (h:CC w O ρ cs vs):CC w O ρ (.u::cs) (x::vs)
theorem QDp {w w':World}{b:Nat}(h:w'.heap[b]? =w.heap[b]?)(o:Nat):w'.cell? ⟨b,o,none⟩=w.cell? ⟨b,o,none⟩:=by
 unfold World.cell?;simp only[h]
structure Jr (O:Nat->Prop)(w w':World):Prop where
  size:w.heap.size<=w'.heap.size
  block: ∀b,b<w.heap.size-> ¬O b->w'.heap[b]? =w.heap[b]?

theorem Jr.refl (O:Nat->Prop)(w:World):Jr O w w:=⟨Nat.le_refl _,fun _ _ _=>rfl⟩
theorem Jr.trans {O:Nat->Prop}{w w1 w2:World}(h:Jr O w w1)(k:Jr O w1 w2):Jr O w w2:=
 ⟨Ya h.size k.size,fun b hb ho=>(k.block b (Zm hb h.size) ho).trans (h.block b hb ho)⟩
theorem WX.mono {w w':World}{O O':Nat->Prop}{b o sz:Nat}{xs:List (List Ch)}{f:Nat->List Value}(hk:Jr O w w')(hO: ∀b,b<w.heap.size->O' b->O b)(h:WX w O b o sz xs f):WX w' O' b o sz xs f:=
 ⟨Zm h.lt hk.size,fun hb=>h.free (hO _ h.lt hb),fun i x hx=>⟨(h.cell i x hx).1,fun j hj=>by rw[QDp (hk.block b h.lt h.free)];exact(h.cell i x hx).2 j hj⟩⟩
theorem Vw {ρ ρ':Env}{ks:List Nat}(hk: ∀k∈ks,∃bd,ρ k=some bd/\bd.isNil=false)(hρ: ∀k bd,ρ k=some bd->ρ' k=some bd):ks.map (J3 ρ)=ks.map (J3 ρ')/\ ∀k∈ks,∃bd,ρ' k=some bd/\bd.isNil=false:=
 ⟨List.map_congr_left fun k h=>by obtain⟨bd,e,_⟩:=hk k h;rw[Y4 e,Y4 (hρ _ _ e)],fun k h=>let ⟨bd,e,hn⟩:=hk k h;⟨bd,hρ _ _ e,hn⟩⟩
theorem CC.mono {w w':World}{O O':Nat->Prop}(hk:Jr O w w')(hO: ∀b,b<w.heap.size->O' b->O b)
  {ρ:Env} {cs:List Ch} {vs:List Value} (h:CC w O ρ cs vs): ∀{ρ':Env},(∀k bd,ρ k=some bd->ρ' k=some bd)->CC w' O' ρ' cs vs:=by
 induction h with
 | nil=>exact fun _=> .nil
 | v h1 _ ih=>exact fun hρ=> .v h1 (ih hρ)
 | r hb _ ih=>exact fun hρ=> .r hb (ih hρ)
 | b hb _ ih=>exact fun hρ=> .b hb (ih hρ)
 | s0 _ ih=>exact fun hρ=> .s0 (ih hρ)
 | s00 _ ih=>exact fun hρ=> .s00 (ih hρ)
 | s hr _ hc _ ihx ih=>exact fun hρ=> .s (hr.mono hk hO) (fun i x hx=>ihx i x hx fun _ _ h=>h) hc (ih hρ)
 | p h1 h2 _ ih=>exact fun hρ=> .p (hρ _ _ h1) h2 (ih hρ)
 | w h1 h2 h3 h4 h5 _ ih=>exact fun hρ=> .w (hρ _ _ h1) h2 h3 h4 h5 (ih hρ)
 | w0 h1 h2 _ ih=>exact fun hρ=> .w0 (hρ _ _ h1) h2 (ih hρ)
 | w00 h1 _ ih=>exact fun hρ=> .w00 (hρ _ _ h1) (ih hρ)
 | e h1 h2 _ ih=>exact fun hρ=> .e (hρ _ _ h1) h2 (ih hρ)
 | y hr _ _ ihx ih=>exact fun hρ=> .y (hr.mono hk hO) (fun i x hx=>ihx i x hx fun _ _ h=>h) (ih hρ)
 | f h1 _ ih=>exact fun hρ=>by rw[(Vw h1 hρ).1];exact .f (Vw h1 hρ).2 (ih hρ)
 | i _ hv _ ihx ih=>exact fun hρ=> .i (ihx fun _ _ h=>h) hv (ih hρ)
 | m h1 h2 _ ih=>exact fun hρ=> .m (hρ _ _ h1) h2 (ih hρ)
 | yl h1 h2 _ ih=>exact fun hρ=> .yl (hρ _ _ h1) h2 (ih hρ)
 | q h1 h2 h3 h4 _ ih=>exact fun hρ=> .q (hρ _ _ h1) h2 h3 h4 (ih hρ)
 | z h1 h2 h3 _ ih=>exact fun hρ=> .z (hρ _ _ h1) h2 h3 (ih hρ)
 | u h1 _ ih=>exact fun hρ=> .u h1 (ih hρ)
def Ch.len:Ch->Nat
 | .r .. =>3
 | _=>1
def QV:List Ch->Nat
 | []=>0
 | c::cs=>c.len+QV cs
def Ji:List Ch->Nat->Option (List Ch)
 | cs,0=>some cs
 | [],_+1=>none
 | .r q n::cs,k+1=>
  match k with
  | 0=>some (.b q.num.natAbs n:: .b q.den n::cs)
  | 1=>some (.b q.den n::cs)
  | k+2=>Ji cs k
 | _::cs,k+1=>Ji cs k
def Jj:List Ch->Nat->Option (List Ch)
 | _,0=>some []
 | [],_+1=>none
 | .r q n::cs,k+1=>
  match k with
  | 0=>some [.v (QCC q)]
  | 1=>some [.v (QCC q),.b q.num.natAbs n]
  | k+2=>(Jj cs k).map (.r q n:: ·)
 | c::cs,k+1=>(Jj cs k).map (c:: ·)
variable {w:World}{O:Nat->Prop}{ρ:Env}
theorem CC.append {cs ds:List Ch}{vs us:List Value}(h:CC w O ρ cs vs)(k:CC w O ρ ds us):CC w O ρ (cs++ds) (vs++us):=by
 induction h with
 | nil=>exact k
 | v h1 _ ih=>exact .v h1 (ih k)
 | r hb _ ih=>exact .r hb (ih k)
 | b hb _ ih=>exact .b hb (ih k)
 | s0 _ ih=>exact .s0 (ih k)
 | s00 _ ih=>exact .s00 (ih k)
 | s hr hx hc _ _ ih=>exact .s hr hx hc (ih k)
 | p h1 h2 _ ih=>exact .p h1 h2 (ih k)
 | w h1 h2 h3 h4 h5 _ ih=>exact .w h1 h2 h3 h4 h5 (ih k)
 | w0 h1 h2 _ ih=>exact .w0 h1 h2 (ih k)
 | w00 h1 _ ih=>exact .w00 h1 (ih k)
 | e h1 h2 _ ih=>exact .e h1 h2 (ih k)
 | y hr hx _ _ ih=>exact .y hr hx (ih k)
 | f h1 _ ih=>exact .f h1 (ih k)
 | i hx hv _ _ ih=>exact .i hx hv (ih k)
 | m h1 h2 _ ih=>exact .m h1 h2 (ih k)
 | yl h1 h2 _ ih=>exact .yl h1 h2 (ih k)
 | q h1 h2 h3 h4 _ ih=>exact .q h1 h2 h3 h4 (ih k)
 | z h1 h2 h3 _ ih=>exact .z h1 h2 h3 (ih k)
 | u h1 _ ih=>exact .u h1 (ih k)
theorem CC.length {cs:List Ch}{vs:List Value}(h:CC w O ρ cs vs):vs.length=QV cs:=by
 induction h with
 | nil=>rfl
 | s _ _ _ _ _ ih=>simp[QV,Ch.len,ih];omega
 | y _ _ _ _ ih=>simp[QV,Ch.len,ih];omega
 | i _ _ _ _ ih=>simp[QV,Ch.len,ih];omega
 | _=>simp_all [QV,Ch.len]<;>omega
theorem CC.cons {c:Ch}{cs:List Ch}{vs:List Value}(h:CC w O ρ (c::cs) vs): ∃us rest,vs=us++rest/\us.length=c.len/\CC w O ρ [c] us/\CC w O ρ cs rest:=by
  cases h with
  | v h1 h=>exact⟨[_],_,rfl,rfl,.v h1 .nil,h⟩
  | r hb h=>exact⟨[_,_,_],_,rfl,rfl,.r hb .nil,h⟩
  | b hb h=>exact⟨[_],_,rfl,rfl,.b hb .nil,h⟩
  | s0 h=>exact⟨[_],_,rfl,rfl,.s0 .nil,h⟩
  | s00 h=>exact⟨[_],_,rfl,rfl,.s00 .nil,h⟩
  | s hr hx hc h=>exact⟨[_],_,rfl,rfl,.s hr hx hc .nil,h⟩
  | p h1 h2 h=>exact⟨[_],_,rfl,rfl,.p h1 h2 .nil,h⟩
  | w h1 h2 h3 h4 h5 h=>exact⟨[_],_,rfl,rfl,.w h1 h2 h3 h4 h5 .nil,h⟩
  | w0 h1 h2 h=>exact⟨[_],_,rfl,rfl,.w0 h1 h2 .nil,h⟩
  | w00 h1 h=>exact⟨[_],_,rfl,rfl,.w00 h1 .nil,h⟩
  | e h1 h2 h=>exact⟨[_],_,rfl,rfl,.e h1 h2 .nil,h⟩
  | y hr hx h=>exact⟨[_],_,rfl,rfl,.y hr hx .nil,h⟩
  | f h1 h=>exact⟨[_],_,rfl,rfl,.f h1 .nil,h⟩
  | i hx hv h=>exact⟨[_],_,rfl,rfl,.i hx hv .nil,h⟩
  | m h1 h2 h=>exact⟨[_],_,rfl,rfl,.m h1 h2 .nil,h⟩
  | yl h1 h2 h=>exact⟨[_],_,rfl,rfl,.yl h1 h2 .nil,h⟩
  | q h1 h2 h3 h4 h=>exact⟨[_],_,rfl,rfl,.q h1 h2 h3 h4 .nil,h⟩
  | z h1 h2 h3 h=>exact⟨[_],_,rfl,rfl,.z h1 h2 h3 .nil,h⟩
  | u h1 h=>exact⟨[_],_,rfl,rfl,.u h1 .nil,h⟩

theorem CC.drop {cs ds:List Ch}{k:Nat}{vs:List Value}(h:CC w O ρ cs vs)(hd:Ji cs k=some ds):CC w O ρ ds (vs.drop k):=by
 fun_induction Ji cs k generalizing vs with
 | case1=>simp at hd;subst hd;simpa using h
 | case2=>simp at hd
 | case3=>
  simp at hd;subst hd;cases h with
  | r hb h=>exact .b hb.1 (.b hb.2 h)
 | case4=>
  simp at hd;subst hd;cases h with
  | r hb h=>exact .b hb.2 h
 | case5 cs q n k ih=>
  cases h with
  | r hb h=>exact ih h hd
 | case6 c cs k hne ih=>
  obtain⟨us,rest,rfl,hl,_,h2⟩:=h.cons;have hc:c.len=1:=by cases c<;>first | rfl | exact absurd rfl (hne _ _)
  have:=ih h2 hd;match us,(by omega:us.length=1)with
  | [x],_=>exact this
theorem CC.take {cs ds:List Ch}{k:Nat}{vs:List Value}(h:CC w O ρ cs vs)(hd:Jj cs k=some ds):CC w O ρ ds (vs.take k):=by
 fun_induction Jj cs k generalizing vs ds with
 | case1=>simp at hd;subst hd;simpa using CC.nil
 | case2=>simp at hd
 | case3=>
  simp at hd;subst hd;cases h with
  | r hb h=>exact .v rfl .nil
 | case4=>
  simp at hd;subst hd;cases h with
  | r hb h=>exact .v rfl (.b hb.1 .nil)
 | case5 cs q n k ih=>
  simp only[Zv]at hd;obtain⟨es,he,rfl⟩:=hd;cases h with
  | r hb h=>exact .r hb (ih h he)
 | case6 c cs k hne ih=>
  simp only[Zv]at hd;obtain⟨es,he,rfl⟩:=hd;obtain⟨us,rest,rfl,hl,h1,h2⟩:=h.cons;have hc:c.len=1:=by cases c<;>first | rfl | exact absurd rfl (hne _ _)
  have:=h1.append (ih h2 he);match us,(by omega:us.length=1)with
  | [x],_=>simpa using this
def Wy (cs:List Ch)(o:Nat)(new:List Ch):Option (List Ch):=
  match Jj cs o,Ji cs (o+QV new)with
  | some a,some b=>some (a++(new++b))
  | _,_=>none

inductive AV where
  | x (agg:Bool) (cs:List Ch)
  | t (vs:List (Bool×List Ch))
  | n
  | u
  deriving Inhabited

def ConcX (w:World)(O:Nat->Prop)(ρ:Env)(agg:Bool)(cs:List Ch)(v:Value):Prop:=
 ∃vals,CC w O ρ cs vals/\if agg then v= .agg vals.toArray else vals=[v]
inductive W5 (w:World)(O:Nat->Prop)(ρ:Env):List (Bool×List Ch)->List Value->Prop
 | nil:W5 w O ρ [] []
 | cons {b:Bool} {cs:List Ch} {l:List (Bool×List Ch)} {v:Value} {vs:List Value} (h:ConcX w O ρ b cs v) (t:W5 w O ρ l vs):W5 w O ρ ((b,cs)::l) (v::vs)
def ConcV (w:World)(O:Nat->Prop)(ρ:Env):AV->Value->Prop
 | .x b cs,v=>ConcX w O ρ b cs v
 | .t l,v=> ∃vs,W5 w O ρ l vs/\v= .tuple vs.toArray
 | .n,v=>v=undef
 | .u,_=>True
theorem ConcX.mono {w w':World}{O O':Nat->Prop}{ρ ρ':Env}(hk:Jr O w w')(hO: ∀b,b<w.heap.size->O' b->O b)(hρ: ∀k bd,ρ k=some bd->ρ' k=some bd){b:Bool}{cs:List Ch}{v:Value}(h:ConcX w O ρ b cs v):ConcX w' O' ρ' b cs v:=
 let ⟨vals,h1,h2⟩:=h;⟨vals,h1.mono hk hO hρ,h2⟩
theorem W5.mono {w w':World}{O O':Nat->Prop}{ρ ρ':Env}(hk:Jr O w w')(hO: ∀b,b<w.heap.size->O' b->O b)(hρ: ∀k bd,ρ k=some bd->ρ' k=some bd){l:List (Bool×List Ch)}{vs:List Value}(h:W5 w O ρ l vs):W5 w' O' ρ' l vs:=by
 induction h with
 | nil=>exact .nil
 | cons h _ ih=>exact .cons (h.mono hk hO hρ) ih
theorem ConcV.mono {w w':World}{O O':Nat->Prop}{ρ ρ':Env}(hk:Jr O w w')(hO: ∀b,b<w.heap.size->O' b->O b)(hρ: ∀k bd,ρ k=some bd->ρ' k=some bd){av:AV}{v:Value}(h:ConcV w O ρ av v):ConcV w' O' ρ' av v:=by
 cases av with
 | x b cs=>exact ConcX.mono hk hO hρ h
 | t l=>obtain⟨vs,h1,h2⟩:=h;exact⟨vs,h1.mono hk hO hρ,h2⟩
 | n=>exact h
 | u=>trivial
theorem CC.one {w:World}{O:Nat->Prop}{ρ:Env}{cs:List Ch}{vs:List Value}(h:CC w O ρ cs vs): ∀v∈vs,v.oneCell'=true:=by
 induction h with
 | nil=>simp
 | v h1 _ ih=>simpa using⟨h1,ih⟩
 | r _ _ ih=>simpa [QCC,QGi,QGj,YV,Zh]using ih
 | b _ _ ih=>simpa [YV,Zh]using ih
 | s0 _ ih=>simpa [Zh]using ih
 | s00 _ ih=>simpa [Zh]using ih
 | s _ _ _ _ _ ih=>simpa [Zh]using ih
 | p _ _ _ ih=>simpa [Zh]using ih
 | w _ _ _ _ _ _ ih=>simpa [Zh]using ih
 | w0 _ _ _ ih=>simpa [Zh]using ih
 | w00 _ _ ih=>simpa [Zh]using ih
 | e _ _ _ ih=>simpa [Zh]using ih
 | y _ _ _ _ ih=>simpa [Zh]using ih
 | f _ _ ih=>simpa [Zh]using ih
 | i _ _ _ _ ih=>simpa [Zh]using ih
 | m _ _ _ ih=>simpa [Zh]using ih
 | yl _ _ _ ih=>simpa [Zh]using ih
 | q _ _ _ _ _ ih=>simpa [Zh]using ih
 | z _ _ _ _ ih=>simpa [Zh]using ih
 | u h1 _ ih=>simpa using⟨h1,ih⟩
end Go.Eng
namespace Go.Eng
open Go
def upd {α:Type}(f:Nat->α)(k:Nat)(v:α):Nat->α:=fun t=>bif t.beq k then v else f t
theorem QI {α:Type}(f:Nat->α)(k:Nat)(v:α):upd f k v k=v:=by simp[upd]
theorem QR {α:Type}(f:Nat->α){k t:Nat}(v:α)(h:t≠k):upd f k v t=f t:=by
 have e:t.beq k=false:=by
  cases hb:t.beq k
  ·rfl
  ·exact absurd (by simpa using hb) h
 simp only[upd,e,R8]
theorem QIR {α:Type}(f:Nat->α){k j:Nat}(u v:α)(h:k≠j):upd (upd f k u) j v=upd (upd f j v) k u:=by
 funext t;by_cases h1:t=k
 ·subst h1;rw[QR _ _ h,QI,QI]
 ·by_cases h2:t=j
  ·subst h2;rw[QI,QR _ _ h1,QI]
  ·rw[QR _ _ h2,QR _ _ h1,QR _ _ h1,QR _ _ h2]
inductive Blk where
  | box (t:Nat) (cs:List Ch)
  | row (t sz:Nat) (xs:List (List Ch))
  | lp (s:Nat)
  | mp (f:Int->Option Int)
  | nst (t sz o t2 sz2:Nat) (xs:List (List Ch))
  | dead
  deriving Inhabited

abbrev HP:=Nat->Option Blk
abbrev TM:=Nat->AV
def XI:Option Blk->Bool
 | some (.box ..) | some (.row ..) | some (.lp _) | some (.mp _) | some (.nst ..)=>true
 | _=>false
def XS (bd:Xk):Option Blk->Nat->Prop
  | some (.nst ..),b=>b=bd.blk∨b∈bd.sub
  | _,b=>b=bd.blk
theorem Qs {bd:Xk}{B:Option Blk}:XS bd B bd.blk:=by
 cases B with
 | none=>rfl
 | some B=>cases B<;>first | rfl | exact .inl rfl
def QAr:Blk->Bool
  | .nst .. =>false
  | _=>true
theorem Xe {bd:Xk}{B:Blk}(h:QAr B=true){b:Nat}(hb:XS bd (some B) b):b=bd.blk:=by
 cases B<;>first | exact hb | cases h
def own (ρ:Env)(H:HP)(b:Nat):Prop:= ∃k bd,ρ k=some bd/\bd.isNil=false/\XS bd (H k) b/\XI (H k)=true
structure Ctx where
  m:Nat->Prop
  x:Nat->Prop
  g:Nat
  tab:List Value
  pin:Env
  lps:Nat->Option Loop
  stk:List (TM×Array Value)
  nd:Bool
def ow (M:Ctx)(ρ:Env)(H:HP)(b:Nat):Prop:=M.x b∨own ρ H b
def QX (arr:Array Value)(sz i:Nat):List Value:=(arr.toList.drop (i*sz)).take sz
def QCD (r:Loop):Loop:={r with state:= .ready,pending:=none}
def QLP (s:Nat)(r:Loop):Prop:=match s with
 | 0=>r.state= .ready/\r.pending=none
 | 1=>r.state= .busy
 | 2=>r.state= .done/\r.pending=some .ret
 | i+3=>r.state= .done/\r.pending=some (.exit i)
def MapIs:List MapEntry->(Int->Option Int)->Prop
  | [],f=> ∀k,f k=none
  | e::es,f=> ∃a b g,e.key= .int .i64 a/\e.val= .int .i64 b/\MapIs es g/\ ∀k,f k=bif a==k then some b else g k

def NestOK (w:World)(O:Nat->Prop)(t2 sz2 o β:Nat)(x:List Ch)(vs:List Value):Prop:=
  ∃pre ys post us us' cap,x=pre++ .s sz2 ys::post/\QV pre=o/\vs=us++ .slice (some ⟨β,0,none⟩) ys.length cap::us'/\CC w O (fun _=>none) pre us/\CC w O (fun _=>none) post us'/\
    ∃arr:Array Value,w.heap[β]? =some (.cells arr t2 (0,0))/\(∃cp,arr.size=cp*sz2/\cap<=cp)/\ys.length<=cap/\ ∀j y,ys[j]? =some y->CC w O (fun _=>none) y (QX arr sz2 j)

def BlkOK (Lp:Nat->Option Loop)(w:World)(O:Nat->Prop)(ρ:Env)(bd:Xk):Blk->Prop
 | .box t cs=>bd.isNil=false/\ ∃vals,w.heap[bd.blk]? =some (.cells vals.toArray t (0,0))/\CC w O ρ cs vals
 | .row t sz xs=>bd.len=xs.length/\bd.sz=sz/\((bd.isNil=true/\xs=[])∨
   (bd.isNil=false/\ ∃arr:Array Value,w.heap[bd.blk]? =some (.cells arr t (0,0))/\arr.size=bd.cap*sz/\xs.length<=bd.cap/\ ∀i x,xs[i]? =some x->CC w O (fun _=>none) x (QX arr sz i)))
 | .lp s=>bd.isNil=false/\ ∃r,w.heap[bd.blk]? =some (.loop r)/\QLP s r/\Lp bd.blk=some (QCD r)
 | .mp f=>bd.isNil=false/\ ∃es clock,w.heap[bd.blk]? =some (.map es clock)/\MapIs es.toList f
 | .nst t sz o t2 sz2 xs=>bd.isNil=false/\bd.len=xs.length/\bd.sz=sz/\(bd.sub.length=xs.length/\bd.sub.Nodup/\bd.blk∉bd.sub)/\ ∃arr:Array Value,w.heap[bd.blk]? =some (.cells arr t (0,0))/\arr.size=bd.cap*sz/\xs.length<=bd.cap/\
   ∀i x β,xs[i]? =some x->bd.sub[i]? =some β->NestOK w O t2 sz2 o β x (QX arr sz i)
 | .dead=>True
def QDq (w:World)(g:Nat)(tab:List Value):Prop:= ∃t fr,w.heap[g]? =some (.cells tab.toArray t fr)

structure HS (w0:World)(M:Ctx)(ρ:Env)(H:HP)(w:World):Prop where
 os:w.os=w0.os
 tape:w.tape=w0.tape
 output:w.output=w0.output
 size:w0.heap.size<=w.heap.size
 glob:QDq w0 M.g M.tab/\ ¬M.m M.g/\M.g<w0.heap.size/\ ∀b,M.x b->b<w0.heap.size/\ ¬M.m b
 old: ∀b,b<w0.heap.size-> ¬M.m b->w.heap[b]? =w0.heap[b]?
 blk: ∀k b,H k=some b->XI (some b)=true-> ∃bd,ρ k=some bd/\BlkOK M.lps w (ow M ρ H) ρ bd b
 dom: ∀k,H k=none->ρ k=none
 rng: ∀k bd,ρ k=some bd->bd.isNil=false->XI (H k)=true-> ∀b,XS bd (H k) b->b<w.heap.size/\(w0.heap.size<=b∨M.m b)
 dist: ∀k k' bd bd',ρ k=some bd->ρ k'=some bd'->bd.isNil=false->bd'.isNil=false->XI (H k)=true->XI (H k')=true-> ∀b,XS bd (H k) b->XS bd' (H k') b->k=k'
structure Ext (ρ:Env)(H:HP)(w:World)(ρ':Env)(H':HP)(w':World):Prop where
  keeps:Jr (own ρ H) w w'
  own: ∀b,b<w.heap.size->own ρ' H' b->own ρ H b
  env: ∀k bd,ρ k=some bd->ρ' k=some bd
  ids: ∀k,H k≠none->ρ' k=ρ k/\H' k≠none

theorem Ext.refl (ρ:Env)(H:HP)(w:World):Ext ρ H w ρ H w:=⟨.refl _ _,fun _ _ h=>h,fun _ _ h=>h,fun _ h=>⟨rfl,h⟩⟩
theorem Ext.trans {ρ ρ1 ρ2:Env}{H H1 H2:HP}{w w1 w2:World}(h:Ext ρ H w ρ1 H1 w1)(k:Ext ρ1 H1 w1 ρ2 H2 w2):Ext ρ H w ρ2 H2 w2:=
 ⟨⟨Ya h.keeps.size k.keeps.size,fun b hb ho=>(k.keeps.block b (Zm hb h.keeps.size) (fun ho1=>ho (h.own b hb ho1))).trans (h.keeps.block b hb ho)⟩,
  fun b hb ho=>h.own b hb (k.own b (Zm hb h.keeps.size) ho),fun i bd hi=>k.env i bd (h.env i bd hi),
  fun i hi=>⟨(k.ids i (h.ids i hi).2).1.trans (h.ids i hi).1,(k.ids i (h.ids i hi).2).2⟩⟩
theorem Ext.ow {M:Ctx}{ρ ρ':Env}{H H':HP}{w w':World}(h:Ext ρ H w ρ' H' w'):Jr (Eng.ow M ρ H) w w'/\ ∀b,b<w.heap.size->Eng.ow M ρ' H' b->Eng.ow M ρ H b:=
 ⟨⟨h.keeps.size,fun b hb ho=>h.keeps.block b hb (fun h'=>ho (.inr h'))⟩,fun b hb ho=>ho.imp id (h.own b hb)⟩
theorem Ext.conc {M:Ctx}{ρ ρ':Env}{H H':HP}{w w':World}(h:Ext ρ H w ρ' H' w'){av:AV}{v:Value}(hc:ConcV w (Eng.ow M ρ H) ρ av v):ConcV w' (Eng.ow M ρ' H') ρ' av v:=
 hc.mono h.ow.1 h.ow.2 h.env
theorem Ext.cc {M:Ctx}{ρ ρ':Env}{H H':HP}{w w':World}(h:Ext ρ H w ρ' H' w'){cs:List Ch}{vs:List Value}(hc:CC w (Eng.ow M ρ H) ρ cs vs):CC w' (Eng.ow M ρ' H') ρ' cs vs:=
 hc.mono h.ow.1 h.ow.2 h.env
theorem Ext.cc0 {M:Ctx}{ρ ρ':Env}{H H':HP}{w w':World}(h:Ext ρ H w ρ' H' w'){cs:List Ch}{vs:List Value}(hc:CC w (Eng.ow M ρ H) (fun _=>none) cs vs):CC w' (Eng.ow M ρ' H') (fun _=>none) cs vs:=
 hc.mono h.ow.1 h.ow.2 (fun _ _ h=>h)
theorem NestOK.mono {w w':World}{O O':Nat->Prop}{t2 sz2 o β:Nat}{x:List Ch}{vs:List Value}(hk:Jr O w w')(hO: ∀b,b<w.heap.size->O' b->O b)(hb:w'.heap[β]? =w.heap[β]?)(h:NestOK w O t2 sz2 o β x vs):NestOK w' O' t2 sz2 o β x vs:=by
 obtain⟨pre,ys,post,us,us',cap,e1,e2,e3,h1,h2,arr,h3,h4,h5,h6⟩:=h;have up: ∀{cs:List Ch} {vs:List Value},CC w O (fun _=>none) cs vs->CC w' O' (fun _=>none) cs vs:=fun h=>h.mono hk hO (fun _ _ h=>h);exact⟨pre,ys,post,us,us',cap,e1,e2,e3,up h1,up h2,arr,hb.trans h3,h4,h5,fun j y hy=>up (h6 j y hy)⟩
theorem NestOK.sub {w:World}{O O':Nat->Prop}{t2 sz2 o β:Nat}{x:List Ch}{vs:List Value}(hO: ∀b,O' b->O b)(h:NestOK w O t2 sz2 o β x vs):NestOK w O' t2 sz2 o β x vs:=h.mono (.refl _ _) (fun b _ h=>hO b h) rfl
theorem BlkOK.ext {M:Ctx}{ρ ρ':Env}{H H':HP}{w w':World}(h:Ext ρ H w ρ' H' w'){bd:Xk}{b:Blk}(hb:bd.isNil=false->XI (some b)=true-> ∀j,XS bd (some b) j->w'.heap[j]? =w.heap[j]?)
    (hc:BlkOK M.lps w (ow M ρ H) ρ bd b):BlkOK M.lps w' (ow M ρ' H') ρ' bd b:=by
  cases b with
  | box t cs=>
    obtain⟨h1,vals,h2,h3⟩:=hc;exact⟨h1,vals,(hb h1 rfl _ Qs).trans h2,h.cc h3⟩
  | row t sz xs=>
    obtain⟨h1,h2,h3 | ⟨h3,arr,h4,h5,h6,h7⟩⟩:=hc
    · exact⟨h1,h2,.inl h3⟩
    · exact⟨h1,h2,.inr ⟨h3,arr,(hb h3 rfl _ Qs).trans h4,h5,h6,fun i x hx=>h.cc0 (h7 i x hx)⟩⟩
  | lp s=>obtain⟨h1,r,h2,h3⟩:=hc;exact⟨h1,r,(hb h1 rfl _ Qs).trans h2,h3⟩
  | mp f=>obtain⟨h1,es,cl,h2,h3⟩:=hc;exact⟨h1,es,cl,(hb h1 rfl _ Qs).trans h2,h3⟩
  | nst t sz o t2 sz2 xs=>
    obtain⟨h1,h2,h3,h4,arr,h5,h6,h7,h8⟩:=hc;exact⟨h1,h2,h3,h4,arr,(hb h1 rfl _ Qs).trans h5,h6,h7,fun i x β hx hβ=>(h8 i x β hx hβ).mono h.ow.1 h.ow.2 (hb h1 rfl β (.inr (Zs hβ)))⟩
  | dead=>trivial

variable {w0:World}{M:Ctx}
theorem HS.nxB {ρ:Env}{H:HP}{w:World}(h:HS w0 M ρ H w){k:Nat}{bd:Xk}(h1:ρ k=some bd)(h2:bd.isNil=false)(h3:XI (H k)=true){b:Nat}(hb:XS bd (H k) b): ¬M.x b:=fun hx=>by
  obtain⟨a,b⟩:=h.glob.2.2.2 _ hx;rcases(h.rng k bd h1 h2 h3 _ hb).2 with c | c
  · omega
  · exact b c

theorem HS.globw {ρ:Env}{H:HP}{w:World}(h:HS w0 M ρ H w):QDq w M.g M.tab:=by
 obtain⟨⟨t,fr,e⟩,h2,h3,_⟩:=h.glob;exact⟨t,fr,by rw[h.old _ h3 h2];exact e⟩
theorem HS.nx {ρ:Env}{H:HP}{w:World}(h:HS w0 M ρ H w){k:Nat}{bd:Xk}(h1:ρ k=some bd)(h2:bd.isNil=false)(h3:XI (H k)=true): ¬M.x bd.blk:=h.nxB h1 h2 h3 Qs
theorem HS.same {ρ:Env}{H:HP}{w w':World}(h:HS w0 M ρ H w)(hh:w'.heap=w.heap)(h1:w'.os=w.os)(h2:w'.tape=w.tape)(h3:w'.output=w.output):
    HS w0 M ρ H w'/\Ext ρ H w ρ H w':=by
  have hx:Ext ρ H w ρ H w':=⟨⟨by rw[hh];exact Nat.le_refl _,fun _ _ _=>by rw[hh]⟩,fun _ _ h=>h,fun _ _ h=>h,fun _ h=>⟨rfl,h⟩⟩
  exact⟨⟨h1.trans h.os,h2.trans h.tape,h3.trans h.output,by rw[hh];exact h.size,h.glob,fun b hb hm=>by rw[hh];exact h.old b hb hm,
    fun k b hk hl=>let ⟨bd,e,ok⟩:=h.blk k b hk hl;⟨bd,e,ok.ext hx (fun _ _ _ _=>by rw[hh])⟩,h.dom,fun k bd a b c=>by rw[hh];exact h.rng k bd a b c,h.dist⟩,hx⟩

theorem HS.alloc {ρ:Env}{H:HP}{w w':World}(h:HS w0 M ρ H w){d:Nat}(hd:H d=none){o:Obj}{bd:Xk}{b:Blk}(hb:bd.blk=w.heap.size)
    (hh:w'.heap=w.heap.push o) (h1:w'.os=w.os) (h2:w'.tape=w.tape) (h3:w'.output=w.output)
    (hok:Ext ρ H w (upd ρ d (some bd)) (upd H d (some b)) w'->BlkOK M.lps w' (ow M (upd ρ d (some bd)) (upd H d (some b))) (upd ρ d (some bd)) bd b) (hpl:QAr b=true:=by rfl):
    HS w0 M (upd ρ d (some bd)) (upd H d (some b)) w'/\Ext ρ H w (upd ρ d (some bd)) (upd H d (some b)) w':=by
  have hρ:ρ d=none:=h.dom d hd;have hne: ∀k bk,ρ k=some bk->k≠d:=fun k bk hk e=>by subst e;rw[hρ]at hk;cases hk
  have hnH: ∀k bk,H k=some bk->k≠d:=fun k bk hk e=>by subst e;rw[hd]at hk;cases hk
  have hsz:w'.heap.size=w.heap.size+1:=by rw[hh];simp
  have hold: ∀b,b<w.heap.size->w'.heap[b]? =w.heap[b]? :=fun b hb=>by rw[hh,Array.getElem?_push,if_neg (by omega)]
  have hx:Ext ρ H w (upd ρ d (some bd)) (upd H d (some b)) w':=
    ⟨⟨by omega,fun b hb _=>hold b hb⟩,fun b hlt ⟨k,bk,hk,hnk,hbk,hl⟩=>by
      by_cases e:k=d
      · subst e;rw[QI]at hk;cases hk;rw[QI]at hbk;have:=Xe hpl hbk;omega
      · rw[QR _ _ e]at hk hl hbk;exact⟨k,bk,hk,hnk,hbk,hl⟩,
    fun k bk hk=>by rw[QR _ _ (hne k bk hk)];exact hk,fun k hk=>by
      have e:k≠d:=fun e=>hk (e▸hd)
      rw[QR _ _ e,QR _ _ e];exact⟨rfl,hk⟩⟩
  refine⟨⟨h1.trans h.os,h2.trans h.tape,h3.trans h.output,by have:=h.size;omega,h.glob,fun b hb hm=>(hold b (by have:=h.size;omega)).trans (h.old b hb hm),?_,?_,?_,?_⟩,hx⟩
  · intro k bk hk hlv;by_cases e:k=d
    · subst e;rw[QI]at hk;cases hk
      exact⟨bd,QI _ _ _,hok hx⟩
    · rw[QR _ _ e]at hk;obtain⟨bd',e',ok⟩:=h.blk k bk hk hlv;exact⟨bd',by rw[QR _ _ e];exact e',ok.ext hx (fun hnn hl j hj=>hold _ (h.rng k bd' e' hnn (by rw[hk];exact hl) j (by rw[hk];exact hj)).1)⟩
  · intro k hk;by_cases e:k=d
    · subst e;rw[QI]at hk;cases hk
    · rw[QR _ _ e]at hk⊢;exact h.dom k hk
  · intro k bk hk hnk hl j hj;by_cases e:k=d
    · subst e;rw[QI]at hk;cases hk
      rw[QI]at hj;have:=Xe hpl hj;exact⟨by omega,.inl (by have:=h.size;omega)⟩
    · rw[QR _ _ e]at hk hl hj;have:=h.rng k bk hk hnk hl j hj;exact⟨by omega,this.2⟩
  · intro k k' bk bk' hk hk' hn1 hn2 hl hl' j hj hj';by_cases e:k=d
    · by_cases e':k'=d
      · omega
      · subst e;rw[QI]at hk;cases hk
        rw[QR _ _ e']at hk' hl' hj';rw[QI]at hj;have:=(h.rng k' bk' hk' hn2 hl' j hj').1;have:=Xe hpl hj;omega
    · by_cases e':k'=d
      · subst e';rw[QI]at hk';cases hk'
        rw[QR _ _ e]at hk hl hj;rw[QI]at hj';have:=(h.rng k bk hk hn1 hl j hj).1;have:=Xe hpl hj';omega
      · rw[QR _ _ e]at hk hl hj;rw[QR _ _ e']at hk' hl' hj';exact h.dist k k' bk bk' hk hk' hn1 hn2 hl hl' j hj hj'

theorem HS.allocNil {ρ:Env}{H:HP}{w:World}(h:HS w0 M ρ H w){d:Nat}(hd:H d=none)(t sz:Nat):
    HS w0 M (upd ρ d (some ⟨0,0,0,sz,true,[]⟩)) (upd H d (some (.row t sz []))) w/\Ext ρ H w (upd ρ d (some ⟨0,0,0,sz,true,[]⟩)) (upd H d (some (.row t sz []))) w:=by
  have hρ:ρ d=none:=h.dom d hd;have hne: ∀k bk,ρ k=some bk->k≠d:=fun k bk hk e=>by subst e;rw[hρ]at hk;cases hk
  have hx:Ext ρ H w (upd ρ d (some ⟨0,0,0,sz,true,[]⟩)) (upd H d (some (.row t sz []))) w:=
    ⟨.refl _ _,fun b hlt ⟨k,bk,hk,hnk,hbk,hl⟩=>by
      by_cases e:k=d
      · subst e;rw[QI]at hk;cases hk;cases hnk
      · rw[QR _ _ e]at hk hl hbk;exact⟨k,bk,hk,hnk,hbk,hl⟩,
    fun k bk hk=>by rw[QR _ _ (hne k bk hk)];exact hk,fun k hk=>by
      have e:k≠d:=fun e=>hk (e▸hd)
      rw[QR _ _ e,QR _ _ e];exact⟨rfl,hk⟩⟩
  refine⟨⟨h.os,h.tape,h.output,h.size,h.glob,h.old,?_,?_,?_,?_⟩,hx⟩
  · intro k bk hk hlv;by_cases e:k=d
    · subst e;rw[QI]at hk;cases hk
      exact⟨_,QI _ _ _,rfl,rfl,.inl ⟨rfl,rfl⟩⟩
    · rw[QR _ _ e]at hk;obtain⟨bd',e',ok⟩:=h.blk k bk hk hlv;exact⟨bd',by rw[QR _ _ e];exact e',ok.ext hx (fun _ _ _ _=>rfl)⟩
  · intro k hk;by_cases e:k=d
    · subst e;rw[QI]at hk;cases hk
    · rw[QR _ _ e]at hk⊢;exact h.dom k hk
  · intro k bk hk hnk hl;by_cases e:k=d
    · subst e;rw[QI]at hk;cases hk;cases hnk
    · simp only[QR _ _ e]at hk hl⊢;exact h.rng k bk hk hnk hl
  · intro k k' bk bk' hk hk' hn1 hn2 hl hl' j hj hj';by_cases e:k=d
    · subst e;rw[QI]at hk;cases hk;cases hn1
    · by_cases e':k'=d
      · subst e';rw[QI]at hk';cases hk';cases hn2
      · rw[QR _ _ e]at hk hl hj;rw[QR _ _ e']at hk' hl' hj';exact h.dist k k' bk bk' hk hk' hn1 hn2 hl hl' j hj hj'

theorem HS.writeN {ρ:Env}{H:HP}{w w':World}(h:HS w0 M ρ H w){k:Nat}{bd:Xk}{b b':Blk}(hk:H k=some b)(hl:XI (some b)=true)(hl':XI (some b')=true)(hρ:ρ k=some bd)(hn:bd.isNil=false)
    (hsame: ∀j,XS bd (some b') j->XS bd (some b) j) (hother: ∀j,¬XS bd (some b) j->w'.heap[j]? =w.heap[j]?) (hs:w'.heap.size=w.heap.size) (h1:w'.os=w.os) (h2:w'.tape=w.tape) (h3:w'.output=w.output)
    (hok:Ext ρ H w ρ (upd H k (some b')) w'->BlkOK M.lps w' (ow M ρ (upd H k (some b'))) ρ bd b'):
    HS w0 M ρ (upd H k (some b')) w'/\Ext ρ H w ρ (upd H k (some b')) w':=by
  have hlive: ∀j,XI (upd H k (some b') j)=XI (H j):=fun j=>by
    by_cases e:j=k
    · subst e;rw[QI,hk,hl,hl']
    · rw[QR _ _ e]
  have hown: ∀j,XS bd (some b) j->own ρ H j:=fun j hj=>⟨k,bd,hρ,hn,by rw[hk];exact hj,by rw[hk];exact hl⟩;have hback: ∀i bi j,ρ i=some bi->XS bi (upd H k (some b') i) j->XS bi (H i) j:=fun i bi j hi hj=>by
    by_cases e:i=k
    · subst e;rw[QI]at hj;rw[hρ]at hi;cases hi;rw[hk];exact hsame j hj
    · rw[QR _ _ e]at hj;exact hj
  have hx:Ext ρ H w ρ (upd H k (some b')) w':=
    ⟨⟨by omega,fun b hb ho=>hother b (fun e=>ho (hown b e))⟩,fun b hb ⟨j,bj,a1,a2,a3,a4⟩=>⟨j,bj,a1,a2,hback j bj b a1 a3,by rw[<-hlive];exact a4⟩,fun _ _ h=>h,fun j hj=>⟨rfl,by
      by_cases e:j=k
      · subst e;rw[QI];simp
      · rw[QR _ _ e];exact hj⟩⟩
  refine⟨⟨h1.trans h.os,h2.trans h.tape,h3.trans h.output,by have:=h.size;omega,h.glob,?_,?_,?_,?_,?_⟩,hx⟩
  · intro j hj hm;rw[hother j (fun e=> ?_)]
    · exact h.old j hj hm
    · have:=(h.rng k bd hρ hn (by rw[hk];exact hl) j (by rw[hk];exact e)).2;rcases this with h' | h'
      · omega
      · exact hm h'
  · intro j bj hj hlv;by_cases e:j=k
    · subst e;rw[QI]at hj;cases hj
      exact⟨bd,hρ,hok hx⟩
    · rw[QR _ _ e]at hj;obtain⟨bd',e',ok⟩:=h.blk j bj hj hlv;exact⟨bd',e',ok.ext hx (fun hnn hlj i hi=>hother _ (fun he=>e (h.dist j k bd' bd e' hρ hnn hn (by rw[hj];exact hlj) (by rw[hk];exact hl) i (by rw[hj];exact hi) (by rw[hk];exact he))))⟩
  · intro j hj;by_cases e:j=k
    · subst e;rw[QI]at hj;cases hj
    · rw[QR _ _ e]at hj;exact h.dom j hj
  · intro j bj hj hnj hlj i hi;rw[hlive]at hlj;have:=h.rng j bj hj hnj hlj i (hback j bj i hj hi);exact⟨by omega,this.2⟩
  · intro j j' bj bj' hj hj' n1 n2 l1 l2 i hi hi';rw[hlive]at l1 l2;exact h.dist j j' bj bj' hj hj' n1 n2 l1 l2 i (hback j bj i hj hi) (hback j' bj' i hj' hi')

theorem HS.write {ρ:Env}{H:HP}{w w':World}(h:HS w0 M ρ H w){k:Nat}{bd:Xk}{b b':Blk}(hk:H k=some b)(hl:XI (some b)=true)(hl':XI (some b')=true)(hρ:ρ k=some bd)(hn:bd.isNil=false)
  (hother: ∀j,j≠bd.blk->w'.heap[j]? =w.heap[j]?) (hs:w'.heap.size=w.heap.size) (h1:w'.os=w.os) (h2:w'.tape=w.tape) (h3:w'.output=w.output)
  (hok:Ext ρ H w ρ (upd H k (some b')) w'->BlkOK M.lps w' (ow M ρ (upd H k (some b'))) ρ bd b') (hp':QAr b'=true:=by rfl):
  HS w0 M ρ (upd H k (some b')) w'/\Ext ρ H w ρ (upd H k (some b')) w':=
 h.writeN hk hl hl' hρ hn (fun j hj=>by rw[Xe hp' hj];exact Qs) (fun j hj=>hother j fun e=>hj (by rw[e];exact Qs)) hs h1 h2 h3 hok
theorem HS.kill {ρ:Env}{H:HP}{w:World}(h:HS w0 M ρ H w){k:Nat}{b:Blk}(hk:H k=some b):
    HS w0 M ρ (upd H k (some .dead)) w/\Ext ρ H w ρ (upd H k (some .dead)) w:=by
  have hlive: ∀j,XI (upd H k (some .dead) j)=true->j≠k/\XI (H j)=true:=fun j hj=>by
    by_cases e:j=k
    · subst e;rw[QI]at hj;cases hj
    · rw[QR _ _ e]at hj;exact⟨e,hj⟩
  have hsm: ∀j,j≠k->upd H k (some .dead) j=H j:=fun j e=>QR _ _ e;have hx:Ext ρ H w ρ (upd H k (some .dead)) w:=
    ⟨.refl _ _,fun b hb ⟨j,bj,a1,a2,a3,a4⟩=>⟨j,bj,a1,a2,by rw[hsm j (hlive j a4).1]at a3;exact a3,(hlive j a4).2⟩,fun _ _ h=>h,fun j hj=>⟨rfl,by
      by_cases e:j=k
      · subst e;rw[QI];simp
      · rw[QR _ _ e];exact hj⟩⟩
  refine⟨⟨h.os,h.tape,h.output,h.size,h.glob,h.old,?_,?_,?_,?_⟩,hx⟩
  · intro j bj hj hlv;by_cases e:j=k
    · subst e;rw[QI]at hj;cases hj;cases hlv
    · rw[QR _ _ e]at hj;obtain⟨bd',e',ok⟩:=h.blk j bj hj hlv;exact⟨bd',e',ok.ext hx (fun _ _ _ _=>rfl)⟩
  · intro j hj;by_cases e:j=k
    · subst e;rw[QI]at hj;cases hj
    · rw[QR _ _ e]at hj;exact h.dom j hj
  · intro j bj hj hnj hlj;rw[hsm j (hlive j hlj).1];exact h.rng j bj hj hnj (hlive j hlj).2
  · intro j j' bj bj' hj hj' n1 n2 l1 l2;rw[hsm j (hlive j l1).1,hsm j' (hlive j' l2).1];exact h.dist j j' bj bj' hj hj' n1 n2 (hlive j l1).2 (hlive j' l2).2

structure St where
 T:TM
 H:HP
def QQF:Obj->Bool
  | .deferred _=>true
  | _=>false
def NC (w w':World):Prop:= ∀(b:Nat) (o:Obj),w.heap[b]? =some o->QQF o=true->w'.heap[b]? =some o
theorem NC.refl (w:World):NC w w:=fun _ _ h _=>h
theorem NC.trans {w w1 w2:World}(h:NC w w1)(k:NC w1 w2):NC w w2:=fun b o h1 h2=>k b o (h b o h1 h2) h2
theorem HS.own_rf {ρ:Env}{H:HP}{w:World}(h:HS w0 M ρ H w){b:Nat}(ho:own ρ H b){o:Obj}(hb:w.heap[b]? =some o):QQF o=false:=by
 obtain⟨k,bd,h1,h2,h3,h4⟩:=ho;cases hk:H k with
 | none=>rw[hk]at h4;cases h4
 | some B=>
  rw[hk]at h3;obtain⟨bd',e,ok⟩:=h.blk k B hk (by rw[<-hk];exact h4);rw[h1]at e;cases e
  cases B with
  | box t cs=>cases Xe rfl h3;obtain⟨_,vals,e,_⟩:=ok;rw[hb]at e;cases e;rfl
  | row t sz xs=>
   cases Xe rfl h3
   obtain⟨_,_,h3 | ⟨_,arr,e,_⟩⟩:=ok
   ·rw[h3.1]at h2;cases h2
   ·rw[hb]at e;cases e;rfl
  | lp s=>cases Xe rfl h3;obtain⟨_,r,e,_⟩:=ok;rw[hb]at e;cases e;rfl
  | mp f=>cases Xe rfl h3;obtain⟨_,es,cl,e,_⟩:=ok;rw[hb]at e;cases e;rfl
  | nst t sz o t2 sz2 xs=>
   obtain⟨_,_,_,⟨hlen,_⟩,arr,e,_,_,hn⟩:=ok;rcases h3 with rfl | h3
   ·rw[hb]at e;cases e;rfl
   ·obtain⟨i,hi,hβ⟩:=List.getElem_of_mem h3;obtain⟨x,hx⟩: ∃x,xs[i]? =some x:=⟨_,Zk (by omega)⟩
    obtain⟨_,_,_,_,_,_,_,_,_,_,_,arr2,e2,_⟩:=hn i x b hx (by rw[Zk hi,hβ]);rw[hb]at e2;cases e2;rfl
  | dead=>rw[hk]at h4;cases h4
theorem Ext.nc {ρ ρ':Env}{H H':HP}{w w':World}(hs:HS w0 M ρ H w)(hx:Ext ρ H w ρ' H' w'):NC w w':=by
 intro b o hb ho;have hlt:=(Zi.1 hb).1;rw[hx.keeps.block b hlt (fun hw=>by rw[hs.own_rf hw hb]at ho;cases ho)];exact hb
def Marks (w0 w:World)(ds:List Deferred):Prop:= ∃rs:List Nat,ds=rs.map (fun r=>({target:= .collected r,args:= #[]}:Deferred))/\rs.Nodup/\ ∀r∈rs,w.heap[r]? =some (.deferred (some []))/\w0.heap.size<=r
theorem Marks.nil {w0 w:World}:Marks w0 w []:=⟨[],rfl,by simp,by simp⟩
theorem Marks.nc {w0 w w':World}{ds:List Deferred}(h:Marks w0 w ds)(hn:NC w w'):Marks w0 w' ds:=
 let ⟨rs,h1,h2,h3⟩:=h;⟨rs,h1,h2,fun r hr=>⟨hn r _ (h3 r hr).1 rfl,(h3 r hr).2⟩⟩
structure Sim (w0:World)(M:Ctx)(N:Nat)(ρ:Env)(σ:St)(a:Act)(w:World):Prop where
 size:a.tmps.size=N
 dfr:Marks w0 w a.defers
 dfn:M.nd=true->a.defers=[]
 pin: ∀k bd,M.pin k=some bd->ρ k=some bd
 tmps: ∀t,ConcV w (ow M ρ σ.H) ρ (σ.T t) (a.tmps.getD t undef)
 stk: ∀p∈M.stk,∀t,ConcV w (ow M ρ σ.H) ρ (p.1 t) (p.2.getD t undef)
 hs:HS w0 M ρ σ.H w
def YE (T:TM)(d:Option Nat)(av:AV):TM:=
 match d with
 | some d=>upd T d av
 | none=>T
theorem Sim.put {N:Nat}{ρ ρ':Env}{σ:St}{a:Act}{w w':World}(h:Sim w0 M N ρ σ a w){H':HP}(hs:HS w0 M ρ' H' w')(hx:Ext ρ σ.H w ρ' H' w'){d:Option Nat}(hd: ∀t,d=some t->t<N)
  {av:AV} {v:Value} (hv:ConcV w' (ow M ρ' H') ρ' av v):Sim w0 M N ρ' ⟨YE σ.T d av,H'⟩ (a.put d v) w':=by
 cases d with
 | none=>exact⟨h.size,h.dfr.nc (hx.nc h.hs),h.dfn,fun k bd hk=>hx.env k bd (h.pin k bd hk),fun t=>hx.conc (h.tmps t),fun p hp t=>hx.conc (h.stk p hp t),hs⟩
 | some d=>
  have hlt:=hd d rfl;refine⟨by simp[Act.put,h.size],h.dfr.nc (hx.nc h.hs),h.dfn,fun k bd hk=>hx.env k bd (h.pin k bd hk),fun t=> ?_,fun p hp t=>hx.conc (h.stk p hp t),hs⟩;by_cases e:t=d
  ·subst e;have:(a.put (some t) v).tmps.getD t undef=v:=by simp[Act.put,h.size,hlt]
   rw[this];simpa [YE,QI]using hv
  ·have:(a.put (some d) v).tmps.getD t undef=a.tmps.getD t undef:=by
    simp only[Act.put,Array.getD_eq_getD_getElem?];rw[Array.getElem?_setIfInBounds_ne (fun he=>e he.symm)]
   rw[this];simpa [YE,QR _ _ e]using hx.conc (h.tmps t)
end Go.Eng
namespace Go.Eng
open Go
structure TyI where
 cells:Nat
 zero:List Value
 agg:Bool
 bytes:Nat
 und:TypeDesc
 eq:Bool
abbrev TB:=Nat->Option TyI
structure Xr (P:Program)(t:Nat)(i:TyI):Prop where
 info: ∃ti z,P.info? t=some ti/\ti.size=i.cells/\ti.bytes=i.bytes/\ti.zero=some z/\z.cells=i.zero.toArray
 und:P.underlying t=some i.und
 agg:i.agg=match i.und with | .struct _ | .array _ _=>true | _=>false
 one:i.agg=false->i.cells=1
 zlen:i.zero.length=i.cells
 zone:i.zero.all (·.oneCell')=true
 zval: ∀k,i.und= .int k-> ∃ti v,P.info? t=some ti/\ti.zero=some v/\i.zero=[v]
 eqok:i.eq=true->P.stoodInHeld t=false/\P.eqGuardType P.depth t=false/\ ∀fs,i.und= .struct fs-> ∀f∈fs.toList,f.name≠ "_"
def JZ (P:Program)(tb:TB):Prop:= ∀t i,tb t=some i->Xr P t i
section mem
variable {P:Program}{tb:TB}
theorem VR {t:Nat}{i:TyI}(h:Xr P t i)(w:World): ∃ti z,(typeInfo t).run P w= .ok ti w/\ti.size=i.cells/\ti.bytes=i.bytes/\ti.zero=some z/\z.cells=i.zero.toArray:=by
 obtain⟨ti,z,h1,h2,h3,h4,h5⟩:=h.info;exact⟨ti,z,by simp[typeInfo,h1],h2,h3,h4,h5⟩
theorem Q6 {t:Nat}{i:TyI}(h:Xr P t i)(w:World):(sizeOf t).run P w= .ok i.cells w:=by
 obtain⟨ti,z,h1,h2,_⟩:=VR h w;simp[sizeOf,h1,h2]
theorem Kg {t:Nat}{i:TyI}(h:Xr P t i)(w:World):(isAgg t).run P w= .ok i.agg w:=by
 simp only[isAgg,Sem.run_bind,run_underlying h.und,Result.andThen_ok,h.agg];cases i.und<;>rfl
theorem JV {t:Nat}{i:TyI}(h:Xr P t i)(w:World): ∃z,(zeroValue t).run P w= .ok z w/\z.cells=i.zero.toArray:=by
 obtain⟨ti,z,h1,_,_,h4,h5⟩:=VR h w;exact⟨z,by simp[zeroValue,h1,h4],h5⟩
def WJ (w:World)(b o:Nat)(vs:List Value):Prop:= ∀j v,vs[j]? =some v->w.cell? ⟨b,o+j,none⟩=some v

theorem Xl (b o j:Nat):(⟨b,o,none⟩:Addr).add j=⟨b,o+j,none⟩:=by
 unfold Addr.add;split<;>simp_all
theorem Ja {w:World}{b t:Nat}{arr:Array Value}{fr:Nat×Nat}(h:w.heap[b]? =some (.cells arr t fr))(o n:Nat):WJ w b o ((arr.toList.drop o).take n):=by
 intro j v hj;rw[Za]at hj;split at hj
 ·rw[Zb]at hj;simp only[World.cell?,h];simpa using hj
 ·cases hj
theorem WY {w:World}{b o:Nat}{vs:List Value}(h:WJ w b o vs):(loadCells ⟨b,o,none⟩ vs.length).run P w= .ok vs.toArray w:=
 run_loadCells_list w ⟨b,o,none⟩ vs fun j v hj=>by rw[Xl];exact h j v hj
theorem W6 {t:Nat}{i:TyI}(ht:Xr P t i){w:World}{b o:Nat}{vs:List Value}(h:WJ w b o vs)(hl:vs.length=i.cells):
  ∃v,(loadVar t ⟨b,o,none⟩).run P w= .ok v w/\(if i.agg then v= .agg vs.toArray else vs=[v]):=by
 cases ha:i.agg with
 | true=>
  refine⟨.agg vs.toArray,?_,by simp⟩;have:=WY (P:=P) h;rw[hl]at this;simp[loadVar,Kg ht,ha,Q6 ht,this]
 | false=>
  have h1:=ht.one ha;match vs,(by omega:vs.length=1)with
  | [v],_=>
   refine⟨v,?_,by simp⟩;have:=h 0 v rfl;simp only[Yb]at this;simp[loadVar,Kg ht,ha,this]
theorem Jk {t:Nat}{i:TyI}(ht:Xr P t i){w:World}{b o u:Nat}{arr:Array Value}(hb:w.heap[b]? =some (.cells arr u (0,0))){v:Value}{vs:List Value}(hv:v.cells=vs.toArray)(hl:vs.length=i.cells)
  (ho:o+vs.length<=arr.size) (h1: ∀v∈vs,v.oneCell'=true):
  (storeVar t ⟨b,o,none⟩ v).run P w= .ok () (w.setRow b (arr.toList.take o++vs++arr.toList.drop (o+vs.length)).toArray):=by
 have:=run_storeCells_at (P:=P) b o u vs 0 arr w hb (by simpa using ho) h1;simp only[Yb]at this;simp[storeVar,hv,Q6 ht,hl,this]
end mem
theorem ConcX.cells {w:World}{O:Nat->Prop}{ρ:Env}{b:Bool}{cs:List Ch}{v:Value}(h:ConcX w O ρ b cs v): ∃vals,CC w O ρ cs vals/\v.cells=vals.toArray/\(if b then v= .agg vals.toArray else vals=[v]):=by
 obtain⟨vals,h1,h2⟩:=h;refine⟨vals,h1,?_,h2⟩;cases b with
 | true=>simp at h2;subst h2;rfl
 | false=>
  simp at h2;subst h2;have:=h1.one v (by simp);cases v<;>first | rfl | simp[Zh]at this
theorem ConcX.one {w:World}{O:Nat->Prop}{ρ:Env}{x:Value}{v:Value}(h:ConcX w O ρ false [.v x] v):v=x/\x.oneCell'=true:=by
 obtain⟨vals,h1,h2⟩:=h;simp at h2;subst h2;cases h1 with
 | v h _=>exact⟨rfl,h⟩
theorem ConcX.mk1 {w:World}{O:Nat->Prop}{ρ:Env}{x:Value}(h:x.oneCell'=true):ConcX w O ρ false [.v x] x:=⟨[x],.v h .nil,by simp⟩
end Go.Eng
namespace Go.Eng
open Go
inductive BR where
  | ok (v:Value)
  | need (p:Prop) (v:Value)
  | bad

def BR.run (K:Value->Prop):BR->Prop
 | .ok v=>K v
 | .need p v=>p/\K v
 | .bad=>False
def QQG (k:IntKind)(a b:Int):Int:=k.wrap (BitVec.ofInt k.bits a&&&BitVec.ofInt k.bits b).toNat
def orI (k:IntKind)(a b:Int):Int:=k.wrap (BitVec.ofInt k.bits a ||| BitVec.ofInt k.bits b).toNat
def QQH (k:IntKind)(a b:Int):Int:=k.wrap (BitVec.ofInt k.bits a^^^BitVec.ofInt k.bits b).toNat
def QNj (k:IntKind)(a b:Int):Int:=k.wrap (BitVec.ofInt k.bits a&&& ~~~BitVec.ofInt k.bits b).toNat
def Xh (k:IntKind)(a b:Int):Int:=k.wrap (a*2^(min b.toNat k.bits))
def Q0 (k:IntKind)(a b:Int):Int:=a.fdiv (2^(min b.toNat k.bits))
def QOW (op:BinOp)(k:IntKind)(a b:Int):BR:=
  match op with
  | .add=> .ok (.int k (k.wrap (a+b)))
  | .sub=> .ok (.int k (k.wrap (a-b)))
  | .mul=> .ok (.int k (k.wrap (a*b)))
  | .quo=> .need (b≠0) (.int k (k.wrap (a.tdiv b)))
  | .rem=> .need (b≠0) (.int k (a.tmod b))
  | .and=> .ok (.int k (QQG k a b))
  | .or=> .ok (.int k (orI k a b))
  | .xor=> .ok (.int k (QQH k a b))
  | .andNot=> .ok (.int k (QNj k a b))
  | .eql=> .ok (.bool (a==b))
  | .neq=> .ok (.bool (a !=b))
  | .lss=> .ok (.bool (decide (a<b)))
  | .leq=> .ok (.bool (decide (a<=b)))
  | .gtr=> .ok (.bool (decide (a>b)))
  | .geq=> .ok (.bool (decide (a≥b)))
  | _=> .bad

def QLQ (op:BinOp)(x y:Value):BR:=
 match x,y with
 | .int k a,.int k' b=>
  match op with
  | .shl=> .need (0<=b) (.int k (Xh k a b))
  | .shr=> .need (0<=b) (.int k (Q0 k a b))
  | op=>if k=k' then QOW op k a b else .bad
 | .string a,.string b=>
  match op with
  | .eql=> .ok (.bool (a.toList==b.toList))
  | .neq=> .ok (.bool !(a.toList==b.toList))
  | .lss=> .ok (.bool (Op.bytesLess a.toList b.toList))
  | .add=> .need (((a.size+b.size:Nat):Int)<=9223372036854775807) (.string (a++b))
  | _=> .bad
 | _,_=> .bad
def ldS (cs:List Ch)(o n:Nat)(agg:Bool):Option AV:=
  match Ji cs o with
  | some ds=>match Jj ds n with
    | some es=>some (.x agg es)
    | none=>none
  | none=>none

def orF (o:Option AV)(K:AV->Prop):Prop:=match o with | some v=>K v | none=>False
inductive Sh where
  | int (k:IntKind)
  | bool
  | str
  | rat
  | sl (sz:Nat)
  | val
  | ifc (t:Nat) (ag:Bool)

def Gt:List Sh->(List Ch->Prop)->Prop
  | [],K=>K []
  | .int k::s,K=> ∃d:Int,Gt s fun cs=>K (.v (.int k d)::cs)
  | .bool::s,K=> ∃b:Bool,Gt s fun cs=>K (.v (.bool b)::cs)
  | .str::s,K=> ∃b:ByteArray,Gt s fun cs=>K (.v (.string b)::cs)
  | .rat::s,K=> ∃(q:Rat) (n:Nat),Gt s fun cs=>K (.r q n::cs)
  | .sl sz::s,K=> ∃ys:List (List Ch),Gt s fun cs=>K (.s sz ys::cs)
  | .val::s,K=> ∃x:Value,Gt s fun cs=>K (.v x::cs)
  | .ifc t ag::s,K=> ∃ds:List Ch,Gt s fun cs=>K (.i t ag ds::cs)

inductive Kz:List Sh->List Ch->Prop
 | nil:Kz [] []
 | int {k:IntKind} {d:Int} {s:List Sh} {cs:List Ch} (h:Kz s cs):Kz (.int k::s) (.v (.int k d)::cs)
 | bool {b:Bool} {s:List Sh} {cs:List Ch} (h:Kz s cs):Kz (.bool::s) (.v (.bool b)::cs)
 | str {b:ByteArray} {s:List Sh} {cs:List Ch} (h:Kz s cs):Kz (.str::s) (.v (.string b)::cs)
 | rat {q:Rat} {n:Nat} {s:List Sh} {cs:List Ch} (h:Kz s cs):Kz (.rat::s) (.r q n::cs)
 | sl {sz:Nat} {ys:List (List Ch)} {s:List Sh} {cs:List Ch} (h:Kz s cs):Kz (.sl sz::s) (.s sz ys::cs)
 | val {x:Value} {s:List Sh} {cs:List Ch} (h:Kz s cs):Kz (.val::s) (.v x::cs)
 | ifc {t:Nat} {ag:Bool} {ds:List Ch} {s:List Sh} {cs:List Ch} (h:Kz s cs):Kz (.ifc t ag::s) (.i t ag ds::cs)
theorem VS: ∀{s:List Sh} {K:List Ch->Prop},Gt s K↔ ∃cs,Kz s cs/\K cs:=by
 intro s;induction s with
 | nil=>intro K;exact⟨fun h=>⟨[],.nil,h⟩,fun⟨_,h,hk⟩=>by cases h;exact hk⟩
 | cons x s ih=>
  intro K;cases x<;>simp only[Gt,ih]
  ·exact⟨fun⟨d,cs,h,hk⟩=>⟨_,.int h,hk⟩,fun⟨_,h,hk⟩=>by cases h with | int h=>exact⟨_,_,h,hk⟩⟩
  ·exact⟨fun⟨d,cs,h,hk⟩=>⟨_,.bool h,hk⟩,fun⟨_,h,hk⟩=>by cases h with | bool h=>exact⟨_,_,h,hk⟩⟩
  ·exact⟨fun⟨d,cs,h,hk⟩=>⟨_,.str h,hk⟩,fun⟨_,h,hk⟩=>by cases h with | str h=>exact⟨_,_,h,hk⟩⟩
  ·exact⟨fun⟨q,n,cs,h,hk⟩=>⟨_,.rat h,hk⟩,fun⟨_,h,hk⟩=>by cases h with | rat h=>exact⟨_,_,_,h,hk⟩⟩
  ·exact⟨fun⟨d,cs,h,hk⟩=>⟨_,.sl h,hk⟩,fun⟨_,h,hk⟩=>by cases h with | sl h=>exact⟨_,_,h,hk⟩⟩
  ·exact⟨fun⟨d,cs,h,hk⟩=>⟨_,.val h,hk⟩,fun⟨_,h,hk⟩=>by cases h with | val h=>exact⟨_,_,h,hk⟩⟩
  ·exact⟨fun⟨d,cs,h,hk⟩=>⟨_,.ifc h,hk⟩,fun⟨_,h,hk⟩=>by cases h with | ifc h=>exact⟨_,_,h,hk⟩⟩
def QOX (rec:TyI->List Sh)(tb:TB):List Field->List Sh
 | []=>[]
 | f::fs=>(match tb f.type with
  | some fi=>rec fi
  | none=>[.val])++QOX rec tb fs
def QOY (tb:TB):Nat->TyI->List Sh
  | 0,_=>[]
  | d+1,i=>match i.und with
    | .int k=>[.int k]
    | .bool=>[.bool]
    | .string=>[.str]
    | .slice e=>match tb e with
      | some ei=>[.sl ei.cells]
      | none=>[.val]
    | .struct fs=>match fs.toList with
      | [a,b,c]=>match tb a.type,tb b.type,tb c.type with
        | some ⟨_,_,_,_,.bool,_⟩,some ⟨_,_,_,_,.string,_⟩,some ⟨_,_,_,_,.string,_⟩=>[.rat]
        | _,_,_=>QOX (QOY tb d) tb fs.toList
      | l=>QOX (QOY tb d) tb l
    | _=>[.val]

def ldE (xs:List (List Ch))(j o n:Nat):Option (List Ch):=
  match xs[j]? with
  | some el=>match Ji el o with
    | some ds=>Jj ds n
    | none=>none
  | none=>none

def ldP (sh:List Sh)(xs:List (List Ch))(j o n:Nat)(agg:Bool)(K:AV->Prop):Prop:=Gt sh fun cs=>ldE xs j o n=some cs/\K (.x agg cs)
theorem QDr {sh:List Sh}{xs:List (List Ch)}{j o n:Nat}{agg:Bool}{K:AV->Prop}(h:ldP sh xs j o n agg K): ∃el,xs[j]? =some el/\orF (ldS el o n agg) K:=by
 obtain⟨cs,_,h1,h2⟩:=VS.1 h;unfold ldE at h1;split at h1
 ·rename_i el hel;refine⟨el,hel,?_⟩;unfold ldS;split at h1
  ·rename_i ds hd;simp only[h1];exact h2
  ·cases h1
 ·cases h1
def QAB (i:TyI)(sh:List Sh)(a:AV)(H:HP)(K:AV->Prop):Prop:=
 match a with
 | .x false [.p k o]=>match H k with
  | some (.box _ cs)=>orF (ldS cs o i.cells i.agg) K
  | _=>False
 | .x false [.y _ xs j o]=>ldP sh xs j o i.cells i.agg K
 | .x false [.e k j o]=>match H k with
  | some (.row _ _ xs)=>ldP sh xs j o i.cells i.agg K
  | some (.nst _ _ oo _ sz2 xs)=>bif o.beq oo&&i.cells.beq 1&& !i.agg then ∃ys,ldE xs j o 1=some [.s sz2 ys]/\K (.x false [.q k j ys.length])else False
  | _=>False
 | .x false [.z k j sz m o]=>match H k with
  | some (.nst _ _ oo _ sz2 xs)=>bif sz.beq sz2 then ∃ys,ldE xs j oo 1=some [.s sz2 ys]/\ldP sh ys m o i.cells i.agg K else False
  | _=>False
 | _=>False
theorem QDs (pre rest:List Ch):Ji (pre++rest) (QV pre)=some rest:=by
 induction pre with
 | nil=>simp[QV,Ji]
 | cons c cs ih=>
  cases c with
  | r q n=>rw[show QV (.r q n::cs)=QV cs+2+1 by simp[QV,Ch.len];omega];exact ih
  | _=>rw[show ∀c:Ch,c.len=1->QV (c::cs)=QV cs+1 from fun c h=>by simp[QV,h];omega]<;>first | exact ih | rfl
theorem QDt {xs:List (List Ch)}{j o sz2:Nat}{ys zs:List (List Ch)}{pre post:List Ch}(hj:xs[j]? =some (pre++ .s sz2 zs::post))(hp:QV pre=o)(h:ldE xs j o 1=some [.s sz2 ys]):ys=zs:=by
  subst hp;unfold ldE at h;rw[hj]at h;simp only[QDs]at h;have:Jj (Ch.s sz2 zs::post) 1=some [.s sz2 zs]:=by simp[Jj]
  rw[this]at h;cases h;rfl
theorem HD {xs:List (List Ch)}{j o n:Nat}{cs:List Ch}(h:ldE xs j o n=some cs): ∃el,xs[j]? =some el:=by
 unfold ldE at h;split at h
 ·rename_i el e;exact⟨el,e⟩
 ·cases h
theorem QDu {cs ds:List Ch}{n:Nat}(h:Jj cs n=some ds):QV ds=n:=by
 fun_induction Jj cs n generalizing ds with
 | case1=>simp at h;subst h;rfl
 | case2=>simp at h
 | case3=>simp at h;subst h;rfl
 | case4=>simp at h;subst h;rfl
 | case5 cs q n k ih=>
  simp only[Zv]at h;obtain⟨es,he,rfl⟩:=h;have:=ih he;simp[QV,Ch.len];omega
 | case6 c cs k hne ih=>
  simp only[Zv]at h;obtain⟨es,he,rfl⟩:=h;have:=ih he;have hc:c.len=1:=by cases c<;>first | rfl | exact absurd rfl (hne _ _)
  simp[QV,hc];omega
theorem JM {w:World}{O:Nat->Prop}{ρ:Env}{cs:List Ch}{vals:List Value}(h:CC w O ρ cs vals){o n:Nat}{agg:Bool}{K:AV->Prop}(hs:orF (ldS cs o n agg) K):
  ∃es us,K (.x agg es)/\CC w O ρ es us/\us=(vals.drop o).take n/\us.length=n:=by
 unfold ldS at hs;split at hs
 ·rename_i ds hd;split at hs
  ·rename_i es he;have h1:=(h.drop hd).take he;exact⟨es,_,hs,h1,rfl,by rw[h1.length,QDu he]⟩
  ·exact hs.elim
 ·exact hs.elim
variable {P:Program}{w0:World}{M:Ctx}{ρ:Env}{H:HP}{w:World}
theorem CC.sub0 {w:World}{O:Nat->Prop}{ρ:Env}{cs:List Ch}{vs:List Value}(h:CC w O (fun _=>none) cs vs):CC w O ρ cs vs:=
 h.mono (.refl _ _) (fun _ _ h=>h) (fun _ _ h=>by cases h)
theorem QCE {t:Nat}{i:TyI}{sh:List Sh}(ht:Xr P t i)(hs:HS w0 M ρ H w){a:AV}{v:Value}(ha:ConcV w (ow M ρ H) ρ a v){K:AV->Prop}(h:QAB i sh a H K):
    ∃u av,(Instr.loadAt t v).run P w= .ok u w/\ConcV w (ow M ρ H) ρ av u/\K av:=by
  have fin: ∀{b o:Nat} {cs:List Ch} {vs:List Value},v= .pointer (some ⟨b,o,none⟩)->WJ w b o vs->vs.length=i.cells->CC w (ow M ρ H) ρ cs vs->K (.x i.agg cs)->
      ∃u av,(Instr.loadAt t v).run P w= .ok u w/\ConcV w (ow M ρ H) ρ av u/\K av:=by
    intro b o cs vs hv hc hl hcc hk;obtain⟨u,h1,h2⟩:=W6 ht hc hl;exact⟨u,.x i.agg cs,by simp[Instr.loadAt,Instr.sureAddr,hv,h1],⟨vs,hcc,h2⟩,hk⟩
  unfold QAB at h;split at h
  · -- a box
    rename_i k o;split at h
    · rename_i ty cs hk;obtain⟨vals,hcc,hv⟩:=ha;simp at hv;subst hv;obtain⟨bd,hρ,ok⟩:=hs.blk k _ hk rfl;cases hcc with
      | p hk' hn _=>
        rw[hρ]at hk';cases hk'
        obtain⟨_,vals,hb,hcs⟩:=ok;obtain⟨es,us,h1,h2,h3,h4⟩:=JM hcs h;refine fin rfl ?_ h4 h2 h1
        rw[h3];simpa using Ja hb o i.cells
    · exact h.elim
  · -- an immutable row
    rename_i sz xs j o;obtain⟨el,hel,hld⟩:=QDr h;obtain⟨vals,hcc,hv⟩:=ha;simp at hv;subst hv;cases hcc with
    | @y _ _ b o' _ _ _ f _ _ hr hx _=>
      obtain⟨es,us,h1,h2,h3,h4⟩:=JM (hx j el hel) hld;obtain⟨hl,hcell⟩:=hr.cell j el hel;refine fin rfl ?_ h4 h2.sub0 h1
      intro m x hm;rw[h3,Za]at hm;split at hm
      · rw[Zb]at hm;have hlt:o+m<sz:=by
          have:=(Zd.1 hm).1;omega
        have:=hcell (o+m) hlt;rw[show o'+j*sz+o+m=o'+j*sz+(o+m)by omega,this,hm]
      · cases hm
  · -- an element of an own row
    rename_i k j o;split at h
    · rename_i ty sz xs hk;obtain⟨el,hel,hld⟩:=QDr h;obtain⟨vals,hcc,hv⟩:=ha;simp at hv;subst hv;obtain⟨bd,hρ,ok⟩:=hs.blk k _ hk rfl;cases hcc with
      | e hk' hn _=>
        rw[hρ]at hk';cases hk'
        obtain⟨_,hsz,⟨hnil,_⟩ | ⟨_,arr,hb,hsize,hle,hx⟩⟩:=ok
        · rw[hn]at hnil;cases hnil
        · obtain⟨es,us,h1,h2,h3,h4⟩:=JM (hx j el hel) hld;refine fin rfl ?_ h4 h2.sub0 h1
          intro m x hm;rw[h3,Za]at hm;split at hm
          · rw[Zb,QX,Za]at hm;split at hm
            · rw[Zb]at hm;rw[hsz];simp only[World.cell?,hb];rw[show j*sz+o+m=j*sz+(o+m)by omega];simpa using hm
            · cases hm
          · cases hm
    · -- the slice that an element owns
      rename_i ty sz oo t2 sz2 xs hk;cases hg:(o.beq oo&&i.cells.beq 1&& !i.agg)with
      | false=>rw[hg]at h;exact h.elim
      | true=>
        rw[hg]at h;simp only[Zr,Bool.not_eq_true']at hg;obtain⟨⟨ho,hc1⟩,hag⟩:=hg;have ho:=Zg ho;have hc1:=Zg hc1;obtain⟨ys,hld,hK⟩:=h;obtain⟨el,hel⟩:=HD hld;obtain⟨vals,hcc,hv⟩:=ha;simp at hv;subst hv;obtain⟨bd,hρ,ok⟩:=hs.blk k _ hk rfl;cases hcc with
        | e hk' hn _=>
          rw[hρ]at hk';cases hk'
          obtain⟨_,hlen,hsz,⟨hsl,_⟩,arr,hb,hsize,hle,hx⟩:=ok;have hj:=(Zd.1 hel).1;obtain⟨β,hβ⟩: ∃β,bd.sub[j]? =some β:=⟨_,Zk (by omega)⟩
          obtain⟨pre,zs,post,us,us',cap,rfl,e2,e3,d1,d2,arr2,d3,d4,d5,d6⟩:=hx j el β hel hβ;subst ho;have hyz:=QDt hel e2 hld;subst hyz;refine fin (cs:=[.q k j ys.length]) (vs:=[.slice (some ⟨β,0,none⟩) ys.length cap]) rfl ?_ (by rw[hc1];rfl) (.q hρ hn hβ d5 .nil) (by rw[hag];exact hK)
          intro m x hm;have hm0:m=0:=by have:=(Zd.1 hm).1;simp at this;exact this
          subst hm0;simp only[List.getElem?_cons_zero,Option.some.injEq]at hm;subst hm;rw[hsz,Yb];simp only[World.cell?,hb];have hu:us.length=o:=by rw[d1.length,e2]
          have h0:(QX arr sz j)[o]? =some (.slice (some ⟨β,0,none⟩) ys.length cap):=by rw[e3,Zc (by omega),hu];simp
          unfold QX at h0;rw[Za]at h0;split at h0
          · rw[Zb]at h0;simpa using h0
          · cases h0
    · exact h.elim
  · -- an element of such a slice
    rename_i k j sz m o;split at h
    · rename_i ty sz1 oo t2 sz2 xs hk;cases hg:sz.beq sz2 with
      | false=>rw[hg]at h;exact h.elim
      | true=>
        rw[hg]at h;have hg:=Zg hg;subst hg;obtain⟨ys,hld,h⟩:=h;obtain⟨el,hel⟩:=HD hld;obtain⟨el2,hel2,hl2⟩:=QDr h;obtain⟨vals,hcc,hv⟩:=ha;simp at hv;subst hv;obtain⟨bd,hρ,ok⟩:=hs.blk k _ hk rfl;cases hcc with
        | @z _ _ _ _ _ _ β _ _ _ hk' hn hβ _=>
          rw[hρ]at hk';cases hk'
          obtain⟨_,hlen,hsz,⟨hsl,_⟩,arr,hb,hsize,hle,hx⟩:=ok;obtain⟨pre,zs,post,us,us',cap,rfl,e2,e3,d1,d2,arr2,d3,d4,d5,d6⟩:=hx j el β hel hβ;have hyz:=QDt hel e2 hld;subst hyz;obtain⟨es,us1,h1,h2,h3,h4⟩:=JM (d6 m el2 hel2) hl2;refine fin rfl ?_ h4 h2.sub0 h1
          intro i0 x hm;rw[h3,Za]at hm;split at hm
          · rw[Zb,QX,Za]at hm;split at hm
            · rw[Zb]at hm;simp only[World.cell?,d3];rw[show m*sz+o+i0=m*sz+(o+i0)by omega];simpa using hm
            · cases hm
          · cases hm
    · exact h.elim
  · exact h.elim

end Go.Eng
namespace Go.Eng
open Go
def orH {α:Type}(o:Option α)(K:α->Prop):Prop:=match o with | some v=>K v | none=>False
def HE:Ch->Bool
 | .v _ | .r .. | .b .. | .s .. | .i .. =>true
 | _=>false
def W7 (H:HP):List Ch->Option (List Ch)
  | []=>some []
  | c::cs=>
    match(match c with
      | .w k o n=>match H k with
        | some (.row _ sz xs)=>some (Ch.s sz ((xs.drop o).take n))
        | _=>none
      | .p .. | .e .. | .y .. | .f .. | .m .. | .yl .. | .q .. | .z .. | .u=>none
      | c=>some c),W7 H cs with
    | some c',some cs'=>some (c'::cs')
    | _,_=>none

def killL (H:HP):List Ch->HP
  | []=>H
  | .w k _ _::cs=>killL (upd H k (some .dead)) cs
  | _::cs=>killL H cs

def stE (xs:List (List Ch))(j o:Nat)(cs:List Ch):Option (List Ch):=
  match xs[j]? with
  | some el=>Wy el o cs
  | none=>none

def QDv (i:TyI)(a v:AV)(H:HP)(K:HP->Prop):Prop:=
 match a,v with
 | .x false [.p k o],.x ag cs=>bif(QV cs).beq i.cells&&(ag==i.agg)then(match H k with
  | some (.box t bs)=>orH (Wy bs o cs) fun bs'=>K (upd H k (some (.box t bs')))
  | _=>False)else False
 | .x false [.e k j o],.x ag cs=>bif(QV cs).beq i.cells&&(ag==i.agg)then orH (W7 H cs) fun cs'=>
  (match killL H cs k with
  | some (.row t sz xs)=>bif o.beq 0&&(QV cs).beq sz then j<xs.length/\K (upd (killL H cs) k (some (.row t sz (xs.set j cs'))))else
    ∃el',stE xs j o cs'=some el'/\K (upd (killL H cs) k (some (.row t sz (xs.set j el'))))
  | _=>False)else False
 | .x false [.z k j sz m o],.x ag cs=>bif(QV cs).beq i.cells&&(ag==i.agg)then orH (W7 H cs) fun cs'=>
  (match killL H cs k with
  | some (.nst t1 sz1 oo t2 sz2 xs)=>bif sz.beq sz2&&o.beq 0&&(QV cs).beq sz2&&oo.beq 1 then
    ∃tv ys,xs[j]? =some [.v tv,.s sz2 ys]/\m<ys.length/\K (upd (killL H cs) k (some (.nst t1 sz1 oo t2 sz2 (xs.set j [.v tv,.s sz2 (ys.set m cs')]))))else False
  | _=>False)else False
 | _,_=>False
variable {P:Program}{w0:World}{M:Ctx}{ρ:Env}{H:HP}{w:World}
theorem Kh {cs new ds:List Ch}{o:Nat}(h:Wy cs o new=some ds){w:World}{O:Nat->Prop}{ρ:Env}{vals us:List Value}(hc:CC w O ρ cs vals)(hn:CC w O ρ new us):
  CC w O ρ ds (vals.take o++us++vals.drop (o+us.length)):=by
 unfold Wy at h;split at h
 ·rename_i a b h1 h2;simp at h;subst h;rw[hn.length,Zl];exact(hc.take h1).append (hn.append (hc.drop h2))
 ·cases h
theorem QGk {cs ds:List Ch}{n:Nat}(h:Ji cs n=some ds):n<=QV cs:=by
 fun_induction Ji cs n generalizing ds with
 | case1=>omega
 | case2=>simp at h
 | case3=>simp[QV,Ch.len];omega
 | case4=>simp[QV,Ch.len];omega
 | case5 cs q n k ih=>have:=ih h;simp[QV,Ch.len];omega
 | case6 c cs k hne ih=>
  have:=ih h;have hc:c.len=1:=by cases c<;>first | rfl | exact absurd rfl (hne _ _)
  simp[QV,hc];omega
theorem HF {cs new ds:List Ch}{o:Nat}(h:Wy cs o new=some ds):o+QV new<=QV cs:=by
 unfold Wy at h;split at h
 ·rename_i a b h1 h2;exact QGk h2
 ·cases h
theorem Jb {w:World}{b t:Nat}{arr arr':Array Value}{fr:Nat×Nat}(h:w.heap[b]? =some (.cells arr t fr)):
    (w.setRow b arr').heap[b]? =some (.cells arr' t fr)/\(∀j,j≠b->(w.setRow b arr').heap[j]? =w.heap[j]?)/\(w.setRow b arr').heap.size=w.heap.size:=by
  have hlt:b<w.heap.size:=(Zi.1 h).1;refine⟨?_,?_,?_⟩
  · simp[World.setRow,Array.getElem?_modify,h]
  · intro j hj;simp only[World.setRow,Array.getElem?_modify];rw[if_neg (fun e=>hj e.symm)]
  · simp[World.setRow]

theorem HS.storeBox (hs:HS w0 M ρ H w){k o:Nat}{t:Nat}{bs cs bs':List Ch}(hk:H k=some (.box t bs)){bd:Xk}(hρ:ρ k=some bd)(hset:Wy bs o cs=some bs'){us:List Value}(hc:CC w (ow M ρ H) ρ cs us):
  ∃arr:Array Value,w.heap[bd.blk]? =some (.cells arr t (0,0))/\o+us.length<=arr.size/\
   HS w0 M ρ (upd H k (some (.box t bs'))) (w.setRow bd.blk (arr.toList.take o++us++arr.toList.drop (o+us.length)).toArray)/\
   Ext ρ H w ρ (upd H k (some (.box t bs'))) (w.setRow bd.blk (arr.toList.take o++us++arr.toList.drop (o+us.length)).toArray):=by
 obtain⟨bd',hρ',ok⟩:=hs.blk k _ hk rfl;rw[hρ]at hρ';cases hρ'
 obtain⟨hn,vals,hb,hcs⟩:=ok;have hlen:=HF hset;refine⟨vals.toArray,hb,by rw[hc.length];simpa [hcs.length]using hlen,?_⟩;obtain⟨e1,e2,e3⟩:=Jb (arr':=(vals.toArray.toList.take o++us++vals.toArray.toList.drop (o+us.length)).toArray) hb;refine hs.write hk rfl rfl hρ hn e2 e3 rfl rfl rfl fun hx=>⟨hn,_,e1,hx.cc ?_⟩;simpa using Kh hset hcs hc
def Y7:List Ch->List Nat
  | []=>[]
  | .w k _ _::cs=>k::Y7 cs
  | _::cs=>Y7 cs

theorem W8 {arr:Array Value}{cap sz i:Nat}(hs:arr.size=cap*sz)(hi:i<cap):(QX arr sz i).length=sz:=by
 simp only[QX,Zn,Zq,Zt,hs];have:(i+1)*sz<=cap*sz:=Ze _ hi;rw[Zj]at this;omega
theorem QFo (hs:HS w0 M ρ H w){k o n t sz:Nat}{xs:List (List Ch)}(hk:H k=some (.row t sz xs)){v:Value}(hc:CC w (ow M ρ H) ρ [.w k o n] [v]){O':Nat->Prop}(hO: ∀b,O' b->ow M ρ H b)
    (hf: ∀bd,ρ k=some bd->bd.isNil=false-> ¬O' bd.blk):CC w O' (fun _=>none) [.s sz ((xs.drop o).take n)] [v]:=by
  obtain⟨bd,hρ,hlen,hsz,ok⟩:=hs.blk k _ hk rfl;cases hc with
  | @w _ _ _ _ cap _ _ _ hk' hn hl hcn hcap _=>
    rw[hρ]at hk';cases hk'
    rcases ok with⟨hnil,_⟩ | ⟨_,arr,hb,hsize,hle,hx⟩
    · rw[hn]at hnil;cases hnil
    · have hlt:bd.blk<w.heap.size:=(Zi.1 hb).1;have hln:((xs.drop o).take n).length=n:=by simp;omega
      have key:=CC.s (ρ:=fun _=>none) (w:=w) (O:=O') (sz:=sz) (b:=bd.blk) (o:=o*sz) (cap:=cap) (xs:=(xs.drop o).take n) (f:=fun i=>QX arr sz (o+i)) (cs:=[]) (vs:=[]) ?_ ?_ (by omega) .nil
      · rw[hln]at key;rw[hsz];exact key
      · refine⟨hlt,hf _ hρ hn,fun i x hi=> ?_⟩;have hi':o+i<bd.cap:=by
          have:=(Zd.1 hi).1;simp at this;omega
        have hel:=W8 hsize hi';refine⟨hel,fun j hj=> ?_⟩;simp only[World.cell?,hb,QX];rw[Za,if_pos hj,Zb];rw[show o*sz+i*sz+j=(o+i)*sz+j by rw[Zj]];simp
      · intro i x hi;have hi2:xs[o+i]? =some x:=by
          rw[Za]at hi;split at hi
          · rwa [Zb]at hi
          · cases hi
        exact(hx (o+i) x hi2).mono (.refl _ _) (fun b _ h=>hO b h) (fun _ _ h=>h)
  | w0=>
    rw[show((xs.drop 0).take 0)=[]by simp];exact .s0 .nil
  | w00=>
    rw[List.take_zero];exact .s00 .nil

theorem NestOK.cc {w:World}{O O':Nat->Prop}{t2 sz2 o β:Nat}{x:List Ch}{vs:List Value}(h:NestOK w O t2 sz2 o β x vs)(hO: ∀b,O' b->O b)(hβ: ¬O' β):CC w O' (fun _=>none) x vs:=by
  obtain⟨pre,ys,post,us,us',cap,rfl,_,rfl,h1,h2,arr,h3,⟨cp,h4,hcp⟩,h5,h6⟩:=h;have up: ∀{cs:List Ch} {vs:List Value},CC w O (fun _=>none) cs vs->CC w O' (fun _=>none) cs vs:=fun h=>h.mono (.refl _ _) (fun b _ h=>hO b h) (fun _ _ h=>h);refine(up h1).append ?_
  refine CC.s (b:=β) (o:=0) (cap:=cap) (f:=fun j=>QX arr sz2 j) ⟨(Zi.1 h3).1,hβ,fun i y hy=> ?_⟩ (fun i y hy=>up (h6 i y hy)) h5 (up h2);have hi:=(Zd.1 hy).1;refine⟨W8 h4 (by omega),fun j hj=> ?_⟩;simp only[World.cell?,h3,QX];rw[Za,if_pos hj,Zb];rw[show 0+i*sz2+j=i*sz2+j by omega];simp
theorem QFp (hs:HS w0 M ρ H w){k o n t sz oo t2 sz2:Nat}{xs:List (List Ch)}(hk:H k=some (.nst t sz oo t2 sz2 xs)){v:Value}(hc:CC w (ow M ρ H) ρ [.w k o n] [v]){O':Nat->Prop}(hO: ∀b,O' b->ow M ρ H b)
    (hf: ∀bd,ρ k=some bd->bd.isNil=false-> ∀b,XS bd (H k) b-> ¬O' b):CC w O' (fun _=>none) [.s sz ((xs.drop o).take n)] [v]:=by
  obtain⟨bd,hρ,hn0,hlen,hsz,⟨hsl,_⟩,arr,hb,hsize,hle,hx⟩:=hs.blk k _ hk rfl;cases hc with
  | @w _ _ _ _ cap _ _ _ hk' hn hl hcn hcap _=>
    rw[hρ]at hk';cases hk'
    have hlt:bd.blk<w.heap.size:=(Zi.1 hb).1;have hln:((xs.drop o).take n).length=n:=by simp;omega
    have key:=CC.s (ρ:=fun _=>none) (w:=w) (O:=O') (sz:=sz) (b:=bd.blk) (o:=o*sz) (cap:=cap) (xs:=(xs.drop o).take n) (f:=fun i=>QX arr sz (o+i)) (cs:=[]) (vs:=[]) ?_ ?_ (by omega) .nil
    · rw[hln]at key;rw[hsz];exact key
    · refine⟨hlt,hf _ hρ hn _ Qs,fun i x hi=> ?_⟩;have hi':o+i<bd.cap:=by
        have:=(Zd.1 hi).1;simp at this;omega
      have hel:=W8 hsize hi';refine⟨hel,fun j hj=> ?_⟩;simp only[World.cell?,hb,QX];rw[Za,if_pos hj,Zb];rw[show o*sz+i*sz+j=(o+i)*sz+j by rw[Zj]];simp
    · intro i x hi;have hi2:xs[o+i]? =some x:=by
        rw[Za]at hi;split at hi
        · rwa [Zb]at hi
        · cases hi
      have hj:=(Zd.1 hi2).1;obtain⟨β,hβ⟩: ∃β,bd.sub[o+i]? =some β:=⟨_,Zk (by omega)⟩
      exact(hx (o+i) x β hi2 hβ).cc hO (hf _ hρ hn β (by rw[hk];exact .inr (Zs hβ)))
  | w0=>
    rw[show((xs.drop 0).take 0)=[]by simp];exact .s0 .nil
  | w00=>
    rw[List.take_zero];exact .s00 .nil

theorem HG (hs:HS w0 M ρ H w){O':Nat->Prop}(hO: ∀b,O' b->ow M ρ H b): ∀{cs ds:List Ch} {vs:List Value},CC w (ow M ρ H) ρ cs vs->W7 H cs=some ds->
  (∀k∈Y7 cs,∀bd,ρ k=some bd->bd.isNil=false-> ¬O' bd.blk)->CC w O' (fun _=>none) ds vs:=by
 have mono0: ∀{cs:List Ch} {vs:List Value},CC w (ow M ρ H) (fun _=>none) cs vs->CC w O' (fun _=>none) cs vs:=fun h=>h.mono (.refl _ _) (fun b _ h=>hO b h) (fun _ _ h=>h);intro cs;induction cs with
 | nil=>intro ds vs h hi _;cases h;simp[W7]at hi;subst hi;exact .nil
 | cons c cs ih=>
  intro ds vs h hi hf;simp only[W7]at hi;split at hi
  ·rename_i c' cs' h1 h2;simp at hi;subst hi;cases c with
   | w k o n=>
    simp only at h1;split at h1
    ·rename_i t sz xs hk;simp at h1;subst h1;obtain⟨us,rest,rfl,hl,hc1,hc2⟩:=h.cons;match us,hl with
     | [v],_=>
      have hA:=QFo hs hk hc1 hO (hf k (by simp[Y7]));exact hA.append (ih hc2 h2 (fun k' hk'=>hf k' (by simp[Y7,hk'])))
    ·cases h1
   | p=>cases h1
   | e=>cases h1
   | q=>cases h1
   | z=>cases h1
   | y=>cases h1
   | f=>cases h1
   | m=>cases h1
   | yl=>cases h1
   | u=>cases h1
   | i t ag ics=>simp at h1;subst h1;cases h with | i hx hv h=>exact .i (mono0 hx) hv (ih h h2 (fun k hk=>hf k (by simpa [Y7]using hk)))
   | v x=>simp at h1;subst h1;cases h with | v a h=>exact .v a (ih h h2 (fun k hk=>hf k (by simpa [Y7]using hk)))
   | r q n=>simp at h1;subst h1;cases h with | r a h=>exact .r a (ih h h2 (fun k hk=>hf k (by simpa [Y7]using hk)))
   | b m n=>simp at h1;subst h1;cases h with | b a h=>exact .b a (ih h h2 (fun k hk=>hf k (by simpa [Y7]using hk)))
   | s sz xs=>
    simp at h1;subst h1;cases h with
    | s00 h=>exact .s00 (ih h h2 (fun k hk=>hf k (by simpa [Y7]using hk)))
    | s0 h=>exact .s0 (ih h h2 (fun k hk=>hf k (by simpa [Y7]using hk)))
    | s hr hx hcap h=>exact .s (hr.mono (.refl _ _) (fun b _ h=>hO b h)) (fun i x hi=>mono0 (hx i x hi)) hcap (ih h h2 (fun k hk=>hf k (by simpa [Y7]using hk)))
  ·cases hi
theorem WZ (cs:List Ch): ∀(H:HP) (k:Nat),killL H cs k=if k∈Y7 cs then some .dead else H k:=by
 induction cs with
 | nil=>intro H k;simp[killL,Y7]
 | cons c cs ih=>
  intro H k;cases c with
  | w k' o n=>
   simp only[killL,Y7,Zz];rw[ih];by_cases h:k∈Y7 cs
   ·simp[h]
   ·by_cases e:k=k'
    ·subst e;simp[h,QI]
    ·simp[h,e,QR _ _ e]
  | _=>simp only[killL,Y7];exact ih H k
theorem HS.killL (hs:HS w0 M ρ H w): ∀{cs:List Ch},(∀k∈Y7 cs,∃b,H k=some b)->HS w0 M ρ (Eng.killL H cs) w/\Ext ρ H w ρ (Eng.killL H cs) w:=by
 intro cs;induction cs generalizing H with
 | nil=>exact fun _=>⟨hs,.refl _ _ _⟩
 | cons c cs ih=>
  intro hk;cases c with
  | w k o n=>
   obtain⟨b,hb⟩:=hk k (by simp[Y7]);obtain⟨h1,h2⟩:=hs.kill hb
   have:=ih h1 (fun k' hk'=>by
    by_cases e:k'=k
    ·subst e;exact⟨_,QI _ _ _⟩
    ·rw[QR _ _ e];exact hk k' (by simp[Y7,hk']))
   exact⟨this.1,h2.trans this.2⟩
  | _=>exact ih hs (fun k' hk'=>hk k' (by simpa [Y7]using hk'))
theorem Jy {cs ds:List Ch}(h:W7 H cs=some ds): ∀k∈Y7 cs,∃t sz xs,H k=some (.row t sz xs):=by
 induction cs generalizing ds with
 | nil=>simp[Y7]
 | cons c cs ih=>
  simp only[W7]at h;split at h
  ·rename_i c' cs' h1 h2;cases c with
   | w k o n=>
    simp only at h1;split at h1
    ·rename_i t sz xs hk;intro k' hk';simp only[Y7,Zz]at hk';rcases hk' with rfl | hk'
     ·exact⟨t,sz,xs,hk⟩
     ·exact ih h2 k' hk'
    ·cases h1
   | _=>exact fun k' hk'=>ih h2 k' (by simpa [Y7]using hk')
  ·cases h
theorem QAC (hs:HS w0 M ρ H w){cs ds:List Ch}{vs:List Value}(hc:CC w (ow M ρ H) ρ cs vs)(hi:W7 H cs=some ds):CC w (ow M ρ (Eng.killL H cs)) (fun _=>none) ds vs:=by
  have hr:=Jy hi;obtain⟨h1,h2⟩:=hs.killL (cs:=cs) (fun k hk=>let ⟨t,sz,xs,e⟩:=hr k hk;⟨_,e⟩);have hown: ∀b,ow M ρ (Eng.killL H cs) b->ow M ρ H b:=by
    rintro b (hb | ⟨k,bd,a1,a2,a3,a4⟩)
    · exact .inl hb
    · rw[WZ]at a4;split at a4
      · cases a4
      · rename_i hne;rw[WZ,if_neg hne]at a3;exact .inr ⟨k,bd,a1,a2,a3,a4⟩
  refine HG hs hown hc hi fun k hk bd hρ hn hb=> ?_
  obtain⟨t,sz,xs,e⟩:=hr k hk;rcases hb with hb | ⟨k',bd',a1,a2,a3,a4⟩
  · exact hs.nx hρ hn (by rw[e];rfl) hb
  · rw[WZ]at a4;split at a4
    · cases a4
    · rename_i hne;rw[WZ,if_neg hne]at a3;have:=hs.dist k' k bd' bd a1 hρ a2 hn a4 (by rw[e];rfl) _ a3 Qs;subst this;exact hne hk

theorem HH {arr:Array Value}{cap sz j o:Nat}{us:List Value}(hs:arr.size=cap*sz)(hj:j<cap)(ho:o+us.length<=sz)(i:Nat):
  QX ((arr.toList.take (j*sz+o)++us++arr.toList.drop (j*sz+o+us.length)).toArray) sz i=
   if i=j then(QX arr sz j).take o++us++(QX arr sz j).drop (o+us.length)else QX arr sz i:=by
 have hjl:j*sz+sz<=arr.size:=by
  have:(j+1)*sz<=cap*sz:=Ze _ hj;rw[Zj,Zu]at this;omega
 have hal:arr.toList.length=arr.size:=by simp
 apply Zx;intro m;simp only[QX];rw[Za];by_cases hm:m<sz
 ·rw[if_pos hm,Zb];by_cases hij:i=j
  ·subst hij;rw[if_pos rfl];by_cases h1:m<o
   ·rw[Zl,Zf (by simp;omega),Zl,Zf (by simp;omega)];simp only[Za];rw[if_pos (by omega),if_pos (by omega),if_pos (by omega),Zb]
   ·by_cases h2:m<o+us.length
    ·rw[Zl,Zc (by simp;omega),Zf (by simp;omega)];rw[Zl,Zc (by simp;omega),Zf (by simp;omega)];congr 1;simp;omega
    ·rw[Zl,Zc (by simp;omega),Zc (by simp;omega)];rw[Zl,Zc (by simp;omega),Zc (by simp;omega)];simp only[Zb,Za,Zn,Zq,hal];rw[if_pos (by omega)];congr 1;omega
  ·rw[if_neg hij,Za,if_pos hm,Zb];by_cases hlt:i<j
   ·have:i*sz+sz<=j*sz:=by
     have:(i+1)*sz<=j*sz:=Ze _ hlt;rw[Zj,Zu]at this;omega
    rw[Zl,Zf (by simp;omega),Za,if_pos (by omega)]
   ·have:j*sz+sz<=i*sz:=by
     have:(j+1)*sz<=i*sz:=Ze _ (by omega);rw[Zj,Zu]at this;omega
    rw[Zl,Zc (by simp;omega),Zc (by simp;omega),Zb];congr 1;simp only[Zn,hal];omega
 ·rw[if_neg hm];split
  ·rename_i e;subst e;symm;rw[List.getElem?_eq_none];simp only[Zo,Zn,Zq];omega
  ·rw[Za,if_neg hm]
theorem HS.storeRow (hs:HS w0 M ρ H w){k j o t sz:Nat}{xs:List (List Ch)}{el cs el':List Ch}(hk:H k=some (.row t sz xs)){bd:Xk}(hρ:ρ k=some bd)(hn:bd.isNil=false)(hel:xs[j]? =some el)
  (hset:Wy el o cs=some el') {us:List Value} (hc:CC w (ow M ρ H) (fun _=>none) cs us):
  ∃arr:Array Value,w.heap[bd.blk]? =some (.cells arr t (0,0))/\bd.sz=sz/\j*sz+o+us.length<=arr.size/\
   HS w0 M ρ (upd H k (some (.row t sz (xs.set j el')))) (w.setRow bd.blk (arr.toList.take (j*sz+o)++us++arr.toList.drop (j*sz+o+us.length)).toArray)/\
   Ext ρ H w ρ (upd H k (some (.row t sz (xs.set j el')))) (w.setRow bd.blk (arr.toList.take (j*sz+o)++us++arr.toList.drop (j*sz+o+us.length)).toArray):=by
 obtain⟨bd',hρ',hlen,hsz,ok⟩:=hs.blk k _ hk rfl;rw[hρ]at hρ';cases hρ'
 rcases ok with⟨hnil,_⟩ | ⟨_,arr,hb,hsize,hle,hx⟩
 ·rw[hn]at hnil;cases hnil
 have hj:j<bd.cap:=by have:=(Zd.1 hel).1;omega
 have hxj:=hx j el hel;have hsl:=HF hset;rw[<-hc.length,<-hxj.length,W8 hsize hj]at hsl;have hjl:j*sz+sz<=arr.size:=by
  have:(j+1)*sz<=bd.cap*sz:=Ze _ hj;rw[Zj,Zu]at this;omega
 refine⟨arr,hb,hsz,by omega,?_⟩;obtain⟨e1,e2,e3⟩:=Jb (arr':=(arr.toList.take (j*sz+o)++us++arr.toList.drop (j*sz+o+us.length)).toArray) hb;refine hs.write hk rfl rfl hρ hn e2 e3 rfl rfl rfl fun hx'=>⟨by simpa using hlen,hsz,.inr ⟨hn,_,e1,?_,by simpa using hle,?_⟩⟩
 ·simp;omega
 ·intro i x hi;rw[HH hsize hj hsl];rw[Zy]at hi;split at hi
  ·rename_i e;subst e;split at hi
   ·simp at hi;subst hi;rw[if_pos rfl];exact hx'.cc0 (Kh hset hxj hc)
   ·cases hi
  ·rename_i e;rw[if_neg (fun h=>e h.symm)];exact hx'.cc0 (hx i x hi)
theorem QDw (cs:List Ch):Ji cs (QV cs)=some []:=by
 induction cs with
 | nil=>rfl
 | cons c cs ih=>
  cases c with
  | r q n=>rw[show QV (.r q n::cs)=QV cs+2+1 by simp[QV,Ch.len];omega];exact ih
  | v x=>rw[show QV (.v x::cs)=QV cs+1 by simp[QV,Ch.len];omega];exact ih
  | b m n=>rw[show QV (.b m n::cs)=QV cs+1 by simp[QV,Ch.len];omega];exact ih
  | s sz xs=>rw[show QV (.s sz xs::cs)=QV cs+1 by simp[QV,Ch.len];omega];exact ih
  | p k o=>rw[show QV (.p k o::cs)=QV cs+1 by simp[QV,Ch.len];omega];exact ih
  | w k o n=>rw[show QV (.w k o n::cs)=QV cs+1 by simp[QV,Ch.len];omega];exact ih
  | e k i o=>rw[show QV (.e k i o::cs)=QV cs+1 by simp[QV,Ch.len];omega];exact ih
  | y sz xs i o=>rw[show QV (.y sz xs i o::cs)=QV cs+1 by simp[QV,Ch.len];omega];exact ih
  | f fid ks=>rw[show QV (.f fid ks::cs)=QV cs+1 by simp[QV,Ch.len];omega];exact ih
  | i t ag ics=>rw[show QV (.i t ag ics::cs)=QV cs+1 by simp[QV,Ch.len];omega];exact ih
  | m k=>rw[show QV (.m k::cs)=QV cs+1 by simp[QV,Ch.len];omega];exact ih
  | yl k=>rw[show QV (.yl k::cs)=QV cs+1 by simp[QV,Ch.len];omega];exact ih
  | q k i n=>rw[show QV (.q k i n::cs)=QV cs+1 by simp[QV,Ch.len];omega];exact ih
  | z k i sz j o=>rw[show QV (.z k i sz j o::cs)=QV cs+1 by simp[QV,Ch.len];omega];exact ih
  | u=>rw[show QV (.u::cs)=QV cs+1 by simp[QV,Ch.len];omega];exact ih
theorem HI {el cs:List Ch}(h:QV cs=QV el):Wy el 0 cs=some cs:=by
  unfold Wy;have h1:Jj el 0=some []:=by cases el<;>rfl
  rw[h1,Nat.zero_add,h,QDw];simp

theorem QCF {H:HP}: ∀{cs ds:List Ch},W7 H cs=some ds->QV ds=QV cs:=by
 intro cs;induction cs with
 | nil=>intro ds h;simp[W7]at h;subst h;rfl
 | cons c cs ih=>
  intro ds h;simp only[W7]at h;split at h
  ·rename_i c' cs' h1 h2;simp at h;subst h;have:=ih h2;have hc:c'.len=c.len:=by
    cases c<;>simp at h1<;>first | (subst h1;rfl) | skip
    split at h1
    ·simp at h1;subst h1;rfl
    ·cases h1
   simp only[QV,this,hc]
  ·cases h
theorem QGl {l:List Nat}(h:l.Nodup){i j a:Nat}(hi:l[i]? =some a)(hj:l[j]? =some a):i=j:=by
 obtain⟨li,ei⟩:=Zd.1 hi;obtain⟨lj,ej⟩:=Zd.1 hj;have hp:=List.pairwise_iff_getElem.1 h;rcases Nat.lt_trichotomy i j with k | k | k
 ·exact absurd (ei.trans ej.symm) (hp i j li lj k)
 ·exact k
 ·exact absurd (ej.trans ei.symm) (hp j i lj li k)
theorem HS.storeNst (hs:HS w0 M ρ H w){k j m t1 sz1 t2 sz2 β:Nat}{xs:List (List Ch)}{tv:Value}{ys:List (List Ch)}{cs:List Ch}(hk:H k=some (.nst t1 sz1 1 t2 sz2 xs)){bd:Xk}(hρ:ρ k=some bd)(hn:bd.isNil=false)(hβ:bd.sub[j]? =some β)(hel:xs[j]? =some [.v tv,.s sz2 ys])(hm:m<ys.length)
    (hlen:QV cs=sz2) {us:List Value} (hc:CC w (ow M ρ H) (fun _=>none) cs us):
    ∃arr:Array Value,w.heap[β]? =some (.cells arr t2 (0,0))/\m*sz2+0+us.length<=arr.size/\
      HS w0 M ρ (upd H k (some (.nst t1 sz1 1 t2 sz2 (xs.set j [.v tv,.s sz2 (ys.set m cs)])))) (w.setRow β (arr.toList.take (m*sz2+0)++us++arr.toList.drop (m*sz2+0+us.length)).toArray)/\
      Ext ρ H w ρ (upd H k (some (.nst t1 sz1 1 t2 sz2 (xs.set j [.v tv,.s sz2 (ys.set m cs)])))) (w.setRow β (arr.toList.take (m*sz2+0)++us++arr.toList.drop (m*sz2+0+us.length)).toArray):=by
  obtain⟨bd',hρ',_,hbl,hbs,⟨hsl,hnd,hnb⟩,arr0,hb0,hsize0,hle0,hx⟩:=hs.blk k _ hk rfl;rw[hρ]at hρ';cases hρ'
  obtain⟨pre,zs,post,us0,us0',cap,e1,e2,e3,d1,d2,arr,d3,⟨cp,d4,hcp⟩,d5,d6⟩:=hx j _ β hel hβ;obtain⟨rfl,rfl,rfl⟩:pre=[.v tv]/\zs=ys/\post=[]:=by
    match pre,e1 with
    | [],e1=>cases e1
    | [c],e1=>cases e1;exact⟨rfl,rfl,rfl⟩
    | c::c'::cs,e1=>simp at e1
  have hmc:m<cp:=by omega
  have hul:us.length=sz2:=by rw[hc.length,hlen]
  have hml:m*sz2+sz2<=arr.size:=by
    have:(m+1)*sz2<=cp*sz2:=Ze _ hmc;rw[Zj,Zu]at this;omega
  refine⟨arr,d3,by omega,?_⟩;obtain⟨f1,f2,f3⟩:=Jb (arr':=(arr.toList.take (m*sz2+0)++us++arr.toList.drop (m*sz2+0+us.length)).toArray) d3;have hβm:β∈bd.sub:=Zs hβ;have hbne:bd.blk≠β:=fun e=>hnb (e▸hβm);refine hs.writeN hk rfl rfl hρ hn (fun _ h=>h) (fun i hi=>f2 i fun e=>hi (.inr (e▸hβm))) f3 rfl rfl rfl fun hx'=>⟨hn,by simpa using hbl,hbs,⟨by simpa using hsl,hnd,hnb⟩,arr0,by rw[f2 _ hbne];exact hb0,hsize0,by simpa using hle0,fun i x γ hi hγ=> ?_⟩;rw[Zy]at hi;split at hi
  · rename_i e;subst e;split at hi
    · simp at hi;subst hi;rw[hβ]at hγ;cases hγ
      refine⟨[.v tv],zs.set m cs,[],us0,us0',cap,rfl,e2,by rw[e3,List.length_set],hx'.cc0 d1,hx'.cc0 d2,_,f1,⟨cp,by simp;omega,hcp⟩,by simpa using d5,fun i y hy=> ?_⟩;rw[HH d4 hmc (by omega)];rw[Zy]at hy;split at hy
      · rename_i e;subst e;have hy:cs=y:=by simpa [hm]using hy
        subst hy;rw[if_pos rfl];have hy2:zs[m]? =some zs[m]:=Zk hm
        have h1:=d6 m _ hy2;have hl2:QV zs[m]=sz2:=by
          rw[<-h1.length];simp only[QX,Zn,Zq,Zt];omega
        exact hx'.cc0 (Kh (HI (by rw[hlen,hl2])) h1 hc)
      · rename_i e;rw[if_neg (fun h=>e h.symm)];exact hx'.cc0 (d6 i y hy)
    · cases hi
  · rename_i e;have hne:γ≠β:=fun he=>by
      subst he;exact e (QGl hnd hβ hγ)
    exact(hx i x γ hi hγ).mono hx'.ow.1 hx'.ow.2 (f2 γ hne)

theorem QAs {t:Nat}{i:TyI}(ht:Xr P t i)(hs:HS w0 M ρ H w){a v:AV}{va vv:Value}(ha:ConcV w (ow M ρ H) ρ a va)(hv:ConcV w (ow M ρ H) ρ v vv){K:HP->Prop}(h:QDv i a v H K):
    ∃w' H',(Instr.storeAt t va vv).run P w= .ok () w'/\HS w0 M ρ H' w'/\Ext ρ H w ρ H' w'/\K H':=by
  unfold QDv at h;split at h
  · rename_i k o ag cs;cases hg:((QV cs).beq i.cells&&(ag==i.agg))with
    | false=>rw[hg]at h;exact h.elim
    | true=>
      rw[hg]at h;simp only[Zr]at hg;simp only[R7]at h;split at h
      · rename_i t' bs hk;unfold orH at h;split at h
        · rename_i bs' hset;obtain⟨vals,hcc,hv1⟩:=ha;simp at hv1;subst hv1;cases hcc with
          | @p _ _ _ bd _ _ hρ hn _=>
            obtain⟨us,hcu,hcells,_⟩:=hv.cells;obtain⟨arr,hb,hle,h1,h2⟩:=hs.storeBox hk hρ hset hcu;refine⟨_,_,?_,h1,h2,h⟩;simp only[Instr.storeAt,Instr.sureAddr,Sem.run_bind,Sem.run_pure,Result.andThen_ok];exact Jk ht hb hcells (by rw[hcu.length];exact Zg hg.1) hle hcu.one
        · exact h.elim
      · exact h.elim
  · rename_i k j o ag cs;cases hg:((QV cs).beq i.cells&&(ag==i.agg))with
    | false=>rw[hg]at h;exact h.elim
    | true=>
      rw[hg]at h;simp only[Zr]at hg;simp only[R7]at h;unfold orH at h;split at h
      · rename_i cs' hi;split at h
        · rename_i t' sz xs hk;have part: ∀{el el':List Ch},xs[j]? =some el->Wy el o cs'=some el'->K (upd (Eng.killL H cs) k (some (.row t' sz (xs.set j el'))))->
              ∃w' H',(Instr.storeAt t va vv).run P w= .ok () w'/\HS w0 M ρ H' w'/\Ext ρ H w ρ H' w'/\K H':=by
            intro el el' hel hset h;obtain⟨vals,hcc,hv1⟩:=ha;simp at hv1;subst hv1;cases hcc with
            | @e _ _ _ _ bd _ _ hρ hn _=>
              obtain⟨us,hcu,hcells,_⟩:=hv.cells;have hr:=Jy hi;obtain⟨hs1,hx1⟩:=hs.killL (cs:=cs) (fun k hk=>let ⟨t,sz,xs,e⟩:=hr k hk;⟨_,e⟩);obtain⟨arr,hb,hsz,hle,h1,h2⟩:=hs1.storeRow hk hρ hn hel hset (QAC hs hcu hi);refine⟨_,_,?_,h1,hx1.trans h2,h⟩;simp only[Instr.storeAt,Instr.sureAddr,Sem.run_bind,Sem.run_pure,Result.andThen_ok];rw[hsz];exact Jk ht hb hcells (by rw[hcu.length];exact Zg hg.1) hle hcu.one
          cases hfull:(o.beq 0&&(QV cs).beq sz)with
          | true=>
            rw[hfull]at h;simp only[Zr]at hfull;obtain⟨hj,h⟩:=h;have ho:=Zg hfull.1;have hl:=Zg hfull.2;have hel:xs[j]? =some xs[j]:=Zk hj
            refine part hel ?_ h
            -- the whole element
            have hs1:=(hs.killL (cs:=cs) (fun k hk=>let ⟨t,sz,xs,e⟩:=Jy hi k hk;⟨_,e⟩)).1;have hlen:QV xs[j]=sz:=by
              obtain⟨vals,hcc,hv1⟩:=ha;simp at hv1;subst hv1;cases hcc with
              | @e _ _ _ _ bd _ _ hρ hn _=>
                obtain⟨bd',hρ',_,_,⟨hnil,_⟩ | ⟨_,arr,_,hsize,hle,hx⟩⟩:=hs1.blk k _ hk rfl
                · rw[hρ]at hρ';cases hρ';rw[hn]at hnil;cases hnil
                · have:=(hx j _ hel).length;rw[<-this];have h1:(j+1)*sz<=bd'.cap*sz:=Ze _ (by omega);rw[Zj,Zu]at h1;simp only[QX,Zn,Zq,Zt];omega
            rw[ho];exact HI (by rw[QCF hi,hl,hlen])
          | false=>
            rw[hfull]at h;obtain⟨el',hst,h⟩:=h;unfold stE at hst;split at hst
            · rename_i el hel;exact part hel hst h
            · cases hst
        · exact h.elim
      · exact h.elim
  · rename_i k j sz m o ag cs;cases hg:((QV cs).beq i.cells&&(ag==i.agg))with
    | false=>rw[hg]at h;exact h.elim
    | true=>
      rw[hg]at h;simp only[Zr]at hg;simp only[R7]at h;unfold orH at h;split at h
      · rename_i cs' hi;split at h
        · rename_i t1 sz1 oo t2 sz2 xs hk;cases hb:(sz.beq sz2&&o.beq 0&&(QV cs).beq sz2&&oo.beq 1)with
          | false=>rw[hb]at h;exact h.elim
          | true=>
            rw[hb]at h;simp only[Zr]at hb;obtain⟨⟨⟨b1,b2⟩,b3⟩,b4⟩:=hb;have b1:=Zg b1;have b2:=Zg b2;have b3:=Zg b3;have b4:=Zg b4;subst b1 b2 b4;obtain⟨tv,ys,hel,hm,h⟩:=h;obtain⟨vals,hcc,hv1⟩:=ha;simp at hv1;subst hv1;cases hcc with
            | @z _ _ _ _ _ _ β bd _ _ hρ hn hβ _=>
              obtain⟨us,hcu,hcells,_⟩:=hv.cells;have hr:=Jy hi;obtain⟨hs1,hx1⟩:=hs.killL (cs:=cs) (fun k hk=>let ⟨t,sz,xs,e⟩:=hr k hk;⟨_,e⟩);obtain⟨arr,hb,hle,h1,h2⟩:=hs1.storeNst hk hρ hn hβ hel hm (by rw[QCF hi,b3]) (QAC hs hcu hi);refine⟨_,_,?_,h1,hx1.trans h2,h⟩;simp only[Instr.storeAt,Instr.sureAddr,Sem.run_bind,Sem.run_pure,Result.andThen_ok];exact Jk ht hb hcells (by rw[hcu.length];exact Zg hg.1) hle hcu.one
        · exact h.elim
      · exact h.elim
  · exact h.elim

end Go.Eng
namespace Go.Eng
open Go
variable {P:Program}{w0:World}{M:Ctx}{ρ:Env}{H:HP}{w:World}
theorem HS.moveN {w':World}(h:HS w0 M ρ H w){k d:Nat}{bd bd':Xk}{b b':Blk}(hk:H k=some b)(hl:XI (some b)=true)(hd:H d=none)(hρ:ρ k=some bd)(hn:bd.isNil=false)
    (_hbb:bd'.blk=bd.blk) (hsm: ∀j,XS bd' (some b') j->XS bd (some b) j)
    (hother: ∀j,¬XS bd (some b) j->w'.heap[j]? =w.heap[j]?) (hs:w'.heap.size=w.heap.size) (h1:w'.os=w.os) (h2:w'.tape=w.tape) (h3:w'.output=w.output)
    (hok:Ext ρ H w (upd ρ d (some bd')) (upd (upd H k (some .dead)) d (some b')) w'->BlkOK M.lps w' (ow M (upd ρ d (some bd')) (upd (upd H k (some .dead)) d (some b'))) (upd ρ d (some bd')) bd' b'):
    HS w0 M (upd ρ d (some bd')) (upd (upd H k (some .dead)) d (some b')) w'/\Ext ρ H w (upd ρ d (some bd')) (upd (upd H k (some .dead)) d (some b')) w':=by
  have hkd:k≠d:=fun e=>by subst e;rw[hk]at hd;cases hd
  have hρd:ρ d=none:=h.dom d hd;have hown: ∀j,XS bd (some b) j->own ρ H j:=fun j hj=>⟨k,bd,hρ,hn,by rw[hk];exact hj,by rw[hk];exact hl⟩;have hlive: ∀j,j≠d->XI (upd (upd H k (some .dead)) d (some b') j)=true->j≠k/\XI (H j)=true:=fun j hj hlj=>by
    rw[QR _ _ hj]at hlj;by_cases e:j=k
    · subst e;rw[QI]at hlj;cases hlj
    · rw[QR _ _ e]at hlj;exact⟨e,hlj⟩
  have hoth: ∀j,j≠d->j≠k->upd (upd H k (some .dead)) d (some b') j=H j:=fun j h1 h2=>by rw[QR _ _ h1,QR _ _ h2]
  have hx:Ext ρ H w (upd ρ d (some bd')) (upd (upd H k (some .dead)) d (some b')) w':=by
    refine⟨⟨by omega,fun b hb ho=>hother b (fun e=>ho (hown b e))⟩,fun b hb ⟨j,bj,a1,a2,a3,a4⟩=> ?_,fun j bj hj=> ?_,fun j hj=> ?_⟩
    · by_cases e:j=d
      · subst e;rw[QI]at a1 a3;cases a1
        exact hown b (hsm b a3)
      · rw[QR _ _ e]at a1;rw[hoth j e (hlive j e a4).1]at a3;exact⟨j,bj,a1,a2,a3,(hlive j e a4).2⟩
    · rw[QR _ _ (fun e=>by subst e;rw[hρd]at hj;cases hj)];exact hj
    · have e:j≠d:=fun e=>hj (e▸hd);rw[QR _ _ e,QR _ _ e];refine⟨rfl,?_⟩;by_cases e2:j=k
      · subst e2;rw[QI];simp
      · rw[QR _ _ e2];exact hj
  refine⟨⟨h1.trans h.os,h2.trans h.tape,h3.trans h.output,by have:=h.size;omega,h.glob,?_,?_,?_,?_,?_⟩,hx⟩
  · intro j hj hm;rw[hother j (fun e=> ?_)]
    · exact h.old j hj hm
    · rcases(h.rng k bd hρ hn (by rw[hk];exact hl) j (by rw[hk];exact e)).2 with h' | h'
      · omega
      · exact hm h'
  · intro j bj hj hlv;by_cases e:j=d
    · subst e;rw[QI]at hj;cases hj
      exact⟨bd',QI _ _ _,hok hx⟩
    · rw[QR _ _ e]at hj⊢;by_cases e2:j=k
      · subst e2;rw[QI]at hj;cases hj;cases hlv
      · rw[QR _ _ e2]at hj;obtain⟨bd2,e',ok⟩:=h.blk j bj hj hlv;exact⟨bd2,e',ok.ext hx (fun hnn hlj i hi=>hother _ (fun he=>e2 (h.dist j k bd2 bd e' hρ hnn hn (by rw[hj];exact hlj) (by rw[hk];exact hl) i (by rw[hj];exact hi) (by rw[hk];exact he))))⟩
  · intro j hj;by_cases e:j=d
    · subst e;rw[QI]at hj;cases hj
    · rw[QR _ _ e]at hj⊢;by_cases e2:j=k
      · subst e2;rw[QI]at hj;cases hj
      · rw[QR _ _ e2]at hj;exact h.dom j hj
  · intro j bj hj hnj hlj i hi;by_cases e:j=d
    · subst e;rw[QI]at hj hi;cases hj
      have:=h.rng k bd hρ hn (by rw[hk];exact hl) i (by rw[hk];exact hsm i hi);exact⟨by omega,this.2⟩
    · rw[QR _ _ e]at hj;rw[hoth j e (hlive j e hlj).1]at hi;have:=h.rng j bj hj hnj (hlive j e hlj).2 i hi;exact⟨by omega,this.2⟩
  · intro j j' bj bj' hj hj' n1 n2 l1 l2 i hi hi';by_cases e:j=d
    · by_cases e':j'=d
      · omega
      · subst e;rw[QI]at hj hi;cases hj
        rw[QR _ _ e']at hj';have:=hlive j' e' l2;rw[hoth j' e' this.1]at hi';exact absurd (h.dist j' k bj' bd hj' hρ n2 hn this.2 (by rw[hk];exact hl) i hi' (by rw[hk];exact hsm i hi)) this.1
    · by_cases e':j'=d
      · subst e';rw[QI]at hj' hi';cases hj'
        rw[QR _ _ e]at hj;have:=hlive j e l1;rw[hoth j e this.1]at hi;exact absurd (h.dist j k bj bd hj hρ n1 hn this.2 (by rw[hk];exact hl) i hi (by rw[hk];exact hsm i hi')) this.1
      · rw[QR _ _ e]at hj;rw[QR _ _ e']at hj';rw[hoth j e (hlive j e l1).1]at hi;rw[hoth j' e' (hlive j' e' l2).1]at hi';exact h.dist j j' bj bj' hj hj' n1 n2 (hlive j e l1).2 (hlive j' e' l2).2 i hi hi'

theorem HS.move {w':World}(h:HS w0 M ρ H w){k d:Nat}{bd bd':Xk}{b b':Blk}(hk:H k=some b)(hl:XI (some b)=true)(hd:H d=none)(hρ:ρ k=some bd)(hn:bd.isNil=false)
  (hbb:bd'.blk=bd.blk)
  (hother: ∀j,j≠bd.blk->w'.heap[j]? =w.heap[j]?) (hs:w'.heap.size=w.heap.size) (h1:w'.os=w.os) (h2:w'.tape=w.tape) (h3:w'.output=w.output)
  (hok:Ext ρ H w (upd ρ d (some bd')) (upd (upd H k (some .dead)) d (some b')) w'->BlkOK M.lps w' (ow M (upd ρ d (some bd')) (upd (upd H k (some .dead)) d (some b'))) (upd ρ d (some bd')) bd' b') (hp':QAr b'=true:=by rfl):
  HS w0 M (upd ρ d (some bd')) (upd (upd H k (some .dead)) d (some b')) w'/\Ext ρ H w (upd ρ d (some bd')) (upd (upd H k (some .dead)) d (some b')) w':=
 h.moveN hk hl hd hρ hn hbb (fun j hj=>by rw[Xe hp' hj,hbb];exact Qs) (fun j hj=>hother j fun e=>hj (by rw[e];exact Qs)) hs h1 h2 h3 hok
theorem CC.vals {w:World}{O:Nat->Prop}{ρ:Env}: ∀{vs:List Value},vs.all (·.oneCell')=true->CC w O ρ (vs.map Ch.v) vs
 | [],_=> .nil
 | x::xs,h=>by
  simp only[List.all_cons,Zr]at h;exact .v h.1 (CC.vals h.2)
theorem HS.box (hs:HS w0 M ρ H w){d:Nat}(hd:H d=none){t:Nat}{cs:List Ch}{us:List Value}(hc:CC w (ow M ρ H) ρ cs us):
  ∃ρ',HS w0 M ρ' (upd H d (some (.box t cs))) (w.alloc (.cells us.toArray t))/\Ext ρ H w ρ' (upd H d (some (.box t cs))) (w.alloc (.cells us.toArray t))/\
   ConcV (w.alloc (.cells us.toArray t)) (ow M ρ' (upd H d (some (.box t cs)))) ρ' (.x false [.p d 0]) (.pointer (some ⟨w.heap.size,0,none⟩)):=by
 have h:=hs.alloc hd (o:= .cells us.toArray t) (bd:=⟨w.heap.size,0,0,0,false,[]⟩) (b:= .box t cs) (w':=w.alloc (.cells us.toArray t)) rfl rfl rfl rfl rfl
  (fun hx=>⟨rfl,us,heap_alloc_new w _,hx.cc hc⟩)
 exact⟨_,h.1,h.2,[_],.p (QI _ _ _) rfl .nil,rfl⟩
theorem Xq {pre rest:List Value}{sz i:Nat}(n:Nat)(hp:pre.length=n*sz)(hi:i<n):QX (pre++rest).toArray sz i=QX pre.toArray sz i:=by
  have h1:(i+1)*sz<=n*sz:=Ze _ hi;rw[Zj,Zu]at h1;apply Zx;intro m;simp only[QX];rw[Za,Za];split
  · rw[Zb,Zb,Zf (by omega)]
  · rfl

theorem J4 {pre rest:List Value}{sz i:Nat}(n:Nat)(hp:pre.length=n*sz):QX (pre++rest).toArray sz (n+i)=QX rest.toArray sz i:=by
 simp only[QX];rw[Zj,<-hp,<-List.drop_drop,List.drop_left]
theorem VT {pre mid rest:List Value}{sz i:Nat}(n:Nat)(hp:pre.length=n*sz)(hi:i<n):QX (pre++mid++rest).toArray sz i=QX pre.toArray sz i:=by
 rw[Zl];exact Xq n hp hi
theorem Ud {pre mid rest:List Value}{sz i:Nat}(n:Nat)(hp:pre.length=n*sz):QX (pre++mid++rest).toArray sz (n+i)=QX (mid++rest).toArray sz i:=by
 rw[Zl];exact J4 n hp
theorem HS.row (hs:HS w0 M ρ H w){w':World}{d:Nat}(hd:H d=none){t sz cap:Nat}{xs:List (List Ch)}{arr:Array Value}(hsize:arr.size=cap*sz)(hle:xs.length<=cap)
    (hh:w'.heap=w.heap.push (.cells arr t (0,0))) (h1:w'.os=w.os) (h2:w'.tape=w.tape) (h3:w'.output=w.output)
    (hx: ∀i x,xs[i]? =some x->CC w (ow M ρ H) (fun _=>none) x (QX arr sz i)):
    ∃ρ',HS w0 M ρ' (upd H d (some (.row t sz xs))) w'/\Ext ρ H w ρ' (upd H d (some (.row t sz xs))) w'/\
      ∀n,n<=xs.length->ConcV w' (ow M ρ' (upd H d (some (.row t sz xs)))) ρ' (.x false [.w d 0 n]) (.slice (some ⟨w.heap.size,0,none⟩) n cap):=by
  have h:=hs.alloc hd (o:= .cells arr t) (bd:=⟨w.heap.size,cap,xs.length,sz,false,[]⟩) (b:= .row t sz xs) (w':=w') rfl hh h1 h2 h3
    (fun hx'=>⟨rfl,rfl,.inr ⟨rfl,arr,by simp[hh],hsize,hle,fun i x hi=>hx'.cc0 (hx i x hi)⟩⟩)
  refine⟨_,h.1,h.2,fun n hn=>⟨[_],?_,rfl⟩⟩;have:=CC.w (w:=w') (O:=ow M (upd ρ d (some ⟨w.heap.size,cap,xs.length,sz,false,[]⟩)) (upd H d (some (.row t sz xs)))) (k:=d) (o:=0) (n:=n) (cap:=cap) (QI ρ d (some ⟨w.heap.size,cap,xs.length,sz,false,[]⟩)) rfl (by simpa using hn) (by omega) (by simp) .nil;simpa using this

structure Wj (w:World)(v:Value)(sz:Nat)(ys:List (List Ch))(O:Nat->Prop)(news:List Value):Prop where
  len:news.length=ys.length*sz
  one: ∀u∈news,u.oneCell'=true
  el: ∀i x,ys[i]? =some x->CC w O (fun _=>none) x (QX news.toArray sz i)
  cell:(v= .slice none 0 0/\ys=[])∨ ∃b o cap,v= .slice (some ⟨b,o,none⟩) ys.length cap/\WJ w b o news

theorem QAt {w:World}{O:Nat->Prop}{b o sz:Nat}: ∀{ys:List (List Ch)} {f:Nat->List Value},WX w O b o sz ys f->(∀i x,ys[i]? =some x->CC w O (fun _=>none) x (f i))->
  ∃news:List Value,news.length=ys.length*sz/\(∀u∈news,u.oneCell'=true)/\(∀i x,ys[i]? =some x->CC w O (fun _=>none) x (QX news.toArray sz i))/\WJ w b o news:=by
 intro ys;induction ys generalizing o with
 | nil=>intro f _ _;exact⟨[],by simp,by simp,by simp,fun j v h=>by simp at h⟩
 | cons y ys ih=>
  intro f hr hx;obtain⟨hl,hc⟩:=hr.cell 0 y rfl
  have hr':WX w O b (o+sz) sz ys (fun i=>f (i+1)):=⟨hr.lt,hr.free,fun i x hi=>by
   have:=hr.cell (i+1) x (by simpa using hi);refine⟨this.1,fun j hj=> ?_⟩
   rw[<-this.2 j hj];congr 2;rw[Zj];omega⟩
  obtain⟨news,h1,h2,h3,h4⟩:=ih hr' (fun i x hi=>hx (i+1) x (by simpa using hi));have h0:=hx 0 y rfl;refine⟨f 0++news,by simp[hl,h1,Zj];omega,?_,?_,?_⟩
  ·intro u hu;rcases Yc.1 hu with hu | hu
   ·exact h0.one u hu
   ·exact h2 u hu
  ·intro i x hi;cases i with
   | zero=>
    simp at hi;subst hi;have:QX (f 0++news).toArray sz 0=f 0:=by simp[QX,<-hl]
    rw[this];exact h0
   | succ i=>
    rw[Nat.add_comm i 1,J4 1 (by simpa using hl)];exact h3 i x (by simpa using hi)
  ·intro j v hj;by_cases h:j<sz
   ·rw[Zf (by omega)]at hj;have:=hc j h;simp only[Nat.zero_mul,Yb]at this;rw[this,hj]
   ·rw[Zc (by omega)]at hj;have:=h4 _ _ hj;rw[<-this];congr 2;omega
theorem QFq {w:World}{O:Nat->Prop}{ρ:Env}{sz:Nat}{ys:List (List Ch)}{v:Value}(h:CC w O ρ [.s sz ys] [v]): ∃news,Wj w v sz ys O news:=by
 cases h with
 | s0 _=>exact⟨[],by simp,by simp,by simp,.inl ⟨rfl,rfl⟩⟩
 | s00 _=>exact⟨[],by simp,by simp,by simp,.inr ⟨_,_,_,rfl,fun j v h=>by simp at h⟩⟩
 | s hr hx _ _=>
  obtain⟨news,h1,h2,h3,h4⟩:=QAt hr hx;exact⟨news,h1,h2,h3,.inr ⟨_,_,_,rfl,h4⟩⟩
theorem WK (arr:Array Value)(sz:Nat)(pre:List Value)(n:Nat)(h:arr.toList.take (n*sz)=pre){i:Nat}(hi:i<n):QX arr sz i=QX pre.toArray sz i:=by
 have h1:(i+1)*sz<=n*sz:=Ze _ hi;rw[Zj,Zu]at h1;apply Zx;intro m;simp only[QX];rw[Za,Za];split
 ·rw[Zb,Zb,<-h,Za,if_pos (by omega)]
 ·rfl
def QIS (P:Program)(w0:World)(M:Ctx)(ρ:Env)(H:HP)(w:World)(t e:Nat)(sz k n d:Nat)(tt:TypeId)(xs ys:List (List Ch))(v x:Value):Prop:=
 ∃w' ρ' u,(Builtin.append_ #[t,t] tt #[v,x]).run P w= .ok u w'/\HS w0 M ρ' (upd (upd H k (some .dead)) d (some (.row e sz (xs.take n++ys)))) w'/\
   Ext ρ H w ρ' (upd (upd H k (some .dead)) d (some (.row e sz (xs.take n++ys)))) w'/\
   ConcV w' (ow M ρ' (upd (upd H k (some .dead)) d (some (.row e sz (xs.take n++ys))))) ρ' (.x false [.w d 0 (n+ys.length)]) u
theorem QAu {t e:Nat}{ie:TyI}(ht:P.underlying t=some (.slice e))(he:Xr P e ie)(hs:HS w0 M ρ H w){k n d:Nat}{tt:TypeId}(hd:H d=none){xs ys:List (List Ch)}{v x:Value}
    (hk:H k=some (.row e ie.cells xs)) (hv:CC w (ow M ρ H) ρ [.w k 0 n] [v]) {news:List Value} (hx:Wj w x ie.cells ys (ow M ρ H) news) (hbytes:(n+ys.length)*ie.bytes<=140737488355328) (h63:n+ys.length<=9223372036854775807):
    QIS P w0 M ρ H w t e ie.cells k n d tt xs ys v x:=by
  obtain⟨ti,z,hi,hsz,hby,hz,hzc⟩:=he.info;have hzs:z.cells.size=ie.cells:=by rw[hzc];simpa using he.zlen
  obtain⟨hkill,hxk⟩:=hs.kill hk;have hdk:d≠k:=fun h=>by subst h;rw[hd]at hk;cases hk
  have hdn:upd H k (some Blk.dead) d=none:=by rw[QR _ _ hdk];exact hd
  obtain⟨bd,hρ,hblen,hbsz,ok⟩:=hs.blk k _ hk rfl;-- the growing of a row, and the making of one out of nil
  have grown: ∀(olds:List Value) (old:Nat),old<n+ys.length->olds.length=n*ie.cells->(∀i y,(xs.take n)[i]? =some y->CC w (ow M ρ H) (fun _=>none) y (QX olds.toArray ie.cells i))->
      (xs.take n).length=n->
      (Builtin.append_ #[t,t] tt #[v,x]).run P w= .ok (.slice (some ⟨w.heap.size,0,none⟩) (n+ys.length) (grownCap w (n+ys.length) old e))
        (w.drew.alloc (.cells (olds.toArray++news.toArray++Builtin.zeroCells z.cells (grownCap w (n+ys.length) old e-(n+ys.length))) e))->QIS P w0 M ρ H w t e ie.cells k n d tt xs ys v x:=by
    intro olds old ho hol hoel hxl hrun;have hge:=grownCap_ge w (n+ys.length) old e;have hsame:=hkill.same (w':=w.drew) rfl rfl rfl rfl;have e1:n+ys.length+(grownCap w (n+ys.length) old e-(n+ys.length))=grownCap w (n+ys.length) old e:=by omega
    have hS:(olds.toArray++news.toArray++Builtin.zeroCells z.cells (grownCap w (n+ys.length) old e-(n+ys.length))).size=grownCap w (n+ys.length) old e*ie.cells:=by
      simp only[Array.size_append,Zw,size_zeroCells,hzs,hol,hx.len,<-Zj,e1]
    have hL:(xs.take n++ys).length<=grownCap w (n+ys.length) old e:=by simp only[Zo,hxl];omega
    have hE: ∀i y,(xs.take n++ys)[i]? =some y->CC w.drew (ow M ρ (upd H k (some .dead))) (fun _=>none) y (QX (olds.toArray++news.toArray++Builtin.zeroCells z.cells (grownCap w (n+ys.length) old e-(n+ys.length))) ie.cells i):=by
      intro i y hy;have harr:(olds.toArray++news.toArray++Builtin.zeroCells z.cells (grownCap w (n+ys.length) old e-(n+ys.length)))=(olds++(news++(Builtin.zeroCells z.cells (grownCap w (n+ys.length) old e-(n+ys.length))).toList)).toArray:=by
        apply Array.ext';simp
      rw[harr];have mono: ∀{cs vs},CC w (ow M ρ H) (fun _=>none) cs vs->CC w.drew (ow M ρ (upd H k (some .dead))) (fun _=>none) cs vs:=fun h=>hsame.2.cc0 (hxk.cc0 h);by_cases hin:i<n
      · rw[Zf (by omega)]at hy;rw[Xq n hol hin];exact mono (hoel i y hy)
      · rw[Zc (by omega),hxl]at hy;have:i=n+(i-n):=by omega
        rw[this,J4 n hol];have hlt:i-n<ys.length:=(Zd.1 hy).1;rw[Xq ys.length hx.len hlt];exact mono (hx.el _ y hy)
    obtain⟨ρ',a1,a2,a3⟩:=hsame.1.row (w':=w.drew.alloc (.cells (olds.toArray++news.toArray++Builtin.zeroCells z.cells (grownCap w (n+ys.length) old e-(n+ys.length))) e)) hdn hS hL rfl rfl rfl rfl hE;exact⟨_,ρ',_,hrun,a1,hxk.trans (hsame.2.trans a2),by simpa using a3 (n+ys.length) (by simp only[Zo,hxl];omega)⟩
  have hnews: ∀{b o cap},x= .slice (some ⟨b,o,none⟩) ys.length cap->WJ w b o news-> ∀j u,news[j]? =some u->w.cell? ((⟨b,o,none⟩:Addr).add j)=some u:=fun _ hc j u hu=>by rw[Xl];exact hc j u hu
  cases hv with
  | @w _ _ _ _ capv _ _ _ hk' hn hl hcn hcv _=>
    rw[hρ]at hk';cases hk'
    rcases ok with⟨hnil,_⟩ | ⟨_,arr,hb,hsize,hle,hxs⟩
    · rw[hn]at hnil;cases hnil
    have hbl:bd.blk<w.heap.size:=(Zi.1 hb).1;have hnl:n<=xs.length:=by omega
    have hxl:(xs.take n).length=n:=by simp;omega
    have hnsz:n*ie.cells<=arr.size:=by rw[hsize];exact Ze _ (by omega)
    simp only[Nat.zero_mul]at*;rcases hx.cell with⟨rfl,rfl⟩ | ⟨b,o,cap,rfl,hcell⟩
    · -- nothing is appended
      have hnil:news=[]:=Zp (by simpa using hx.len);have hmv:=hs.move (w':=w) hk rfl (b':= .row e ie.cells (xs.take n++[])) hd hρ hn (bd':=⟨bd.blk,bd.cap,n,ie.cells,false,[]⟩) rfl (fun _ _=>rfl) rfl rfl rfl rfl
        (fun hx'=>⟨by simp;omega,rfl,.inr ⟨rfl,arr,hb,hsize,by simp;omega,fun i y hy=>hx'.cc0 (hxs i y (by
          rw[List.append_nil,Za]at hy;split at hy; · exact hy
          · cases hy))⟩⟩)
      refine⟨w,_,.slice (some ⟨bd.blk,0,none⟩) n capv,?_,hmv.1,hmv.2,[_],?_,rfl⟩
      · have hcapn:n<=capv:=hcn;simp[Builtin.append_,run_underlying ht,sizeOf,typeInfo,hi,Builtin.lenOf,Builtin.firstCells,hcapn,storeCells]
      · have:=CC.w (w:=w) (O:=ow M (upd ρ d (some ⟨bd.blk,bd.cap,n,ie.cells,false,[]⟩)) (upd (upd H k (some .dead)) d (some (.row e ie.cells (xs.take n++[]))))) (k:=d) (o:=0) (n:=n) (cap:=capv) (QI ρ d (some ⟨bd.blk,bd.cap,n,ie.cells,false,[]⟩)) rfl (by simp) hcn (by simpa using hcv) .nil;simpa using this
    · by_cases hroom':n+ys.length<=capv
      · have hroom:n+ys.length<=bd.cap:=by omega
        have hr:=run_append_room (P:=P) w t tt e ti ht hi bd.blk n capv arr hb ⟨b,o,none⟩ ys.length cap news (by rw[hx.len,hsz]) (hnews rfl hcell) hx.one hroom' (by
          rw[hx.len,hsz,hsize,<-Zj];exact Ze _ hroom)
        obtain⟨e1,e2,e3⟩:=Jb (arr':=(arr.toList.take (n*ti.size)++news++arr.toList.drop (n*ti.size+news.length)).toArray) hb;rw[hsz]at hr e1 e2 e3;have hmv:=hs.move hk rfl (b':= .row e ie.cells (xs.take n++ys)) hd hρ hn (bd':=⟨bd.blk,bd.cap,n+ys.length,ie.cells,false,[]⟩) rfl e2 e3 rfl rfl rfl
          (fun hx'=>⟨by simp only[Zo,hxl],rfl,.inr ⟨rfl,_,e1,by
            simp only[Zw,Zo,Zn,Zq,Zt,hx.len];have:(n+ys.length)*ie.cells<=bd.cap*ie.cells:=Ze _ hroom;rw[Zj]at this;omega,by simp only[Zo,hxl];omega,fun i y hy=>by
              have hpl:(arr.toList.take (n*ie.cells)).length=n*ie.cells:=by simp;omega
              by_cases hin:i<n
              · rw[Zf (by omega),Za,if_pos hin]at hy;rw[VT n hpl hin,<-WK arr ie.cells _ n rfl hin];exact hx'.cc0 (hxs i y hy)
              · rw[Zc (by omega),hxl]at hy;have:i=n+(i-n):=by omega
                rw[this,Ud n hpl];have hlt:i-n<ys.length:=(Zd.1 hy).1;rw[Xq ys.length hx.len hlt]
                exact hx'.cc0 (hx.el _ y hy)⟩⟩)
        refine⟨_,_,_,hr,hmv.1,hmv.2,[_],?_,rfl⟩;have:=CC.w (w:=w.setRow bd.blk (arr.toList.take (n*ie.cells)++news++arr.toList.drop (n*ie.cells+news.length)).toArray) (O:=ow M (upd ρ d (some ⟨bd.blk,bd.cap,n+ys.length,ie.cells,false,[]⟩)) (upd (upd H k (some .dead)) d (some (.row e ie.cells (xs.take n++ys))))) (k:=d) (o:=0) (n:=n+ys.length) (cap:=capv) (QI ρ d (some ⟨bd.blk,bd.cap,n+ys.length,ie.cells,false,[]⟩)) rfl (by simp) hroom' (by simpa using hcv) .nil;simpa using this
      · have holds: ∀j u,(arr.toList.take (n*ie.cells))[j]? =some u->w.cell? ((⟨bd.blk,0,none⟩:Addr).add j)=some u:=fun j u hu=>by
          rw[Xl];exact Ja hb 0 (n*ie.cells) j u (by simpa using hu)
        have hpl:(arr.toList.take (n*ie.cells)).length=n*ie.cells:=by simp;omega
        have hr:=run_append_grow (P:=P) w t tt e ti z ht hi hz ⟨bd.blk,0,none⟩ n capv (arr.toList.take (n*ie.cells)) (by rw[hsz];exact hpl) holds ⟨b,o,none⟩ ys.length cap news (by rw[hx.len,hsz]) (hnews rfl hcell)
          (by omega) (by omega) (growslice_fits (by omega) (by rw[hby];exact hbytes))
        exact grown _ capv (by omega) hpl (fun i y hy=>by
          rw[Za]at hy;split at hy
          · rename_i hin;rw[<-WK arr ie.cells _ n rfl hin];exact hxs i y hy
          · cases hy) hxl hr
  | w0 hk' hn _=>
    rw[hρ]at hk';cases hk'
    rcases ok with⟨_,hxnil⟩ | ⟨hnn,_⟩
    · subst hxnil;rcases hx.cell with⟨rfl,rfl⟩ | ⟨b,o,cap,rfl,hcell⟩
      · have:=hkill.allocNil (d:=d) hdn e ie.cells;refine⟨w,_,.slice none 0 0,?_,by simpa using this.1,by simpa using hxk.trans this.2,[_],?_,rfl⟩
        · simp[Builtin.append_,run_underlying ht,sizeOf,typeInfo,hi,Builtin.lenOf,Builtin.firstCells]
        · exact .w0 (QI _ _ _) rfl .nil
      · by_cases hy0:ys.length=0
        · have hyn:ys=[]:=Zp hy0;subst hyn;have hnil:news=[]:=Zp (by simpa using hx.len);have:=hkill.allocNil (d:=d) hdn e ie.cells;refine⟨w,_,.slice none 0 0,?_,by simpa using this.1,by simpa using hxk.trans this.2,[_],?_,rfl⟩
          · simp[Builtin.append_,run_underlying ht,sizeOf,typeInfo,hi,Builtin.lenOf,Builtin.firstCells,loadCells,loadCellsFrom]
          · exact .w0 (QI _ _ _) rfl .nil
        · have hr:=run_append_nil (P:=P) w t tt e ti z ht hi hz ⟨b,o,none⟩ ys.length cap news (by rw[hx.len,hsz]) (hnews rfl hcell) (by omega) (by omega) (by rw[hby];simp at hbytes;omega);refine grown [] 0 (by omega) (by simp) (fun i y hy=>by simp at hy) (by simp) ?_
          simpa using hr
    · rw[hn]at hnn;cases hnn
  | @w00 _ _ _ b' o' _ _ _ _ _=>
    rcases hx.cell with⟨rfl,rfl⟩ | ⟨b,o,cap,rfl,hcell⟩
    · have:=hkill.allocNil (d:=d) hdn e ie.cells;refine⟨w,_,.slice (some ⟨b',o',none⟩) 0 0,?_,by simpa using this.1,by simpa using hxk.trans this.2,[_],?_,rfl⟩
      · simp[Builtin.append_,run_underlying ht,sizeOf,typeInfo,hi,Builtin.lenOf,Builtin.firstCells,storeCells]
      · exact .w00 (QI _ _ _) .nil
    · by_cases hy0:ys.length=0
      · have hyn:ys=[]:=Zp hy0;subst hyn;have:=hkill.allocNil (d:=d) hdn e ie.cells;refine⟨w,_,.slice (some ⟨b',o',none⟩) 0 0,?_,by simpa using this.1,by simpa using hxk.trans this.2,[_],?_,rfl⟩
        · simp[Builtin.append_,run_underlying ht,sizeOf,typeInfo,hi,Builtin.lenOf,Builtin.firstCells,loadCells,loadCellsFrom,storeCells]
        · exact .w00 (QI _ _ _) .nil
      · have hr:=run_append_grow (P:=P) w t tt e ti z ht hi hz ⟨b',o',none⟩ 0 0 [] (by simp) (fun j u h=>by simp at h) ⟨b,o,none⟩ ys.length cap news (by rw[hx.len,hsz]) (hnews rfl hcell)
          (by omega) (by omega) (growslice_fits (by omega) (by rw[hby];exact hbytes))
        exact grown [] 0 (by omega) (by simp) (fun i y hy=>by simp at hy) (by simp) (by simpa using hr)

end Go.Eng
namespace Go.Eng
open Go
variable {P:Program}{w0:World}{M:Ctx}{ρ:Env}{H:HP}{w:World}
def Y5 (H:HP)(ks:List Nat):HP:=fun k=>if k∈ks then some .dead else H k
theorem QGm {H:HP}{k:Nat}:Y5 H [k]=upd H k (some .dead):=by
 funext j;by_cases e:j=k
 ·subst e;simp[Y5,QI]
 ·rw[QR _ _ e];simp[Y5,e]
theorem QAD {H:HP}{k k2:Nat}:Y5 H [k,k2]=upd (upd H k (some .dead)) k2 (some .dead):=by
 funext j;by_cases e:j=k2
 ·subst e;simp[Y5,QI]
 ·rw[QR _ _ e];by_cases e2:j=k
  ·subst e2;simp[Y5,QI]
  ·rw[QR _ _ e2];simp[Y5,e,e2]
theorem QGn {H:HP}:Y5 H []=H:=by funext j;simp[Y5]
theorem HS.absorb {w':World}(h:HS w0 M ρ H w){ks:List Nat}{d:Nat}{bd':Xk}{b':Blk}(hks: ∀k∈ks,H k≠none)(hd:H d=none)
    (hsm: ∀j,XS bd' (some b') j->(w.heap.size<=j/\j<w'.heap.size)∨ ∃k∈ks,∃bd,ρ k=some bd/\bd.isNil=false/\XI (H k)=true/\XS bd (H k) j)
    (hother: ∀j,j<w.heap.size->(∀k∈ks,∀bd,ρ k=some bd->bd.isNil=false->XI (H k)=true-> ¬XS bd (H k) j)->w'.heap[j]? =w.heap[j]?)
    (hs:w.heap.size<=w'.heap.size) (h1:w'.os=w.os) (h2:w'.tape=w.tape) (h3:w'.output=w.output)
    (hok:Ext ρ H w (upd ρ d (some bd')) (upd (Y5 H ks) d (some b')) w'->BlkOK M.lps w' (ow M (upd ρ d (some bd')) (upd (Y5 H ks) d (some b'))) (upd ρ d (some bd')) bd' b'):
    HS w0 M (upd ρ d (some bd')) (upd (Y5 H ks) d (some b')) w'/\Ext ρ H w (upd ρ d (some bd')) (upd (Y5 H ks) d (some b')) w':=by
  have hdk:d∉ks:=fun e=>hks d e hd;have hρd:ρ d=none:=h.dom d hd;have hlive: ∀j,j≠d->XI (upd (Y5 H ks) d (some b') j)=true->j∉ks/\XI (H j)=true:=fun j hj hlj=>by
    rw[QR _ _ hj]at hlj;unfold Y5 at hlj;split at hlj
    · cases hlj
    · rename_i e;exact⟨e,hlj⟩
  have hoth: ∀j,j≠d->j∉ks->upd (Y5 H ks) d (some b') j=H j:=fun j h1 h2=>by rw[QR _ _ h1,Y5,if_neg h2]
  have hx:Ext ρ H w (upd ρ d (some bd')) (upd (Y5 H ks) d (some b')) w':=by
    refine⟨⟨hs,fun b hb ho=>hother b hb (fun k hk bd a1 a2 a3 a4=>ho ⟨k,bd,a1,a2,a4,a3⟩)⟩,fun b hb ⟨j,bj,a1,a2,a3,a4⟩=> ?_,fun j bj hj=> ?_,fun j hj=> ?_⟩
    · by_cases e:j=d
      · subst e;rw[QI]at a1 a3;cases a1
        rcases hsm b a3 with c | ⟨k,hk,bd,c1,c2,c3,c4⟩
        · omega
        · exact⟨k,bd,c1,c2,c4,c3⟩
      · rw[QR _ _ e]at a1;rw[hoth j e (hlive j e a4).1]at a3;exact⟨j,bj,a1,a2,a3,(hlive j e a4).2⟩
    · rw[QR _ _ (fun e=>by subst e;rw[hρd]at hj;cases hj)];exact hj
    · have e:j≠d:=fun e=>hj (e▸hd);rw[QR _ _ e,QR _ _ e];refine⟨rfl,?_⟩;unfold Y5;split
      · simp
      · exact hj
  refine⟨⟨h1.trans h.os,h2.trans h.tape,h3.trans h.output,Ya h.size hs,h.glob,?_,?_,?_,?_,?_⟩,hx⟩
  · intro j hj hm;rw[hother j (Zm hj h.size) (fun k hk bd a1 a2 a3 a4=> ?_)]
    · exact h.old j hj hm
    · rcases(h.rng k bd a1 a2 a3 j a4).2 with h' | h'
      · omega
      · exact hm h'
  · intro j bj hj hlv;by_cases e:j=d
    · subst e;rw[QI]at hj;cases hj
      exact⟨bd',QI _ _ _,hok hx⟩
    · have hl2:=hlive j e (by rw[hj];exact hlv);rw[hoth j e hl2.1]at hj;rw[QR _ _ e];obtain⟨bd2,e',ok⟩:=h.blk j bj hj hlv
      exact⟨bd2,e',ok.ext hx (fun hnn hlj i hi=>hother _ (h.rng j bd2 e' hnn (by rw[hj];exact hlj) i (by rw[hj];exact hi)).1 (fun k hk bd a1 a2 a3 a4=>hl2.1 (by
        have:=h.dist j k bd2 bd e' a1 hnn a2 hl2.2 a3 i (by rw[hj];exact hi) a4
        subst this;exact hk)))⟩
  · intro j hj;by_cases e:j=d
    · subst e;rw[QI]at hj;cases hj
    · rw[QR _ _ e]at hj⊢;unfold Y5 at hj;split at hj
      · cases hj
      · exact h.dom j hj
  · intro j bj hj hnj hlj i hi;by_cases e:j=d
    · subst e;rw[QI]at hj hi;cases hj
      rcases hsm i hi with c | ⟨k,hk,bd,c1,c2,c3,c4⟩
      · exact⟨c.2,.inl (Ya h.size c.1)⟩
      · have:=h.rng k bd c1 c2 c3 i c4;exact⟨Zm this.1 hs,this.2⟩
    · rw[QR _ _ e]at hj;rw[hoth j e (hlive j e hlj).1]at hi;have:=h.rng j bj hj hnj (hlive j e hlj).2 i hi;exact⟨Zm this.1 hs,this.2⟩
  · have key: ∀(j:Nat) (bj:Xk),j≠d->ρ j=some bj->bj.isNil=false->j∉ks->XI (H j)=true-> ∀i,XS bj (H j) i-> ¬XS bd' (some b') i:=fun j bj e a1 a2 a3 a4 i a5 a6=>by
      rcases hsm i a6 with c | ⟨k,hk,bd,c1,c2,c3,c4⟩
      · have:=(h.rng j bj a1 a2 a4 i a5).1;omega
      · have:=h.dist j k bj bd a1 c1 a2 c2 a4 c3 i a5 c4;subst this;exact a3 hk
    intro j j' bj bj' hj hj' n1 n2 l1 l2 i hi hi';by_cases e:j=d
    · by_cases e':j'=d
      · omega
      · subst e;rw[QI]at hj hi;cases hj
        rw[QR _ _ e']at hj';have:=hlive j' e' l2;rw[hoth j' e' this.1]at hi';exact absurd hi (key j' bj' e' hj' n2 this.1 this.2 i hi')
    · by_cases e':j'=d
      · subst e';rw[QI]at hj' hi';cases hj'
        rw[QR _ _ e]at hj;have:=hlive j e l1;rw[hoth j e this.1]at hi;exact absurd hi' (key j bj e hj n1 this.1 this.2 i hi)
      · rw[QR _ _ e]at hj;rw[QR _ _ e']at hj';rw[hoth j e (hlive j e l1).1]at hi;rw[hoth j' e' (hlive j' e' l2).1]at hi';exact h.dist j j' bj bj' hj hj' n1 n2 (hlive j e l1).2 (hlive j' e' l2).2 i hi hi'

def QLR (P:Program)(w0:World)(M:Ctx)(ρ:Env)(H:HP)(w:World)(t k k2 n d:Nat)(tt:TypeId)(b:Blk)(v x:Value):Prop:=
 ∃w' ρ' u,(Builtin.append_ #[t,t] tt #[v,x]).run P w= .ok u w'/\HS w0 M ρ' (upd (upd (upd H k (some .dead)) k2 (some .dead)) d (some b)) w'/\
   Ext ρ H w ρ' (upd (upd (upd H k (some .dead)) k2 (some .dead)) d (some b)) w'/\
   ConcV w' (ow M ρ' (upd (upd (upd H k (some .dead)) k2 (some .dead)) d (some b))) ρ' (.x false [.w d 0 n]) u
theorem QDx {t e:Nat}{ie:TyI}(ht:P.underlying t=some (.slice e))(he:Xr P e ie)(hs:HS w0 M ρ H w){k k2 d oo t2 sz2:Nat}{tt:TypeId}(hd:H d=none)(hkk:k≠k2){xs ys:List (List Ch)}{v x:Value}
  (hk:H k=some (.nst e ie.cells oo t2 sz2 xs)) (hk2:H k2=some (.nst e ie.cells oo t2 sz2 ys)) (hv:CC w (ow M ρ H) ρ [.w k 0 xs.length] [v]) (hx:CC w (ow M ρ H) ρ [.w k2 0 ys.length] [x])
  (h01:0<xs.length) (h02:0<ys.length) (hbytes:(xs.length+ys.length)*ie.bytes<=140737488355328) (h63:xs.length+ys.length<=9223372036854775807):
  QLR P w0 M ρ H w t k k2 (xs.length+ys.length) d tt (.nst e ie.cells oo t2 sz2 (xs++ys)) v x:=by
 obtain⟨ti,z,hi,hsz,hby,hz,hzc⟩:=he.info;have hzs:z.cells.size=ie.cells:=by rw[hzc];simpa using he.zlen
 obtain⟨news,hsl⟩:=QFq (QFp hs hk2 hx (O':=fun _=>False) (fun _ h=>h.elim) (fun _ _ _ _ _ h=>h.elim));have hys:(ys.drop 0).take ys.length=ys:=by simp
 rw[hys]at hsl;obtain⟨bd,hρ,hn,hlen,hbsz,⟨hs1,hs2,hs3⟩,arr,hb,hsize,hle,hel⟩:=hs.blk k _ hk rfl;obtain⟨bd2,hρ2,hn2,hlen2,hbsz2,⟨ht1,ht2,ht3⟩,arr2,hb2,hsize2,hle2,hel2⟩:=hs.blk k2 _ hk2 rfl;have dist: ∀j,XS bd (H k) j-> ¬XS bd2 (H k2) j:=fun j a1 a2=>hkk (hs.dist k k2 bd bd2 hρ hρ2 hn hn2 (by rw[hk];rfl) (by rw[hk2];rfl) j a1 a2);have l1:XI (H k)=true:=by rw[hk];rfl
 have l2:XI (H k2)=true:=by rw[hk2];rfl
 have sub1: ∀j,j∈bd.sub->XS bd (H k) j:=fun j hj=>by rw[hk];exact .inr hj
 have sub2: ∀j,j∈bd2.sub->XS bd2 (H k2) j:=fun j hj=>by rw[hk2];exact .inr hj
 have hbl:bd.blk<w.heap.size:=(Zi.1 hb).1;have hb2l:bd2.blk<w.heap.size:=(Zi.1 hb2).1;have slt1: ∀j,j∈bd.sub->j<w.heap.size:=fun j hj=>(hs.rng k bd hρ hn l1 j (sub1 j hj)).1;have slt2: ∀j,j∈bd2.sub->j<w.heap.size:=fun j hj=>(hs.rng k2 bd2 hρ2 hn2 l2 j (sub2 j hj)).1;-- the values
 have hxv: ∃cap2,x= .slice (some ⟨bd2.blk,0,none⟩) ys.length cap2:=by
  generalize hg:ys.length=m at hx;cases hx with
  | @w _ _ _ _ cap _ _ _ hk' hn' hl hcn hcv _=>rw[hρ2]at hk';cases hk';exact⟨cap,by simp⟩
  | w0=>omega
  | w00=>omega
 obtain⟨cap2,rfl⟩:=hxv;have hcell:WJ w bd2.blk 0 news:=by
  rcases hsl.cell with⟨h,_⟩ | ⟨b,o,cap,h,hc⟩
  ·cases h
  ·cases h;exact hc
 have hnl:news.length=ys.length*ie.cells:=hsl.len;have hvv: ∃capv,v= .slice (some ⟨bd.blk,0,none⟩) xs.length capv/\xs.length<=capv/\capv<=bd.cap:=by
  generalize hg:xs.length=m at hv;cases hv with
  | @w _ _ _ _ cap _ _ _ hk' hn' hl hcn hcv _=>rw[hρ]at hk';cases hk';exact⟨cap,by simp,hcn,by omega⟩
  | w0=>omega
  | w00=>omega
 obtain⟨capv,rfl,hcn,hcv⟩:=hvv;-- the new elements' cells
 have enew: ∀i,i<ys.length->QX news.toArray ie.cells i=QX arr2 ie.cells i:=by
  intro i hi;have h1:(i+1)*ie.cells<=ys.length*ie.cells:=Ze _ hi;rw[Zj,Zu]at h1;apply Zx;intro m;simp only[QX];rw[Za,Za];split
  ·rw[Zb,Zb];have hlt:i*ie.cells+m<news.length:=by omega
   have:=hcell (i*ie.cells+m) news[i*ie.cells+m] (Zk hlt);simp only[World.cell?,hb2,Nat.zero_add]at this;simp only[Zk hlt];rw[<-this];simp
  ·rfl
 have fin: ∀{w':World} {cap' B:Nat} {arr':Array Value},w'.heap[B]? =some (.cells arr' e (0,0))->arr'.size=cap'*ie.cells->xs.length+ys.length<=cap'->B∉bd.sub->B∉bd2.sub->
   (∀i,i<xs.length->QX arr' ie.cells i=QX arr ie.cells i)->(∀i,i<ys.length->QX arr' ie.cells (xs.length+i)=QX news.toArray ie.cells i)->
   (∀j,j<w.heap.size->j≠B->w'.heap[j]? =w.heap[j]?)-> ∀{ρ':Env} {H':HP},Ext ρ H w ρ' H' w'->
   BlkOK M.lps w' (ow M ρ' H') ρ' ⟨B,cap',xs.length+ys.length,ie.cells,false,bd.sub++bd2.sub⟩ (.nst e ie.cells oo t2 sz2 (xs++ys)):=by
  intro w' cap' B arr' hB hsz' hle' hB1 hB2 he1 he2 hoth ρ' H' hx';refine⟨rfl,by simp,rfl,⟨by simp[hs1,ht1],?_,?_⟩,arr',hB,hsz',by simpa using hle',?_⟩
  ·rw[List.nodup_append];exact⟨hs2,ht2,fun a ha b hb' hab=>by subst hab;exact dist a (sub1 a ha) (sub2 a hb')⟩
  ·simp only[Yc];rintro(h | h)
   ·exact hB1 h
   ·exact hB2 h
  ·intro i y β hy hβ;by_cases hin:i<xs.length
   ·rw[Zf hin]at hy;rw[Zf (by omega)]at hβ;rw[he1 i hin];have hm:=Zs hβ;exact(hel i y β hy hβ).mono hx'.ow.1 hx'.ow.2 (hoth β (slt1 β hm) (fun e=>hB1 (e▸hm)))
   ·have hyl:i-xs.length<ys.length:=by have:=(Zd.1 hy).1;simp at this;omega
    rw[Zc (by omega)]at hy;rw[Zc (by omega),hs1]at hβ;have hi:i=xs.length+(i-xs.length):=by omega
    rw[hi,he2 _ hyl,enew _ hyl];have hm:=Zs hβ;exact(hel2 _ y β hy hβ).mono hx'.ow.1 hx'.ow.2 (hoth β (slt2 β hm) (fun e=>hB2 (e▸hm)))
 have hks: ∀j∈[k,k2],H j≠none:=by
  intro j hj;rcases Zz.1 hj with rfl | hj
  ·rw[hk];simp
  ·rcases Zz.1 hj with rfl | hj
   ·rw[hk2];simp
   ·cases hj
 have subs: ∀j,j∈bd.sub++bd2.sub-> ∃q∈[k,k2],∃bd,ρ q=some bd/\bd.isNil=false/\XI (H q)=true/\XS bd (H q) j:=by
  intro j hj;rcases Yc.1 hj with hj | hj
  ·exact⟨k,by simp,bd,hρ,hn,l1,sub1 j hj⟩
  ·exact⟨k2,by simp,bd2,hρ2,hn2,l2,sub2 j hj⟩
 have hb2n1:bd2.blk∉bd.sub:=fun h=>dist _ (sub1 _ h) Qs;have hbn2:bd.blk∉bd2.sub:=fun h=>dist _ Qs (sub2 _ h);have hxlsz:xs.length*ie.cells<=arr.size:=by rw[hsize];exact Ze _ (by omega)
 have hpl:(arr.toList.take (xs.length*ie.cells)).length=xs.length*ie.cells:=by simp;omega
 by_cases hroom:xs.length+ys.length<=capv
 ·have hroom':xs.length+ys.length<=bd.cap:=by omega
  have hr:=run_append_room (P:=P) w t tt e ti ht hi bd.blk xs.length capv arr hb ⟨bd2.blk,0,none⟩ ys.length cap2 news (by rw[hnl,hsz]) (fun j u hu=>by rw[Xl];exact hcell j u hu) hsl.one hroom (by
   rw[hnl,hsz,hsize,<-Zj];exact Ze _ hroom')
  obtain⟨e1,e2,e3⟩:=Jb (arr':=(arr.toList.take (xs.length*ti.size)++news++arr.toList.drop (xs.length*ti.size+news.length)).toArray) hb;rw[hsz]at hr e1 e2 e3;have hmv:=hs.absorb (ks:=[k,k2]) (d:=d) (bd':=⟨bd.blk,bd.cap,xs.length+ys.length,ie.cells,false,bd.sub++bd2.sub⟩) (b':= .nst e ie.cells oo t2 sz2 (xs++ys)) hks hd
   (fun j hj=> .inr (by
    rcases hj with rfl | hj
    ·exact⟨k,by simp,bd,hρ,hn,l1,Qs⟩
    ·exact subs j hj)) (fun j hj hh=>e2 j (fun e=>hh k (by simp) bd hρ hn l1 (by rw[e];exact Qs))) (Nat.le_of_eq e3.symm) rfl rfl rfl
   (fun hx'=>fin e1 (by
    simp only[Zw,Zo,Zn,Zq,Zt,hnl];have:(xs.length+ys.length)*ie.cells<=bd.cap*ie.cells:=Ze _ hroom';rw[Zj]at this;omega) hroom' hs3 hbn2 (fun i hin=>by
     rw[VT xs.length hpl hin,<-WK arr ie.cells _ xs.length rfl hin]) (fun i hin=>by
     rw[Ud xs.length hpl,Xq ys.length hnl hin]) (fun j _ hj=>e2 j hj) hx')
  rw[QAD]at hmv;refine⟨_,_,_,hr,hmv.1,hmv.2,[_],?_,rfl⟩;have:=CC.w (w:=w.setRow bd.blk (arr.toList.take (xs.length*ie.cells)++news++arr.toList.drop (xs.length*ie.cells+news.length)).toArray) (O:=ow M (upd ρ d (some ⟨bd.blk,bd.cap,xs.length+ys.length,ie.cells,false,bd.sub++bd2.sub⟩)) (upd (upd (upd H k (some .dead)) k2 (some .dead)) d (some (.nst e ie.cells oo t2 sz2 (xs++ys))))) (k:=d) (o:=0) (n:=xs.length+ys.length) (cap:=capv) (QI ρ d (some ⟨bd.blk,bd.cap,xs.length+ys.length,ie.cells,false,bd.sub++bd2.sub⟩)) rfl (by simp) hroom (by simpa using hcv) .nil;simpa using this
 ·have holds: ∀j u,(arr.toList.take (xs.length*ie.cells))[j]? =some u->w.cell? ((⟨bd.blk,0,none⟩:Addr).add j)=some u:=fun j u hu=>by
   rw[Xl];exact Ja hb 0 (xs.length*ie.cells) j u (by simpa using hu)
  have hr:=run_append_grow (P:=P) w t tt e ti z ht hi hz ⟨bd.blk,0,none⟩ xs.length capv (arr.toList.take (xs.length*ie.cells)) (by rw[hsz];exact hpl) holds ⟨bd2.blk,0,none⟩ ys.length cap2 news (by rw[hnl,hsz]) (fun j u hu=>by rw[Xl];exact hcell j u hu)
   (by omega) (by omega) (growslice_fits (by omega) (by rw[hby];exact hbytes))
  generalize hgc:grownCap w (xs.length+ys.length) capv e=gc at hr;have hge:xs.length+ys.length<=gc:=by rw[<-hgc];exact grownCap_ge w (xs.length+ys.length) capv e
  have harr:((arr.toList.take (xs.length*ie.cells)).toArray++news.toArray++Builtin.zeroCells z.cells (gc-(xs.length+ys.length)))=(arr.toList.take (xs.length*ie.cells)++(news++(Builtin.zeroCells z.cells (gc-(xs.length+ys.length))).toList)).toArray:=by
   apply Array.ext';simp
  have hS:((arr.toList.take (xs.length*ie.cells)).toArray++news.toArray++Builtin.zeroCells z.cells (gc-(xs.length+ys.length))).size=gc*ie.cells:=by
   have e1:xs.length+ys.length+(gc-(xs.length+ys.length))=gc:=by omega
   simp only[Array.size_append,Zw,size_zeroCells,hzs,hpl,hnl,<-Zj,e1]
  generalize hga:((arr.toList.take (xs.length*ie.cells)).toArray++news.toArray++Builtin.zeroCells z.cells (gc-(xs.length+ys.length)))=ga at hr hS harr;have hnew:(w.drew.alloc (.cells ga e)).heap[w.heap.size]? =some (.cells ga e (0,0)):=heap_alloc_new w.drew _
  have hold: ∀j,j<w.heap.size->(w.drew.alloc (.cells ga e)).heap[j]? =w.heap[j]? :=fun j hj=>by
   show(w.heap.push _)[j]? =_
   rw[Array.getElem?_push,if_neg (by omega)]
  have hsz1:(w.drew.alloc (.cells ga e)).heap.size=w.heap.size+1:=by show(w.heap.push _).size=_;simp
  have hmv:=hs.absorb (ks:=[k,k2]) (d:=d) (w':=w.drew.alloc (.cells ga e)) (bd':=⟨w.heap.size,gc,xs.length+ys.length,ie.cells,false,bd.sub++bd2.sub⟩) (b':= .nst e ie.cells oo t2 sz2 (xs++ys)) hks hd
   (fun j hj=>by
    rcases hj with rfl | hj
    ·exact .inl ⟨Nat.le_refl _,by rw[hsz1];exact Nat.lt_succ_self _⟩
    ·exact .inr (subs j hj)) (fun j hj _=>hold j hj) (by omega) rfl rfl rfl
   (fun hx'=>fin hnew hS hge (fun h=>Nat.lt_irrefl _ (slt1 _ h)) (fun h=>Nat.lt_irrefl _ (slt2 _ h)) (fun i hin=>by
     rw[harr,Xq xs.length hpl hin,<-WK arr ie.cells _ xs.length rfl hin]) (fun i hin=>by
     rw[harr,J4 xs.length hpl,Xq ys.length hnl hin]) (fun j hj _=>hold j hj) hx')
  rw[QAD]at hmv;refine⟨_,_,_,hr,hmv.1,hmv.2,[_],?_,rfl⟩;have:=CC.w (w:=w.drew.alloc (.cells ga e)) (O:=ow M (upd ρ d (some ⟨w.heap.size,gc,xs.length+ys.length,ie.cells,false,bd.sub++bd2.sub⟩)) (upd (upd (upd H k (some .dead)) k2 (some .dead)) d (some (.nst e ie.cells oo t2 sz2 (xs++ys))))) (k:=d) (o:=0) (n:=xs.length+ys.length) (cap:=gc) (QI ρ d (some ⟨w.heap.size,gc,xs.length+ys.length,ie.cells,false,bd.sub++bd2.sub⟩)) rfl (by simp) hge (by simp) .nil;simpa using this
end Go.Eng
