/- The engine, part U: a function from its iJ to its results. -/
import Derived.Test.YtmpfaflhpioaiaaGreatDoorE3
import Derived.KernelRfl
open _root_ renaming List → A, Nat → C, Option → B, False → I, imp_congr_right → F, Bool → U, propext → X, absurd → e, forall_congr' → a
open Option renaming some → D, none → G, isSome_iff_exists → Ze
open Bool renaming true → E, false → J, and_eq_true → q
open Go renaming Value → Q, Program → K, Oper → L, ResultVar → S, callsIn_of_wp_marks → Y, Func → Z, World → d, TypeDesc → i, callsIn_wide → j, Code → l
open Nat renaming eq_of_beq_eq_true → f, ble → Zk, lt_of_lt_of_le → Zd, le_of_ble_eq_true → Zf, le_trans → Zj
open List renaming mem_map → o, mem_cons → Zh, mem_append → Zi
open Array renaming mapM_eq_mapM_toList → Zg, replicate → Zl
set_option maxHeartbeats 200000
set_option maxRecDepth 100000
namespace Go.Eng
open Go Go.RowKit
variable {P:K}{w0:d}{M:Ctx}{N:C}{T:Qd}
def eN (b:TB)(a:St)(r:S)(K:AV->Prop):Prop:=
  match r with
  | .tmp t=>K (a.T t)
  | .cell x t=>match b t,a.T x with
    | some i,.x J [.p k o]=>(match a.H k with
      | some (.box _ c)=>orF (ldS c o i.cells i.agg) K
      | _=>I)
    | _,_=>I

def ae (t:TB)(a:St):A S->(A AV->Prop)->Prop
 | [],K=>K []
 | r::b,K=>eN t a r fun v=>ae t a b fun c=>K (v::c)
def H5:A AV->A (U×A Ch)
 | []=>[]
 | .x b c::a=>(b,c)::H5 a
 | _::a=>H5 a
def Qic (H:HP)(l:A AV)(K:AV->Prop):Prop:=
  match Vl H l with
  | some [a]=>K a
  | some b=>K (.t (H5 b))
  | none=>I

def ez (t:TB)(r:A S)(a:St)(K:AV->Prop):Prop:=ae t a r fun l=>Qic a.H l K
def cW (t:TB)(r:A S)(K:AV->Prop):QQ:=fun e a=>match e with
 | .n=>ez t r a K
 | .r=>ez t r a K
 | .x _=>I
def TS (tmps:Array Q):S->Sem Q
 | .tmp t=>pure (tmps.getD t undef)
 | .cell x t=>do loadVar t (<-asAddr (tmps.getD x undef))
theorem QKx {z:TB}(m:Wf P z){ρ:Env}{s:St}{a:Act}{w:d}(l:Sim w0 M N ρ s a w){r:S}{K:AV->Prop}(h:eN z s r K):
  ∃v av,(TS a.tmps r).run P w= .ok v w/\ConcV w (ow M ρ s.H) ρ av v/\K av:=by
 cases r with
 | tmp t=>exact⟨_,_,rfl,l.tmps t,h⟩
 | cell x t=>
  simp only[eN]at h;split at h
  ·rename_i i k o R V;split at h
   ·rename_i ty cs U;have e:=l.tmps x;rw[V]at e;generalize n:a.tmps.getD x undef=v at e;obtain⟨c,f,y⟩:=e;simp at y;subst y;obtain⟨Z,q,W⟩:=l.hs.zc k _ U rfl;cases f with
    | p b hn _=>
     rw[q]at b;cases b
     obtain⟨_,c,Q,j⟩:=W;obtain⟨B,A,C,F,I,L⟩:=KF j h;obtain⟨u,X,Y⟩:=Vy (P:=P) (m _ _ R) (vs:=A) (by rw[I];simpa using Kc Q o i.cells) L;exact⟨u,.x i.agg B,by simp[TS,n,asAddr,X],⟨A,F,Y⟩,C⟩
   ·exact h.elim
  ·exact h.elim
theorem HR {t:TB}(e:Wf P t){ρ:Env}{f:St}{a:Act}{w:d}(m:Sim w0 M N ρ f a w): ∀{b:A S} {K:A AV->Prop},ae t f b K->
  ∃vs c,(b.mapM (TS a.tmps)).run P w= .ok vs w/\Qu w (ow M ρ f.H) ρ c vs/\K c:=by
 intro b;induction b with
 | nil=>intro K h;exact⟨[],[],rfl,.nil,h⟩
 | cons r b n=>
  intro K h;obtain⟨v,i,j,k,l⟩:=QKx (P:=P) e m h;obtain⟨vs,c,o,p,q⟩:=n l;exact⟨v::vs,i::c,by simp[A.mapM_cons,j,o],.cons k p,q⟩
theorem H6 {O:C->Prop}{w:d}{ρ:Env}{c:A AV}{vs:A Q}(h:Qu w O ρ c vs):(∀a∈c,∃b cs,a= .x b cs)->Vx w O ρ (H5 c) vs:=by
 induction h with
 | nil=>exact fun _=> .nil
 | @cons a c v vs i _ j=>
  intro e;obtain⟨b,cs,rfl⟩:=e a o6;exact .cons i (j fun a f=>e a (by simp[f]))
theorem QZK {H:HP}: ∀{c d:A AV},Vl H c=D d-> ∀b∈d,∃t cs,b= .x t cs:=by
 intro c;induction c with
 | nil=>intro d h;simp[Vl]at h;subst h;simp
 | cons a c j=>
  intro d h;simp only[Vl]at h;split at h
  ·rename_i k f e i;simp at h;subst h;intro b hb;rcases Zh.1 hb with rfl | hb
   ·cases a with
    | x l cs=>simp only[ZL,B.map_eq_some_iff]at e;obtain⟨m,_,rfl⟩:=e;exact⟨_,_,rfl⟩
    | _=>simp[ZL]at e
   ·exact j i b hb
  ·cases h
theorem QKy {t:TB}(p:Wf P t){ρ:Env}{r:St}{a:Act}{w:d}(s:Sim w0 M N ρ r a w){m:Z}{K:AV->Prop}(h:ez t m.results.toList r K):
    ∃v av,(results m a.tmps).run P w= .ok v w/\ConcV w M.x Y3 av v/\K av:=by
  obtain⟨c,u,x,y,n⟩:=HR (P:=P) p s h;have j:(results m a.tmps).run P w= .ok (if h:c.toArray.size=1 then c.toArray[0]else .tuple c.toArray) w:=by
    have:(m.results.mapM (TS a.tmps)).run P w= .ok c.toArray w:=by
      rw[Zg];simp[x]
    change ((m.results.mapM (TS a.tmps)>>=fun c=>pure (if h:c.size=1 then c[0]else .tuple c)):Sem Q).run P w=_;simp[this]
  unfold Qic at n;have l: ∀{f:A AV},Vl r.H u=D f->Qu w M.x Y3 f c:=fun i=>by
    have B:=QCC s.hs (xp i) y (fun _ h=>h) i;have q: ∀{O O':C->Prop} {f:A AV} {c:A Q},Qu w O Y3 f c->(∀b,O' b->O b)->Qu w O' Y3 f c:=by
      intro O O' f c h z;induction h with
      | nil=>exact .nil
      | cons h _ L=>exact .cons (h.mono (.refl _ _) (fun b _ h=>z b h) (fun _ _ h=>h)) L
    exact q B fun b i=> .inl i
  split at n
  · rename_i b i;have k:=l i;cases k with
    | cons k I=>
      cases I
      exact⟨_,b,(j9 j),k,n⟩
  · rename_i f o i;have k:=l i;refine⟨_,_,j,?_,n⟩;have F:c.length≠1:=fun e=>by
      have:=k.len;match f,(by omega:f.length=1)with
      | [b],_=>exact o b rfl
    rw[dif_neg ((j9 F))];exact⟨c,H6 k (QZK i),rfl⟩
  · exact n.elim

def wpA (T:Qd)(L:LI):l->WF:=wpG (fun _=>aL T) L (rfA T)

theorem qn {g:C}{zb:A Q}(b:XC P g zb T)(d:P.follows .mixedOrders=E){N:C}{L:LI}(c:l)(j:J0 (UE N) c=E):Snd P w0 N (CMc g zb) c (wpA T L c):=
 QEr (fun M _ _ h=>vb (by rw[h.1.1,h.1.2.1];exact b) d) (fun k f p x y m n a e i=>QP4 b d k f p x y m n a e i) c j
theorem iJ {g:C}{zb:A Q}(hT:XC P g zb T)(hm:P.follows .mixedOrders=E){f:C}{s:Z}{c:l}{V:A AV}{K:AV->Prop}(hf:P.funcs[f]? =D s)(hb:s.body=D c)
  {N:C} (hN:s.ntmps=N) {rs:A S} (hZ:s.results.toList=rs) (At:J0 (UE N) c=E) (q:V.length<=N)
  {L:LI} {T0:TM} (y: ∀t,T0 t= .u\/T0 t=cS V t) (h:wpA T L c [] G 0 ⟨T0,fun _=>G⟩ (cW T.tb rs K)):Spec P g zb f V K:=by
 intro w O d hO hg hc;refine j.1 (Y (F:=FR G) (n:=0) hf hb trivial ?_ rfl);have be:g<w.heap.size:=by
  obtain⟨t,fr,a⟩:=hg;exact(Array.getElem?_eq_some_iff.1 a).1
 let M:Ctx:={m:=fun _=>I,x:=O,g:=g,zb:=zb,zg:=Y3,zp:=fun _=>G,zk:=[],nd:=J}
 have B: ∀b,¬own Y3 (fun _=>G) b:=fun b ⟨k,bd,a,_⟩=>by cases a
 have hs:HS w M Y3 (fun _=>G) w:=⟨rfl,rfl,rfl,C.le_refl _,⟨hg,fun h=>h,be,fun b hb=>⟨hO b hb,fun h=>h⟩⟩,fun _ _ _=>rfl,(fun _ _ h=>by cases h),(fun _ _=>rfl),(fun _ _ h=>by cases h),(fun _ _ _ _ h=>by cases h)⟩;have z:d.length<=N:=by rw[<-hc.len];exact q
 have Lm:Qu w (ow M Y3 (fun _=>G)) Y3 V d:=by
  have: ∀b,ow M Y3 (fun _=>G) b->O b:=fun b h=>h.elim id (fun h=>(B b h).elim);clear z q h y;induction hc with
  | nil=>exact .nil
  | cons h _ ih=>exact .cons (h.mono (.refl _ _) (fun b _ h=>this b h) (fun _ _ h=>h)) ih
 have R:Sim w M N Y3 ⟨T0,fun _=>G⟩ {tmps:=d.toArray++Zl (s.ntmps-d.toArray.size) undef,defers:=[]} w:=
  ⟨by simp[hN];omega,.nil,fun _=>rfl,(fun _ _ h=>by cases h),fun t=>by
   rcases y t with h | h
   ·show ConcV w _ Y3 (T0 t) _
    rw[h];trivial
   ·show ConcV w _ Y3 (T0 t) _
    rw[h];exact Un Lm _ t,(fun _ h=>by cases h),hs⟩
 refine qn hT hm c At (M:=M) ⟨⟨rfl,rfl,rfl⟩,rfl⟩ ⟨fun k h=>e rfl h,fun _ h=>by cases h⟩ (NC.refl w) R h ?_
 intro X U;have done: ∀{ρ u},Sim w M N ρ u X U->ez T.tb rs u K->LeavesInM (FR G) 0 P s X.tmps (fun a U=> ∃v W,a= .returned v/\K W/\ConcV U O Y3 W v/\Below w.heap.size w U) X.defers .returning U:=by
  intro ρ u o r;refine o.leave fun a2 w2 p ht _=> ?_
  subst hZ;obtain⟨v,W,r1,r2,r3⟩:=QKy (P:=P) hT.tb p r;rw[ht]at r1;exact⟨v,r1,v,W,rfl,r3,r2,⟨p.hs.os,p.hs.tape,p.hs.output,p.hs.size,fun k hk=>p.hs.zj k hk (fun h=>h)⟩⟩
 refine⟨?_,?_,?_⟩
 ·rintro⟨ρ,u,o,r,_⟩;exact done o r
 ·rintro i ⟨ρ,u,o,r,_⟩;exact r.elim
 ·rintro⟨ρ,u,o,r,_⟩;exact done o r
end Go.Eng
namespace Go.Eng
open Go Go.RowKit
def dn:i->U
 | .struct _=>E
 | .array _ _=>E
 | _=>J
def eqU (P:K)(t:TypeId)(u:i):U:= !P.stoodInHeld t&& !P.eqGuardType P.depth t&&(match u with
  | .struct a=>a.toList.all fun f=> !decide (f.name= "_")
  | _=>E)
theorem Qep {P:K}{t:TypeId}{u:i}(h:eqU P t u=E):P.stoodInHeld t=J/\P.eqGuardType P.depth t=J/\ ∀a,u= .struct a-> ∀f∈a.toList,f.name≠ "_" :=by
 simp only[eqU,q,U.not_eq_true']at h;refine⟨h.1.1,h.1.2,fun a c f b=> ?_⟩;subst c;have:=A.all_eq_true.1 h.2 f b;simpa using this
def eO (u:i)(z:Q):U:=match u with
  | .int _=>(match z with | .int .. =>E | _=>J)
  | _=>E
theorem QZN {u:i}{z:Q}(h:eO u z=E){k:IntKind}(a:u= .int k):z.cells.toList=[z]:=by
 subst a;unfold eO at h;cases z<;>first | rfl | (cases h)
def tbP (P:K):TB:=fun t=>
  match P.info? t with
  | some a=>match a.zero,P.underlying t with
    | some z,D u=>bif(dn u || a.size.beq 1)&&z.cells.toList.length.beq a.size&&z.cells.toList.all (·.oneCell')&&eO u z then
        D ⟨a.size,z.cells.toList,dn u,a.bytes,u,eqU P t u⟩else G
    | _,_=>G
  | none=>G

theorem Qeq (P:K):Wf P (tbP P):=by
 intro t i h;unfold tbP at h;split at h
 ·rename_i c b;split at h
  ·rename_i z u e l;cases a:((dn u || c.size.beq 1)&&z.cells.toList.length.beq c.size&&z.cells.toList.all (·.oneCell')&&eO u z)with
   | false=>rw[a]at h;cases h
   | true=>
    rw[a]at h;simp only[R7,B.some.injEq]at h;subst h;simp only[q,U.or_eq_true]at a;refine⟨⟨c,z,b,rfl,rfl,e,o6⟩,l,?_,fun d=> ?_,f a.1.1.2,a.1.2,fun k j=>⟨c,z,b,e,QZN a.2 j⟩,fun h=>Qep h⟩
    ·simp only[dn];cases u<;>rfl
    ·simp only at d;rcases a.1.1.1 with h | h
     ·rw[d]at h;cases h
     ·exact f h
  ·cases h
 ·cases h
def tbL (l:A (C×TyI)):TB:=fun t=>match l with
  | []=>G
  | p::r=>bif t.beq p.1 then D p.2 else tbL r t

theorem Qer {P:K}: ∀{l:A (C×TyI)},(∀p∈l,tbP P p.1=D p.2)->Wf P (tbL l):=by
 intro l;induction l with
 | nil=>intro _ t i h;cases h
 | cons p r d=>
  intro b t i h;rw[tbL]at h;cases a:t.beq p.1 with
  | true=>
   rw[a]at h;have:=f a;simp only[R7,B.some.injEq]at h;subst this h;exact Qeq P _ _ (b p o6)
  | false=>
   rw[a]at h;exact d (fun q c=>b q (by simp[c])) t i h
end Go.Eng
namespace Go.Eng
open Go Go.RowKit
abbrev Ctr:=A AV->B ((AV->Prop)->Prop)
def prL (l:A (C×Ctr)):PR:=fun f a=>match l with
 | []=>G
 | p::r=>bif f.beq p.1 then p.2 a else prL r f a
structure CtrOK (P:Program)(g:C)(zb:A Value)(f:C)(c:Ctr):Prop where
 enter:G5 P f
 sound: ∀as T,c as=D T-> ∀K,T K->Spec P g zb f as K
def CtrsOK (P:K)(g:C)(zb:A Q)(l:A (C×Ctr)):Prop:= ∀p∈l,CtrOK P g zb p.1 p.2
variable {P:K}{g:C}{zb:A Q}
theorem CtrsOK.nil:CtrsOK P g zb []:=fun _ h=>by cases h
theorem CtrsOK.cons {f:C}{c:Ctr}{l:A (C×Ctr)}(h:CtrOK P g zb f c)(a:CtrsOK P g zb l):CtrsOK P g zb ((f,c)::l):=by
 intro p hp;rcases Zh.1 hp with rfl | hp
 ·exact h
 ·exact a p hp
theorem cN: ∀{l:A (C×Ctr)},CtrsOK P g zb l->dG P g zb (prL l):=by
 intro l;induction l with
 | nil=>exact fun _=>⟨fun _ _ _ h=>(by cases h),fun _ _ _ h=>(by cases h)⟩
 | cons p l k=>
  intro h;have e:=h p o6;have i:=k fun q j=>h q (by simp[j]);refine⟨fun a d T b=> ?_,fun a d T b=> ?_⟩
  ·rw[prL]at b;cases c:a.beq p.1 with
   | true=>have:=f c;subst this;exact e.enter
   | false=>rw[c]at b;exact i.enter a d T b
  ·rw[prL]at b;cases c:a.beq p.1 with
   | true=>rw[c]at b;have:=f c;subst this;exact e.sound d T b
   | false=>rw[c]at b;exact i.sound a d T b
structure QM (p:Prop):Prop where
  out:p

def bK (T:Qd)(L:LI)(f:Z)(a:A AV)(K:AV->Prop):Prop:=wpA T L (Xq f) [] G 0 ⟨cS a,fun _=>G⟩ (cW T.tb f.results.toList K)

theorem nX {T:Qd}(k:XC P g zb T)(m:P.follows .mixedOrders=E){f:C}{d:Z}(l:P.funcs[f]? =D d)(b:U8 d=E){e:A AV}{K:AV->Prop}{L:LI}(a:Zk e.length d.ntmps=E)
  (h:QM (bK T L d e K)):Spec P g zb f e K:=by
 replace h:=h.out;simp only[U8,q]at b;obtain⟨c,j⟩:=Ze.1 b.1.2;have i:Xq d=c:=by unfold Xq;rw[j]
 unfold bK at h;rw[i]at h;exact iJ k m l j rfl rfl (i▸b.2) (Zf a) (fun _=> .inr rfl) h
theorem Spec.args {f:C}{b c:A AV}{K:AV->Prop}(h:Spec P g zb f b K)(a: ∀w O v,Qu w O Y3 c v->Qu w O Y3 b v):Spec P g zb f c K:=
  fun w O v d e i=>h w O v d e (a w O v i)
theorem Spec.res {f:C}{c:A AV}{K K':AV->Prop}(h:Spec P g zb f c K)(hk: ∀w O av v,K av->ConcV w O Y3 av v-> ∃a,K' a/\ConcV w O Y3 a v):Spec P g zb f c K':=
  fun w O b n o p=>(h w O b n o p).mono fun e q ⟨v,av,j,k,l,m⟩=>by
    obtain⟨a,d,i⟩:=hk q O av v k l;exact⟨v,a,j,d,i,m⟩

end Go.Eng
namespace Go.Eng
open Go Go.RowKit
def QSr (x:Q)(K:Q->Prop):Prop:=match x with
 | .int k n=>K (.int k n)
 | .bool b=>K (.bool b)
 | .string s=>K (.string s)
 | .slice a n c=>K (.slice a n c)
 | .func f a b=>K (.func f a b)
 | x=>K x
theorem QP5 (x:Q)(K:Q->Prop):QSr x K=K x:=by cases x<;>rfl
def YP:A Ch->(A Ch->Prop)->Prop
 | [],K=>K []
 | c::b,K=>match c with
  | .v x=>QSr x fun l=>YP b fun a=>K (.v l::a)
  | .r q n=>YP b fun a=>K (.r q n::a)
  | .b m n=>YP b fun a=>K (.b m n::a)
  | .s s e=>YP b fun a=>K (.s s e::a)
  | .p k o=>YP b fun a=>K (.p k o::a)
  | .w k o n=>YP b fun a=>K (.w k o n::a)
  | .e k i o=>YP b fun a=>K (.e k i o::a)
  | .y s e i o=>YP b fun a=>K (.y s e i o::a)
  | .f f j=>YP b fun a=>K (.f f j::a)
  | .i t h d=>YP b fun a=>K (.i t h d::a)
  | .m k=>YP b fun a=>K (.m k::a)
  | .yl k=>YP b fun a=>K (.yl k::a)
  | .u=>YP b fun a=>K (.u::a)
theorem sM: ∀(cs:A Ch) (K:A Ch->Prop),YP cs K=K cs:=by
 intro cs;induction cs with
 | nil=>intro K;rfl
 | cons c cs i=>intro K;cases c<;>simp only[YP,QP5,i]
def bF:A (U×A Ch)->(A (U×A Ch)->Prop)->Prop
 | [],K=>K []
 | p::l,K=>match p with
  | (E,a)=>YP a fun c=>bF l fun b=>K ((E,c)::b)
  | (J,a)=>YP a fun c=>bF l fun b=>K ((J,c)::b)
theorem QP6: ∀(l:A (U×A Ch)) (K:A (U×A Ch)->Prop),bF l K=K l:=by
 intro l;induction l with
 | nil=>intro K;rfl
 | cons p l i=>intro K;obtain⟨b,c⟩:=p;cases b<;>simp only[bF,sM,i]
def Uo (a:AV)(K:AV->Prop):Prop:=match a with
 | .x E b=>YP b fun c=>K (.x E c)
 | .x J b=>YP b fun c=>K (.x J c)
 | .t l=>bF l fun d=>K (.t d)
 | .n=>K .n
 | .u=>K .u
theorem HT (a:AV)(K:AV->Prop):Uo a K=K a:=by
 cases a with
 | x b c=>cases b<;>simp only[Uo,sM]
 | t l=>simp only[Uo,QP6]
 | _=>rfl
def r9 (b:Blk)(K:Blk->Prop):Prop:=match b with
 | .box t a=>YP a fun c=>K (.box t c)
 | .row t d x=>K (.row t d x)
 | .lp s=>K (.lp s)
 | .mp f=>K (.mp f)
 | .dead=>K .dead
theorem QP7 (b:Blk)(K:Blk->Prop):r9 b K=K b:=by cases b<;>simp only[r9,sM]
def Z6:A (C×AV)->C->AV->A (C×AV)
 | [],t,v=>[(t,v)]
 | p::l,t,v=>bif t.beq p.1 then(t,v)::l else p::Z6 l t v
theorem QEu (l:A (C×AV))(t:C)(v:AV):Ql (Z6 l t v)=upd (Ql l) t v:=by
 funext k;induction l with
 | nil=>simp only[Z6,Ql,upd]
 | cons p l i=>
  simp only[Z6];cases a:t.beq p.1 with
  | true=>
   have:=f a;simp only[R7,Ql,upd];cases b:k.beq t with
   | true=>rfl
   | false=>rw[<-this,b];rfl
  | false=>
   simp only[R8,Ql,upd,i];cases b:k.beq p.1 with
   | true=>
    have:=f b;subst this;have:p.1.beq t=J:=by
     cases h:p.1.beq t with
     | false=>rfl
     | true=>rw[f h]at a;simp at a
    rw[this];rfl
   | false=>rfl
def Ss (l:A (C×AV))(d:B C)(v:AV):A (C×AV):=match d with
 | some d=>Z6 l d v
 | none=>l
theorem WV (l:A (C×AV))(d:B C)(v:AV):Ql (Ss l d v)=JR (Ql l) d v:=by
 cases d with
 | none=>rfl
 | some d=>exact QEu l d v
def Va:A (C×Blk)->C->Blk->A (C×Blk)
 | [],t,v=>[(t,v)]
 | p::l,t,v=>bif t.beq p.1 then(t,v)::l else p::Va l t v
theorem W8 (l:A (C×Blk))(t:C)(v:Blk):QO (Va l t v)=upd (QO l) t (D v):=by
 funext k;induction l with
 | nil=>simp only[Va,QO,upd]
 | cons p l i=>
  simp only[Va];cases a:t.beq p.1 with
  | true=>
   have:=f a;simp only[R7,QO,upd];cases b:k.beq t with
   | true=>rfl
   | false=>rw[<-this,b];rfl
  | false=>
   simp only[R8,QO,upd,i];cases b:k.beq p.1 with
   | true=>
    have:=f b;subst this;have:p.1.beq t=J:=by
     cases h:p.1.beq t with
     | false=>rfl
     | true=>rw[f h]at a;simp at a
    rw[this];rfl
   | false=>rfl
def ZB:A (C×Blk)->C->A (C×Blk)
 | [],_=>[]
 | p::l,t=>bif t.beq p.1 then ZB l t else p::ZB l t
theorem QP9 (l:A (C×Blk))(t:C):QO (ZB l t)=upd (QO l) t G:=by
 funext k;induction l with
 | nil=>simp only[ZB,QO,upd];cases k.beq t<;>rfl
 | cons p l i=>
  simp only[ZB];cases a:t.beq p.1 with
  | true=>
   have:=f a;simp only[R7,i,QO,upd,<-this];cases k.beq t<;>rfl
  | false=>
   simp only[R8,QO,upd,i];cases b:k.beq p.1 with
   | true=>
    have:=f b;subst this;have:p.1.beq t=J:=by
     cases h:p.1.beq t with
     | false=>rfl
     | true=>rw[f h]at a;simp at a
    rw[this];rfl
   | false=>rfl
def Z7:A C->HP->A (C×Blk)->(A (C×Blk)->Prop)->Prop
 | [],_,l,K=>K l
 | k::F,a,l,K=>match a k with
  | some b=>r9 b fun c=>Z7 F a (Va l k c) K
  | none=>Z7 F a (ZB l k) K
theorem wG {k:C}{F:A C}{a H:HP}:mrg (k::F) a H=mrg F a (upd H k (a k)):=by
 funext j;unfold mrg upd;have:Xw j (k::F)=(j.beq k || Xw j F):=rfl;rw[this];cases h:j.beq k with
 | true=>have:=f h;subst this;cases Xw j F<;>rfl
 | false=>cases Xw j F<;>rfl
theorem QZO: ∀(F:A C) (a:HP) (l:A (C×Blk)),∃c,QO c=mrg F a (QO l)/\ ∀K,Z7 F a l K=K c:=by
 intro F;induction F with
 | nil=>intro a l;exact⟨l,by funext k;rfl,fun K=>rfl⟩
 | cons k F i=>
  intro a l;cases h:a k with
  | some b=>
   obtain⟨c,d,e⟩:=i a (Va l k b);exact⟨c,by rw[d,W8,wG,h],fun K=>by simp only[Z7,h,QP7];exact e K⟩
  | none=>
   obtain⟨c,d,e⟩:=i a (ZB l k);exact⟨c,by rw[d,QP9,wG,h],fun K=>by simp only[Z7,h];exact e K⟩
def fo (T:Qd)(ops:A L)(i:C)(o:L)(s:SL)(K:SL->Prop):Prop:=
 match Q5 o.op with
 | true=>opS T (evA (Ql s.T)) (Y4 (fp (evA (Ql s.T)) o.op) [] (QO s.H)) (JN o.dst) (fun v _=>KZ (isG ops i) v fun b=>Uo b fun a=>K ⟨Ss s.T o.dst a,s.H⟩) o.op
 | false=>V7 (Jk o.op (JN o.dst)) (QO s.H)<|
   opS T (evA (Ql s.T)) (Y4 (fp (evA (Ql s.T)) o.op) (Jk o.op (JN o.dst)) (QO s.H)) (JN o.dst)
    (fun v c=>KZ (isG ops i) v fun b=>Uo b fun a=>Z7 (fp (evA (Ql s.T)) o.op++Jk o.op (JN o.dst)) c s.H fun l=>K ⟨Ss s.T o.dst a,l⟩) o.op
def cA (T:Qd)(ops:A L)(i:C)(o:L)(s:SL)(K:SL->Prop):Prop:=
 VV ops (Ql s.T) o (fo T ops i o s K) (K ⟨Ss s.T o.dst .n,s.H⟩)
theorem QZP {T:Qd}{ops:A L}{i:C}{o:L}{s:SL}{K:SL->Prop}{K2:St->Prop}(h: ∀s:SL,K2 s.st=K s):
  fo T ops i o s K=opL T (evA s.st.T) s.st.H (JN o.dst) (fun v c=>KZ (isG ops i) v fun a=>K2 ⟨JR s.st.T o.dst a,c⟩) o.op:=by
 unfold fo opL;cases b:Q5 o.op with
 | true=>
  have j:Jk o.op (JN o.dst)=[]:=by simp[Jk,Wq b]
  simp only[j,A.append_nil];show _=opS _ _ _ _ _ _
  conv=>rhs;rw[HQ T b]
  show opS _ _ _ _ _ _=opS _ _ _ _ _ _
  congr 1;funext v _;show KZ _ _ _=KZ _ _ _
  congr 1;funext a;rw[HT,<-h];congr 1;show(⟨Ql _,QO s.H⟩:St)=⟨_,mrg _ _ (QO s.H)⟩
  congr 1
  ·exact WV _ _ _
  ·rw[Ws];intro k f;exact V6 f
 | false=>
  simp only;show V7 _ (QO s.H) (opS _ _ _ _ _ _)=V7 _ (QO s.H) (opS _ _ _ _ _ _)
  congr 1;congr 1;funext v d;show KZ _ _ _=KZ _ _ _
  congr 1;funext a;rw[HT];obtain⟨l,m,e⟩:=QZO (fp (evA (Ql s.T)) o.op++Jk o.op (JN o.dst)) d s.H;rw[e,<-h];congr 1;show(⟨Ql _,QO l⟩:St)=⟨_,_⟩
  congr 1;exact WV _ _ _
theorem rK {T:Qd}{ops:A L}{i:C}{o:L}{s:SL}{K:SL->Prop}{K2:St->Prop}(h: ∀s:SL,K2 s.st=K s):cA T ops i o s K=opA T ops Wr i o s.st K2:=by
 unfold cA opA;rw[QZP h];simp only[Wr,R7];have:K ⟨Ss s.T o.dst .n,s.H⟩=K2 ⟨JR s.st.T o.dst .n,s.st.H⟩:=by
  rw[<-h];congr 1;show(⟨Ql _,QO s.H⟩:St)=⟨_,_⟩
  congr 1;exact WV _ _ _
 rw[this];rfl
def cT (T:Qd)(ops:A L):A C->SL->(SL->Prop)->Prop
 | [],s,K=>K s
 | i::r,s,K=>match ops[i]? with
  | some o=>cA T ops i o s fun a=>cT T ops r a K
  | none=>I
theorem QSt {T:Qd}{ops:A L}{K:SL->Prop}{K2:St->Prop}(h: ∀s:SL,K2 s.st=K s): ∀(l:A C) (s:SL),cT T ops l s K=aT T ops Wr l s.st K2:=by
 intro l;induction l with
 | nil=>intro s;exact(h s).symm
 | cons i r a=>
  intro s;simp only[cT,aT];cases ops[i]? with
  | none=>rfl
  | some o=>exact rK fun b=>(a b).symm
def Qid (T:Qd)(o:L)(s:SL)(K:SL->Prop):SL->Prop:=bif TK T o.op then fun a=>HD (gOf o (Ql s.T)) (QO a.H) (QO s.H) (K a)else K
def iR (T:Qd)(ops:A L)(i:C)(o:L)(s:SL)(K:SL->Prop):Prop:=cA T ops i o s (Qid T o s K)
theorem QZQ {T:Qd}{ops:A L}{i:C}{o:L}{s:SL}{K:SL->Prop}{K2:St->Prop}(h: ∀s:SL,K2 s.st=K s):iR T ops i o s K=opX T ops i o s.st K2:=by
 unfold iR opX;refine rK fun a=> ?_
 unfold TO Qid;cases TK T o.op with
 | false=>exact h a
 | true=>
  simp only[R7,h];rfl
def ZJ (T:Qd)(ops:A L)(a:A (A C)):A C->A (C×A C)->SL->(SL->Prop)->Prop
 | [],_,s,K=>K s
 | i::r,l,s,K=>match ops[i]? with
  | some o=>bif l.all (fun p=>J2 T ops a i p.1 (gOf o (Ql s.T)) p.2)then iR T ops i o s fun b=>ZJ T ops a r ((i,gOf o (Ql s.T))::l) b K else I
  | none=>I
theorem QIc {T:Qd}{ops:A L}{b:A (A C)}{K:SL->Prop}{K2:St->Prop}(h: ∀s:SL,K2 s.st=K s): ∀(l:A C) (a:A (C×A C)) (s:SL),ZJ T ops b l a s K=VX T ops b l a s.st K2:=by
 intro l;induction l with
 | nil=>intro a s;exact(h s).symm
 | cons i r d=>
  intro a s;simp only[ZJ,VX];cases ops[i]? with
  | none=>rfl
  | some o=>
   simp only;rw[QZQ (K2:=fun c=>VX T ops b r ((i,gOf o (Ql s.T))::a) c K2) fun e=>(d _ e).symm];rfl
def vM (T:Qd)(O:OT)(i:C)(ops:A L)(d:U)(s:SL)(K:SL->Prop):Prop:=
 bif d then ZJ T ops (O i).2 (O i).1 [] s K else cT T ops (A.range ops.length) s K
theorem QZR {T:Qd}{O:OT}{i:C}{ops:A L}{d:U}(a:(bif d then decide (O i=(ord ops,UD ops))else E)=E){s:SL}{K:SL->Prop}{K2:St->Prop}(h: ∀s:SL,K2 s.st=K s):vM T O i ops d s K=aL T ops d s.st K2:=by
 cases d with
 | true=>
  have:O i=(ord ops,UD ops):=(j9 a)
  show ZJ T ops (O i).2 (O i).1 [] s K=_
  rw[this];exact QIc h _ _ _
 | false=>exact QSt h _ _
abbrev QL:=Ex->SL->Prop
abbrev WL:=A C->B C->C->SL->QL->Prop
abbrev RGL:=C->C->A L->U->SL->(SL->Prop)->Prop
abbrev RFL:=UA->Operand->A C->WL->WL->WL
def qE (pl:A C)(I:Inv)(b:C->SL->QL->Prop)(c:C)(s:SL)(Q:QL):Prop:=
 (∃x,(I.φ x/\I.t x=c)/\JP pl s.st (I.S x))/\
  ∀x,I.φ x->I.t x=c->b (I.m x) (I.S x) fun e d=>match e with
   | .n=> ∃a,(I.φ a/\I.t a=c/\I.m a<I.m x)/\JP pl d.st (I.S a)
   | e=>Q e d
def q8 (pl:A C)(K:A C)(I:Inv)(b:C->SL->QL->Prop)(c:C)(s:SL)(Q:QL):Prop:=
 (∃x,(I.φ x/\I.t x=c)/\JP pl (Sy K s.st) (I.S x))/\
  ∀x,I.φ x->I.t x=c->b (I.m x) (I.S x) fun e d=>match e with
   | .n=> ∃a,(I.φ a/\I.t a=c/\I.m a<I.m x)/\JP pl (Sy K d.st) (I.S a)
   | e=>Q e d
def sU (pl:A C)(a B:Inv)(c:C->SL->QL->Prop)(d:C)(s:SL)(Q:QL):Prop:=
 ((∃x,(a.φ x/\a.t x=d)/\JP pl s.st (a.S x))\/ ∃x,(B.φ x/\B.t x=d)/\JP pl s.st (B.S x))/\
  (∀x,a.φ x->a.t x=d->c (a.m x) (a.S x) fun e f=>match e with
   | .n=>(∃b,(a.φ b/\a.t b=d/\a.m b<a.m x)/\JP pl f.st (a.S b))\/ ∃b,(B.φ b/\B.t b=d/\B.m b<a.m x)/\JP pl f.st (B.S b)
   | e=>Q e f)/\
  ∀x,B.φ x->B.t x=d->c (B.m x) (B.S x) fun e f=>match e with
   | .n=>(∃b,(a.φ b/\a.t b=d/\a.m b<B.m x)/\JP pl f.st (a.S b))\/ ∃b,(B.φ b/\B.t b=d/\B.m b<B.m x)/\JP pl f.st (B.S b)
   | e=>Q e f
def dp (b:SL->QL->Prop):C->SL->QL->Prop
 | 0,_,_=>I
 | n+1,s,Q=>b s fun e a=>match e with
  | .n=>dp b n a Q
  | e=>Q e a
def ua (pl:A C)(L:UA)(c:C->SL->QL->Prop)(d:C)(s:SL)(Q:QL):Prop:=
 match L with
 | .inv b=>qE pl b c d s Q
 | .inv2 a B=>sU pl a B c d s Q
 | .invf K b=>q8 pl K b c d s Q
 | .unroll n=>dp (c d) n s Q
 | _=>I
def tA (pl:A C)(K:A C)(I:Inv)(a b:SL->QL->Prop)(d:C)(s:SL)(Q:QL):Prop:=
 (a s fun e c=>match e with
  | .n=> ∃x,(I.φ x/\I.t x=d)/\JP pl (Sy K c.st) (I.S x)
  | e=>Q e c)/\ ∀x,I.φ x->I.t x=d->b (I.S x) Q
def qb (pl:A C)(K:A C)(c B:Inv)(a b:SL->QL->Prop)(d:C)(s:SL)(Q:QL):Prop:=
 (a s fun e f=>match e with
  | .n=>(∃x,(c.φ x/\c.t x=d)/\JP pl (Sy K f.st) (c.S x))\/ ∃x,(B.φ x/\B.t x=d)/\JP pl (Sy K f.st) (B.S x)
  | e=>Q e f)/\(∀x,c.φ x->c.t x=d->b (c.S x) Q)/\ ∀x,B.φ x->B.t x=d->b (B.S x) Q
def KI (RG:RGL)(L:LI)(RF:RFL):l->WL
 | .skip,_,_,_,s,Q=>Q .n s
 | .region m o k,_,_,h,s,Q=>RG h m o.toList k s (Q .n)
 | .seq a b,p,r,h,s,Q=>match ia L b with
  | some (K,d,G)=>tA p K d (KI RG L RF a p r h) (KI RG L RF b p r h) h s Q
  | some (K,A,D B)=>qb p K A B (KI RG L RF a p r h) (KI RG L RF b p r h) h s Q
  | none=>KI RG L RF a p r h s fun e j=>match e with
   | .n=>KI RG L RF b p r h j Q
   | e=>Q e j
 | .cond c a b,p,r,h,s,Q=>match evA (Ql s.T) c with
  | .x J [.v (.bool t)]=>bif t then KI RG L RF a p r h s Q else KI RG L RF b p r h s Q
  | _=>I
 | .block m c,p,r,h,s,Q=>KI RG L RF c p r h s fun e j=>match e with
  | .x i=>bif i.beq m then Q .n j else Q (.x i) j
  | e=>Q e j
 | .loop c,p,r,h,s,Q=>ua p (match Wp c with | some i=>L i | none=> .no) (KI RG L RF c p r) h s Q
 | .rangeFunc f n a b,p,r,h,s,Q=>RF (match Wp a with | some i=>L i | none=> .no) f n.toList (KI RG L RF a) (KI RG L RF b) p r h s Q
 | .exit m,_,_,_,s,Q=>Q (.x m) s
 | .label _,_,_,_,s,Q=>Q .n s
 | .ret,_,_,_,s,Q=>Q .r s
 | _,_,_,_,_,_=>I
def EqW (F:WL)(a:WF):Prop:= ∀pl ro μ s (Q:QL) (b:QQ),(∀e (s:SL),b e s.st=Q e s)->F pl ro μ s Q=a pl ro μ s.st b

theorem QNk {RG:RGL}{Lm:RGT}{L:LI}{RF:RFL}{At:RFT}{O:OT}(jc: ∀u id ops V,(bif V then decide (O id=(ord ops,UD ops))else E)=E-> ∀s (K:SL->Prop) (K2:St->Prop),(∀s:SL,K2 s.st=K s)->RG u id ops V s K=Lm u ops V s.st K2)
  (jb: ∀it f ps wa wb hZ ja,EqW wa hZ->EqW wb ja->EqW (RF it f ps wa wb) (At it f ps hZ ja)): ∀(c:l),Ka O c=E->EqW (KI RG L RF c) (wpG Lm L At c):=by
 intro c;induction c with
 | skip=>intro _ r v u s Q y h;exact(h _ _).symm
 | region id ops V=>intro z r v u s Q y h;exact jc u id ops.toList V z s _ _ fun s=>h _ s
 | seq j b Z U=>
  intro z r v u s Q y h;simp only[Ka,q]at z;simp only[KI,wpG,cutI];cases ia L b with
  | none=>
   refine Z z.1 r v u s _ _ fun e W=> ?_
   cases e with
   | n=>exact(U z.2 r v u W Q y h).symm
   | _=>exact h _ _
  | some p=>
   obtain⟨K,d,o⟩:=p;cases o with
   | some B=>
    show qb r K d B _ _ u s Q=ba r K (Tk d B) _ _ u s.st y
    unfold qb ba;congr 1
    ·refine Z z.1 r v u s _ _ fun e W=> ?_
     cases e with
     | n=>exact X ⟨fun⟨x,h⟩=>match x,h with
       | .inl x,h=> .inl ⟨x,h⟩
       | .inr x,h=> .inr ⟨x,h⟩,fun h=>h.elim (fun⟨x,h⟩=>⟨.inl x,h⟩) (fun⟨x,h⟩=>⟨.inr x,h⟩)⟩
     | _=>exact h _ _
    ·exact X ⟨fun⟨h1,h2⟩ x=>match x with
      | .inl x=>fun k1 k2=>by have:=h1 x k1 k2;rw[U z.2 r v u (d.S x) Q y h]at this;exact this
      | .inr x=>fun k1 k2=>by have:=h2 x k1 k2;rw[U z.2 r v u (B.S x) Q y h]at this;exact this,
      fun h'=>⟨fun x k1 k2=>by rw[U z.2 r v u (d.S x) Q y h];exact h' (.inl x) k1 k2,fun x k1 k2=>by rw[U z.2 r v u (B.S x) Q y h];exact h' (.inr x) k1 k2⟩⟩
   | none=>
   show tA r K d _ _ u s Q=ba r K d _ _ u s.st y
   unfold tA ba;congr 1
   ·refine Z z.1 r v u s _ _ fun e W=> ?_
    cases e with
    | n=>rfl
    | _=>exact h _ _
   ·apply X;refine a fun x=>F fun _=>F fun _=>Iff.of_eq (U z.2 r v u (d.S x) Q y h)
 | cond c j b Z U=>
  intro z r v u s Q y h;simp only[Ka,q]at z;simp only[KI,wpG];have e1:=Z z.1 r v u s Q y h;have e2:=U z.2 r v u s Q y h;show(match evA (Ql s.T) c with | .x J [.v (.bool t)]=>bif t then KI RG L RF j r v u s Q else KI RG L RF b r v u s Q | _=>I)=_
  rw[e1,e2];rfl
 | block id c ih=>
  intro z r v u s Q y h;simp only[KI,wpG];refine ih z r v u s _ _ fun e W=> ?_
  cases e with
  | x i=>
   show(bif i.beq id then y .n W.st else y (.x i) W.st)=(bif i.beq id then Q .n W else Q (.x i) W)
   rw[h,h]
  | _=>exact h _ _
 | loop c ih=>
  intro z r v u s Q y h;simp only[KI,wpG];have be: ∀LL:UA,ua r LL (KI RG L RF c r v) u s Q=nC r LL (wpG Lm L At c r v) u s.st y:= ?_
  ·cases Wp c with
   | none=>exact be .no
   | some i=>exact be (L i)
  intro LL;cases LL with
  | inv d=>
   show qE r d _ u s Q=bo r d _ u s.st y
   unfold qE bo;congr 1;apply X;refine a fun x=> ?_
   refine F fun _=>F fun _=>Iff.of_eq (ih z r v (d.m x) (d.S x) _ (fun e Y=>match e with
    | .n=> ∃R,(d.φ R/\d.t R=u/\d.m R<d.m x)/\JP r Y (d.S R)
    | e=>y e Y) fun e W=> ?_)
   cases e with
   | n=>rfl
   | _=>exact h _ _
  | invf K d=>
   show q8 r K d _ u s Q=fT r K d _ u s.st y
   unfold q8 fT;congr 1;apply X;refine a fun x=> ?_
   refine F fun _=>F fun _=>Iff.of_eq (ih z r v (d.m x) (d.S x) _ (fun e Y=>match e with
    | .n=> ∃R,(d.φ R/\d.t R=u/\d.m R<d.m x)/\JP r (Sy K Y) (d.S R)
    | e=>y e Y) fun e W=> ?_)
   cases e with
   | n=>rfl
   | _=>exact h _ _
  | inv2 A B=>
   show sU r A B _ u s Q=bo r (Tk A B) _ u s.st y
   unfold sU bo
   have hb: ∀(m:C) (S:SL),KI RG L RF c r v m S (fun e W=>match e with
     | .n=>(∃R,(A.φ R/\A.t R=u/\A.m R<m)/\JP r W.st (A.S R))\/ ∃R,(B.φ R/\B.t R=u/\B.m R<m)/\JP r W.st (B.S R)
     | e=>Q e W)=wpG Lm L At c r v m S.st (fun e Y=>match e with
     | .n=> ∃R,((Tk A B).φ R/\(Tk A B).t R=u/\(Tk A B).m R<m)/\JP r Y ((Tk A B).S R)
     | e=>y e Y):=fun m S=>ih z r v m S _ _ fun e W=>by
    cases e with
    | n=>exact X ⟨fun⟨x,h⟩=>match x,h with
      | .inl x,h=> .inl ⟨x,h⟩
      | .inr x,h=> .inr ⟨x,h⟩,fun h=>h.elim (fun⟨x,h⟩=>⟨.inl x,h⟩) (fun⟨x,h⟩=>⟨.inr x,h⟩)⟩
    | _=>exact h _ _
   refine X ⟨fun⟨h1,h2,h3⟩=>⟨h1.elim (fun⟨x,h⟩=>⟨.inl x,h⟩) (fun⟨x,h⟩=>⟨.inr x,h⟩),fun x=>match x with
    | .inl x=>fun k1 k2=>by have:=h2 x k1 k2;rw[hb]at this;exact this
    | .inr x=>fun k1 k2=>by have:=h3 x k1 k2;rw[hb]at this;exact this⟩,fun⟨⟨x,h1⟩,h2⟩=>⟨match x,h1 with
    | .inl x,h=> .inl ⟨x,h⟩
    | .inr x,h=> .inr ⟨x,h⟩,fun x k1 k2=>by rw[hb];exact h2 (.inl x) k1 k2,fun x k1 k2=>by rw[hb];exact h2 (.inr x) k1 k2⟩⟩
  | unroll n=>
   show dp _ n s Q=Um _ n s.st y
   induction n generalizing s with
   | zero=>rfl
   | succ n jd=>
    simp only[dp,Um];refine ih z r v u s _ _ fun e W=> ?_
    cases e with
    | n=>exact(jd W).symm
    | _=>exact h _ _
  | _=>rfl
 | rangeFunc f ps j b Z U=>
  intro z r v u s Q y h;simp only[Ka,q]at z;exact jb _ f _ _ _ _ _ (Z z.1) (U z.2) r v u s Q y h
 | exit id=>intro _ r v u s Q y h;exact(h _ _).symm
 | label k=>intro _ r v u s Q y h;exact(h _ _).symm
 | ret=>intro _ r v u s Q y h;exact(h _ _).symm
 | _=>intro _ r v u s Q y _;rfl
def bZ (T:A (C×AV)):A C->A AV->A (C×AV)
 | p::c,a::b=>bZ (Z6 T p a) c b
 | _,_=>T
theorem QId: ∀(ps:A C) (b:A AV) (T:A (C×AV)),Ql (bZ T ps b)=ZN (Ql T) ps b:=by
 intro ps;induction ps with
 | nil=>intro b T;rfl
 | cons p ps i=>
  intro b T;cases b with
  | nil=>rfl
  | cons a b=>rw[bZ,ZN,i,QEu]
def HF (k:A C):A (C×AV)->A (C×AV)
 | []=>[]
 | p::l=>bif Xw p.1 k then p::HF k l else HF k l
theorem QCd (a:A C)(l:A (C×AV)):Ql (HF a l)=KH a (Ql l):=by
 funext t;induction l with
 | nil=>unfold KH;cases Xw t a<;>rfl
 | cons p l i=>
  obtain⟨k,v⟩:=p;simp only[HF];cases b:Xw k a with
  | true=>
   simp only[R7,Ql,KH];cases h:t.beq k with
   | true=>have:=f h;subst this;rw[b];rfl
   | false=>simp only[R8];rw[i];rfl
  | false=>
   simp only[R8];rw[i];simp only[KH,Ql];cases h:t.beq k with
   | true=>have:=f h;subst this;rw[b];rfl
   | false=>rfl
def dZ:A AV->(A AV->Prop)->Prop
 | [],K=>K []
 | a::d,K=>Uo a fun c=>dZ d fun b=>K (c::b)
theorem QK1: ∀(b:A AV) (K:A AV->Prop),dZ b K=K b:=by
 intro b;induction b with
 | nil=>intro K;rfl
 | cons a b i=>intro K;simp only[dZ,HT,i]
abbrev YL:=A C->C->A AV->A (C×Blk)->(A (C×Blk)->Prop)->(C->A (C×Blk)->Prop)->Prop
def EqY (F:YL)(a:YD):Prop:= ∀plI μ args H (d:A (C×Blk)->Prop) (c:C->A (C×Blk)->Prop) (b:HP->Prop) (K:C->HP->Prop),(∀H,b (QO H)=d H)->(∀j H,K j (QO H)=c j H)->F plI μ args H d c=a plI μ args (QO H) b K
def kF (k:C)(b:A C)(Y:YL)(c:C)(dst:B C)(args:A AV)(s:SL)(K:SL->Prop):Prop:=
 match QO s.H k with
 | some (.lp 0)=>Y (bq b (Ql s.T)) c args s.H
   (fun a=>K ⟨Ss (HF b s.T) dst (JS (.bool E)),Va a k (.lp 0)⟩)
   (fun j a=>K ⟨Ss (HF b s.T) dst (JS (.bool J)),Va a k (.lp j)⟩)
 | _=>I
def kV (T:Qd)(k:C)(b:A C)(Y:YL)(c:C)(ops:A L)(i:C)(o:L)(s:SL)(K:SL->Prop):Prop:=
 match ZX k (evA (Ql s.T)) o.op with
 | some a=>VV ops (Ql s.T) o (dZ a fun a=>kF k b Y c o.dst a s K) (K ⟨Ss s.T o.dst .n,s.H⟩)
 | none=>cA T ops i o s K
def dK (T:Qd)(k:C)(a:A C)(Y:YL)(b:C)(ops:A L):A C->SL->(SL->Prop)->Prop
 | [],s,K=>K s
 | i::r,s,K=>match ops[i]? with
  | some o=>kV T k a Y b ops i o s fun c=>dK T k a Y b ops r c K
  | none=>I
def tR (T:Qd)(O:OT)(k:C)(a:A C)(Y:YL):RGL:=fun b i o d s K=>
 bif d then ZJ T o (O i).2 (O i).1 [] s K else dK T k a Y b o (A.range o.length) s K
theorem QQB {k:C}{a:A C}{Y:YL}{d:YD}(hY:EqY Y d){c:C}{dst:B C}{args:A AV}{s:SL}{K:SL->Prop}{K2:St->Prop}(h: ∀s:SL,K2 s.st=K s):kF k a Y c dst args s K=aj k a d c dst args s.st K2:=by
 unfold kF aj;have e:Y (bq a (Ql s.T)) c args s.H (fun b=>K ⟨Ss (HF a s.T) dst (JS (.bool E)),Va b k (.lp 0)⟩) (fun j b=>K ⟨Ss (HF a s.T) dst (JS (.bool J)),Va b k (.lp j)⟩)=
   d (bq a s.st.T) c args s.st.H (fun b=>K2 ⟨JR (KH a s.st.T) dst (JS (.bool E)),upd b k (D (.lp 0))⟩) (fun j b=>K2 ⟨JR (KH a s.st.T) dst (JS (.bool J)),upd b k (D (.lp j))⟩):=by
  refine hY _ _ _ _ _ _ _ _ (fun H=> ?_) (fun j H=> ?_)
  ·rw[<-h];congr 1;show St.mk _ _=St.mk _ _;congr 1
   ·show _=Ql (Ss (HF a s.T) dst _);rw[WV,QCd];rfl
   ·exact(W8 _ _ _).symm
  ·rw[<-h];congr 1;show St.mk _ _=St.mk _ _;congr 1
   ·show _=Ql (Ss (HF a s.T) dst _);rw[WV,QCd];rfl
   ·exact(W8 _ _ _).symm
 rw[e];rfl
theorem QZS {T:Qd}{k:C}{c:A C}{Y:YL}{b:YD}(hY:EqY Y b){d:C}{ops:A L}{i:C}{o:L}{s:SL}{K:SL->Prop}{K2:St->Prop}(h: ∀s:SL,K2 s.st=K s):kV T k c Y d ops i o s K=opI T k c b d ops i o s.st K2:=by
 unfold kV opI;show(match ZX k (evA (Ql s.T)) o.op with | some a=>_ | none=>_)=(match ZX k (evA (Ql s.T)) o.op with | some a=>_ | none=>_)
 cases ZX k (evA (Ql s.T)) o.op with
 | none=>exact rK h
 | some a=>
  simp only[QK1];rw[QQB hY h];have:K ⟨Ss s.T o.dst .n,s.H⟩=K2 ⟨JR s.st.T o.dst .n,s.st.H⟩:=by
   rw[<-h];congr 1;show St.mk _ _=St.mk _ _;congr 1;exact WV _ _ _
  rw[this];rfl
theorem QSx {T:Qd}{k:C}{b:A C}{Y:YL}{a:YD}(hY:EqY Y a){c:C}{ops:A L}{K:SL->Prop}{K2:St->Prop}(h: ∀s:SL,K2 s.st=K s): ∀(l:A C) (s:SL),dK T k b Y c ops l s K=ZP T k b a c ops l s.st K2:=by
 intro l;induction l with
 | nil=>intro s;exact(h s).symm
 | cons i r d=>
  intro s;simp only[dK,ZP];cases ops[i]? with
  | none=>rfl
  | some o=>exact QZS hY fun e=>(d e).symm
theorem QSy {T:Qd}{O:OT}{k:C}{b:A C}{Y:YL}{a:YD}(hY:EqY Y a)(c i:C)(ops:A L)(d:U)(e:(bif d then decide (O i=(ord ops,UD ops))else E)=E)(s:SL)(K:SL->Prop)(K2:St->Prop)(h: ∀s:SL,K2 s.st=K s):
  tR T O k b Y c i ops d s K=ar T k b a c ops d s.st K2:=by
 cases d with
 | true=>
  have:O i=(ord ops,UD ops):=(j9 e)
  show ZJ T ops (O i).2 (O i).1 [] s K=_
  rw[this];exact QIc h _ _ _
 | false=>exact QSx hY h _ _
def mU (wa wb:WL)(pl:A C)(ps:A C)(Tc:A (C×AV))(k:C):YL:=fun plI c a H d K=>
 bif a.length.beq ps.length then
  wa (plI++pl) (D k) c ⟨bZ Tc ps a,H⟩ fun e b=>match e with
   | .n=>(match QO b.H k with
    | some (.lp 0)=>wb (plI++pl) (D k) c ⟨b.T,Va b.H k (.lp 1)⟩ fun e s=>(match QO s.H k with
     | some (.lp 1)=>(match e with
      | .n=>d s.H
      | .r=>K 2 s.H
      | .x i=>K (i+3) s.H)
     | _=>I)
    | _=>I)
   | _=>I
 else I
theorem QQC {wa wb:WL}{f d:WF}(u:EqW wa f)(v:EqW wb d)(pl ps:A C)(Tc:A (C×AV))(k:C):EqY (mU wa wb pl ps Tc k) (aA f d pl ps (Ql Tc) k):=by
 intro plI m a H o j h K t l;unfold mU aA;cases a.length.beq ps.length with
 | false=>rfl
 | true=>
  simp only[R7];have e:(⟨ZN (Ql Tc) ps a,QO H⟩:St)=(⟨bZ Tc ps a,H⟩:SL).st:=by
   show St.mk _ _=St.mk _ _;rw[QId]
  rw[e];refine u _ _ _ _ _ _ fun e s=> ?_
  cases e with
  | n=>
   simp only
   have p:wb (plI++pl) (D k) m ⟨s.T,Va s.H k (.lp 1)⟩ (fun e c=>(match QO c.H k with
     | some (.lp 1)=>(match e with
      | .n=>o c.H
      | .r=>j 2 c.H
      | .x i=>j (i+3) c.H)
     | _=>I))=d (plI++pl) (D k) m ⟨s.st.T,upd s.st.H k (D (.lp 1))⟩ (fun e b=>(match b.H k with
     | some (.lp 1)=>(match e with
      | .n=>h b.H
      | .r=>K 2 b.H
      | .x i=>K (i+3) b.H)
     | _=>I)):=by
    have q:(⟨s.st.T,upd s.st.H k (D (.lp 1))⟩:St)=(⟨s.T,Va s.H k (.lp 1)⟩:SL).st:=by
     show St.mk _ _=St.mk _ _;rw[W8];rfl
    rw[q];refine v _ _ _ _ _ _ fun e c=> ?_
    show(match QO c.H k with | some (.lp 1)=>_ | _=>I)=(match QO c.H k with | some (.lp 1)=>_ | _=>I)
    cases e with
    | n=>simp only[SL.st,t]
    | r=>simp only[SL.st,l]
    | x i=>simp only[SL.st,l]
   rw[p];rfl
  | _=>rfl
def Qkq:RFL:=fun _ _ _ _ _ _ _ _ _ _=>I
def iV (k:C)(s:SL)(Q:QL):QL:=fun e a=>match e with
 | .x _=>I
 | _=>match QO a.H k with
  | some (.lp 0)=>Q .n ⟨s.T,Va a.H k .dead⟩
  | some (.lp 2)=>Q .r ⟨s.T,Va a.H k .dead⟩
  | some (.lp (i+3))=>Q (.x i) ⟨s.T,Va a.H k .dead⟩
  | _=>I
theorem QS0 {k:C}{s:SL}{Q:QL}{a:QQ}(h: ∀e (s:SL),a e s.st=Q e s)(e:Ex)(s':SL):bz k s a e s'.st=iV k s Q e s':=by
 have b:(⟨Ql s.T,upd s'.st.H k (D .dead)⟩:St)=(⟨s.T,Va s'.H k .dead⟩:SL).st:=by
  show St.mk _ _=St.mk _ _;rw[W8];rfl
 cases e with
 | x i=>rfl
 | _=>
  simp only[bz,iV];rw[b];simp only[h];rfl
def kq (T:Qd)(k:C)(b:A C)(L:LI)(ps:A C)(wa wb:WL)(pl:A C)(c:C)(s:SL)(Q:QL)(a:C)(ks:A C):Prop:=
 match T.it a,QO s.H k with
 | some (f,O),G=>bif(ab f&&Zk (ks.length+1) f.ntmps)&&Ka O (Xq f)then
   KI (tR T O k b (mU wa wb (plI k pl s) ps s.T k)) L Qkq (Xq f) (plI k pl s) G c
    ⟨UG 0 (UH k ks),Va s.H k (.lp 0)⟩ (iV k s Q)
  else I
 | _,_=>I
def ft (T:Qd)(k:C)(c:A C)(L:LI)(f:Operand)(ps:A C)(wa wb:WL)(pl:A C)(r:B C)(d:C)(s:SL)(Q:QL):Prop:=
 roA r (QO s.H)<| match f with
  | .tmp t=>(match Ql s.T t with
   | .x J [.f a b]=>kq T k c L ps wa wb pl d s Q a b
   | _=>I)
  | _=>I
def rfL (T:Qd):RFL:=fun i f d e h p r b s Q=>match i with
 | .it a K k c L=>(∃x,(a.φ x/\a.t x=b)/\JP p (Sy K s.st) (a.S x))/\ ∀x,a.φ x->a.t x=b->ft T k c (L x) f d e h p r (a.m x) (a.S x) Q
 | _=>I
theorem QZT {T:Qd}{k:C}{n:A C}{L:LI}{ps:A C}{wa wb:WL}{c i:WF}(v:EqW wa c)(x:EqW wb i){pl:A C}{j:C}{s:SL}{Q:QL}{m:QQ}(h: ∀e (s:SL),m e s.st=Q e s)(f:C)(ks:A C):
  kq T k n L ps wa wb pl j s Q f ks=rfC T k n L ps c i pl j s m f ks:=by
 unfold kq rfC;cases T.it f with
 | none=>rfl
 | some p=>
  obtain⟨l,O⟩:=p;cases QO s.H k with
  | some b=>rfl
  | none=>
   simp only;cases a:(ab l&&Zk (ks.length+1) l.ntmps)&&Ka O (Xq l)with
   | false=>rfl
   | true=>
    simp only[R7];simp only[q]at a;have t:(⟨Ql (UG 0 (UH k ks)),upd (QO s.H) k (D (.lp 0))⟩:St)=(⟨UG 0 (UH k ks),Va s.H k (.lp 0)⟩:SL).st:=by
     show St.mk _ _=St.mk _ _;rw[W8]
    rw[t];exact QNk (O:=O) (fun j z o d y s K r u=>QSy (QQC v x _ _ _ _) j z o d y s K r u) (fun _ _ _ _ _ _ _ _ _=>fun _ _ _ _ _ _ _=>rfl) _ a.2 _ _ _ _ _ _ (QS0 h)
theorem QZU {T:Qd}{k:C}{d:A C}{L:LI}{f:Operand}{ps:A C}{wa wb:WL}{a b:WF}(j:EqW wa a)(l:EqW wb b){pl:A C}{r:B C}{i:C}{s:SL}{Q:QL}{c:QQ}(h: ∀e (s:SL),c e s.st=Q e s):
  ft T k d L f ps wa wb pl r i s Q=rfB T k d L f ps a b pl r i s c:=by
 unfold ft rfB;simp only[QZT j l h];rfl
theorem Qez {T:Qd}(it:UA)(f:Operand)(ps:A C)(wa wb:WL)(b c:WF)(d:EqW wa b)(e:EqW wb c):EqW (rfL T it f ps wa wb) (rfA T it f ps b c):=by
 intro p r l s Q i h;unfold rfL rfA;cases it with
 | it I K k j L=>
  simp only;congr 1;apply X;exact a fun x=>F fun _=>F fun _=>Iff.of_eq (QZU d e h)
 | _=>rfl
def wpL (T:Qd)(O:OT)(L:LI):l->WL:=KI (fun _=>vM T O) L (rfL T)
theorem pv {T:Qd}{O:OT}{L:LI}(c:l)(h:Ka O c=E):EqW (wpL T O L c) (wpA T L c):=
 QNk (O:=O) (fun _ _ _ _ h _s _K _K2 d=>QZR h d) (fun j f p k m a b e i=>Qez j f p k m a b e i) c h
def QN (T:Qd)(O:OT)(L:LI)(f:Z)(a:A AV)(K:AV->Prop):Prop:=wpL T O L (Xq f) [] G 0 ⟨UG 0 a,[]⟩ fun e s=>cW T.tb f.results.toList K e s.st

variable {P:K}{g:C}{zb:A Q}
theorem Qk {T:Qd}(l:XC P g zb T)(n:P.follows .mixedOrders=E){f:C}{a:Z}(m:P.funcs[f]? =D a)(d:U8 a=E){O:OT}(i:Ka O (Xq a)=E){e:A AV}{K:AV->Prop}{L:LI}(b:Zk e.length a.ntmps=E)
  (h:QM (QN T O L a e K)):Spec P g zb f e K:=by
 replace h:=h.out;simp only[U8,q]at d;obtain⟨c,k⟩:=Ze.1 d.1.2;have j:Xq a=c:=by unfold Xq;rw[k]
 unfold QN at h;rw[pv _ i _ _ _ _ _ (cW T.tb a.results.toList K) (fun _ _=>rfl),j]at h;exact iJ l n m k rfl rfl (j▸d.2) (Zf b) (fun t=>(VZ e 0 t).imp id fun h=>by rw[h.2];rfl) h
def oA (d:C):l->B (A C×A (A C))
 | .region i o E=>bif i.beq d then D (ord o.toList,UD o.toList)else G
 | .seq a b=>(match oA d a with | some x=>D x | none=>oA d b)
 | .cond _ a b=>(match oA d a with | some x=>D x | none=>oA d b)
 | .block _ c=>oA d c
 | .loop c=>oA d c
 | .rangeFunc _ _ a b=>(match oA d a with | some x=>D x | none=>oA d b)
 | _=>G
def oF (f:Z):OT:=fun i=>(oA i (Xq f)).getD ([],[])
theorem o4{p:Prop}(h:p:=by kernel_rfl):p:=h
theorem HV {g:Prop}(V:Prop)(h:V)(e:g=V:=by kernel_rfl):QM g:=⟨e▸h⟩
theorem okL {f:C}{d:Z}{c:Ctr}(e:P.funcs[f]? =D d)(h: ∀b T,c b=D T-> ∀K,T K->Spec P g zb f b K)(a:U8 d=E:=by kernel_rfl):CtrOK P g zb f c:=⟨Qf e a,h⟩
theorem spL {T:Qd}(i:XC P g zb T)(k:P.follows .mixedOrders=E){f:C}{b:Z}(j:P.funcs[f]? =D b){O:OT}{c:A AV}{K:AV->Prop}{L:LI}(h:QM (QN T O L b c K))(d:U8 b=E:=by kernel_rfl)(e:Ka O (Xq b)=E:=by kernel_rfl)(a:Zk c.length b.ntmps=E:=by rfl):Spec P g zb f c K:=Qk i k j d e a h
abbrev LC:=A (C×Ctr)
def lkO:A (C×OT)->C->B OT
  | [],_=>G
  | p::r,f=>bif f.beq p.1 then D p.2 else lkO r f
def itP (P:K)(l:A (C×OT)):C->B (Z×OT):=fun f=>match lkO l f with
 | some O=>match P.funcs[f]? with
  | some a=>D (a,O)
  | none=>G
 | none=>G
theorem m5 (P:K)(l:A (C×OT)): ∀f q,itP P l f=D q->P.funcs[f]? =D q.1:=by
 intro f q h;unfold itP at h;split at h
 ·split at h
  ·rename_i b a;cases h;exact a
  ·cases h
 ·cases h
end Go.Eng
namespace Go.Eng
open Go Go.RowKit
abbrev RN:=A (C×C)
def lkA:RN->C->B C
 | [],_=>G
 | p::l,c=>bif c.beq p.1 then D p.2 else lkA l c
def lkB:RN->C->B C
 | [],_=>G
 | p::l,k=>bif k.beq p.2 then D p.1 else lkB l k
theorem JU: ∀{R:RN} {c k:C},lkA R c=D k->(c,k)∈R:=by
 intro R;induction R with
 | nil=>intro c k h;cases h
 | cons p R i=>
  intro c k h;simp only[lkA]at h;cases a:c.beq p.1 with
  | true=>rw[a]at h;have:=f a;subst this;cases h;simp
  | false=>rw[a]at h;exact A.mem_cons_of_mem _ (i h)
theorem J3: ∀{R:RN} {c k:C},lkB R k=D c->(c,k)∈R:=by
 intro R;induction R with
 | nil=>intro c k h;cases h
 | cons p R i=>
  intro c k h;simp only[lkB]at h;cases a:k.beq p.2 with
  | true=>rw[a]at h;have:=f a;subst this;cases h;simp
  | false=>rw[a]at h;exact A.mem_cons_of_mem _ (i h)
theorem QIe: ∀{R:RN} {k:C},lkB R k=G->k∉R.map (·.2):=by
 intro R;induction R with
 | nil=>intro c _;simp
 | cons p R i=>
  intro c h;simp only[lkB]at h;cases a:c.beq p.2 with
  | true=>rw[a]at h;cases h
  | false=>
   rw[a]at h;have:=i h;have b:c≠p.2:=fun e=>by subst e;simp at a
   simpa [b]using this
theorem KJ {R:RN}(d:(R.map (·.1)).Nodup){c k:C}(h:(c,k)∈R):lkA R c=D k:=by
 induction R with
 | nil=>cases h
 | cons p R i=>
  simp only[A.map_cons,A.nodup_cons]at d;simp only[lkA];rcases Zh.1 h with rfl | h
  ·simp
  ·have:c≠p.1:=fun a=>d.1 (a▸o.2 ⟨_,h,rfl⟩);have b:c.beq p.1=J:=by
    cases b:c.beq p.1 with
    | false=>rfl
    | true=>exact e (f b) this
   rw[b];exact i d.2 h
theorem HU {R:RN}(d:(R.map (·.2)).Nodup){c k:C}(h:(c,k)∈R):lkB R k=D c:=by
 induction R with
 | nil=>cases h
 | cons p R i=>
  simp only[A.map_cons,A.nodup_cons]at d;simp only[lkB];rcases Zh.1 h with rfl | h
  ·simp
  ·have:k≠p.2:=fun a=>d.1 (a▸o.2 ⟨_,h,rfl⟩);have b:k.beq p.2=J:=by
    cases b:k.beq p.2 with
    | false=>rfl
    | true=>exact e (f b) this
   rw[b];exact i d.2 h
def bG (f:C->B C):A C->B (A C)
 | []=>D []
 | k::b=>match f k,bG f b with
  | some j,D a=>D (j::a)
  | _,_=>G
def XZ (f:C->B C):A Ch->B (A Ch)
 | []=>D []
 | c::l=>match XZ f l with
  | none=>G
  | some d=>match c with
   | .v x=>D (.v x::d)
   | .r q n=>D (.r q n::d)
   | .b m n=>D (.b m n::d)
   | .s s e=>D (.s s e::d)
   | .y s e i o=>D (.y s e i o::d)
   | .p k o=>match f k with
    | some j=>D (.p j o::d)
    | none=>G
   | .w k o n=>match f k with
    | some j=>D (.w j o n::d)
    | none=>G
   | .e k i o=>match f k with
    | some j=>D (.e j i o::d)
    | none=>G
   | .f a r=>match bG f r with
    | some p=>D (.f a p::d)
    | none=>G
   | .i t h b=>D (.i t h b::d)
   | .m k=>match f k with
    | some j=>D (.m j::d)
    | none=>G
   | .yl k=>match f k with
    | some j=>D (.yl j::d)
    | none=>G
   | .u=>G
def cX (f:C->B C):A (U×A Ch)->B (A (U×A Ch))
 | []=>D []
 | (b,c)::l=>match XZ f c,cX f l with
  | some d,D a=>D ((b,d)::a)
  | _,_=>G
def X2 (f:C->B C):AV->B AV
 | .x b c=>match XZ f c with
  | some d=>D (.x b d)
  | none=>G
 | .t l=>match cX f l with
  | some a=>D (.t a)
  | none=>G
 | _=>G
def X7 (f:C->B C):A AV->B (A AV)
 | []=>D []
 | a::c=>match X2 f a,X7 f c with
  | some b,D d=>D (b::d)
  | _,_=>G
variable {w:d}{O O':C->Prop}{ρ ρ':Env}
theorem QS1 {f:C->B C}: ∀{ks c:A C},bG f ks=D c->ks.length=c.length/\ ∀(i j k:C),c[i]? =D j->ks[i]? =D k->f k=D j:=by
 intro ks;induction ks with
 | nil=>intro c h;cases h;exact⟨rfl,o6⟩
 | cons k ks p=>
  intro c h;simp only[bG]at h;split at h
  ·rename_i j q l m;cases h
   obtain⟨n,o⟩:=p m;refine⟨by simp[n],fun i a b d e=> ?_⟩;cases i with
   | zero=>simp at d e;subst d e;exact l
   | succ i=>exact o i a b ((j9 d)) ((j9 e))
  ·cases h
theorem gN {f:C->B C}(L: ∀b,O' b->O b)(K: ∀k j bd,f k=D j->ρ k=D bd->ρ' j=D bd): ∀{cs S:A Ch} {vs:A Q},XZ f cs=D S->CC w O ρ cs vs->CC w O' ρ' S vs:=by
  intro cs;induction cs with
  | nil=>intro S vs h l;cases h;cases l;exact .nil
  | cons c cs I=>
    intro S vs h l;simp only[XZ]at h;cases F:XZ f cs with
    | none=>rw[F]at h;cases h
    | some es=>
      rw[F]at h;simp only at h;cases c with
      | v x=>cases h;cases l with | v a l=>exact .v a (I F l)
      | r q n=>cases h;cases l with | r a l=>exact .r a (I F l)
      | b m n=>cases h;cases l with | b a l=>exact .b a (I F l)
      | s sz xs=>
        cases h
        cases l with
        | s0 l=>exact .s0 (I F l)
        | s00 l=>exact .s00 (I F l)
        | s U X R l=>exact .s (U.mono (.refl _ _) (fun b _ h=>L b h)) (fun i x V=>(X i x V).mono (.refl _ _) (fun b _ h=>L b h) (fun _ _ h=>h)) R (I F l)
      | y sz xs i o=>
        cases h
        cases l with
        | y U X l=>exact .y (U.mono (.refl _ _) (fun b _ h=>L b h)) (fun i x V=>(X i x V).mono (.refl _ _) (fun b _ h=>L b h) (fun _ _ h=>h)) (I F l)
      | p k o=>
        cases z:f k with
        | none=>simp only[z]at h;cases h
        | some j=>simp only[z]at h;cases h;cases l with | p a b l=>exact .p (K _ _ _ z a) b (I F l)
      | w k o n=>
        cases z:f k with
        | none=>simp only[z]at h;cases h
        | some j=>
          simp only[z]at h;cases h
          cases l with
          | w a b c d e l=>exact .w (K _ _ _ z a) b c d e (I F l)
          | w0 a b l=>exact .w0 (K _ _ _ z a) b (I F l)
          | w00 a l=>exact .w00 (K _ _ _ z a) (I F l)
      | e k i o=>
        cases z:f k with
        | none=>simp only[z]at h;cases h
        | some j=>simp only[z]at h;cases h;cases l with | e a b l=>exact .e (K _ _ _ z a) b (I F l)
      | f At ks=>
        cases z:bG f ks with
        | none=>simp only[z]at h;cases h
        | some js=>
          simp only[z]at h;cases h
          cases l with
          | f a l=>
            obtain⟨Y,Z⟩:=QS1 z;obtain⟨e3,e4⟩:=vo Y (fun i j k hj W bd hb=>K k j bd (Z i j k hj W) hb) a;rw[e3];exact .f e4 (I F l)
      | i t ag Lm=>cases h;cases l with | i a b l=>exact .i (a.mono (.refl _ _) (fun b _ h=>L b h) (fun _ _ h=>h)) b (I F l)
      | m k=>
        cases z:f k with
        | none=>simp only[z]at h;cases h
        | some j=>simp only[z]at h;cases h;cases l with | m a b l=>exact .m (K _ _ _ z a) b (I F l)
      | yl k=>
        cases z:f k with
        | none=>simp only[z]at h;cases h
        | some j=>simp only[z]at h;cases h;cases l with | yl a b l=>exact .yl (K _ _ _ z a) b (I F l)
      | u=>cases h

theorem QZW {f:C->B C}(i: ∀b,O' b->O b)(m: ∀k j bd,f k=D j->ρ k=D bd->ρ' j=D bd): ∀{l a:A (U×A Ch)} {vs:A Q},cX f l=D a->Vx w O ρ l vs->Vx w O' ρ' a vs:=by
 intro l;induction l with
 | nil=>intro a vs h c;cases h;cases c;exact .nil
 | cons p l q=>
  intro a vs h c;obtain⟨b,t⟩:=p;simp only[cX]at h;split at h
  ·rename_i u x d e;cases h
   cases c with
   | cons o n=>
    obtain⟨v,r,s⟩:=o;exact .cons ⟨v,gN i m d r,s⟩ (q e n)
  ·cases h
theorem rf {f:C->B C}(m: ∀b,O' b->O b)(o: ∀k j bd,f k=D j->ρ k=D bd->ρ' j=D bd){a l:AV}{v:Q}(h:X2 f a=D l)(n:ConcV w O ρ a v):ConcV w O' ρ' l v:=by
 unfold X2 at h;split at h
 ·split at h
  ·rename_i q d;cases h
   obtain⟨c,e,i⟩:=n;exact⟨c,gN m o d e,i⟩
  ·cases h
 ·split at h
  ·rename_i r d;cases h
   obtain⟨p,e,i⟩:=n;exact⟨p,QZW m o d e,i⟩
  ·cases h
 ·cases h
theorem uL {f:C->B C}(m: ∀b,O' b->O b)(n: ∀k j bd,f k=D j->ρ k=D bd->ρ' j=D bd): ∀{d c:A AV} {vs:A Q},X7 f d=D c->Qu w O ρ d vs->Qu w O' ρ' c vs:=by
 intro d;induction d with
 | nil=>intro c vs h e;cases h;cases e;exact .nil
 | cons a d q=>
  intro c vs h e;simp only[X7]at h;split at h
  ·rename_i b r i l;cases h
   cases e with
   | cons p o=>exact .cons (rf m n i p) (q l o)
  ·cases h
def freeB:Blk->U
  | .box _ c=>(Qm c).isEmpty
  | .row .. =>E
  | .lp _=>J
  | .mp _=>E
  | .dead=>E

theorem QQD {cs:A Ch}{vs:A Q}(h:CC w O ρ cs vs):Qm cs=[]->CC w O ρ' cs vs:=by
 induction h with
 | nil=>exact fun _=> .nil
 | v j _ d=>exact fun h=> .v j (d h)
 | r k _ d=>exact fun h=> .r k (d h)
 | b k _ d=>exact fun h=> .b k (d h)
 | s0 _ d=>exact fun h=> .s0 (d h)
 | s00 _ d=>exact fun h=> .s00 (d h)
 | s a b c _ _ d=>exact fun h=> .s a b c (d h)
 | p=>exact fun h=>by simp[Qm]at h
 | w=>exact fun h=>by simp[Qm]at h
 | w0=>exact fun h=>by simp[Qm]at h
 | w00=>exact fun h=>by simp[Qm]at h
 | e=>exact fun h=>by simp[Qm]at h
 | @f ρ l ks cs vs n _ d=>
  intro h;simp only[Qm,A.append_eq_nil_iff]at h;obtain⟨rfl,h⟩:=h;exact CC.f (ρ:=ρ') (ks:=[]) o6 (d h)
 | i a b _ _ d=>exact fun h=> .i a b (d h)
 | m=>exact fun h=>by simp[Qm]at h
 | yl=>exact fun h=>by simp[Qm]at h
 | y a b _ _ d=>exact fun h=> .y a b (d h)
 | u j _ d=>exact fun h=> .u j (d h)
theorem BlkOK.free {L:C->B Loop}{bd:WM}{b:Blk}(k:freeB b=E)(j: ∀b,O' b->O b)(h:BlkOK L w O ρ bd b):BlkOK L w O' ρ' bd b:=by
 cases b with
 | box t l=>
  obtain⟨c,v,d,a⟩:=h;have q:Qm l=[]:=by simpa [freeB]using k
  exact⟨c,v,d,QQD (ρ':=ρ') (a.mono (.refl _ _) (fun b _ h=>j b h) (fun _ _ h=>h)) q⟩
 | row t u y=>
  obtain⟨c,d,a | ⟨a,e,m,n,o,p⟩⟩:=h
  ·exact⟨c,d,.inl a⟩
  ·exact⟨c,d,.inr ⟨a,e,m,n,o,fun i x r=>(p i x r).mono (.refl _ _) (fun b _ h=>j b h) (fun _ _ h=>h)⟩⟩
 | lp s=>cases k
 | mp f=>exact h
 | dead=>trivial
variable {P:K}{w0:d}{M:Ctx}{H:HP}
def XD (R:RN)(ρ:Env):Env:=fun c=>match lkA R c with
 | some k=>ρ k
 | none=>G
def Xl (M:Ctx)(R:RN)(ρ:Env)(H a:HP):Ctx where
 m:=own (XD R ρ) a
 x:=fun b=>ow M ρ H b/\ ¬own (XD R ρ) a b
 g:=M.g
 zb:=M.zb
 zg:=XD R ρ
 zp:=M.zp
 zk:=[]
 nd:=J
structure S8 (R:RN)(H H0:HP):Prop where
  nd1:(R.map (·.1)).Nodup
  nd2:(R.map (·.2)).Nodup
  zc: ∀p∈R,∃b,H0 p.1=D b/\H p.2=D b/\Xt (D b)=E/\freeB b=E
  only: ∀c,H0 c≠G->c∈R.map (·.1)

theorem S8.own {R:RN}{d:HP}(h:S8 R H d){b:C}(n:own (XD R ρ) d b): ∃c k bd,(c,k)∈R/\ρ k=D bd/\bd.isNil=J/\bd.zc=b/\Xt (H k)=E:=by
 obtain⟨c,bd,a,f,i,o⟩:=n;unfold XD at a;split at a
 ·rename_i k m;have e:=JU m;obtain⟨p,q,j,l,_⟩:=h.zc _ e;exact⟨c,k,bd,e,a,f,i,by rw[j];exact l⟩
 ·cases a
theorem S8.own' {R:RN}{a:HP}(h:S8 R H a){b:C}(l:Eng.own (XD R ρ) a b):Eng.own ρ H b:=by
 obtain⟨c,k,j,_,d,e,f,i⟩:=h.own l;exact⟨k,j,d,e,f,i⟩
theorem HS.sub (a:HS w0 M ρ H w){R:RN}{s:HP}(h:S8 R H s):HS w (Xl M R ρ H s) (XD R ρ) s w:=by
 refine⟨rfl,rfl,rfl,C.le_refl _,⟨a.globw,?_,Zd a.zi.2.2.1 a.size,?_⟩,fun _ _ _=>rfl,?_,?_,?_,?_⟩
 ·intro Y;obtain⟨c,k,d,_,f,q,r,u⟩:=h.own Y;have:=(a.zh k d f q u).2;rw[r]at this;rcases this with x | x
  ·have:=a.zi.2.2.1;simp only[Xl]at x;omega
  ·exact a.zi.2.1 x
 ·rintro b ⟨n,l⟩;exact⟨bH a n,l⟩
 ·intro c b v W;have X:=h.only c (by rw[v];simp);obtain⟨p,F,rfl⟩:=o.1 X;obtain⟨Q,m,A,b3,S⟩:=h.zc p F;rw[v]at m;cases m
  obtain⟨d,e,ok⟩:=a.zc p.2 b A W;refine⟨d,by unfold XD;rw[KJ h.nd1 F];exact e,ok.free S fun j hj=> ?_⟩;rcases hj with hj | hj
  ·exact hj.1
  ·exact .inr (h.own' hj)
 ·intro c v;unfold XD;split
  ·rename_i k y;obtain⟨Q,m,_⟩:=h.zc _ (JU y);rw[v]at m;cases m
  ·rfl
 ·intro c d n l B;refine⟨?_,.inr ⟨c,d,n,l,rfl,B⟩⟩;obtain⟨_,k,i,_,f,q,r,u⟩:=h.own (⟨c,d,n,l,rfl,B⟩:Eng.own (XD R ρ) s d.zc);rw[<-r];exact(a.zh k i f q u).1
 ·intro c c' d i t f q r u a6 L;unfold XD at t f;split at t
  ·rename_i k y;split at f
   ·rename_i Z z;have I:=JU y;have K:=JU z;obtain⟨m,_,U,l1,_⟩:=h.zc _ I;obtain⟨A,_,V,l2,_⟩:=h.zc _ K;have:=a.ze k Z d i t f q r (by rw[U];exact l1) (by rw[V];exact l2) L;subst this;have n:=HU h.nd2 I;have l:=HU h.nd2 K;rw[n]at l;cases l;rfl
   ·cases f
  ·cases t
def Q4 (R:RN)(a ρ:Env):Env:=fun k=>match lkB R k with
 | some c=>a c
 | none=>ρ k
def XW (R:RN)(a H:HP):HP:=fun k=>match lkB R k with
  | some c=>a c
  | none=>H k

theorem HS.ret (x:HS w0 M ρ H w){R N:RN}{H0:HP}(h:S8 R H H0)(ja:((R++N).map (·.1)).Nodup)(jg:(N.map (·.2)).Nodup)(hN: ∀p∈N,H p.2=G)
  {w1:d} {i:Env} {S:HP} (h1:HS w (Xl M R ρ H H0) i S w1) (je: ∀k bd,XD R ρ k=D bd->i k=D bd) (jf: ∀p∈R,S p.1≠G) (At: ∀p∈R++N,∀b,S p.1=D b->freeB b=E):
  HS w0 M (Q4 (R++N) i ρ) (XW (R++N) S H) w1/\Ext ρ H w (Q4 (R++N) i ρ) (XW (R++N) S H) w1/\
   ∀a a' v,X2 (lkA (R++N)) a=D a'->ConcV w1 (ow (Xl M R ρ H H0) i S) i a v->ConcV w1 (ow M (Q4 (R++N) i ρ) (XW (R++N) S H)) (Q4 (R++N) i ρ) a' v:=by
 have jb:((R++N).map (·.2)).Nodup:=by
  rw[A.map_append,A.nodup_append];refine⟨h.nd2,jg,fun a ha b L f=> ?_⟩;obtain⟨p,hp,rfl⟩:=o.1 ha;obtain⟨q,hq,rfl⟩:=o.1 L;obtain⟨b,_,U,_⟩:=h.zc p hp;rw[f,hN q hq]at U;cases U
 -- the function's own blocks were the caller's
 have hm: ∀b,(Xl M R ρ H H0).m b->own ρ H b:=fun b L=>h.own' L;have W: ∀b,own ρ H b->b<w.heap.size/\(w0.heap.size<=b\/M.m b):=by
  rintro b ⟨k,bd,n,s,rfl,B⟩;exact x.zh k bd n s B
 -- names of the caller's that were u over
 have u: ∀{c k:C},(c,k)∈R-> ∃bd,ρ k=D bd/\i c=D bd:=by
  intro c k hm;obtain⟨b,_,U,l,_⟩:=h.zc _ hm;obtain⟨bd,f,_⟩:=x.zc k b U l;exact⟨bd,f,je c bd (by unfold XD;rw[KJ h.nd1 hm];exact f)⟩
 have Q: ∀{c k:C},lkB (R++N) k=D c->(c,k)∈R\/(c,k)∈N:=fun m=>Zi.1 (J3 m);have K: ∀{k:C},lkB (R++N) k=G-> ∀bd,ρ k=D bd->bd.isNil=J->Xt (H k)=E-> ¬own (XD R ρ) H0 bd.zc:=by
  intro k m bd n s y ho;obtain⟨c,k',j,m1,Y,b3,b4,b5⟩:=h.own ho;have:=x.ze k k' bd j n Y s b3 y b5 b4.symm;subst this;exact QIe m (o.2 ⟨_,Zi.2 (.inl m1),rfl⟩)
 have Lm:w.heap.size<=w1.heap.size:=h1.size;have Z: ∀k bd,ρ k=D bd->Q4 (R++N) i ρ k=D bd:=by
  intro k bd m;unfold Q4;split
  ·rename_i c r;rcases Q r with hm | hm
   ·obtain⟨j,e1,U⟩:=u hm;rw[m]at e1;cases e1;exact U
   ·have:=x.zq k (hN _ hm);rw[m]at this;cases this
  ·exact m
 have V: ∀b,own (Q4 (R++N) i ρ) (XW (R++N) S H) b->own i S b\/(own ρ H b/\ ¬own (XD R ρ) H0 b):=by
  rintro b ⟨k,bd,n,s,y,B⟩;unfold Q4 at n;unfold XW at B;cases r:lkB (R++N) k with
  | some c=>
   simp only[r]at n B;exact .inl ⟨c,bd,n,s,y,B⟩
  | none=>
   simp only[r]at n B;exact .inr ⟨⟨k,bd,n,s,y,B⟩,y▸K r bd n s B⟩
 have hx:Ext ρ H w (Q4 (R++N) i ρ) (XW (R++N) S H) w1:=by
  refine⟨⟨Lm,fun b L ho=>h1.zj b L (fun z=>ho (hm b z))⟩,?_,Z,?_⟩
  ·intro b L ho;rcases V b ho with t | t
   ·obtain⟨c,bd,n,s,y,B⟩:=t;rcases(h1.zh c bd n s B).2 with t | t
    ·omega
    ·exact y▸hm _ t
   ·exact t.1
  ·intro k m;unfold Q4 XW;cases r:lkB (R++N) k with
   | none=>exact⟨rfl,m⟩
   | some c=>
    simp only;rcases Q r with z | z
    ·obtain⟨j,e1,U⟩:=u z;exact⟨by rw[e1,U],jf _ z⟩
    ·exact e (hN _ z) m
 have jd: ∀b,ow M (Q4 (R++N) i ρ) (XW (R++N) S H) b->ow (Xl M R ρ H H0) i S b:=by
  rintro b (L | L)
  ·refine .inl ⟨.inl L,fun ho=> ?_⟩;obtain⟨c,k',j,m1,Y,b3,b4,b5⟩:=h.own ho;exact x.nx Y b3 b5 (b4▸L)
  ·rcases V b L with t | t
   ·exact .inr t
   ·exact .inl ⟨.inr t.1,t.2⟩
 refine⟨⟨h1.os.trans x.os,h1.tape.trans x.tape,h1.output.trans x.output,Zj x.size Lm,x.zi,?_,?_,?_,?_,?_⟩,hx,?_⟩
 ·intro b L hZ;rw[h1.zj b (Zd L x.size) (fun z=> ?_)]
  ·exact x.zj b L hZ
  ·rcases(W b (hm b z)).2 with t | t
   ·omega
   ·exact hZ t
 ·intro k b m hl;unfold XW at m;cases r:lkB (R++N) k with
  | some c=>
   simp only[r]at m;obtain⟨bd,f,ok⟩:=h1.zc c b m hl;exact⟨bd,by unfold Q4;simp only[r];exact f,ok.free (At _ (J3 r) b m) jd⟩
  | none=>
   simp only[r]at m;obtain⟨bd,f,ok⟩:=x.zc k b m hl;exact⟨bd,Z k bd f,ok.ext hx (fun jc be=>h1.zj _ (x.zh k bd f jc (by rw[m];exact be)).1 (K r bd f jc (by rw[m];exact be)))⟩
 ·intro k m;unfold XW at m;unfold Q4;cases r:lkB (R++N) k with
  | some c=>simp only[r]at m⊢;exact h1.zq c m
  | none=>simp only[r]at m⊢;exact x.zq k m
 ·intro k bd n s y;unfold Q4 at n;unfold XW at y;cases r:lkB (R++N) k with
  | some c=>
   simp only[r]at n y;obtain⟨b1,Y⟩:=h1.zh c bd n s y;refine⟨b1,?_⟩;rcases Y with t | t
   ·exact .inl (Zj x.size t)
   ·exact(W _ (hm _ t)).2
  | none=>
   simp only[r]at n y;obtain⟨b1,Y⟩:=x.zh k bd n s y;exact⟨Zd b1 Lm,Y⟩
 ·intro k k' bd j n s y B a5 X a7;unfold Q4 at n s;unfold XW at a5 X;have QK: ∀{c k bd j},i c=D bd->bd.isNil=J->Xt (S c)=E->lkB (R++N) k=G->ρ k=D j->j.isNil=J->Xt (H k)=E->bd.zc=j.zc->I:=by
   intro c k bd j b1 Y b3 b4 b5 b6 b7 b8;have ji:=(x.zh k j b5 b6 b7).1;rcases(h1.zh c bd b1 Y b3).2 with t | t
   ·omega
   ·exact K b4 j b5 b6 b7 (b8▸t)
  cases r:lkB (R++N) k with
  | some c=>
   simp only[r]at n a5;cases F:lkB (R++N) k' with
   | some c'=>
    simp only[F]at s X;have:=h1.ze c c' bd j n s y B a5 X a7;subst this;have e1:=KJ ja (J3 r);have U:=KJ ja (J3 F);rw[e1]at U;cases U;rfl
   | none=>
    simp only[F]at s X;exact(QK n y a5 F s B X a7).elim
  | none=>
   simp only[r]at n a5;cases F:lkB (R++N) k' with
   | some c'=>
    simp only[F]at s X;exact(QK s B X r n y a5 a7.symm).elim
   | none=>
    simp only[F]at s X;exact x.ze k k' bd j n s y B a5 X a7
 ·intro a a' v hr r;refine rf jd (fun c k bd m jh=> ?_) hr r;unfold Q4;rw[HU jb (JU m)];exact jh
def aG:A AV->B AV
 | [a]=>D a
 | l=>bif l.all (fun a=>match a with | .x .. =>E | _=>J)then D (.t (H5 l))else G
def Qkr {X:Type}(pl:A C)(b:X->Prop)(a:X->SL):QL:=fun e s=>match e with
  | .n=> ∃x,b x/\JP pl s.st (a x)
  | .r=> ∃x,b x/\JP pl s.st (a x)
  | .x _=>I

def Xp {X:Type}(T:Qd)(O:OT)(L:LI)(f:Z)(a:A AV)(Hl:A (C×Blk))(b:X->Prop)(I:X->SL):Prop:=
 wpL T O L (Xq f) (Hl.map (·.1)) G 0 ⟨UG 0 a,Hl⟩ (Qkr (Hl.map (·.1)) b I)
def ah (t:TB)(b:St)(r:A S)(K:AV->Prop):Prop:=ae t b r fun l=>match aG l with
 | some a=>K a
 | none=>I
theorem ub {O:C->Prop}{d:A AV}{vs:A Q}(h:Qu w O ρ d vs){a:AV}(c:aG d=D a):ConcV w O ρ a (if h:vs.toArray.size=1 then vs.toArray[0]else .tuple vs.toArray):=by
 unfold aG at c;split at c
 ·cases c
  cases h with
  | cons h t=>cases t;simpa using h
 ·rename_i l i;cases f:d.all (fun a=>match a with | .x .. =>E | _=>J)with
  | false=>rw[f]at c;cases c
  | true=>
   rw[f]at c;cases c
   have m:vs.length≠1:=fun e=>by
    have:=h.len;match d,(by omega:d.length=1)with
    | [b],_=>exact i b rfl
   rw[dif_neg ((j9 m))];refine⟨vs,H6 h fun a k=> ?_,rfl⟩;have:=A.all_eq_true.1 f a k;cases a with
   | x b j=>exact⟨b,j,rfl⟩
   | _=>cases this
variable {g:C}{zb:A Q}
theorem Xc {X:Type}{T:Qd}(hT:XC P g zb T)(hm:P.follows .mixedOrders=E){f:C}{y:Z}(hf:P.funcs[f]? =D y)(hZ:U8 y=E){O:OT}(jk:Ka O (Xq y)=E)
  {as as0:A AV} {H:HP} {R N:RN} {Hl:A (C×Blk)} {φ:X->Prop} {d:X->SL} {K:KK} {L:LI} (be:Zk as0.length y.ntmps=E)
  (jc:X7 (lkB R) as=D as0) (z:S8 R H (QO Hl)) (jl:R.map (·.1)=Hl.map (·.1)) (ji:((R++N).map (·.1)).Nodup) (jj:(N.map (·.2)).Nodup) (hN: ∀p∈N,H p.2=G)
  (hI: ∀x,(∀p∈R,QO (d x).H p.1≠G)/\ ∀p∈R++N,∀b,QO (d x).H p.1=D b->freeB b=E)
  (u:QM (Xp T O L y as0 Hl φ d))
  (jh: ∀x,φ x->ah T.tb (d x).st y.results.toList fun a0=> ∃a,X2 (lkA (R++N)) a0=D a/\K a (XW (R++N) (QO (d x).H) H)):SpecM P g zb f as H K:=by
 intro w0 M ρ w B hg jg hs hc;subst hg jg;simp only[U8,q]at hZ;obtain⟨At,U⟩:=Ze.1 hZ.1.2;have hb:Xq y=At:=by unfold Xq;rw[U]
 refine j.1 (Y (F:=FR G) (n:=0) hf U trivial ?_ rfl);have jf:=hs.sub z;have jb: ∀b,ow (Xl M R ρ H (QO Hl)) (XD R ρ) (QO Hl) b->ow M ρ H b:=by
  rintro b (h | h)
  ·exact h.1
  ·exact .inr (z.own' h)
 have ja:Qu w (ow (Xl M R ρ H (QO Hl)) (XD R ρ) (QO Hl)) (XD R ρ) as0 B:=by
  refine uL jb (fun k c bd hk jm=> ?_) jc hc;unfold XD;rw[KJ z.nd1 (J3 hk)];exact jm
 have jn:B.length<=y.ntmps:=by rw[<-ja.len];exact Zf be
 have je:Sim w (Xl M R ρ H (QO Hl)) y.ntmps (XD R ρ) (⟨UG 0 as0,Hl⟩:SL).st {tmps:=B.toArray++Zl (y.ntmps-B.toArray.size) undef,defers:=[]} w:=by
  refine⟨o9,.nil,fun _=>rfl,fun k bd h=>h,fun t=> ?_,(fun _ h=>by cases h),jf⟩;show ConcV w _ _ (Ql (UG 0 as0) t) _
  rcases VZ as0 0 t with h | ⟨_,h⟩
  ·rw[h];trivial
  ·rw[h,C.sub_zero];exact Un ja _ t
 have Lm:To (Xl M R ρ H (QO Hl)) (Hl.map (·.1)):=by
  refine⟨fun k hk=> ?_,fun _ h=>by cases h⟩;show k∈_
  rw[<-jl];simp only[Xl,XD]at hk;cases hl:lkA R k with
  | none=>rw[hl]at hk;exact e rfl hk
  | some r=>exact o.2 ⟨_,JU hl,rfl⟩
 replace u:=u.out;unfold Xp at u
 rw[pv _ jk _ _ _ _ _ (fun m σ=>match m with
  | .n=> ∃x,φ x/\JP (Hl.map (·.1)) σ (d x)
  | .r=> ∃x,φ x/\JP (Hl.map (·.1)) σ (d x)
  | .x _=>I) (fun m s=>by cases m<;>rfl),hb]at u
 refine qn (show XC P (Xl M R ρ H (QO Hl)).g (Xl M R ρ H (QO Hl)).zb T from hT) hm At (hb▸hZ.2) (M:=Xl M R ρ H (QO Hl)) ⟨⟨rfl,rfl,rfl⟩,rfl⟩ Lm (NC.refl w) je u ?_
 intro a' w';have done: ∀{W σ},Sim w (Xl M R ρ H (QO Hl)) y.ntmps W σ a' w'->(∃x,φ x/\JP (Hl.map (·.1)) σ (d x))->
   LeavesInM (FR G) 0 P y a'.tmps (fun m w'=> ∃v ρ' H' av,m= .returned v/\HS w0 M ρ' H' w'/\Ext ρ H w ρ' H' w'/\ConcV w' (ow M ρ' H') ρ' av v/\K av H') a'.defers .returning w':=by
  rintro W σ S ⟨x,hx,he⟩;obtain⟨jq,V⟩:=Kg he _ _ _ _ _ _ Lm S;refine V.leave fun a2 w2 V ht _=> ?_
  have hp:=jh x hx;unfold ah at hp;obtain⟨vs,l,r1,r2,r3⟩:=HR (P:=P) hT.tb V hp;rw[ht]at r1;cases ho:aG l with
  | none=>rw[ho]at r3;exact r3.elim
  | some a0=>
   rw[ho]at r3;obtain⟨a,e1,hk⟩:=r3;obtain⟨k1,k2,k3⟩:=hs.ret z ji jj hN V.hs V.zg (fun p hp=>(hI x).1 p hp) (fun p hp b hb=>(hI x).2 p hp b hb);have jd:(results y a'.tmps).run P w2= .ok (if h:vs.toArray.size=1 then vs.toArray[0]else .tuple vs.toArray) w2:=by
    have:(y.results.mapM (TS a'.tmps)).run P w2= .ok vs.toArray w2:=by
     rw[Zg];simp[r1]
    change ((y.results.mapM (TS a'.tmps)>>=fun vs=>pure (if h:vs.size=1 then vs[0]else .tuple vs)):Sem Q).run P w2=_;simp[this]
   exact⟨_,jd,_,_,_,a,rfl,k1,k2,k3 _ _ _ e1 (ub r2 ho),hk⟩
 refine⟨?_,?_,?_⟩
 ·rintro⟨W,σ,S,hr,_⟩;exact done S hr
 ·rintro i ⟨W,σ,S,hr,_⟩;exact hr.elim
 ·rintro⟨W,σ,S,hr,_⟩;exact done S hr
abbrev XS:=A AV->HP->C->B (KK->Prop)
def pmL (l:A (C×XS)):PM:=fun f a H d=>match l with
 | []=>G
 | p::r=>bif f.beq p.1 then p.2 a H d else pmL r f a H d
structure KL (P:Program)(g:C)(zb:A Value)(f:C)(c:XS):Prop where
 enter:G5 P f
 sound: ∀as H d T,c as H d=D T-> ∀K,T K->SpecM P g zb f as H K
def CtrMsOK (P:K)(g:C)(zb:A Q)(l:A (C×XS)):Prop:= ∀p∈l,KL P g zb p.1 p.2
theorem CtrMsOK.nil:CtrMsOK P g zb []:=fun _ h=>by cases h
theorem CtrMsOK.cons {f:C}{c:XS}{l:A (C×XS)}(h:KL P g zb f c)(a:CtrMsOK P g zb l):CtrMsOK P g zb ((f,c)::l):=by
 intro p hp;rcases Zh.1 hp with rfl | hp
 ·exact h
 ·exact a p hp
theorem pt: ∀{l:A (C×XS)},CtrMsOK P g zb l->bQ P g zb (pmL l):=by
 intro l;induction l with
 | nil=>exact fun _=>⟨fun _ _ _ _ _ h=>(by cases h),fun _ _ _ _ _ h=>(by cases h)⟩
 | cons p l m=>
  intro h;have i:=h p o6;have j:=m fun q k=>h q (by simp[k]);refine⟨fun a e H d T b=> ?_,fun a e H d T b=> ?_⟩
  ·rw[pmL]at b;cases c:a.beq p.1 with
   | true=>have:=f c;subst this;exact i.enter
   | false=>rw[c]at b;exact j.enter a e H d T b
  ·rw[pmL]at b;cases c:a.beq p.1 with
   | true=>rw[c]at b;have:=f c;subst this;exact i.sound e H d T b
   | false=>rw[c]at b;exact j.sound a e H d T b
abbrev U9:=A AV->B ((AV->Prop)->Prop)
def pxL (l:A (C×U9)):PX:=fun f a=>match l with
 | []=>G
 | p::r=>bif f.beq p.1 then p.2 a else pxL r f a
def dW (P:K)(f:C)(c:U9):Prop:= ∀b T,c b=D T-> ∀a,T a-> ∀w (O:C->Prop) (ρ:Env) vals,Qu w O ρ b vals->
 ∃v d,(callFunc f vals.toArray).run P w= .ok (.value v) w/\ConcV w O ρ d v/\a d
def CtrXsOK (P:K)(l:A (C×U9)):Prop:= ∀p∈l,dW P p.1 p.2
theorem CtrXsOK.nil:CtrXsOK P []:=fun _ h=>by cases h
theorem CtrXsOK.cons {f:C}{c:U9}{l:A (C×U9)}(h:dW P f c)(a:CtrXsOK P l):CtrXsOK P ((f,c)::l):=by
 intro p hp;rcases Zh.1 hp with rfl | hp
 ·exact h
 ·exact a p hp
theorem fv: ∀{l:A (C×U9)},CtrXsOK P l->kI P (pxL l):=by
 intro l;induction l with
 | nil=>intro _ a c T b;cases b
 | cons p l i=>
  intro h a c T b;rw[pxL]at b;cases d:a.beq p.1 with
  | true=>rw[d]at b;have:=f d;subst this;exact h p o6 c T b
  | false=>rw[d]at b;exact i (fun q e=>h q (by simp[e])) a c T b
theorem S8.nil {H:HP}:S8 [] H (QO []):=⟨o6,o6,(fun _ h=>by cases h),fun c h=>e rfl h⟩
theorem WW {T:Qd}(s:XC P g zb T)(y:P.follows .mixedOrders=E){f:C}{c:Z}(v:P.funcs[f]? =D c)(m:U8 c=E){O:OT}(o:Ka O (Xq c)=E)
    {e:A AV} {H:HP} {d t sz n r:C} {xs:A (A Ch)} {K:KK} {L:LI} (a:Zk e.length c.ntmps=E) (l:X7 (fun _=>G) e=D e) (u:H d=G) (z:c.results.toList=[.tmp r])
    (i:QM (Xp (X:=Unit) T O L c e [] (fun _=>True) (fun _=>⟨[(r,.x J [.w 0 0 n])],[(0,.row t sz xs)]⟩)))
    (k:K (.x J [.w d 0 n]) (XW [(0,d)] (QO [(0,.row t sz xs)]) H)):SpecM P g zb f e H K:=by
  refine Xc (R:=[]) (N:=[(0,d)]) s y v m o a l .nil rfl o6 o6 (fun p j=>by simp at j;subst j;exact u) (fun x=>⟨(fun _ h=>by cases h),fun p j b q=> ?_⟩) i (fun x _=> ?_)
  · simp at j;subst j;simp[QO]at q;subst q;rfl
  · rw[z];simp only[ah,ae,eN,SL.st,Ql,C.beq_refl,R7,aG];exact⟨_,rfl,k⟩

end Go.Eng
namespace Go.Eng
open Go Go.RowKit
variable {P:K}{w0:d}{M:Ctx}{H:HP}{w:d}{O O':C->Prop}{ρ ρ':Env}
def J4 (f:C->B C):Blk->B Blk
  | .box t c=>match XZ f c with
    | some d=>D (.box t d)
    | none=>G
  | .row t s x=>D (.row t s x)
  | .mp m=>D (.mp m)
  | .lp _=>G
  | .dead=>D .dead
theorem xX {f:C->B C}{b a:Blk}(h:J4 f b=D a):Xt (D a)=Xt (D b):=by
 cases b with
 | box t d=>
  simp only[J4]at h;cases c:XZ f d with
  | none=>rw[c]at h;cases h
  | some e=>rw[c]at h;cases h;rfl
 | row t i x=>cases h;rfl
 | mp m=>cases h;rfl
 | lp s=>cases h
 | dead=>cases h;rfl
def rdB (f:C->B C)(b:Blk):Blk:=(J4 f b).getD b
theorem H7 {f:C->B C}{o:B Blk}:Xt (o.map (rdB f))=Xt o:=by
 cases o with
 | none=>rfl
 | some b=>
  show Xt (D (rdB f b))=_
  unfold rdB;cases h:J4 f b with
  | none=>rfl
  | some a=>exact xX h
theorem BlkOK.ren {L:C->B Loop}{bd:WM}{b o:Blk}{f:C->B C}(h:BlkOK L w O ρ bd b)(p: ∀b,O' b->O b)(A: ∀k j bd,f k=D j->ρ k=D bd->ρ' j=D bd)(a:J4 f b=D o):BlkOK L w O' ρ' bd o:=by
 cases b with
 | box t q=>
  simp only[J4]at a;cases n:XZ f q with
  | none=>rw[n]at a;cases a
  | some I=>
   rw[n]at a;cases a
   obtain⟨d,v,e,c⟩:=h;exact⟨d,v,e,gN p A n c⟩
 | row t K Q=>
  cases a
  obtain⟨d,e,c | ⟨c,l,r,u,y,z⟩⟩:=h
  ·exact⟨d,e,.inl c⟩
  ·exact⟨d,e,.inr ⟨c,l,r,u,y,fun i x F=>(z i x F).mono (.refl _ _) (fun b _ h=>p b h) (fun _ _ h=>h)⟩⟩
 | mp m=>cases a;exact h
 | lp s=>cases a
 | dead=>cases a;trivial
structure Vm (R:RN)(H H0:HP):Prop where
  nd1:(R.map (·.1)).Nodup
  nd2:(R.map (·.2)).Nodup
  zc: ∀p∈R,∃b b0,H0 p.1=D b0/\H p.2=D b/\Xt (D b)=E/\J4 (lkB R) b=D b0
  only: ∀c,H0 c≠G->c∈R.map (·.1)

theorem Vm.own {R:RN}{d:HP}(h:Vm R H d){b:C}(n:own (XD R ρ) d b): ∃c k bd,(c,k)∈R/\ρ k=D bd/\bd.isNil=J/\bd.zc=b/\Xt (H k)=E:=by
 obtain⟨c,bd,a,f,i,o⟩:=n;unfold XD at a;split at a
 ·rename_i k m;have e:=JU m;obtain⟨p,q,r,j,l,_⟩:=h.zc _ e;exact⟨c,k,bd,e,a,f,i,by rw[j];exact l⟩
 ·cases a
theorem Vm.own' {R:RN}{a:HP}(h:Vm R H a){b:C}(l:Eng.own (XD R ρ) a b):Eng.own ρ H b:=by
 obtain⟨c,k,j,_,d,e,f,i⟩:=h.own l;exact⟨k,j,d,e,f,i⟩
theorem HS.subR (d:HS w0 M ρ H w){R:RN}{t:HP}(h:Vm R H t):HS w (Xl M R ρ H t) (XD R ρ) t w:=by
 refine⟨rfl,rfl,rfl,C.le_refl _,⟨d.globw,?_,Zd d.zi.2.2.1 d.size,?_⟩,fun _ _ _=>rfl,?_,?_,?_,?_⟩
 ·intro ho;obtain⟨c,k,a,_,f,q,r,v⟩:=h.own ho;have:=(d.zh k a f q v).2;rw[r]at this;rcases this with y | y
  ·have:=d.zi.2.2.1;simp only[Xl]at y;omega
  ·exact d.zi.2.1 y
 ·rintro b ⟨n,l⟩;exact⟨bH d n,l⟩
 ·intro c b x hl;have Z:=h.only c (by rw[x];simp);obtain⟨p,K,rfl⟩:=o.1 Z;obtain⟨B,U,m,F,V,W⟩:=h.zc p K;rw[x]at m;cases m
  obtain⟨a,e,ok⟩:=d.zc p.2 B F V;refine⟨a,by unfold XD;rw[KJ h.nd1 K];exact e,ok.ren (fun j hj=> ?_) (fun k c a s A=>by unfold XD;rw[KJ h.nd1 (J3 s)];exact A) W⟩;rcases hj with hj | hj
  ·exact hj.1
  ·exact .inr (h.own' hj)
 ·intro c x;unfold XD;split
  ·rename_i k s;obtain⟨B,U,m,_⟩:=h.zc _ (JU s);rw[x]at m;cases m
  ·rfl
 ·intro c a n l I;refine⟨?_,.inr ⟨c,a,n,l,rfl,I⟩⟩;obtain⟨_,k,i,_,f,q,r,v⟩:=h.own (⟨c,a,n,l,rfl,I⟩:Eng.own (XD R ρ) t a.zc);rw[<-r];exact(d.zh k i f q v).1
 ·intro c c' a i u f q r v a6 S;unfold XD at u f;split at u
  ·rename_i k s;split at f
   ·rename_i k' z;have L:=JU s;have Q:=JU z;obtain⟨m,_,_,X,l1,_⟩:=h.zc _ L;obtain⟨F,_,_,Y,l2,_⟩:=h.zc _ Q;have:=d.ze k k' a i u f q r (by rw[X];exact l1) (by rw[Y];exact l2) S;subst this;have n:=HU h.nd2 L;have l:=HU h.nd2 Q;rw[n]at l;cases l;rfl
   ·cases f
  ·cases u
def Xn (R:RN)(a H:HP):HP:=fun k=>match lkB R k with
  | some c=>(a c).map (rdB (lkA R))
  | none=>H k

theorem HS.retR (x:HS w0 M ρ H w){R N:RN}{H0:HP}(h:Vm R H H0)(je:((R++N).map (·.1)).Nodup)(jk:(N.map (·.2)).Nodup)(hN: ∀p∈N,H p.2=G)
  {w1:d} {i:Env} {U:HP} (h1:HS w (Xl M R ρ H H0) i U w1) (jh: ∀k bd,XD R ρ k=D bd->i k=D bd) (ji: ∀p∈R,U p.1≠G) (hZ: ∀p∈R++N,∀b,U p.1=D b-> ∃b0,J4 (lkA (R++N)) b=D b0):
  HS w0 M (Q4 (R++N) i ρ) (Xn (R++N) U H) w1/\Ext ρ H w (Q4 (R++N) i ρ) (Xn (R++N) U H) w1/\
   ∀a a' v,X2 (lkA (R++N)) a=D a'->ConcV w1 (ow (Xl M R ρ H H0) i U) i a v->ConcV w1 (ow M (Q4 (R++N) i ρ) (Xn (R++N) U H)) (Q4 (R++N) i ρ) a' v:=by
 have Lm:((R++N).map (·.2)).Nodup:=by
  rw[A.map_append,A.nodup_append];refine⟨h.nd2,jk,fun a ha b Q f=> ?_⟩;obtain⟨p,hp,rfl⟩:=o.1 ha;obtain⟨q,hq,rfl⟩:=o.1 Q;obtain⟨b,_,_,V,_⟩:=h.zc p hp;rw[f,hN q hq]at V;cases V
 -- the function's own blocks were the caller's
 have hm: ∀b,(Xl M R ρ H H0).m b->own ρ H b:=fun b Q=>h.own' Q;have X: ∀b,own ρ H b->b<w.heap.size/\(w0.heap.size<=b\/M.m b):=by
  rintro b ⟨k,bd,n,s,rfl,F⟩;exact x.zh k bd n s F
 -- names of the caller's that were u over
 have u: ∀{c k:C},(c,k)∈R-> ∃bd,ρ k=D bd/\i c=D bd:=by
  intro c k hm;obtain⟨b,_,_,V,l,_⟩:=h.zc _ hm;obtain⟨bd,f,_⟩:=x.zc k b V l;exact⟨bd,f,jh c bd (by unfold XD;rw[KJ h.nd1 hm];exact f)⟩
 have S: ∀{c k:C},lkB (R++N) k=D c->(c,k)∈R\/(c,k)∈N:=fun j=>Zi.1 (J3 j);have L: ∀{k:C},lkB (R++N) k=G-> ∀bd,ρ k=D bd->bd.isNil=J->Xt (H k)=E-> ¬own (XD R ρ) H0 bd.zc:=by
  intro k j bd n s y ho;obtain⟨c,k',m,m1,b2,b3,b4,b5⟩:=h.own ho;have:=x.ze k k' bd m n b2 s b3 y b5 b4.symm;subst this;exact QIe j (o.2 ⟨_,Zi.2 (.inl m1),rfl⟩)
 have ja:w.heap.size<=w1.heap.size:=h1.size;have At: ∀k bd,ρ k=D bd->Q4 (R++N) i ρ k=D bd:=by
  intro k bd j;unfold Q4;split
  ·rename_i c r;rcases S r with hm | hm
   ·obtain⟨m,e1,V⟩:=u hm;rw[j]at e1;cases e1;exact V
   ·have:=x.zq k (hN _ hm);rw[j]at this;cases this
  ·exact j
 have W: ∀b,own (Q4 (R++N) i ρ) (Xn (R++N) U H) b->own i U b\/(own ρ H b/\ ¬own (XD R ρ) H0 b):=by
  rintro b ⟨k,bd,n,s,y,F⟩;unfold Q4 at n;unfold Xn at F;cases r:lkB (R++N) k with
  | some c=>
   simp only[r,H7]at n F;exact .inl ⟨c,bd,n,s,y,F⟩
  | none=>
   simp only[r]at n F;exact .inr ⟨⟨k,bd,n,s,y,F⟩,y▸L r bd n s F⟩
 have hx:Ext ρ H w (Q4 (R++N) i ρ) (Xn (R++N) U H) w1:=by
  refine⟨⟨ja,fun b Q ho=>h1.zj b Q (fun z=>ho (hm b z))⟩,?_,At,?_⟩
  ·intro b Q ho;rcases W b ho with t | t
   ·obtain⟨c,bd,n,s,y,F⟩:=t;rcases(h1.zh c bd n s F).2 with t | t
    ·omega
    ·exact y▸hm _ t
   ·exact t.1
  ·intro k j;unfold Q4 Xn;cases r:lkB (R++N) k with
   | none=>exact⟨rfl,j⟩
   | some c=>
    simp only;rcases S r with z | z
    ·obtain⟨m,e1,V⟩:=u z;exact⟨by rw[e1,V],fun f=>ji _ z ((j9 f))⟩
    ·exact e (hN _ z) j
 have jg: ∀b,ow M (Q4 (R++N) i ρ) (Xn (R++N) U H) b->ow (Xl M R ρ H H0) i U b:=by
  rintro b (Q | Q)
  ·refine .inl ⟨.inl Q,fun ho=> ?_⟩;obtain⟨c,k',m,m1,b2,b3,b4,b5⟩:=h.own ho;exact x.nx b2 b3 b5 (b4▸Q)
  ·rcases W b Q with t | t
   ·exact .inr t
   ·exact .inl ⟨.inr t.1,t.2⟩
 refine⟨⟨h1.os.trans x.os,h1.tape.trans x.tape,h1.output.trans x.output,Zj x.size ja,x.zi,?_,?_,?_,?_,?_⟩,hx,?_⟩
 ·intro b Q jd;rw[h1.zj b (Zd Q x.size) (fun z=> ?_)]
  ·exact x.zj b Q jd
  ·rcases(X b (hm b z)).2 with t | t
   ·omega
   ·exact jd t
 ·intro k b j hl;unfold Xn at j;cases r:lkB (R++N) k with
  | some c=>
   simp only[r,B.map_eq_some_iff]at j;obtain⟨Y,j,rfl⟩:=j;obtain⟨b0,be⟩:=hZ _ (J3 r) Y j;have e0:rdB (lkA (R++N)) Y=b0:=by unfold rdB;rw[be];rfl
   rw[e0]at hl⊢;have jj:Xt (D Y)=E:=by rw[<-xX be];exact hl
   obtain⟨bd,f,ok⟩:=h1.zc c Y j jj;exact⟨bd,by unfold Q4;simp only[r];exact f,ok.ren jg (fun c k bd j jb=>by unfold Q4;rw[HU Lm (JU j)];exact jb) be⟩
  | none=>
   simp only[r]at j;obtain⟨bd,f,ok⟩:=x.zc k b j hl;exact⟨bd,At k bd f,ok.ext hx (fun jf jc=>h1.zj _ (x.zh k bd f jf (by rw[j];exact jc)).1 (L r bd f jf (by rw[j];exact jc)))⟩
 ·intro k j;unfold Xn at j;unfold Q4;cases r:lkB (R++N) k with
  | some c=>simp only[r]at j⊢;exact h1.zq c ((j9 j))
  | none=>simp only[r]at j⊢;exact x.zq k j
 ·intro k bd n s y;unfold Q4 at n;unfold Xn at y;cases r:lkB (R++N) k with
  | some c=>
   simp only[r,H7]at n y;obtain⟨Y,b2⟩:=h1.zh c bd n s y;refine⟨Y,?_⟩;rcases b2 with t | t
   ·exact .inl (Zj x.size t)
   ·exact(X _ (hm _ t)).2
  | none=>
   simp only[r]at n y;obtain⟨Y,b2⟩:=x.zh k bd n s y;exact⟨Zd Y ja,b2⟩
 ·intro k k' bd m n s y F a5 Z a7;unfold Q4 at n s;unfold Xn at a5 Z;have QK: ∀{c k bd m},i c=D bd->bd.isNil=J->Xt (U c)=E->lkB (R++N) k=G->ρ k=D m->m.isNil=J->Xt (H k)=E->bd.zc=m.zc->I:=by
   intro c k bd m Y b2 b3 b4 b5 b6 b7 b8;have jl:=(x.zh k m b5 b6 b7).1;rcases(h1.zh c bd Y b2 b3).2 with t | t
   ·omega
   ·exact L b4 m b5 b6 b7 (b8▸t)
  cases r:lkB (R++N) k with
  | some c=>
   simp only[r,H7]at n a5;cases K:lkB (R++N) k' with
   | some c'=>
    simp only[K,H7]at s Z;have:=h1.ze c c' bd m n s y F a5 Z a7;subst this;have e1:=KJ je (J3 r);have V:=KJ je (J3 K);rw[e1]at V;cases V;rfl
   | none=>
    simp only[K]at s Z;exact(QK n y a5 K s F Z a7).elim
  | none=>
   simp only[r]at n a5;cases K:lkB (R++N) k' with
   | some c'=>
    simp only[K,H7]at s Z;exact(QK s F Z r n y a5 a7.symm).elim
   | none=>
    simp only[K]at s Z;exact x.ze k k' bd m n s y F a5 Z a7
 ·intro a a' v hr r;refine rf jg (fun c k bd j jb=> ?_) hr r;unfold Q4;rw[HU Lm (JU j)];exact jb
variable {g:C}{zb:A Q}
theorem W9 {X:Type}{T:Qd}(hT:XC P g zb T)(hm:P.follows .mixedOrders=E){f:C}{y:Z}(hf:P.funcs[f]? =D y)(hZ:U8 y=E){O:OT}(jk:Ka O (Xq y)=E)
  {as as0:A AV} {H:HP} {R N:RN} {Hl:A (C×Blk)} {φ:X->Prop} {d:X->SL} {K:KK} {L:LI} (be:Zk as0.length y.ntmps=E)
  (jc:X7 (lkB R) as=D as0) (z:Vm R H (QO Hl)) (jl:R.map (·.1)=Hl.map (·.1)) (ji:((R++N).map (·.1)).Nodup) (jj:(N.map (·.2)).Nodup) (hN: ∀p∈N,H p.2=G)
  (hI: ∀x,(∀p∈R,QO (d x).H p.1≠G)/\ ∀p∈R++N,∀b,QO (d x).H p.1=D b-> ∃b0,J4 (lkA (R++N)) b=D b0)
  (u:QM (Xp T O L y as0 Hl φ d))
  (jh: ∀x,φ x->ah T.tb (d x).st y.results.toList fun a0=> ∃a,X2 (lkA (R++N)) a0=D a/\K a (Xn (R++N) (QO (d x).H) H)):SpecM P g zb f as H K:=by
 intro w0 M ρ w B hg jg hs hc;subst hg jg;simp only[U8,q]at hZ;obtain⟨At,U⟩:=Ze.1 hZ.1.2;have hb:Xq y=At:=by unfold Xq;rw[U]
 refine j.1 (Y (F:=FR G) (n:=0) hf U trivial ?_ rfl);have jf:=hs.subR z;have jb: ∀b,ow (Xl M R ρ H (QO Hl)) (XD R ρ) (QO Hl) b->ow M ρ H b:=by
  rintro b (h | h)
  ·exact h.1
  ·exact .inr (z.own' h)
 have ja:Qu w (ow (Xl M R ρ H (QO Hl)) (XD R ρ) (QO Hl)) (XD R ρ) as0 B:=by
  refine uL jb (fun k c bd hk jm=> ?_) jc hc;unfold XD;rw[KJ z.nd1 (J3 hk)];exact jm
 have jn:B.length<=y.ntmps:=by rw[<-ja.len];exact Zf be
 have je:Sim w (Xl M R ρ H (QO Hl)) y.ntmps (XD R ρ) (⟨UG 0 as0,Hl⟩:SL).st {tmps:=B.toArray++Zl (y.ntmps-B.toArray.size) undef,defers:=[]} w:=by
  refine⟨o9,.nil,fun _=>rfl,fun k bd h=>h,fun t=> ?_,(fun _ h=>by cases h),jf⟩;show ConcV w _ _ (Ql (UG 0 as0) t) _
  rcases VZ as0 0 t with h | ⟨_,h⟩
  ·rw[h];trivial
  ·rw[h,C.sub_zero];exact Un ja _ t
 have Lm:To (Xl M R ρ H (QO Hl)) (Hl.map (·.1)):=by
  refine⟨fun k hk=> ?_,fun _ h=>by cases h⟩;show k∈_
  rw[<-jl];simp only[Xl,XD]at hk;cases hl:lkA R k with
  | none=>rw[hl]at hk;exact e rfl hk
  | some r=>exact o.2 ⟨_,JU hl,rfl⟩
 replace u:=u.out;unfold Xp at u
 rw[pv _ jk _ _ _ _ _ (fun m σ=>match m with
  | .n=> ∃x,φ x/\JP (Hl.map (·.1)) σ (d x)
  | .r=> ∃x,φ x/\JP (Hl.map (·.1)) σ (d x)
  | .x _=>I) (fun m s=>by cases m<;>rfl),hb]at u
 refine qn (show XC P (Xl M R ρ H (QO Hl)).g (Xl M R ρ H (QO Hl)).zb T from hT) hm At (hb▸hZ.2) (M:=Xl M R ρ H (QO Hl)) ⟨⟨rfl,rfl,rfl⟩,rfl⟩ Lm (NC.refl w) je u ?_
 intro a' w';have done: ∀{W σ},Sim w (Xl M R ρ H (QO Hl)) y.ntmps W σ a' w'->(∃x,φ x/\JP (Hl.map (·.1)) σ (d x))->
   LeavesInM (FR G) 0 P y a'.tmps (fun m w'=> ∃v ρ' H' av,m= .returned v/\HS w0 M ρ' H' w'/\Ext ρ H w ρ' H' w'/\ConcV w' (ow M ρ' H') ρ' av v/\K av H') a'.defers .returning w':=by
  rintro W σ S ⟨x,hx,he⟩;obtain⟨jq,V⟩:=Kg he _ _ _ _ _ _ Lm S;refine V.leave fun a2 w2 V ht _=> ?_
  have hp:=jh x hx;unfold ah at hp;obtain⟨vs,l,r1,r2,r3⟩:=HR (P:=P) hT.tb V hp;rw[ht]at r1;cases ho:aG l with
  | none=>rw[ho]at r3;exact r3.elim
  | some a0=>
   rw[ho]at r3;obtain⟨a,e1,hk⟩:=r3;obtain⟨k1,k2,k3⟩:=hs.retR z ji jj hN V.hs V.zg (fun p hp=>(hI x).1 p hp) (fun p hp b hb=>(hI x).2 p hp b hb);have jd:(results y a'.tmps).run P w2= .ok (if h:vs.toArray.size=1 then vs.toArray[0]else .tuple vs.toArray) w2:=by
    have:(y.results.mapM (TS a'.tmps)).run P w2= .ok vs.toArray w2:=by
     rw[Zg];simp[r1]
    change ((y.results.mapM (TS a'.tmps)>>=fun vs=>pure (if h:vs.size=1 then vs[0]else .tuple vs)):Sem Q).run P w2=_;simp[this]
   exact⟨_,jd,_,_,_,a,rfl,k1,k2,k3 _ _ _ e1 (ub r2 ho),hk⟩
 refine⟨?_,?_,?_⟩
 ·rintro⟨W,σ,S,hr,_⟩;exact done S hr
 ·rintro i ⟨W,σ,S,hr,_⟩;exact hr.elim
 ·rintro⟨W,σ,S,hr,_⟩;exact done S hr
theorem Vm.mk' {R:RN}{H:HP}{Hl:A (C×Blk)}(h1:R.map (·.1)=Hl.map (·.1))(n1:(R.map (·.1)).Nodup)(n2:(R.map (·.2)).Nodup)(d: ∀p∈R,∃b a,QO Hl p.1=D a/\H p.2=D b/\Xt (D b)=E/\J4 (lkB R) b=D a):Vm R H (QO Hl):=
 ⟨n1,n2,d,fun c f=>by
  rw[h1];cases h:QO Hl c with
  | none=>exact e h f
  | some b=>exact o.2 ⟨_,G9 h,rfl⟩⟩
end Go.Eng
