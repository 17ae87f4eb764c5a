/- The engine, part U: a function from its QIx to its results. -/
import Derived.Test.YtfmgjnnkogpmmaaDoorE3
import Derived.KernelRfl
open Nat renaming eq_of_beq_eq_true → Za, le_of_ble_eq_true → Ze, lt_of_lt_of_le → Zf, ble → Zg
open Bool renaming and_eq_true → Zb
open List renaming mem_map → Zc, mem_cons → Zd
namespace Go.Eng
open Go Go.RowKit
variable {P:Program}{w0:World}{M:Ctx}{N:Nat}{T:Qh}
def QLh (tb:TB)(σ:St)(r:ResultVar)(K:AV->Prop):Prop:=
  match r with
  | .tmp t=>K (σ.T t)
  | .cell x t=>match tb t,σ.T x with
    | some i,.x false [.p k o]=>(match σ.H k with
      | some (.box _ cs)=>orF (ldS cs o i.cells i.agg) K
      | _=>False)
    | _,_=>False

def QIw (tb:TB)(σ:St):List ResultVar->(List AV->Prop)->Prop
 | [],K=>K []
 | r::rs,K=>QLh tb σ r fun v=>QIw tb σ rs fun vs=>K (v::vs)
def Vb:List AV->List (Bool×List Ch)
 | []=>[]
 | .x b cs::as=>(b,cs)::Vb as
 | _::as=>Vb as
def QQQ (H:HP)(l:List AV)(K:AV->Prop):Prop:=
  match Wz H l with
  | some [a]=>K a
  | some bs=>K (.t (Vb bs))
  | none=>False

def QLi (tb:TB)(rs:List ResultVar)(σ:St)(K:AV->Prop):Prop:=QIw tb σ rs fun l=>QQQ σ.H l K
def QLj (tb:TB)(rs:List ResultVar)(K:AV->Prop):QQ:=fun e σ=>match e with
 | .n=>QLi tb rs σ K
 | .r=>QLi tb rs σ K
 | .x _=>False
def QET (tmps:Array Value):ResultVar->Sem Value
 | .tmp t=>pure (tmps.getD t undef)
 | .cell x t=>do loadVar t (<-asAddr (tmps.getD x undef))
theorem QEU {tb:TB}(htb:JZ P tb){ρ:Env}{σ:St}{a:Act}{w:World}(hs:Sim w0 M N ρ σ a w){r:ResultVar}{K:AV->Prop}(h:QLh tb σ r K):
  ∃v av,(QET a.tmps r).run P w= .ok v w/\ConcV w (ow M ρ σ.H) ρ av v/\K av:=by
 cases r with
 | tmp t=>exact⟨_,_,rfl,hs.tmps t,h⟩
 | cell x t=>
  simp only[QLh]at h;split at h
  ·rename_i i k o hi hx;split at h
   ·rename_i ty cs hk;have hc:=hs.tmps x;rw[hx]at hc;generalize hvv:a.tmps.getD x undef=v at hc;obtain⟨vals,hcc,hv⟩:=hc;simp at hv;subst hv;obtain⟨bd,hρ,ok⟩:=hs.hs.blk k _ hk rfl;cases hcc with
    | p hk' hn _=>
     rw[hρ]at hk';cases hk'
     obtain⟨_,vals,hb,hcs⟩:=ok;obtain⟨es,us,h1,h2,h3,h4⟩:=JM hcs h;obtain⟨u,r1,r2⟩:=W6 (P:=P) (htb _ _ hi) (vs:=us) (by rw[h3];simpa using Ja hb o i.cells) h4;exact⟨u,.x i.agg es,by simp[QET,hvv,asAddr,r1],⟨us,h2,r2⟩,h1⟩
   ·exact h.elim
  ·exact h.elim
theorem Hq {tb:TB}(htb:JZ P tb){ρ:Env}{σ:St}{a:Act}{w:World}(hs:Sim w0 M N ρ σ a w): ∀{rs:List ResultVar} {K:List AV->Prop},QIw tb σ rs K->
  ∃vs as,(rs.mapM (QET a.tmps)).run P w= .ok vs w/\Qo w (ow M ρ σ.H) ρ as vs/\K as:=by
 intro rs;induction rs with
 | nil=>intro K h;exact⟨[],[],rfl,.nil,h⟩
 | cons r rs ih=>
  intro K h;obtain⟨v,av,h1,h2,h3⟩:=QEU (P:=P) htb hs h;obtain⟨vs,as,k1,k2,k3⟩:=ih h3;exact⟨v::vs,av::as,by simp[List.mapM_cons,h1,k1],.cons h2 k2,k3⟩
theorem Vc {O:Nat->Prop}{w:World}{ρ:Env}{as:List AV}{vs:List Value}(h:Qo w O ρ as vs):(∀a∈as,∃b cs,a= .x b cs)->W5 w O ρ (Vb as) vs:=by
 induction h with
 | nil=>exact fun _=> .nil
 | @cons a as v vs hc _ ih=>
  intro hx;obtain⟨b,cs,rfl⟩:=hx a (by simp);exact .cons hc (ih fun a ha=>hx a (by simp[ha]))
theorem QLk {H:HP}: ∀{as bs:List AV},Wz H as=some bs-> ∀b∈bs,∃t cs,b= .x t cs:=by
 intro as;induction as with
 | nil=>intro bs h;simp[Wz]at h;subst h;simp
 | cons a as ih=>
  intro bs h;simp only[Wz]at h;split at h
  ·rename_i a' as' h1 h2;simp at h;subst h;intro b hb;rcases Zd.1 hb with rfl | hb
   ·cases a with
    | x ag cs=>simp only[QD9,Option.map_eq_some_iff]at h1;obtain⟨ds,_,rfl⟩:=h1;exact⟨_,_,rfl⟩
    | _=>simp[QD9]at h1
   ·exact ih h2 b hb
  ·cases h
theorem QEV {tb:TB}(htb:JZ P tb){ρ:Env}{σ:St}{a:Act}{w:World}(hs:Sim w0 M N ρ σ a w){fn:Func}{K:AV->Prop}(h:QLi tb fn.results.toList σ K):
    ∃v av,(results fn a.tmps).run P w= .ok v w/\ConcV w M.x XT av v/\K av:=by
  obtain⟨vs,as,h1,h2,h3⟩:=Hq (P:=P) htb hs h;have hrun:(results fn a.tmps).run P w= .ok (if h:vs.toArray.size=1 then vs.toArray[0]else .tuple vs.toArray) w:=by
    have:(fn.results.mapM (QET a.tmps)).run P w= .ok vs.toArray w:=by
      rw[Array.mapM_eq_mapM_toList];simp[h1]
    change ((fn.results.mapM (QET a.tmps)>>=fun vs=>pure (if h:vs.size=1 then vs[0]else .tuple vs)):Sem Value).run P w=_;simp[this]
  unfold QQQ at h3;have fin: ∀{bs:List AV},Wz σ.H as=some bs->Qo w M.x XT bs vs:=fun hb=>by
    have hk:=HR hs.hs (HQ hb) h2 (fun _ h=>h) hb;have key: ∀{O O':Nat->Prop} {bs:List AV} {vs:List Value},Qo w O XT bs vs->(∀b,O' b->O b)->Qo w O' XT bs vs:=by
      intro O O' bs vs h hO;induction h with
      | nil=>exact .nil
      | cons h _ ih=>exact .cons (h.mono (.refl _ _) (fun b _ h=>hO b h) (fun _ _ h=>h)) ih
    exact key hk fun b hb=> .inl hb
  split at h3
  · rename_i b hb;have hc:=fin hb;cases hc with
    | cons hc ht=>
      cases ht
      exact⟨_,b,by simpa using hrun,hc,h3⟩
  · rename_i bs hne hb;have hc:=fin hb;refine⟨_,_,hrun,?_,h3⟩;have hl:vs.length≠1:=fun e=>by
      have:=hc.len;match bs,(by omega:bs.length=1)with
      | [b],_=>exact hne b rfl
    rw[dif_neg (by simpa using hl)];exact⟨vs,Vc hc (QLk hb),rfl⟩
  · exact h3.elim

def wpA (T:Qh)(L:LI):Code->WF:=wpG (fun _=>QHB T) L (rfA T)

theorem QAR {g:Nat}{tab:List Value}(hT:Q5 P g tab T)(hm:P.follows .mixedOrders=true){N:Nat}{L:LI}(c:Code)(hc:JB (KR N) c=true):Snd P w0 N (CMc g tab) c (wpA T L c):=
 QAO (fun M _ _ h=>Hk (by rw[h.1.1,h.1.2.1];exact hT) hm) (fun it f ps x y wa wb hps ha hb=>QHF hT hm it f ps x y wa wb hps ha hb) c hc
theorem QIx {g:Nat}{tab:List Value}(hT:Q5 P g tab T)(hm:P.follows .mixedOrders=true){f:Nat}{fn:Func}{body:Code}{as:List AV}{K:AV->Prop}(hf:P.funcs[f]? =some fn)(hb:fn.body=some body)
  {N:Nat} (hN:fn.ntmps=N) {rs:List ResultVar} (hrs:fn.results.toList=rs) (hck:JB (KR N) body=true) (hargs:as.length<=N)
  {L:LI} {T0:TM} (hT0: ∀t,T0 t= .u∨T0 t=QLf as t) (h:wpA T L body [] none 0 ⟨T0,fun _=>none⟩ (QLj T.tb rs K)):Spec P g tab f as K:=by
 intro w O vals hO hg hc;refine callsIn_wide.1 (callsIn_of_wp_marks (F:=FR none) (n:=0) hf hb trivial ?_ rfl);have hgs:g<w.heap.size:=by
  obtain⟨t,fr,e⟩:=hg;exact(Array.getElem?_eq_some_iff.1 e).1
 let M:Ctx:={m:=fun _=>False,x:=O,g:=g,tab:=tab,pin:=XT,lps:=fun _=>none,stk:=[],nd:=false}
 have hown: ∀b,¬own XT (fun _=>none) b:=fun b ⟨k,bd,e,_⟩=>by cases e
 have hs:HS w M XT (fun _=>none) w:=⟨rfl,rfl,rfl,Nat.le_refl _,⟨hg,fun h=>h,hgs,fun b hb=>⟨hO b hb,fun h=>h⟩⟩,fun _ _ _=>rfl,(fun _ _ h=>by cases h),(fun _ _=>rfl),(fun _ _ h=>by cases h),(fun _ _ _ _ h=>by cases h)⟩;have hlen:vals.length<=N:=by rw[<-hc.len];exact hargs
 have hcm:Qo w (ow M XT (fun _=>none)) XT as vals:=by
  have: ∀b,ow M XT (fun _=>none) b->O b:=fun b h=>h.elim id (fun h=>(hown b h).elim);clear hlen hargs h hT0;induction hc with
  | nil=>exact .nil
  | cons h _ ih=>exact .cons (h.mono (.refl _ _) (fun b _ h=>this b h) (fun _ _ h=>h)) ih
 have hsim:Sim w M N XT ⟨T0,fun _=>none⟩ {tmps:=vals.toArray++Array.replicate (fn.ntmps-vals.toArray.size) undef,defers:=[]} w:=
  ⟨by simp[hN];omega,.nil,fun _=>rfl,(fun _ _ h=>by cases h),fun t=>by
   rcases hT0 t with h | h
   ·show ConcV w _ XT (T0 t) _
    rw[h];trivial
   ·show ConcV w _ XT (T0 t) _
    rw[h];exact UH hcm _ t,(fun _ h=>by cases h),hs⟩
 refine QAR hT hm body hck (M:=M) ⟨⟨rfl,rfl,rfl⟩,rfl⟩ ⟨fun k h=>absurd rfl h,fun _ h=>by cases h⟩ (NC.refl w) hsim h ?_
 intro a' w';have done: ∀{ρ σ},Sim w M N ρ σ a' w'->QLi T.tb rs σ K->LeavesInM (FR none) 0 P fn a'.tmps (fun e w'=> ∃v av,e= .returned v/\K av/\ConcV w' O XT av v/\Below w.heap.size w w') a'.defers .returning w':=by
  intro ρ σ hs' hr;refine hs'.leave fun a2 w2 hs2 ht _=> ?_
  subst hrs;obtain⟨v,av,r1,r2,r3⟩:=QEV (P:=P) hT.tb hs2 hr;rw[ht]at r1;exact⟨v,r1,v,av,rfl,r3,r2,⟨hs2.hs.os,hs2.hs.tape,hs2.hs.output,hs2.hs.size,fun k hk=>hs2.hs.old k hk (fun h=>h)⟩⟩
 refine⟨?_,?_,?_⟩
 ·rintro⟨ρ,σ,hs',hr,_⟩;exact done hs' hr
 ·rintro i ⟨ρ,σ,hs',hr,_⟩;exact hr.elim
 ·rintro⟨ρ,σ,hs',hr,_⟩;exact done hs' hr
end Go.Eng
namespace Go.Eng
open Go Go.RowKit
def QLl:TypeDesc->Bool
 | .struct _=>true
 | .array _ _=>true
 | _=>false
def eqU (P:Program)(t:TypeId)(u:TypeDesc):Bool:= !P.stoodInHeld t&& !P.eqGuardType P.depth t&&(match u with
  | .struct fs=>fs.toList.all fun f=> !decide (f.name= "_")
  | _=>true)
theorem QOk {P:Program}{t:TypeId}{u:TypeDesc}(h:eqU P t u=true):P.stoodInHeld t=false/\P.eqGuardType P.depth t=false/\ ∀fs,u= .struct fs-> ∀f∈fs.toList,f.name≠ "_" :=by
 simp only[eqU,Zb,Bool.not_eq_true']at h;refine⟨h.1.1,h.1.2,fun fs hu f hf=> ?_⟩;subst hu;have:=List.all_eq_true.1 h.2 f hf;simpa using this
def QLm (u:TypeDesc)(z:Value):Bool:=match u with
  | .int _=>(match z with | .int .. =>true | _=>false)
  | _=>true
theorem QLn {u:TypeDesc}{z:Value}(h:QLm u z=true){k:IntKind}(hu:u= .int k):z.cells.toList=[z]:=by
 subst hu;unfold QLm at h;cases z<;>first | rfl | (cases h)
def tbP (P:Program):TB:=fun t=>
  match P.info? t with
  | some ti=>match ti.zero,P.underlying t with
    | some z,some u=>bif(QLl u || ti.size.beq 1)&&z.cells.toList.length.beq ti.size&&z.cells.toList.all (·.oneCell')&&QLm u z then
        some ⟨ti.size,z.cells.toList,QLl u,ti.bytes,u,eqU P t u⟩else none
    | _,_=>none
  | none=>none

theorem QOl (P:Program):JZ P (tbP P):=by
 intro t i h;unfold tbP at h;split at h
 ·rename_i ti hti;split at h
  ·rename_i z u hz hu;cases hb:((QLl u || ti.size.beq 1)&&z.cells.toList.length.beq ti.size&&z.cells.toList.all (·.oneCell')&&QLm u z)with
   | false=>rw[hb]at h;cases h
   | true=>
    rw[hb]at h;simp only[R7,Option.some.injEq]at h;subst h;simp only[Zb,Bool.or_eq_true]at hb;refine⟨⟨ti,z,hti,rfl,rfl,hz,by simp⟩,hu,?_,fun ha=> ?_,Za hb.1.1.2,hb.1.2,fun k hk=>⟨ti,z,hti,hz,QLn hb.2 hk⟩,fun h=>QOk h⟩
    ·simp only[QLl];cases u<;>rfl
    ·simp only at ha;rcases hb.1.1.1 with h | h
     ·rw[ha]at h;cases h
     ·exact Za h
  ·cases h
 ·cases h
def tbL (l:List (Nat×TyI)):TB:=fun t=>match l with
  | []=>none
  | p::rest=>bif t.beq p.1 then some p.2 else tbL rest t

theorem QOm {P:Program}: ∀{l:List (Nat×TyI)},(∀p∈l,tbP P p.1=some p.2)->JZ P (tbL l):=by
 intro l;induction l with
 | nil=>intro _ t i h;cases h
 | cons p rest ih=>
  intro hl t i h;rw[tbL]at h;cases hb:t.beq p.1 with
  | true=>
   rw[hb]at h;have:=Za hb;simp only[R7,Option.some.injEq]at h;subst this h;exact QOl P _ _ (hl p (by simp))
  | false=>
   rw[hb]at h;exact ih (fun q hq=>hl q (by simp[hq])) t i h
end Go.Eng
namespace Go.Eng
open Go Go.RowKit
abbrev Ctr:=List AV->Option ((AV->Prop)->Prop)
def prL (l:List (Nat×Ctr)):PR:=fun f as=>match l with
 | []=>none
 | p::rest=>bif f.beq p.1 then p.2 as else prL rest f as
structure CtrOK (P:Program)(g:Nat)(tab:List Value)(f:Nat)(c:Ctr):Prop where
 enter:VE P f
 sound: ∀as T,c as=some T-> ∀K,T K->Spec P g tab f as K
def CtrsOK (P:Program)(g:Nat)(tab:List Value)(l:List (Nat×Ctr)):Prop:= ∀p∈l,CtrOK P g tab p.1 p.2
variable {P:Program}{g:Nat}{tab:List Value}
theorem CtrsOK.nil:CtrsOK P g tab []:=fun _ h=>by cases h
theorem CtrsOK.cons {f:Nat}{c:Ctr}{l:List (Nat×Ctr)}(h:CtrOK P g tab f c)(hl:CtrsOK P g tab l):CtrsOK P g tab ((f,c)::l):=by
 intro p hp;rcases Zd.1 hp with rfl | hp
 ·exact h
 ·exact hl p hp
theorem QOn: ∀{l:List (Nat×Ctr)},CtrsOK P g tab l->QLU P g tab (prL l):=by
 intro l;induction l with
 | nil=>exact fun _=>⟨fun _ _ _ h=>(by cases h),fun _ _ _ h=>(by cases h)⟩
 | cons p l ih=>
  intro h;have h1:=h p (by simp);have h2:=ih fun q hq=>h q (by simp[hq]);refine⟨fun f as T ht=> ?_,fun f as T ht=> ?_⟩
  ·rw[prL]at ht;cases hb:f.beq p.1 with
   | true=>have:=Za hb;subst this;exact h1.enter
   | false=>rw[hb]at ht;exact h2.enter f as T ht
  ·rw[prL]at ht;cases hb:f.beq p.1 with
   | true=>rw[hb]at ht;have:=Za hb;subst this;exact h1.sound as T ht
   | false=>rw[hb]at ht;exact h2.sound f as T ht
structure QU (p:Prop):Prop where
  out:p

def QCf (T:Qh)(L:LI)(fn:Func)(as:List AV)(K:AV->Prop):Prop:=wpA T L (XQ fn) [] none 0 ⟨QLf as,fun _=>none⟩ (QLj T.tb fn.results.toList K)

theorem QBG {T:Qh}(hT:Q5 P g tab T)(hm:P.follows .mixedOrders=true){f:Nat}{fn:Func}(hf:P.funcs[f]? =some fn)(hok:Va fn=true){as:List AV}{K:AV->Prop}{L:LI}(hargs:Zg as.length fn.ntmps=true)
  (h:QU (QCf T L fn as K)):Spec P g tab f as K:=by
 replace h:=h.out;simp only[Va,Zb]at hok;obtain⟨c,hc⟩:=Option.isSome_iff_exists.1 hok.1.2;have hb:XQ fn=c:=by unfold XQ;rw[hc]
 unfold QCf at h;rw[hb]at h;exact QIx hT hm hf hc rfl rfl (hb▸hok.2) (Ze hargs) (fun _=> .inr rfl) h
theorem Spec.args {f:Nat}{as bs:List AV}{K:AV->Prop}(h:Spec P g tab f as K)(hab: ∀w O vals,Qo w O XT bs vals->Qo w O XT as vals):Spec P g tab f bs K:=
  fun w O vals h1 h2 h3=>h w O vals h1 h2 (hab w O vals h3)
theorem Spec.res {f:Nat}{as:List AV}{K K':AV->Prop}(h:Spec P g tab f as K)(hk: ∀w O av v,K av->ConcV w O XT av v-> ∃av',K' av'/\ConcV w O XT av' v):Spec P g tab f as K':=
  fun w O vals h1 h2 h3=>(h w O vals h1 h2 h3).mono fun e w' ⟨v,av,e1,e2,e3,e4⟩=>by
    obtain⟨av',a1,a2⟩:=hk w' O av v e2 e3;exact⟨v,av',e1,a1,a2,e4⟩

end Go.Eng
namespace Go.Eng
open Go Go.RowKit
def QIy (x:Value)(K:Value->Prop):Prop:=match x with
 | .int k n=>K (.int k n)
 | .bool b=>K (.bool b)
 | .string s=>K (.string s)
 | .slice a n c=>K (.slice a n c)
 | .func f a b=>K (.func f a b)
 | x=>K x
theorem QHG (x:Value)(K:Value->Prop):QIy x K=K x:=by cases x<;>rfl
def XX:List Ch->(List Ch->Prop)->Prop
 | [],K=>K []
 | c::cs,K=>match c with
  | .v x=>QIy x fun x'=>XX cs fun cs'=>K (.v x'::cs')
  | .r q n=>XX cs fun cs'=>K (.r q n::cs')
  | .b m n=>XX cs fun cs'=>K (.b m n::cs')
  | .s sz xs=>XX cs fun cs'=>K (.s sz xs::cs')
  | .p k o=>XX cs fun cs'=>K (.p k o::cs')
  | .w k o n=>XX cs fun cs'=>K (.w k o n::cs')
  | .e k i o=>XX cs fun cs'=>K (.e k i o::cs')
  | .y sz xs i o=>XX cs fun cs'=>K (.y sz xs i o::cs')
  | .f fid ks=>XX cs fun cs'=>K (.f fid ks::cs')
  | .i t ag ics=>XX cs fun cs'=>K (.i t ag ics::cs')
  | .m k=>XX cs fun cs'=>K (.m k::cs')
  | .yl k=>XX cs fun cs'=>K (.yl k::cs')
  | .q k i n=>XX cs fun cs'=>K (.q k i n::cs')
  | .z k i sz j o=>XX cs fun cs'=>K (.z k i sz j o::cs')
  | .u=>XX cs fun cs'=>K (.u::cs')
theorem UK: ∀(cs:List Ch) (K:List Ch->Prop),XX cs K=K cs:=by
 intro cs;induction cs with
 | nil=>intro K;rfl
 | cons c cs ih=>intro K;cases c<;>simp only[XX,QHG,ih]
def Hr:List (Bool×List Ch)->(List (Bool×List Ch)->Prop)->Prop
 | [],K=>K []
 | p::l,K=>match p with
  | (true,cs)=>XX cs fun cs'=>Hr l fun l'=>K ((true,cs')::l')
  | (false,cs)=>XX cs fun cs'=>Hr l fun l'=>K ((false,cs')::l')
theorem QHH: ∀(l:List (Bool×List Ch)) (K:List (Bool×List Ch)->Prop),Hr l K=K l:=by
 intro l;induction l with
 | nil=>intro K;rfl
 | cons p l ih=>intro K;obtain⟨b,cs⟩:=p;cases b<;>simp only[Hr,UK,ih]
def Kn (a:AV)(K:AV->Prop):Prop:=match a with
 | .x true cs=>XX cs fun cs'=>K (.x true cs')
 | .x false cs=>XX cs fun cs'=>K (.x false cs')
 | .t l=>Hr l fun l'=>K (.t l')
 | .n=>K .n
 | .u=>K .u
theorem VI (a:AV)(K:AV->Prop):Kn a K=K a:=by
 cases a with
 | x b cs=>cases b<;>simp only[Kn,UK]
 | t l=>simp only[Kn,QHH]
 | _=>rfl
def QEW (b:Blk)(K:Blk->Prop):Prop:=match b with
 | .box t cs=>XX cs fun cs'=>K (.box t cs')
 | .row t sz xs=>K (.row t sz xs)
 | .lp s=>K (.lp s)
 | .mp f=>K (.mp f)
 | .nst t sz o t2 sz2 xs=>K (.nst t sz o t2 sz2 xs)
 | .dead=>K .dead
theorem QHI (b:Blk)(K:Blk->Prop):QEW b K=K b:=by cases b<;>simp only[QEW,UK]
def QHJ:List (Nat×AV)->Nat->AV->List (Nat×AV)
 | [],t,v=>[(t,v)]
 | p::l,t,v=>bif t.beq p.1 then(t,v)::l else p::QHJ l t v
theorem QAS (l:List (Nat×AV))(t:Nat)(v:AV):Qi (QHJ l t v)=upd (Qi l) t v:=by
 funext k;induction l with
 | nil=>simp only[QHJ,Qi,upd]
 | cons p l ih=>
  simp only[QHJ];cases hb:t.beq p.1 with
  | true=>
   have:=Za hb;simp only[R7,Qi,upd];cases hk:k.beq t with
   | true=>rfl
   | false=>rw[<-this,hk];rfl
  | false=>
   simp only[R8,Qi,upd,ih];cases hk:k.beq p.1 with
   | true=>
    have:=Za hk;subst this;have:p.1.beq t=false:=by
     cases h:p.1.beq t with
     | false=>rfl
     | true=>rw[Za h]at hb;simp at hb
    rw[this];rfl
   | false=>rfl
def UL (l:List (Nat×AV))(d:Option Nat)(v:AV):List (Nat×AV):=match d with
 | some d=>QHJ l d v
 | none=>l
theorem JR (l:List (Nat×AV))(d:Option Nat)(v:AV):Qi (UL l d v)=YE (Qi l) d v:=by
 cases d with
 | none=>rfl
 | some d=>exact QAS l d v
def Wr:List (Nat×Blk)->Nat->Blk->List (Nat×Blk)
 | [],t,v=>[(t,v)]
 | p::l,t,v=>bif t.beq p.1 then(t,v)::l else p::Wr l t v
theorem J0 (l:List (Nat×Blk))(t:Nat)(v:Blk):QO (Wr l t v)=upd (QO l) t (some v):=by
 funext k;induction l with
 | nil=>simp only[Wr,QO,upd]
 | cons p l ih=>
  simp only[Wr];cases hb:t.beq p.1 with
  | true=>
   have:=Za hb;simp only[R7,QO,upd];cases hk:k.beq t with
   | true=>rfl
   | false=>rw[<-this,hk];rfl
  | false=>
   simp only[R8,QO,upd,ih];cases hk:k.beq p.1 with
   | true=>
    have:=Za hk;subst this;have:p.1.beq t=false:=by
     cases h:p.1.beq t with
     | false=>rfl
     | true=>rw[Za h]at hb;simp at hb
    rw[this];rfl
   | false=>rfl
def QEX:List (Nat×Blk)->Nat->List (Nat×Blk)
 | [],_=>[]
 | p::l,t=>bif t.beq p.1 then QEX l t else p::QEX l t
theorem QHK (l:List (Nat×Blk))(t:Nat):QO (QEX l t)=upd (QO l) t none:=by
 funext k;induction l with
 | nil=>simp only[QEX,QO,upd];cases k.beq t<;>rfl
 | cons p l ih=>
  simp only[QEX];cases hb:t.beq p.1 with
  | true=>
   have:=Za hb;simp only[R7,ih,QO,upd,<-this];cases k.beq t<;>rfl
  | false=>
   simp only[R8,QO,upd,ih];cases hk:k.beq p.1 with
   | true=>
    have:=Za hk;subst this;have:p.1.beq t=false:=by
     cases h:p.1.beq t with
     | false=>rfl
     | true=>rw[Za h]at hb;simp at hb
    rw[this];rfl
   | false=>rfl
def QHL:List Nat->HP->List (Nat×Blk)->(List (Nat×Blk)->Prop)->Prop
 | [],_,l,K=>K l
 | k::F,H1,l,K=>match H1 k with
  | some b=>QEW b fun b'=>QHL F H1 (Wr l k b') K
  | none=>QHL F H1 (QEX l k) K
theorem QCg {k:Nat}{F:List Nat}{H1 H:HP}:mrg (k::F) H1 H=mrg F H1 (upd H k (H1 k)):=by
 funext j;unfold mrg upd;have:XJ j (k::F)=(j.beq k || XJ j F):=rfl;rw[this];cases hk:j.beq k with
 | true=>have:=Za hk;subst this;cases XJ j F<;>rfl
 | false=>cases XJ j F<;>rfl
theorem QLo: ∀(F:List Nat) (H1:HP) (l:List (Nat×Blk)),∃l',QO l'=mrg F H1 (QO l)/\ ∀K,QHL F H1 l K=K l':=by
 intro F;induction F with
 | nil=>intro H1 l;exact⟨l,by funext k;rfl,fun K=>rfl⟩
 | cons k F ih=>
  intro H1 l;cases hk:H1 k with
  | some b=>
   obtain⟨l',h1,h2⟩:=ih H1 (Wr l k b);exact⟨l',by rw[h1,J0,QCg,hk],fun K=>by simp only[QHL,hk,QHI];exact h2 K⟩
  | none=>
   obtain⟨l',h1,h2⟩:=ih H1 (QEX l k);exact⟨l',by rw[h1,QHK,QCg,hk],fun K=>by simp only[QHL,hk];exact h2 K⟩
def QOo (T:Qh)(ops:List Oper)(i:Nat)(o:Oper)(s:SL)(K:SL->Prop):Prop:=
 match Qx o.op with
 | true=>opS T (evA (Qi s.T)) (Xx (fp (evA (Qi s.T)) o.op) [] (QO s.H)) (YC o.dst) (fun v _=>WI (isG ops i) v fun v'=>Kn v' fun v''=>K ⟨UL s.T o.dst v'',s.H⟩) o.op
 | false=>KI (YW o.op (YC o.dst)) (QO s.H)<|
   opS T (evA (Qi s.T)) (Xx (fp (evA (Qi s.T)) o.op) (YW o.op (YC o.dst)) (QO s.H)) (YC o.dst)
    (fun v H1=>WI (isG ops i) v fun v'=>Kn v' fun v''=>QHL (fp (evA (Qi s.T)) o.op++YW o.op (YC o.dst)) H1 s.H fun l'=>K ⟨UL s.T o.dst v'',l'⟩) o.op
def QIz (T:Qh)(ops:List Oper)(i:Nat)(o:Oper)(s:SL)(K:SL->Prop):Prop:=
 Wm ops (Qi s.T) o (QOo T ops i o s K) (K ⟨UL s.T o.dst .n,s.H⟩)
theorem QLp {T:Qh}{ops:List Oper}{i:Nat}{o:Oper}{s:SL}{K:SL->Prop}{K2:St->Prop}(hK: ∀s:SL,K2 s.st=K s):
  QOo T ops i o s K=opL T (evA s.st.T) s.st.H (YC o.dst) (fun v H'=>WI (isG ops i) v fun v'=>K2 ⟨YE s.st.T o.dst v',H'⟩) o.op:=by
 unfold QOo opL;cases hr:Qx o.op with
 | true=>
  have hn:YW o.op (YC o.dst)=[]:=by simp[YW,Jn hr]
  simp only[hn,List.append_nil];show _=opS _ _ _ _ _ _
  conv=>rhs;rw[VF T hr]
  show opS _ _ _ _ _ _=opS _ _ _ _ _ _
  congr 1;funext v _;show WI _ _ _=WI _ _ _
  congr 1;funext v';rw[VI,<-hK];congr 1;show(⟨Qi _,QO s.H⟩:St)=⟨_,mrg _ _ (QO s.H)⟩
  congr 1
  ·exact JR _ _ _
  ·rw[Jp];intro k hk;exact Xy hk
 | false=>
  simp only;show KI _ (QO s.H) (opS _ _ _ _ _ _)=KI _ (QO s.H) (opS _ _ _ _ _ _)
  congr 1;congr 1;funext v H1;show WI _ _ _=WI _ _ _
  congr 1;funext v';rw[VI];obtain⟨l',h1,h2⟩:=QLo (fp (evA (Qi s.T)) o.op++YW o.op (YC o.dst)) H1 s.H;rw[h2,<-hK];congr 1;show(⟨Qi _,QO l'⟩:St)=⟨_,_⟩
  congr 1;exact JR _ _ _
theorem QBH {T:Qh}{ops:List Oper}{i:Nat}{o:Oper}{s:SL}{K:SL->Prop}{K2:St->Prop}(hK: ∀s:SL,K2 s.st=K s):QIz T ops i o s K=opA T ops Jo i o s.st K2:=by
 unfold QIz opA;rw[QLp hK];simp only[Jo,R7];have:K ⟨UL s.T o.dst .n,s.H⟩=K2 ⟨YE s.st.T o.dst .n,s.st.H⟩:=by
  rw[<-hK];congr 1;show(⟨Qi _,QO s.H⟩:St)=⟨_,_⟩
  congr 1;exact JR _ _ _
 rw[this];rfl
def QFx (T:Qh)(ops:List Oper):List Nat->SL->(SL->Prop)->Prop
 | [],s,K=>K s
 | i::rest,s,K=>match ops[i]? with
  | some o=>QIz T ops i o s fun s'=>QFx T ops rest s' K
  | none=>False
theorem QI0 {T:Qh}{ops:List Oper}{K:SL->Prop}{K2:St->Prop}(hK: ∀s:SL,K2 s.st=K s): ∀(l:List Nat) (s:SL),QFx T ops l s K=QG0 T ops Jo l s.st K2:=by
 intro l;induction l with
 | nil=>intro s;exact(hK s).symm
 | cons i rest ih=>
  intro s;simp only[QFx,QG0];cases ops[i]? with
  | none=>rfl
  | some o=>exact QBH fun s'=>(ih s').symm
def QQR (T:Qh)(o:Oper)(s:SL)(K:SL->Prop):SL->Prop:=bif Gz T o.op then fun s'=>K6 (gOf o (Qi s.T)) (QO s'.H) (QO s.H) (K s')else K
def QOp (T:Qh)(ops:List Oper)(i:Nat)(o:Oper)(s:SL)(K:SL->Prop):Prop:=QIz T ops i o s (QQR T o s K)
theorem QLq {T:Qh}{ops:List Oper}{i:Nat}{o:Oper}{s:SL}{K:SL->Prop}{K2:St->Prop}(hK: ∀s:SL,K2 s.st=K s):QOp T ops i o s K=opX T ops i o s.st K2:=by
 unfold QOp opX;refine QBH fun s'=> ?_
 unfold G0 QQR;cases Gz T o.op with
 | false=>exact hK s'
 | true=>
  simp only[R7,hK];rfl
def Hs (T:Qh)(ops:List Oper)(anc:List (List Nat)):List Nat->List (Nat×List Nat)->SL->(SL->Prop)->Prop
 | [],_,s,K=>K s
 | i::rest,log,s,K=>match ops[i]? with
  | some o=>bif log.all (fun p=>JC T ops anc i p.1 (gOf o (Qi s.T)) p.2)then QOp T ops i o s fun s'=>Hs T ops anc rest ((i,gOf o (Qi s.T))::log) s' K else False
  | none=>False
theorem QCh {T:Qh}{ops:List Oper}{anc:List (List Nat)}{K:SL->Prop}{K2:St->Prop}(hK: ∀s:SL,K2 s.st=K s): ∀(l:List Nat) (log:List (Nat×List Nat)) (s:SL),Hs T ops anc l log s K=Wp T ops anc l log s.st K2:=by
 intro l;induction l with
 | nil=>intro log s;exact(hK s).symm
 | cons i rest ih=>
  intro log s;simp only[Hs,Wp];cases ops[i]? with
  | none=>rfl
  | some o=>
   simp only;rw[QLq (K2:=fun σ'=>Wp T ops anc rest ((i,gOf o (Qi s.T))::log) σ' K2) fun s'=>(ih _ s').symm];rfl
def QQS (T:Qh)(O:OT)(id:Nat)(ops:List Oper)(draw:Bool)(s:SL)(K:SL->Prop):Prop:=
 bif draw then Hs T ops (O id).2 (O id).1 [] s K else QFx T ops (List.range ops.length) s K
theorem QLr {T:Qh}{O:OT}{id:Nat}{ops:List Oper}{draw:Bool}(ho:(bif draw then decide (O id=(ord ops,KQ ops))else true)=true){s:SL}{K:SL->Prop}{K2:St->Prop}(hK: ∀s:SL,K2 s.st=K s):QQS T O id ops draw s K=QHB T ops draw s.st K2:=by
 cases draw with
 | true=>
  have:O id=(ord ops,KQ ops):=by simpa using ho
  show Hs T ops (O id).2 (O id).1 [] s K=_
  rw[this];exact QCh hK _ _ _
 | false=>exact QI0 hK _ _
abbrev QL:=Ex->SL->Prop
abbrev WL:=List Nat->Option Nat->Nat->SL->QL->Prop
abbrev RGL:=Nat->Nat->List Oper->Bool->SL->(SL->Prop)->Prop
abbrev RFL:=KM->Operand->List Nat->WL->WL->WL
def QOq (pl:List Nat)(I:Inv)(body:Nat->SL->QL->Prop)(μ:Nat)(s:SL)(Q:QL):Prop:=
 (∃x,(I.φ x/\I.t x=μ)/\YX pl s.st (I.S x))/\
  ∀x,I.φ x->I.t x=μ->body (I.m x) (I.S x) fun e s'=>match e with
   | .n=> ∃x',(I.φ x'/\I.t x'=μ/\I.m x'<I.m x)/\YX pl s'.st (I.S x')
   | e=>Q e s'
def QI1 (pl:List Nat)(K:List Nat)(I:Inv)(body:Nat->SL->QL->Prop)(μ:Nat)(s:SL)(Q:QL):Prop:=
 (∃x,(I.φ x/\I.t x=μ)/\YX pl (Ut K s.st) (I.S x))/\
  ∀x,I.φ x->I.t x=μ->body (I.m x) (I.S x) fun e s'=>match e with
   | .n=> ∃x',(I.φ x'/\I.t x'=μ/\I.m x'<I.m x)/\YX pl (Ut K s'.st) (I.S x')
   | e=>Q e s'
def QI2 (pl:List Nat)(A B:Inv)(body:Nat->SL->QL->Prop)(μ:Nat)(s:SL)(Q:QL):Prop:=
 ((∃x,(A.φ x/\A.t x=μ)/\YX pl s.st (A.S x))∨ ∃x,(B.φ x/\B.t x=μ)/\YX pl s.st (B.S x))/\
  (∀x,A.φ x->A.t x=μ->body (A.m x) (A.S x) fun e s'=>match e with
   | .n=>(∃x',(A.φ x'/\A.t x'=μ/\A.m x'<A.m x)/\YX pl s'.st (A.S x'))∨ ∃x',(B.φ x'/\B.t x'=μ/\B.m x'<A.m x)/\YX pl s'.st (B.S x')
   | e=>Q e s')/\
  ∀x,B.φ x->B.t x=μ->body (B.m x) (B.S x) fun e s'=>match e with
   | .n=>(∃x',(A.φ x'/\A.t x'=μ/\A.m x'<B.m x)/\YX pl s'.st (A.S x'))∨ ∃x',(B.φ x'/\B.t x'=μ/\B.m x'<B.m x)/\YX pl s'.st (B.S x')
   | e=>Q e s'
def U3 (body:SL->QL->Prop):Nat->SL->QL->Prop
 | 0,_,_=>False
 | n+1,s,Q=>body s fun e s'=>match e with
  | .n=>U3 body n s' Q
  | e=>Q e s'
def QNl (pl:List Nat)(L:KM)(body:Nat->SL->QL->Prop)(μ:Nat)(s:SL)(Q:QL):Prop:=
 match L with
 | .inv I=>QOq pl I body μ s Q
 | .inv2 A B=>QI2 pl A B body μ s Q
 | .invf K I=>QI1 pl K I body μ s Q
 | .unroll n=>U3 (body μ) n s Q
 | _=>False
def QOr (pl:List Nat)(K:List Nat)(I:Inv)(a b:SL->QL->Prop)(μ:Nat)(s:SL)(Q:QL):Prop:=
 (a s fun e s'=>match e with
  | .n=> ∃x,(I.φ x/\I.t x=μ)/\YX pl (Ut K s'.st) (I.S x)
  | e=>Q e s')/\ ∀x,I.φ x->I.t x=μ->b (I.S x) Q
def QI3 (pl:List Nat)(K:List Nat)(A B:Inv)(a b:SL->QL->Prop)(μ:Nat)(s:SL)(Q:QL):Prop:=
 (a s fun e s'=>match e with
  | .n=>(∃x,(A.φ x/\A.t x=μ)/\YX pl (Ut K s'.st) (A.S x))∨ ∃x,(B.φ x/\B.t x=μ)/\YX pl (Ut K s'.st) (B.S x)
  | e=>Q e s')/\(∀x,A.φ x->A.t x=μ->b (A.S x) Q)/\ ∀x,B.φ x->B.t x=μ->b (B.S x) Q
def J7 (RG:RGL)(L:LI)(RF:RFL):Code->WL
 | .skip,_,_,_,s,Q=>Q .n s
 | .region id ops draw,_,_,μ,s,Q=>RG μ id ops.toList draw s (Q .n)
 | .seq a b,pl,ro,μ,s,Q=>match QOe L b with
  | some (K,I,none)=>QOr pl K I (J7 RG L RF a pl ro μ) (J7 RG L RF b pl ro μ) μ s Q
  | some (K,A,some B)=>QI3 pl K A B (J7 RG L RF a pl ro μ) (J7 RG L RF b pl ro μ) μ s Q
  | none=>J7 RG L RF a pl ro μ s fun e s'=>match e with
   | .n=>J7 RG L RF b pl ro μ s' Q
   | e=>Q e s'
 | .cond c a b,pl,ro,μ,s,Q=>match evA (Qi s.T) c with
  | .x false [.v (.bool t)]=>bif t then J7 RG L RF a pl ro μ s Q else J7 RG L RF b pl ro μ s Q
  | _=>False
 | .block id c,pl,ro,μ,s,Q=>J7 RG L RF c pl ro μ s fun e s'=>match e with
  | .x i=>bif i.beq id then Q .n s' else Q (.x i) s'
  | e=>Q e s'
 | .loop c,pl,ro,μ,s,Q=>QNl pl (match Jm c with | some i=>L i | none=> .no) (J7 RG L RF c pl ro) μ s Q
 | .rangeFunc f ps a b,pl,ro,μ,s,Q=>RF (match Jm a with | some i=>L i | none=> .no) f ps.toList (J7 RG L RF a) (J7 RG L RF b) pl ro μ s Q
 | .exit id,_,_,_,s,Q=>Q (.x id) s
 | .label _,_,_,_,s,Q=>Q .n s
 | .ret,_,_,_,s,Q=>Q .r s
 | _,_,_,_,_,_=>False
def EqW (F:WL)(G:WF):Prop:= ∀pl ro μ s (Q:QL) (Q2:QQ),(∀e (s:SL),Q2 e s.st=Q e s)->F pl ro μ s Q=G pl ro μ s.st Q2

theorem QFy {RG:RGL}{RG2:RGT}{L:LI}{RF:RFL}{RF2:RFT}{O:OT}(hRG: ∀μ id ops draw,(bif draw then decide (O id=(ord ops,KQ ops))else true)=true-> ∀s (K:SL->Prop) (K2:St->Prop),(∀s:SL,K2 s.st=K s)->RG μ id ops draw s K=RG2 μ ops draw s.st K2)
  (hRF: ∀it f ps wa wb wa2 wb2,EqW wa wa2->EqW wb wb2->EqW (RF it f ps wa wb) (RF2 it f ps wa2 wb2)): ∀(c:Code),WS O c=true->EqW (J7 RG L RF c) (wpG RG2 L RF2 c):=by
 intro c;induction c with
 | skip=>intro _ pl ro μ s Q Q2 h;exact(h _ _).symm
 | region id ops draw=>intro ho pl ro μ s Q Q2 h;exact hRG μ id ops.toList draw ho s _ _ fun s=>h _ s
 | seq a b iha ihb=>
  intro ho pl ro μ s Q Q2 h;simp only[WS,Zb]at ho;simp only[J7,wpG,cutI];cases QOe L b with
  | none=>
   refine iha ho.1 pl ro μ s _ _ fun e s'=> ?_
   cases e with
   | n=>exact(ihb ho.2 pl ro μ s' Q Q2 h).symm
   | _=>exact h _ _
  | some p=>
   obtain⟨K,I,o⟩:=p;cases o with
   | some B=>
    show QI3 pl K I B _ _ μ s Q=QIh pl K (QCV I B) _ _ μ s.st Q2
    unfold QI3 QIh;congr 1
    ·refine iha ho.1 pl ro μ s _ _ fun e s'=> ?_
     cases e with
     | n=>exact propext ⟨fun⟨x,h⟩=>match x,h with
       | .inl x,h=> .inl ⟨x,h⟩
       | .inr x,h=> .inr ⟨x,h⟩,fun h=>h.elim (fun⟨x,h⟩=>⟨.inl x,h⟩) (fun⟨x,h⟩=>⟨.inr x,h⟩)⟩
     | _=>exact h _ _
    ·exact propext ⟨fun⟨h1,h2⟩ x=>match x with
      | .inl x=>fun k1 k2=>by have:=h1 x k1 k2;rw[ihb ho.2 pl ro μ (I.S x) Q Q2 h]at this;exact this
      | .inr x=>fun k1 k2=>by have:=h2 x k1 k2;rw[ihb ho.2 pl ro μ (B.S x) Q Q2 h]at this;exact this,
      fun h'=>⟨fun x k1 k2=>by rw[ihb ho.2 pl ro μ (I.S x) Q Q2 h];exact h' (.inl x) k1 k2,fun x k1 k2=>by rw[ihb ho.2 pl ro μ (B.S x) Q Q2 h];exact h' (.inr x) k1 k2⟩⟩
   | none=>
   show QOr pl K I _ _ μ s Q=QIh pl K I _ _ μ s.st Q2
   unfold QOr QIh;congr 1
   ·refine iha ho.1 pl ro μ s _ _ fun e s'=> ?_
    cases e with
    | n=>rfl
    | _=>exact h _ _
   ·apply propext;refine forall_congr' fun x=>imp_congr_right fun _=>imp_congr_right fun _=>Iff.of_eq (ihb ho.2 pl ro μ (I.S x) Q Q2 h)
 | cond c a b iha ihb=>
  intro ho pl ro μ s Q Q2 h;simp only[WS,Zb]at ho;simp only[J7,wpG];have e1:=iha ho.1 pl ro μ s Q Q2 h;have e2:=ihb ho.2 pl ro μ s Q Q2 h;show(match evA (Qi s.T) c with | .x false [.v (.bool t)]=>bif t then J7 RG L RF a pl ro μ s Q else J7 RG L RF b pl ro μ s Q | _=>False)=_
  rw[e1,e2];rfl
 | block id c ih=>
  intro ho pl ro μ s Q Q2 h;simp only[J7,wpG];refine ih ho pl ro μ s _ _ fun e s'=> ?_
  cases e with
  | x i=>
   show(bif i.beq id then Q2 .n s'.st else Q2 (.x i) s'.st)=(bif i.beq id then Q .n s' else Q (.x i) s')
   rw[h,h]
  | _=>exact h _ _
 | loop c ih=>
  intro ho pl ro μ s Q Q2 h;simp only[J7,wpG];have key: ∀LL:KM,QNl pl LL (J7 RG L RF c pl ro) μ s Q=QIg pl LL (wpG RG2 L RF2 c pl ro) μ s.st Q2:= ?_
  ·cases Jm c with
   | none=>exact key .no
   | some i=>exact key (L i)
  intro LL;cases LL with
  | inv I=>
   show QOq pl I _ μ s Q=QIe pl I _ μ s.st Q2
   unfold QOq QIe;congr 1;apply propext;refine forall_congr' fun x=> ?_
   refine imp_congr_right fun _=>imp_congr_right fun _=>Iff.of_eq (ih ho pl ro (I.m x) (I.S x) _ (fun e σ'=>match e with
    | .n=> ∃x',(I.φ x'/\I.t x'=μ/\I.m x'<I.m x)/\YX pl σ' (I.S x')
    | e=>Q2 e σ') fun e s'=> ?_)
   cases e with
   | n=>rfl
   | _=>exact h _ _
  | invf K I=>
   show QI1 pl K I _ μ s Q=QIf pl K I _ μ s.st Q2
   unfold QI1 QIf;congr 1;apply propext;refine forall_congr' fun x=> ?_
   refine imp_congr_right fun _=>imp_congr_right fun _=>Iff.of_eq (ih ho pl ro (I.m x) (I.S x) _ (fun e σ'=>match e with
    | .n=> ∃x',(I.φ x'/\I.t x'=μ/\I.m x'<I.m x)/\YX pl (Ut K σ') (I.S x')
    | e=>Q2 e σ') fun e s'=> ?_)
   cases e with
   | n=>rfl
   | _=>exact h _ _
  | inv2 A B=>
   show QI2 pl A B _ μ s Q=QIe pl (QCV A B) _ μ s.st Q2
   unfold QI2 QIe
   have hb: ∀(m:Nat) (S:SL),J7 RG L RF c pl ro m S (fun e s'=>match e with
     | .n=>(∃x',(A.φ x'/\A.t x'=μ/\A.m x'<m)/\YX pl s'.st (A.S x'))∨ ∃x',(B.φ x'/\B.t x'=μ/\B.m x'<m)/\YX pl s'.st (B.S x')
     | e=>Q e s')=wpG RG2 L RF2 c pl ro m S.st (fun e σ'=>match e with
     | .n=> ∃x',((QCV A B).φ x'/\(QCV A B).t x'=μ/\(QCV A B).m x'<m)/\YX pl σ' ((QCV A B).S x')
     | e=>Q2 e σ'):=fun m S=>ih ho pl ro m S _ _ fun e s'=>by
    cases e with
    | n=>exact propext ⟨fun⟨x,h⟩=>match x,h with
      | .inl x,h=> .inl ⟨x,h⟩
      | .inr x,h=> .inr ⟨x,h⟩,fun h=>h.elim (fun⟨x,h⟩=>⟨.inl x,h⟩) (fun⟨x,h⟩=>⟨.inr x,h⟩)⟩
    | _=>exact h _ _
   refine propext ⟨fun⟨h1,h2,h3⟩=>⟨h1.elim (fun⟨x,h⟩=>⟨.inl x,h⟩) (fun⟨x,h⟩=>⟨.inr x,h⟩),fun x=>match x with
    | .inl x=>fun k1 k2=>by have:=h2 x k1 k2;rw[hb]at this;exact this
    | .inr x=>fun k1 k2=>by have:=h3 x k1 k2;rw[hb]at this;exact this⟩,fun⟨⟨x,h1⟩,h2⟩=>⟨match x,h1 with
    | .inl x,h=> .inl ⟨x,h⟩
    | .inr x,h=> .inr ⟨x,h⟩,fun x k1 k2=>by rw[hb];exact h2 (.inl x) k1 k2,fun x k1 k2=>by rw[hb];exact h2 (.inr x) k1 k2⟩⟩
  | unroll n=>
   show U3 _ n s Q=Km _ n s.st Q2
   induction n generalizing s with
   | zero=>rfl
   | succ n ihn=>
    simp only[U3,Km];refine ih ho pl ro μ s _ _ fun e s'=> ?_
    cases e with
    | n=>exact(ihn s').symm
    | _=>exact h _ _
  | _=>rfl
 | rangeFunc f ps a b iha ihb=>
  intro ho pl ro μ s Q Q2 h;simp only[WS,Zb]at ho;exact hRF _ f _ _ _ _ _ (iha ho.1) (ihb ho.2) pl ro μ s Q Q2 h
 | exit id=>intro _ pl ro μ s Q Q2 h;exact(h _ _).symm
 | label l=>intro _ pl ro μ s Q Q2 h;exact(h _ _).symm
 | ret=>intro _ pl ro μ s Q Q2 h;exact(h _ _).symm
 | _=>intro _ pl ro μ s Q Q2 _;rfl
def Ht (T:List (Nat×AV)):List Nat->List AV->List (Nat×AV)
 | p::ps,a::as=>Ht (QHJ T p a) ps as
 | _,_=>T
theorem QCi: ∀(ps:List Nat) (as:List AV) (T:List (Nat×AV)),Qi (Ht T ps as)=Ho (Qi T) ps as:=by
 intro ps;induction ps with
 | nil=>intro as T;rfl
 | cons p ps ih=>
  intro as T;cases as with
  | nil=>rfl
  | cons a as=>rw[Ht,Ho,ih,QAS]
def K8 (kt:List Nat):List (Nat×AV)->List (Nat×AV)
 | []=>[]
 | p::l=>bif XJ p.1 kt then p::K8 kt l else K8 kt l
theorem Hu (kt:List Nat)(l:List (Nat×AV)):Qi (K8 kt l)=J6 kt (Qi l):=by
 funext t;induction l with
 | nil=>unfold J6;cases XJ t kt<;>rfl
 | cons p l ih=>
  obtain⟨k,v⟩:=p;simp only[K8];cases hm:XJ k kt with
  | true=>
   simp only[R7,Qi,J6];cases hb:t.beq k with
   | true=>have:=Za hb;subst this;rw[hm];rfl
   | false=>simp only[R8];rw[ih];rfl
  | false=>
   simp only[R8];rw[ih];simp only[J6,Qi];cases hb:t.beq k with
   | true=>have:=Za hb;subst this;rw[hm];rfl
   | false=>rfl
def U4:List AV->(List AV->Prop)->Prop
 | [],K=>K []
 | a::as,K=>Kn a fun a'=>U4 as fun as'=>K (a'::as')
theorem QEY: ∀(as:List AV) (K:List AV->Prop),U4 as K=K as:=by
 intro as;induction as with
 | nil=>intro K;rfl
 | cons a as ih=>intro K;simp only[U4,VI,ih]
abbrev YL:=List Nat->Nat->List AV->List (Nat×Blk)->(List (Nat×Blk)->Prop)->(Nat->List (Nat×Blk)->Prop)->Prop
def EqY (F:YL)(G:YD):Prop:= ∀plI μ args H (Kt:List (Nat×Blk)->Prop) (Kj:Nat->List (Nat×Blk)->Prop) (Kt2:HP->Prop) (Kj2:Nat->HP->Prop),(∀H,Kt2 (QO H)=Kt H)->(∀j H,Kj2 j (QO H)=Kj j H)->F plI μ args H Kt Kj=G plI μ args (QO H) Kt2 Kj2
def QEZ (k:Nat)(kt:List Nat)(Y:YL)(μ:Nat)(dst:Option Nat)(args:List AV)(s:SL)(K:SL->Prop):Prop:=
 match QO s.H k with
 | some (.lp 0)=>Y (QIs kt (Qi s.T)) μ args s.H
   (fun H'=>K ⟨UL (K8 kt s.T) dst (YF (.bool true)),Wr H' k (.lp 0)⟩)
   (fun j H'=>K ⟨UL (K8 kt s.T) dst (YF (.bool false)),Wr H' k (.lp j)⟩)
 | _=>False
def QOs (T:Qh)(k:Nat)(kt:List Nat)(Y:YL)(μ:Nat)(ops:List Oper)(i:Nat)(o:Oper)(s:SL)(K:SL->Prop):Prop:=
 match Hm k (evA (Qi s.T)) o.op with
 | some args=>Wm ops (Qi s.T) o (U4 args fun args=>QEZ k kt Y μ o.dst args s K) (K ⟨UL s.T o.dst .n,s.H⟩)
 | none=>QIz T ops i o s K
def QFz (T:Qh)(k:Nat)(kt:List Nat)(Y:YL)(μ:Nat)(ops:List Oper):List Nat->SL->(SL->Prop)->Prop
 | [],s,K=>K s
 | i::rest,s,K=>match ops[i]? with
  | some o=>QOs T k kt Y μ ops i o s fun s'=>QFz T k kt Y μ ops rest s' K
  | none=>False
def QNm (T:Qh)(O:OT)(k:Nat)(kt:List Nat)(Y:YL):RGL:=fun μ id ops draw s K=>
 bif draw then Hs T ops (O id).2 (O id).1 [] s K else QFz T k kt Y μ ops (List.range ops.length) s K
theorem QHM {k:Nat}{kt:List Nat}{Y:YL}{Y2:YD}(hY:EqY Y Y2){μ:Nat}{dst:Option Nat}{args:List AV}{s:SL}{K:SL->Prop}{K2:St->Prop}(hK: ∀s:SL,K2 s.st=K s):QEZ k kt Y μ dst args s K=Hn k kt Y2 μ dst args s.st K2:=by
 unfold QEZ Hn;have e:Y (QIs kt (Qi s.T)) μ args s.H (fun H'=>K ⟨UL (K8 kt s.T) dst (YF (.bool true)),Wr H' k (.lp 0)⟩) (fun j H'=>K ⟨UL (K8 kt s.T) dst (YF (.bool false)),Wr H' k (.lp j)⟩)=
   Y2 (QIs kt s.st.T) μ args s.st.H (fun H'=>K2 ⟨YE (J6 kt s.st.T) dst (YF (.bool true)),upd H' k (some (.lp 0))⟩) (fun j H'=>K2 ⟨YE (J6 kt s.st.T) dst (YF (.bool false)),upd H' k (some (.lp j))⟩):=by
  refine hY _ _ _ _ _ _ _ _ (fun H=> ?_) (fun j H=> ?_)
  ·rw[<-hK];congr 1;show St.mk _ _=St.mk _ _;congr 1
   ·show _=Qi (UL (K8 kt s.T) dst _);rw[JR,Hu];rfl
   ·exact(J0 _ _ _).symm
  ·rw[<-hK];congr 1;show St.mk _ _=St.mk _ _;congr 1
   ·show _=Qi (UL (K8 kt s.T) dst _);rw[JR,Hu];rfl
   ·exact(J0 _ _ _).symm
 rw[e];rfl
theorem QLs {T:Qh}{k:Nat}{kt:List Nat}{Y:YL}{Y2:YD}(hY:EqY Y Y2){μ:Nat}{ops:List Oper}{i:Nat}{o:Oper}{s:SL}{K:SL->Prop}{K2:St->Prop}(hK: ∀s:SL,K2 s.st=K s):QOs T k kt Y μ ops i o s K=opI T k kt Y2 μ ops i o s.st K2:=by
 unfold QOs opI;show(match Hm k (evA (Qi s.T)) o.op with | some args=>_ | none=>_)=(match Hm k (evA (Qi s.T)) o.op with | some args=>_ | none=>_)
 cases Hm k (evA (Qi s.T)) o.op with
 | none=>exact QBH hK
 | some args=>
  simp only[QEY];rw[QHM hY hK];have:K ⟨UL s.T o.dst .n,s.H⟩=K2 ⟨YE s.st.T o.dst .n,s.st.H⟩:=by
   rw[<-hK];congr 1;show St.mk _ _=St.mk _ _;congr 1;exact JR _ _ _
  rw[this];rfl
theorem QI4 {T:Qh}{k:Nat}{kt:List Nat}{Y:YL}{Y2:YD}(hY:EqY Y Y2){μ:Nat}{ops:List Oper}{K:SL->Prop}{K2:St->Prop}(hK: ∀s:SL,K2 s.st=K s): ∀(l:List Nat) (s:SL),QFz T k kt Y μ ops l s K=QEP T k kt Y2 μ ops l s.st K2:=by
 intro l;induction l with
 | nil=>intro s;exact(hK s).symm
 | cons i rest ih=>
  intro s;simp only[QFz,QEP];cases ops[i]? with
  | none=>rfl
  | some o=>exact QLs hY fun s'=>(ih s').symm
theorem QI5 {T:Qh}{O:OT}{k:Nat}{kt:List Nat}{Y:YL}{Y2:YD}(hY:EqY Y Y2)(μ id:Nat)(ops:List Oper)(draw:Bool)(ho:(bif draw then decide (O id=(ord ops,KQ ops))else true)=true)(s:SL)(K:SL->Prop)(K2:St->Prop)(hK: ∀s:SL,K2 s.st=K s):
  QNm T O k kt Y μ id ops draw s K=QIt T k kt Y2 μ ops draw s.st K2:=by
 cases draw with
 | true=>
  have:O id=(ord ops,KQ ops):=by simpa using ho
  show Hs T ops (O id).2 (O id).1 [] s K=_
  rw[this];exact QCh hK _ _ _
 | false=>exact QI4 hY hK _ _
def QEa (wa wb:WL)(pl:List Nat)(ps:List Nat)(Tc:List (Nat×AV))(k:Nat):YL:=fun plI μ args H Kt Kj=>
 bif args.length.beq ps.length then
  wa (plI++pl) (some k) μ ⟨Ht Tc ps args,H⟩ fun e s1=>match e with
   | .n=>(match QO s1.H k with
    | some (.lp 0)=>wb (plI++pl) (some k) μ ⟨s1.T,Wr s1.H k (.lp 1)⟩ fun e s2=>(match QO s2.H k with
     | some (.lp 1)=>(match e with
      | .n=>Kt s2.H
      | .r=>Kj 2 s2.H
      | .x i=>Kj (i+3) s2.H)
     | _=>False)
    | _=>False)
   | _=>False
 else False
theorem QHN {wa wb:WL}{wa2 wb2:WF}(ha:EqW wa wa2)(hb:EqW wb wb2)(pl ps:List Nat)(Tc:List (Nat×AV))(k:Nat):EqY (QEa wa wb pl ps Tc k) (UI wa2 wb2 pl ps (Qi Tc) k):=by
 intro plI μ args H Kt Kj Kt2 Kj2 h1 h2;unfold QEa UI;cases args.length.beq ps.length with
 | false=>rfl
 | true=>
  simp only[R7];have e:(⟨Ho (Qi Tc) ps args,QO H⟩:St)=(⟨Ht Tc ps args,H⟩:SL).st:=by
   show St.mk _ _=St.mk _ _;rw[QCi]
  rw[e];refine ha _ _ _ _ _ _ fun e s1=> ?_
  cases e with
  | n=>
   simp only
   have e2:wb (plI++pl) (some k) μ ⟨s1.T,Wr s1.H k (.lp 1)⟩ (fun e s2=>(match QO s2.H k with
     | some (.lp 1)=>(match e with
      | .n=>Kt s2.H
      | .r=>Kj 2 s2.H
      | .x i=>Kj (i+3) s2.H)
     | _=>False))=wb2 (plI++pl) (some k) μ ⟨s1.st.T,upd s1.st.H k (some (.lp 1))⟩ (fun e σ2=>(match σ2.H k with
     | some (.lp 1)=>(match e with
      | .n=>Kt2 σ2.H
      | .r=>Kj2 2 σ2.H
      | .x i=>Kj2 (i+3) σ2.H)
     | _=>False)):=by
    have e3:(⟨s1.st.T,upd s1.st.H k (some (.lp 1))⟩:St)=(⟨s1.T,Wr s1.H k (.lp 1)⟩:SL).st:=by
     show St.mk _ _=St.mk _ _;rw[J0];rfl
    rw[e3];refine hb _ _ _ _ _ _ fun e s2=> ?_
    show(match QO s2.H k with | some (.lp 1)=>_ | _=>False)=(match QO s2.H k with | some (.lp 1)=>_ | _=>False)
    cases e with
    | n=>simp only[SL.st,h1]
    | r=>simp only[SL.st,h2]
    | x i=>simp only[SL.st,h2]
   rw[e2];rfl
  | _=>rfl
def QRW:RFL:=fun _ _ _ _ _ _ _ _ _ _=>False
def QI6 (k:Nat)(s:SL)(Q:QL):QL:=fun e s'=>match e with
 | .x _=>False
 | _=>match QO s'.H k with
  | some (.lp 0)=>Q .n ⟨s.T,Wr s'.H k .dead⟩
  | some (.lp 2)=>Q .r ⟨s.T,Wr s'.H k .dead⟩
  | some (.lp (i+3))=>Q (.x i) ⟨s.T,Wr s'.H k .dead⟩
  | _=>False
theorem QI7 {k:Nat}{s:SL}{Q:QL}{Q2:QQ}(h: ∀e (s:SL),Q2 e s.st=Q e s)(e:Ex)(s':SL):QIu k s Q2 e s'.st=QI6 k s Q e s':=by
 have e3:(⟨Qi s.T,upd s'.st.H k (some .dead)⟩:St)=(⟨s.T,Wr s'.H k .dead⟩:SL).st:=by
  show St.mk _ _=St.mk _ _;rw[J0];rfl
 cases e with
 | x i=>rfl
 | _=>
  simp only[QIu,QI6];rw[e3];simp only[h];rfl
def QOt (T:Qh)(k:Nat)(kt:List Nat)(L:LI)(ps:List Nat)(wa wb:WL)(pl:List Nat)(μ:Nat)(s:SL)(Q:QL)(fid:Nat)(ks:List Nat):Prop:=
 match T.it fid,QO s.H k with
 | some (fn,O),none=>bif(QHC fn&&Zg (ks.length+1) fn.ntmps)&&WS O (XQ fn)then
   J7 (QNm T O k kt (QEa wa wb (plI k pl s) ps s.T k)) L QRW (XQ fn) (plI k pl s) none μ
    ⟨VG 0 (KT k ks),Wr s.H k (.lp 0)⟩ (QI6 k s Q)
  else False
 | _,_=>False
def QOu (T:Qh)(k:Nat)(kt:List Nat)(L:LI)(f:Operand)(ps:List Nat)(wa wb:WL)(pl:List Nat)(ro:Option Nat)(μ:Nat)(s:SL)(Q:QL):Prop:=
 roA ro (QO s.H)<| match f with
  | .tmp t=>(match Qi s.T t with
   | .x false [.f fid ks]=>QOt T k kt L ps wa wb pl μ s Q fid ks
   | _=>False)
  | _=>False
def rfL (T:Qh):RFL:=fun it f ps wa wb pl ro μ s Q=>match it with
 | .it I K k kt L=>(∃x,(I.φ x/\I.t x=μ)/\YX pl (Ut K s.st) (I.S x))/\ ∀x,I.φ x->I.t x=μ->QOu T k kt (L x) f ps wa wb pl ro (I.m x) (I.S x) Q
 | _=>False
theorem QLt {T:Qh}{k:Nat}{kt:List Nat}{L:LI}{ps:List Nat}{wa wb:WL}{wa2 wb2:WF}(ha:EqW wa wa2)(hb:EqW wb wb2){pl:List Nat}{μ:Nat}{s:SL}{Q:QL}{Q2:QQ}(h: ∀e (s:SL),Q2 e s.st=Q e s)(fid:Nat)(ks:List Nat):
  QOt T k kt L ps wa wb pl μ s Q fid ks=rfC T k kt L ps wa2 wb2 pl μ s Q2 fid ks:=by
 unfold QOt rfC;cases T.it fid with
 | none=>rfl
 | some p=>
  obtain⟨fn,O⟩:=p;cases QO s.H k with
  | some b=>rfl
  | none=>
   simp only;cases hok:(QHC fn&&Zg (ks.length+1) fn.ntmps)&&WS O (XQ fn)with
   | false=>rfl
   | true=>
    simp only[R7];simp only[Zb]at hok;have e3:(⟨Qi (VG 0 (KT k ks)),upd (QO s.H) k (some (.lp 0))⟩:St)=(⟨VG 0 (KT k ks),Wr s.H k (.lp 0)⟩:SL).st:=by
     show St.mk _ _=St.mk _ _;rw[J0]
    rw[e3];exact QFy (O:=O) (fun μ id ops draw ho s K K2 hK=>QI5 (QHN ha hb _ _ _ _) μ id ops draw ho s K K2 hK) (fun _ _ _ _ _ _ _ _ _=>fun _ _ _ _ _ _ _=>rfl) _ hok.2 _ _ _ _ _ _ (QI7 h)
theorem QLu {T:Qh}{k:Nat}{kt:List Nat}{L:LI}{f:Operand}{ps:List Nat}{wa wb:WL}{wa2 wb2:WF}(ha:EqW wa wa2)(hb:EqW wb wb2){pl:List Nat}{ro:Option Nat}{μ:Nat}{s:SL}{Q:QL}{Q2:QQ}(h: ∀e (s:SL),Q2 e s.st=Q e s):
  QOu T k kt L f ps wa wb pl ro μ s Q=rfB T k kt L f ps wa2 wb2 pl ro μ s Q2:=by
 unfold QOu rfB;simp only[QLt ha hb h];rfl
theorem QOv {T:Qh}(it:KM)(f:Operand)(ps:List Nat)(wa wb:WL)(wa2 wb2:WF)(ha:EqW wa wa2)(hb:EqW wb wb2):EqW (rfL T it f ps wa wb) (rfA T it f ps wa2 wb2):=by
 intro pl ro μ s Q Q2 h;unfold rfL rfA;cases it with
 | it I K k kt L=>
  simp only;congr 1;apply propext;exact forall_congr' fun x=>imp_congr_right fun _=>imp_congr_right fun _=>Iff.of_eq (QLu ha hb h)
 | _=>rfl
def wpL (T:Qh)(O:OT)(L:LI):Code->WL:=J7 (fun _=>QQS T O) L (rfL T)
theorem QI8 {T:Qh}{O:OT}{L:LI}(c:Code)(ho:WS O c=true):EqW (wpL T O L c) (wpA T L c):=
 QFy (O:=O) (fun _ _ _ _ ho _s _K _K2 hK=>QLr ho hK) (fun it f ps wa wb wa2 wb2 ha hb=>QOv it f ps wa wb wa2 wb2 ha hb) c ho
def Qc (T:Qh)(O:OT)(L:LI)(fn:Func)(as:List AV)(K:AV->Prop):Prop:=wpL T O L (XQ fn) [] none 0 ⟨VG 0 as,[]⟩ fun e s=>QLj T.tb fn.results.toList K e s.st

variable {P:Program}{g:Nat}{tab:List Value}
theorem Qn {T:Qh}(hT:Q5 P g tab T)(hm:P.follows .mixedOrders=true){f:Nat}{fn:Func}(hf:P.funcs[f]? =some fn)(hok:Va fn=true){O:OT}(hot:WS O (XQ fn)=true){as:List AV}{K:AV->Prop}{L:LI}(hargs:Zg as.length fn.ntmps=true)
  (h:QU (Qc T O L fn as K)):Spec P g tab f as K:=by
 replace h:=h.out;simp only[Va,Zb]at hok;obtain⟨c,hc⟩:=Option.isSome_iff_exists.1 hok.1.2;have hb:XQ fn=c:=by unfold XQ;rw[hc]
 unfold Qc at h;rw[QI8 _ hot _ _ _ _ _ (QLj T.tb fn.results.toList K) (fun _ _=>rfl),hb]at h;exact QIx hT hm hf hc rfl rfl (hb▸hok.2) (Ze hargs) (fun t=>(VH as 0 t).imp id fun h=>by rw[h.2];rfl) h
def oA (id:Nat):Code->Option (List Nat×List (List Nat))
 | .region i ops true=>bif i.beq id then some (ord ops.toList,KQ ops.toList)else none
 | .seq a b=>(match oA id a with | some x=>some x | none=>oA id b)
 | .cond _ a b=>(match oA id a with | some x=>some x | none=>oA id b)
 | .block _ c=>oA id c
 | .loop c=>oA id c
 | .rangeFunc _ _ a b=>(match oA id a with | some x=>some x | none=>oA id b)
 | _=>none
def oF (fn:Func):OT:=fun id=>(oA id (XQ fn)).getD ([],[])
theorem HV {g:Prop}(V:Prop)(h:V)(e:g=V:=by kernel_rfl):QU g:=⟨e▸h⟩
theorem okL {f:Nat}{fn:Func}{c:Ctr}(hf:P.funcs[f]? =some fn)(h: ∀as T,c as=some T-> ∀K,T K->Spec P g tab f as K)(hok:Va fn=true:=by kernel_rfl):CtrOK P g tab f c:=⟨Qm hf hok,h⟩
theorem spL {T:Qh}(hT:Q5 P g tab T)(hm:P.follows .mixedOrders=true){f:Nat}{fn:Func}(hf:P.funcs[f]? =some fn){O:OT}{as:List AV}{K:AV->Prop}{L:LI}(h:QU (Qc T O L fn as K))(hok:Va fn=true:=by kernel_rfl)(hot:WS O (XQ fn)=true:=by kernel_rfl)(hargs:Zg as.length fn.ntmps=true:=by rfl):Spec P g tab f as K:=Qn hT hm hf hok hot hargs h
abbrev LC:=List (Nat×Ctr)
def lkO:List (Nat×OT)->Nat->Option OT
  | [],_=>none
  | p::rest,f=>bif f.beq p.1 then some p.2 else lkO rest f
def itP (P:Program)(l:List (Nat×OT)):Nat->Option (Func×OT):=fun f=>match lkO l f with
 | some O=>match P.funcs[f]? with
  | some fn=>some (fn,O)
  | none=>none
 | none=>none
theorem QOw (P:Program)(l:List (Nat×OT)): ∀f q,itP P l f=some q->P.funcs[f]? =some q.1:=by
 intro f q h;unfold itP at h;split at h
 ·split at h
  ·rename_i fn hf;cases h;exact hf
  ·cases h
 ·cases h
end Go.Eng
namespace Go.Eng
open Go Go.RowKit
abbrev RN:=List (Nat×Nat)
def lkA:RN->Nat->Option Nat
 | [],_=>none
 | p::l,c=>bif c.beq p.1 then some p.2 else lkA l c
def lkB:RN->Nat->Option Nat
 | [],_=>none
 | p::l,k=>bif k.beq p.2 then some p.1 else lkB l k
theorem Ko: ∀{R:RN} {c k:Nat},lkA R c=some k->(c,k)∈R:=by
 intro R;induction R with
 | nil=>intro c k h;cases h
 | cons p R ih=>
  intro c k h;simp only[lkA]at h;cases hb:c.beq p.1 with
  | true=>rw[hb]at h;have:=Za hb;subst this;cases h;simp
  | false=>rw[hb]at h;exact List.mem_cons_of_mem _ (ih h)
theorem Vd: ∀{R:RN} {c k:Nat},lkB R k=some c->(c,k)∈R:=by
 intro R;induction R with
 | nil=>intro c k h;cases h
 | cons p R ih=>
  intro c k h;simp only[lkB]at h;cases hb:k.beq p.2 with
  | true=>rw[hb]at h;have:=Za hb;subst this;cases h;simp
  | false=>rw[hb]at h;exact List.mem_cons_of_mem _ (ih h)
theorem QI9: ∀{R:RN} {k:Nat},lkB R k=none->k∉R.map (·.2):=by
 intro R;induction R with
 | nil=>intro c _;simp
 | cons p R ih=>
  intro c h;simp only[lkB]at h;cases hb:c.beq p.2 with
  | true=>rw[hb]at h;cases h
  | false=>
   rw[hb]at h;have:=ih h;have hne:c≠p.2:=fun e=>by subst e;simp at hb
   simpa [hne]using this
theorem Hv {R:RN}(hn:(R.map (·.1)).Nodup){c k:Nat}(h:(c,k)∈R):lkA R c=some k:=by
 induction R with
 | nil=>cases h
 | cons p R ih=>
  simp only[List.map_cons,List.nodup_cons]at hn;simp only[lkA];rcases Zd.1 h with rfl | h
  ·simp
  ·have:c≠p.1:=fun e=>hn.1 (e▸Zc.2 ⟨_,h,rfl⟩);have hb:c.beq p.1=false:=by
    cases hb:c.beq p.1 with
    | false=>rfl
    | true=>exact absurd (Za hb) this
   rw[hb];exact ih hn.2 h
theorem QEb {R:RN}(hn:(R.map (·.2)).Nodup){c k:Nat}(h:(c,k)∈R):lkB R k=some c:=by
 induction R with
 | nil=>cases h
 | cons p R ih=>
  simp only[List.map_cons,List.nodup_cons]at hn;simp only[lkB];rcases Zd.1 h with rfl | h
  ·simp
  ·have:k≠p.2:=fun e=>hn.1 (e▸Zc.2 ⟨_,h,rfl⟩);have hb:k.beq p.2=false:=by
    cases hb:k.beq p.2 with
    | false=>rfl
    | true=>exact absurd (Za hb) this
   rw[hb];exact ih hn.2 h
def QCj (f:Nat->Option Nat):List Nat->Option (List Nat)
 | []=>some []
 | k::ks=>match f k,QCj f ks with
  | some j,some js=>some (j::js)
  | _,_=>none
def JJ (f:Nat->Option Nat):List Ch->Option (List Ch)
 | []=>some []
 | c::cs=>match JJ f cs with
  | none=>none
  | some ds=>match c with
   | .v x=>some (.v x::ds)
   | .r q n=>some (.r q n::ds)
   | .b m n=>some (.b m n::ds)
   | .s sz xs=>some (.s sz xs::ds)
   | .y sz xs i o=>some (.y sz xs i o::ds)
   | .p k o=>match f k with
    | some j=>some (.p j o::ds)
    | none=>none
   | .w k o n=>match f k with
    | some j=>some (.w j o n::ds)
    | none=>none
   | .e k i o=>match f k with
    | some j=>some (.e j i o::ds)
    | none=>none
   | .f fid ks=>match QCj f ks with
    | some js=>some (.f fid js::ds)
    | none=>none
   | .i t ag ics=>some (.i t ag ics::ds)
   | .m k=>match f k with
    | some j=>some (.m j::ds)
    | none=>none
   | .yl k=>match f k with
    | some j=>some (.yl j::ds)
    | none=>none
   | .q .. =>none
   | .z .. =>none
   | .u=>none
def QLv (f:Nat->Option Nat):List (Bool×List Ch)->Option (List (Bool×List Ch))
 | []=>some []
 | (b,cs)::l=>match JJ f cs,QLv f l with
  | some ds,some l'=>some ((b,ds)::l')
  | _,_=>none
def Je (f:Nat->Option Nat):AV->Option AV
 | .x b cs=>match JJ f cs with
  | some ds=>some (.x b ds)
  | none=>none
 | .t l=>match QLv f l with
  | some l'=>some (.t l')
  | none=>none
 | _=>none
def Jf (f:Nat->Option Nat):List AV->Option (List AV)
 | []=>some []
 | a::as=>match Je f a,Jf f as with
  | some b,some bs=>some (b::bs)
  | _,_=>none
variable {w:World}{O O':Nat->Prop}{ρ ρ':Env}
theorem QJA {f:Nat->Option Nat}: ∀{ks js:List Nat},QCj f ks=some js->ks.length=js.length/\ ∀(i j k:Nat),js[i]? =some j->ks[i]? =some k->f k=some j:=by
 intro ks;induction ks with
 | nil=>intro js h;cases h;exact⟨rfl,by simp⟩
 | cons k ks ih=>
  intro js h;simp only[QCj]at h;split at h
  ·rename_i j js' h1 h2;cases h
   obtain⟨i1,i2⟩:=ih h2;refine⟨by simp[i1],fun i a b ha hb=> ?_⟩;cases i with
   | zero=>simp at ha hb;subst ha hb;exact h1
   | succ i=>exact i2 i a b (by simpa using ha) (by simpa using hb)
  ·cases h
theorem QCk {f:Nat->Option Nat}(hO: ∀b,O' b->O b)(hf: ∀k j bd,f k=some j->ρ k=some bd->ρ' j=some bd): ∀{cs ds:List Ch} {vs:List Value},JJ f cs=some ds->CC w O ρ cs vs->CC w O' ρ' ds vs:=by
  intro cs;induction cs with
  | nil=>intro ds vs h hc;cases h;cases hc;exact .nil
  | cons c cs ih=>
    intro ds vs h hc;simp only[JJ]at h;cases hr:JJ f cs with
    | none=>rw[hr]at h;cases h
    | some es=>
      rw[hr]at h;simp only at h;cases c with
      | v x=>cases h;cases hc with | v a hc=>exact .v a (ih hr hc)
      | r q n=>cases h;cases hc with | r a hc=>exact .r a (ih hr hc)
      | b m n=>cases h;cases hc with | b a hc=>exact .b a (ih hr hc)
      | s sz xs=>
        cases h
        cases hc with
        | s0 hc=>exact .s0 (ih hr hc)
        | s00 hc=>exact .s00 (ih hr hc)
        | s h1 hx hcap hc=>exact .s (h1.mono (.refl _ _) (fun b _ h=>hO b h)) (fun i x hi=>(hx i x hi).mono (.refl _ _) (fun b _ h=>hO b h) (fun _ _ h=>h)) hcap (ih hr hc)
      | y sz xs i o=>
        cases h
        cases hc with
        | y h1 hx hc=>exact .y (h1.mono (.refl _ _) (fun b _ h=>hO b h)) (fun i x hi=>(hx i x hi).mono (.refl _ _) (fun b _ h=>hO b h) (fun _ _ h=>h)) (ih hr hc)
      | p k o=>
        cases hk:f k with
        | none=>simp only[hk]at h;cases h
        | some j=>simp only[hk]at h;cases h;cases hc with | p a b hc=>exact .p (hf _ _ _ hk a) b (ih hr hc)
      | w k o n=>
        cases hk:f k with
        | none=>simp only[hk]at h;cases h
        | some j=>
          simp only[hk]at h;cases h
          cases hc with
          | w a b c d e hc=>exact .w (hf _ _ _ hk a) b c d e (ih hr hc)
          | w0 a b hc=>exact .w0 (hf _ _ _ hk a) b (ih hr hc)
          | w00 a hc=>exact .w00 (hf _ _ _ hk a) (ih hr hc)
      | e k i o=>
        cases hk:f k with
        | none=>simp only[hk]at h;cases h
        | some j=>simp only[hk]at h;cases h;cases hc with | e a b hc=>exact .e (hf _ _ _ hk a) b (ih hr hc)
      | f fid ks=>
        cases hk:QCj f ks with
        | none=>simp only[hk]at h;cases h
        | some js=>
          simp only[hk]at h;cases h
          cases hc with
          | f a hc=>
            obtain⟨e1,e2⟩:=QJA hk;obtain⟨e3,e4⟩:=QCT e1 (fun i j k hj hk' bd hb=>hf k j bd (e2 i j k hj hk') hb) a;rw[e3];exact .f e4 (ih hr hc)
      | i t ag ics=>cases h;cases hc with | i a b hc=>exact .i (a.mono (.refl _ _) (fun b _ h=>hO b h) (fun _ _ h=>h)) b (ih hr hc)
      | m k=>
        cases hk:f k with
        | none=>simp only[hk]at h;cases h
        | some j=>simp only[hk]at h;cases h;cases hc with | m a b hc=>exact .m (hf _ _ _ hk a) b (ih hr hc)
      | yl k=>
        cases hk:f k with
        | none=>simp only[hk]at h;cases h
        | some j=>simp only[hk]at h;cases h;cases hc with | yl a b hc=>exact .yl (hf _ _ _ hk a) b (ih hr hc)
      | q k i n=>cases h
      | z k i sz j o=>cases h
      | u=>cases h

theorem QLw {f:Nat->Option Nat}(hO: ∀b,O' b->O b)(hf: ∀k j bd,f k=some j->ρ k=some bd->ρ' j=some bd): ∀{l l':List (Bool×List Ch)} {vs:List Value},QLv f l=some l'->W5 w O ρ l vs->W5 w O' ρ' l' vs:=by
 intro l;induction l with
 | nil=>intro l' vs h hc;cases h;cases hc;exact .nil
 | cons p l ih=>
  intro l' vs h hc;obtain⟨b,cs⟩:=p;simp only[QLv]at h;split at h
  ·rename_i ds l1 h1 h2;cases h
   cases hc with
   | cons hx ht=>
    obtain⟨vals,k1,k2⟩:=hx;exact .cons ⟨vals,QCk hO hf h1 k1,k2⟩ (ih h2 ht)
  ·cases h
theorem QCl {f:Nat->Option Nat}(hO: ∀b,O' b->O b)(hf: ∀k j bd,f k=some j->ρ k=some bd->ρ' j=some bd){a a':AV}{v:Value}(h:Je f a=some a')(hc:ConcV w O ρ a v):ConcV w O' ρ' a' v:=by
 unfold Je at h;split at h
 ·split at h
  ·rename_i ds h1;cases h
   obtain⟨vals,k1,k2⟩:=hc;exact⟨vals,QCk hO hf h1 k1,k2⟩
  ·cases h
 ·split at h
  ·rename_i l' h1;cases h
   obtain⟨vs,k1,k2⟩:=hc;exact⟨vs,QLw hO hf h1 k1,k2⟩
  ·cases h
 ·cases h
theorem QJB {f:Nat->Option Nat}(hO: ∀b,O' b->O b)(hf: ∀k j bd,f k=some j->ρ k=some bd->ρ' j=some bd): ∀{as as':List AV} {vs:List Value},Jf f as=some as'->Qo w O ρ as vs->Qo w O' ρ' as' vs:=by
 intro as;induction as with
 | nil=>intro as' vs h hc;cases h;cases hc;exact .nil
 | cons a as ih=>
  intro as' vs h hc;simp only[Jf]at h;split at h
  ·rename_i b bs h1 h2;cases h
   cases hc with
   | cons hx ht=>exact .cons (QCl hO hf h1 hx) (ih h2 ht)
  ·cases h
def Ug:Blk->Bool
  | .box _ cs=>(Qe cs).isEmpty
  | .row .. =>true
  | .lp _=>false
  | .mp _=>true
  | .nst .. =>false
  | .dead=>true

theorem QHO {cs:List Ch}{vs:List Value}(h:CC w O ρ cs vs):Qe cs=[]->CC w O ρ' cs vs:=by
 induction h with
 | nil=>exact fun _=> .nil
 | v h1 _ ih=>exact fun h=> .v h1 (ih h)
 | r hb _ ih=>exact fun h=> .r hb (ih h)
 | b hb _ ih=>exact fun h=> .b hb (ih h)
 | s0 _ ih=>exact fun h=> .s0 (ih h)
 | s00 _ ih=>exact fun h=> .s00 (ih h)
 | s a b c _ _ ih=>exact fun h=> .s a b c (ih h)
 | p=>exact fun h=>by simp[Qe]at h
 | w=>exact fun h=>by simp[Qe]at h
 | w0=>exact fun h=>by simp[Qe]at h
 | w00=>exact fun h=>by simp[Qe]at h
 | e=>exact fun h=>by simp[Qe]at h
 | @f ρ fid ks cs vs hk _ ih=>
  intro h;simp only[Qe,List.append_eq_nil_iff]at h;obtain⟨rfl,h⟩:=h;exact CC.f (ρ:=ρ') (ks:=[]) (by simp) (ih h)
 | i a b _ _ ih=>exact fun h=> .i a b (ih h)
 | m=>exact fun h=>by simp[Qe]at h
 | yl=>exact fun h=>by simp[Qe]at h
 | q=>exact fun h=>by simp[Qe]at h
 | z=>exact fun h=>by simp[Qe]at h
 | y a b _ _ ih=>exact fun h=> .y a b (ih h)
 | u h1 _ ih=>exact fun h=> .u h1 (ih h)
theorem BlkOK.free {Lp:Nat->Option Loop}{bd:Xk}{b:Blk}(hf:Ug b=true)(hO: ∀b,O' b->O b)(h:BlkOK Lp w O ρ bd b):BlkOK Lp w O' ρ' bd b:=by
 cases b with
 | box t cs=>
  obtain⟨h1,vals,h2,h3⟩:=h;have hi:Qe cs=[]:=by simpa [Ug]using hf
  exact⟨h1,vals,h2,QHO (ρ':=ρ') (h3.mono (.refl _ _) (fun b _ h=>hO b h) (fun _ _ h=>h)) hi⟩
 | row t sz xs=>
  obtain⟨h1,h2,h3 | ⟨h3,arr,h4,h5,h6,h7⟩⟩:=h
  ·exact⟨h1,h2,.inl h3⟩
  ·exact⟨h1,h2,.inr ⟨h3,arr,h4,h5,h6,fun i x hx=>(h7 i x hx).mono (.refl _ _) (fun b _ h=>hO b h) (fun _ _ h=>h)⟩⟩
 | lp s=>cases hf
 | nst t sz o t2 sz2 xs=>cases hf
 | mp f=>exact h
 | dead=>trivial
variable {P:Program}{w0:World}{M:Ctx}{H:HP}
def Xg (R:RN)(ρ:Env):Env:=fun c=>match lkA R c with
 | some k=>ρ k
 | none=>none
def Y3 (M:Ctx)(R:RN)(ρ:Env)(H H0:HP):Ctx where
 m:=own (Xg R ρ) H0
 x:=fun b=>ow M ρ H b/\ ¬own (Xg R ρ) H0 b
 g:=M.g
 tab:=M.tab
 pin:=Xg R ρ
 lps:=M.lps
 stk:=[]
 nd:=false
structure Hw (R:RN)(H H0:HP):Prop where
  nd1:(R.map (·.1)).Nodup
  nd2:(R.map (·.2)).Nodup
  blk: ∀p∈R,∃b,H0 p.1=some b/\H p.2=some b/\XI (some b)=true/\Ug b=true
  only: ∀c,H0 c≠none->c∈R.map (·.1)

theorem Hw.own {R:RN}{H0:HP}(h:Hw R H H0){b:Nat}(ho:own (Xg R ρ) H0 b): ∃c k bd,(c,k)∈R/\ρ k=some bd/\bd.isNil=false/\XS bd (H k) b/\XI (H k)=true:=by
 obtain⟨c,bd,a1,a2,a3,a4⟩:=ho;unfold Xg at a1;split at a1
 ·rename_i k hk;have hm:=Ko hk;obtain⟨b',b1,b2,b3,_⟩:=h.blk _ hm;exact⟨c,k,bd,hm,a1,a2,by rw[b1]at a3;rw[b2];exact a3,by rw[b2];exact b3⟩
 ·cases a1
theorem Hw.own' {R:RN}{H0:HP}(h:Hw R H H0){b:Nat}(ho:Eng.own (Xg R ρ) H0 b):Eng.own ρ H b:=by
 obtain⟨c,k,bd,_,a2,a3,a4,a5⟩:=h.own ho;exact⟨k,bd,a2,a3,a4,a5⟩
theorem HS.sub (hs:HS w0 M ρ H w){R:RN}{H0:HP}(h:Hw R H H0):HS w (Y3 M R ρ H H0) (Xg R ρ) H0 w:=by
 refine⟨rfl,rfl,rfl,Nat.le_refl _,⟨hs.globw,?_,Zf hs.glob.2.2.1 hs.size,?_⟩,fun _ _ _=>rfl,?_,?_,?_,?_⟩
 ·intro ho;obtain⟨c,k,bd,_,a2,a3,a4,a5⟩:=h.own ho;have:=(hs.rng k bd a2 a3 a5 _ a4).2;rcases this with h' | h'
  ·have:=hs.glob.2.2.1;simp only[Y3]at h';omega
  ·exact hs.glob.2.1 h'
 ·rintro b ⟨h1,h2⟩;exact⟨HO hs h1,h2⟩
 ·intro c b hc hl;have hm:=h.only c (by rw[hc];simp);obtain⟨p,hp,rfl⟩:=Zc.1 hm;obtain⟨b',b1,b2,b3,b4⟩:=h.blk p hp;rw[hc]at b1;cases b1
  obtain⟨bd,e,ok⟩:=hs.blk p.2 b b2 hl;refine⟨bd,by unfold Xg;rw[Hv h.nd1 hp];exact e,ok.free b4 fun j hj=> ?_⟩;rcases hj with hj | hj
  ·exact hj.1
  ·exact .inr (h.own' hj)
 ·intro c hc;unfold Xg;split
  ·rename_i k hk;obtain⟨b',b1,_⟩:=h.blk _ (Ko hk);rw[hc]at b1;cases b1
  ·rfl
 ·intro c bd h1 h2 h3 i hi;refine⟨?_,.inr ⟨c,bd,h1,h2,hi,h3⟩⟩;obtain⟨_,k,bd',_,a2,a3,a4,a5⟩:=h.own (⟨c,bd,h1,h2,hi,h3⟩:Eng.own (Xg R ρ) H0 i);exact(hs.rng k bd' a2 a3 a5 i a4).1
 ·intro c c' bd bd' a1 a2 a3 a4 a5 a6 i a7 a8;unfold Xg at a1 a2;split at a1
  ·rename_i k hk;split at a2
   ·rename_i k' hk';have m1:=Ko hk;have m2:=Ko hk';obtain⟨b1,f1,e1,l1,_⟩:=h.blk _ m1;obtain⟨b2,f2,e2,l2,_⟩:=h.blk _ m2;have:=hs.dist k k' bd bd' a1 a2 a3 a4 (by rw[e1];exact l1) (by rw[e2];exact l2) i (by rw[f1]at a7;rw[e1];exact a7) (by rw[f2]at a8;rw[e2];exact a8);subst this;have h1:=QEb h.nd2 m1;have h2:=QEb h.nd2 m2;rw[h1]at h2;cases h2;rfl
   ·cases a2
  ·cases a1
def Xj (RN':RN)(ρ1 ρ:Env):Env:=fun k=>match lkB RN' k with
 | some c=>ρ1 c
 | none=>ρ k
def Xc (RN':RN)(H1 H:HP):HP:=fun k=>match lkB RN' k with
  | some c=>H1 c
  | none=>H k

theorem HS.ret (hs:HS w0 M ρ H w){R N:RN}{H0:HP}(h:Hw R H H0)(hn1:((R++N).map (·.1)).Nodup)(hn2:(N.map (·.2)).Nodup)(hN: ∀p∈N,H p.2=none)
  {w1:World} {ρ1:Env} {H1:HP} (h1:HS w (Y3 M R ρ H H0) ρ1 H1 w1) (hpin: ∀k bd,Xg R ρ k=some bd->ρ1 k=some bd) (hk1: ∀p∈R,H1 p.1≠none) (hfree: ∀p∈R++N,∀b,H1 p.1=some b->Ug b=true):
  HS w0 M (Xj (R++N) ρ1 ρ) (Xc (R++N) H1 H) w1/\Ext ρ H w (Xj (R++N) ρ1 ρ) (Xc (R++N) H1 H) w1/\
   ∀a a' v,Je (lkA (R++N)) a=some a'->ConcV w1 (ow (Y3 M R ρ H H0) ρ1 H1) ρ1 a v->ConcV w1 (ow M (Xj (R++N) ρ1 ρ) (Xc (R++N) H1 H)) (Xj (R++N) ρ1 ρ) a' v:=by
 have hnd2:((R++N).map (·.2)).Nodup:=by
  rw[List.map_append,List.nodup_append];refine⟨h.nd2,hn2,fun a ha b hb e=> ?_⟩;obtain⟨p,hp,rfl⟩:=Zc.1 ha;obtain⟨q,hq,rfl⟩:=Zc.1 hb;obtain⟨b,_,e2,_⟩:=h.blk p hp;rw[e,hN q hq]at e2;cases e2
 -- the function's own blocks were the caller's
 have hm: ∀b,(Y3 M R ρ H H0).m b->own ρ H b:=fun b hb=>h.own' hb;have hrng0: ∀b,own ρ H b->b<w.heap.size/\(w0.heap.size<=b∨M.m b):=by
  rintro b ⟨k,bd,a1,a2,a3,a4⟩;exact hs.rng k bd a1 a2 a4 b a3
 -- names of the caller's that were handed over
 have handed: ∀{c k:Nat},(c,k)∈R-> ∃bd,ρ k=some bd/\ρ1 c=some bd:=by
  intro c k hm;obtain⟨b,_,e2,l,_⟩:=h.blk _ hm;obtain⟨bd,e,_⟩:=hs.blk k b e2 l;exact⟨bd,e,hpin c bd (by unfold Xg;rw[Hv h.nd1 hm];exact e)⟩
 have splitM: ∀{c k:Nat},lkB (R++N) k=some c->(c,k)∈R∨(c,k)∈N:=fun hk=>List.mem_append.1 (Vd hk);have other: ∀{k:Nat},lkB (R++N) k=none-> ∀bd,ρ k=some bd->bd.isNil=false->XI (H k)=true-> ∀i,XS bd (H k) i-> ¬own (Xg R ρ) H0 i:=by
  intro k hk bd a1 a2 a3 i hi ho;obtain⟨c,k',bd',m1,b2,b3,b4,b5⟩:=h.own ho;have:=hs.dist k k' bd bd' a1 b2 a2 b3 a3 b5 i hi b4;subst this;exact QI9 hk (Zc.2 ⟨_,List.mem_append.2 (.inl m1),rfl⟩)
 have hsz:w.heap.size<=w1.heap.size:=h1.size;have henv: ∀k bd,ρ k=some bd->Xj (R++N) ρ1 ρ k=some bd:=by
  intro k bd hk;unfold Xj;split
  ·rename_i c hc;rcases splitM hc with hm | hm
   ·obtain⟨bd',e1,e2⟩:=handed hm;rw[hk]at e1;cases e1;exact e2
   ·have:=hs.dom k (hN _ hm);rw[hk]at this;cases this
  ·exact hk
 have hown': ∀b,own (Xj (R++N) ρ1 ρ) (Xc (R++N) H1 H) b->own ρ1 H1 b∨(own ρ H b/\ ¬own (Xg R ρ) H0 b):=by
  rintro b ⟨k,bd,a1,a2,a3,a4⟩;unfold Xj at a1;unfold Xc at a3 a4;cases hc:lkB (R++N) k with
  | some c=>
   simp only[hc]at a1 a3 a4;exact .inl ⟨c,bd,a1,a2,a3,a4⟩
  | none=>
   simp only[hc]at a1 a3 a4;exact .inr ⟨⟨k,bd,a1,a2,a3,a4⟩,other hc bd a1 a2 a4 b a3⟩
 have hx:Ext ρ H w (Xj (R++N) ρ1 ρ) (Xc (R++N) H1 H) w1:=by
  refine⟨⟨hsz,fun b hb ho=>h1.old b hb (fun hm'=>ho (hm b hm'))⟩,?_,henv,?_⟩
  ·intro b hb ho;rcases hown' b ho with h' | h'
   ·obtain⟨c,bd,a1,a2,a3,a4⟩:=h';rcases(h1.rng c bd a1 a2 a4 b a3).2 with h' | h'
    ·omega
    ·exact hm _ h'
   ·exact h'.1
  ·intro k hk;unfold Xj Xc;cases hc:lkB (R++N) k with
   | none=>exact⟨rfl,hk⟩
   | some c=>
    simp only;rcases splitM hc with hm' | hm'
    ·obtain⟨bd',e1,e2⟩:=handed hm';exact⟨by rw[e1,e2],hk1 _ hm'⟩
    ·exact absurd (hN _ hm') hk
 have how: ∀b,ow M (Xj (R++N) ρ1 ρ) (Xc (R++N) H1 H) b->ow (Y3 M R ρ H H0) ρ1 H1 b:=by
  rintro b (hb | hb)
  ·refine .inl ⟨.inl hb,fun ho=> ?_⟩;obtain⟨c,k',bd',m1,b2,b3,b4,b5⟩:=h.own ho;exact hs.nxB b2 b3 b5 b4 hb
  ·rcases hown' b hb with h' | h'
   ·exact .inr h'
   ·exact .inl ⟨.inr h'.1,h'.2⟩
 refine⟨⟨h1.os.trans hs.os,h1.tape.trans hs.tape,h1.output.trans hs.output,Nat.le_trans hs.size hsz,hs.glob,?_,?_,?_,?_,?_⟩,hx,?_⟩
 ·intro b hb hmb;rw[h1.old b (Zf hb hs.size) (fun hm'=> ?_)]
  ·exact hs.old b hb hmb
  ·rcases(hrng0 b (hm b hm')).2 with h' | h'
   ·omega
   ·exact hmb h'
 ·intro k b hk hl;unfold Xc at hk;cases hc:lkB (R++N) k with
  | some c=>
   simp only[hc]at hk;obtain⟨bd,e,ok⟩:=h1.blk c b hk hl;exact⟨bd,by unfold Xj;simp only[hc];exact e,ok.free (hfree _ (Vd hc) b hk) how⟩
  | none=>
   simp only[hc]at hk;obtain⟨bd,e,ok⟩:=hs.blk k b hk hl;exact⟨bd,henv k bd e,ok.ext hx (fun hnn hl' i hi=>h1.old _ (hs.rng k bd e hnn (by rw[hk];exact hl') i (by rw[hk];exact hi)).1 (other hc bd e hnn (by rw[hk];exact hl') i (by rw[hk];exact hi)))⟩
 ·intro k hk;unfold Xc at hk;unfold Xj;cases hc:lkB (R++N) k with
  | some c=>simp only[hc]at hk⊢;exact h1.dom c hk
  | none=>simp only[hc]at hk⊢;exact hs.dom k hk
 ·intro k bd a1 a2 a3 i hi;unfold Xj at a1;unfold Xc at a3 hi;cases hc:lkB (R++N) k with
  | some c=>
   simp only[hc]at a1 a3 hi;obtain⟨b1,b2⟩:=h1.rng c bd a1 a2 a3 i hi;refine⟨b1,?_⟩;rcases b2 with h' | h'
   ·exact .inl (Nat.le_trans hs.size h')
   ·exact(hrng0 _ (hm _ h')).2
  | none=>
   simp only[hc]at a1 a3 hi;obtain⟨b1,b2⟩:=hs.rng k bd a1 a2 a3 i hi;exact⟨Zf b1 hsz,b2⟩
 ·intro k k' bd bd' a1 a2 a3 a4 a5 a6 i a7 a8;unfold Xj at a1 a2;unfold Xc at a5 a6 a7 a8;have QW: ∀{c k bd bd'},ρ1 c=some bd->bd.isNil=false->XI (H1 c)=true->lkB (R++N) k=none->ρ k=some bd'->bd'.isNil=false->XI (H k)=true->XS bd (H1 c) i->XS bd' (H k) i->False:=by
   intro c k bd bd' b1 b2 b3 b4 b5 b6 b7 b8 b9;have hlt:=(hs.rng k bd' b5 b6 b7 i b9).1;rcases(h1.rng c bd b1 b2 b3 i b8).2 with h' | h'
   ·omega
   ·exact other b4 bd' b5 b6 b7 i b9 h'
  cases hc:lkB (R++N) k with
  | some c=>
   simp only[hc]at a1 a5 a7;cases hc':lkB (R++N) k' with
   | some c'=>
    simp only[hc']at a2 a6 a8;have:=h1.dist c c' bd bd' a1 a2 a3 a4 a5 a6 i a7 a8;subst this;have e1:=Hv hn1 (Vd hc);have e2:=Hv hn1 (Vd hc');rw[e1]at e2;cases e2;rfl
   | none=>
    simp only[hc']at a2 a6 a8;exact(QW a1 a3 a5 hc' a2 a4 a6 a7 a8).elim
  | none=>
   simp only[hc]at a1 a5 a7;cases hc':lkB (R++N) k' with
   | some c'=>
    simp only[hc']at a2 a6 a8;exact(QW a2 a4 a6 hc a1 a3 a5 a8 a7).elim
   | none=>
    simp only[hc']at a2 a6 a8;exact hs.dist k k' bd bd' a1 a2 a3 a4 a5 a6 i a7 a8
 ·intro a a' v hr hc;refine QCl how (fun c k bd hk hρ=> ?_) hr hc;unfold Xj;rw[QEb hnd2 (Ko hk)];exact hρ
def QJC:List AV->Option AV
 | [a]=>some a
 | l=>bif l.all (fun a=>match a with | .x .. =>true | _=>false)then some (.t (Vb l))else none
def QRX {X:Type}(pl:List Nat)(φ:X->Prop)(I:X->SL):QL:=fun e s=>match e with
  | .n=> ∃x,φ x/\YX pl s.st (I x)
  | .r=> ∃x,φ x/\YX pl s.st (I x)
  | .x _=>False

def JK {X:Type}(T:Qh)(O:OT)(L:LI)(fn:Func)(as:List AV)(Hl:List (Nat×Blk))(φ:X->Prop)(I:X->SL):Prop:=
 wpL T O L (XQ fn) (Hl.map (·.1)) none 0 ⟨VG 0 as,Hl⟩ (QRX (Hl.map (·.1)) φ I)
def QOx (tb:TB)(σ:St)(rs:List ResultVar)(K:AV->Prop):Prop:=QIw tb σ rs fun l=>match QJC l with
 | some a=>K a
 | none=>False
theorem QHP {O:Nat->Prop}{as:List AV}{vs:List Value}(h:Qo w O ρ as vs){a:AV}(ho:QJC as=some a):ConcV w O ρ a (if h:vs.toArray.size=1 then vs.toArray[0]else .tuple vs.toArray):=by
 unfold QJC at ho;split at ho
 ·cases ho
  cases h with
  | cons h t=>cases t;simpa using h
 ·rename_i l hne;cases hb:as.all (fun a=>match a with | .x .. =>true | _=>false)with
  | false=>rw[hb]at ho;cases ho
  | true=>
   rw[hb]at ho;cases ho
   have hl:vs.length≠1:=fun e=>by
    have:=h.len;match as,(by omega:as.length=1)with
    | [b],_=>exact hne b rfl
   rw[dif_neg (by simpa using hl)];refine⟨vs,Vc h fun a ha=> ?_,rfl⟩;have:=List.all_eq_true.1 hb a ha;cases a with
   | x b cs=>exact⟨b,cs,rfl⟩
   | _=>cases this
variable {g:Nat}{tab:List Value}
theorem Xp {X:Type}{T:Qh}(hT:Q5 P g tab T)(hm:P.follows .mixedOrders=true){f:Nat}{fn:Func}(hf:P.funcs[f]? =some fn)(hok:Va fn=true){O:OT}(hot:WS O (XQ fn)=true)
  {as as0:List AV} {H:HP} {R N:RN} {Hl:List (Nat×Blk)} {φ:X->Prop} {I:X->SL} {K:KK} {L:LI} (hargs:Zg as0.length fn.ntmps=true)
  (hren:Jf (lkB R) as=some as0) (hand:Hw R H (QO Hl)) (hpl:R.map (·.1)=Hl.map (·.1)) (hn1:((R++N).map (·.1)).Nodup) (hn2:(N.map (·.2)).Nodup) (hN: ∀p∈N,H p.2=none)
  (hI: ∀x,(∀p∈R,QO (I x).H p.1≠none)/\ ∀p∈R++N,∀b,QO (I x).H p.1=some b->Ug b=true)
  (goal:QU (JK T O L fn as0 Hl φ I))
  (post: ∀x,φ x->QOx T.tb (I x).st fn.results.toList fun a0=> ∃a,Je (lkA (R++N)) a0=some a/\K a (Xc (R++N) (QO (I x).H) H)):SpecM P g tab f as H K:=by
 intro w0 M ρ w vals hg htab hs hc;subst hg htab;simp only[Va,Zb]at hok;obtain⟨body,hbody⟩:=Option.isSome_iff_exists.1 hok.1.2;have hb:XQ fn=body:=by unfold XQ;rw[hbody]
 refine callsIn_wide.1 (callsIn_of_wp_marks (F:=FR none) (n:=0) hf hbody trivial ?_ rfl);have hsub:=hs.sub hand;have hown: ∀b,ow (Y3 M R ρ H (QO Hl)) (Xg R ρ) (QO Hl) b->ow M ρ H b:=by
  rintro b (h | h)
  ·exact h.1
  ·exact .inr (hand.own' h)
 have hcc:Qo w (ow (Y3 M R ρ H (QO Hl)) (Xg R ρ) (QO Hl)) (Xg R ρ) as0 vals:=by
  refine QJB hown (fun k c bd hk hρ=> ?_) hren hc;unfold Xg;rw[Hv hand.nd1 (Vd hk)];exact hρ
 have hlen:vals.length<=fn.ntmps:=by rw[<-hcc.len];exact Ze hargs
 have hsim:Sim w (Y3 M R ρ H (QO Hl)) fn.ntmps (Xg R ρ) (⟨VG 0 as0,Hl⟩:SL).st {tmps:=vals.toArray++Array.replicate (fn.ntmps-vals.toArray.size) undef,defers:=[]} w:=by
  refine⟨by simp;omega,.nil,fun _=>rfl,fun k bd h=>h,fun t=> ?_,(fun _ h=>by cases h),hsub⟩;show ConcV w _ _ (Qi (VG 0 as0) t) _
  rcases VH as0 0 t with h | ⟨_,h⟩
  ·rw[h];trivial
  ·rw[h,Nat.sub_zero];exact UH hcc _ t
 have hpin:QEE (Y3 M R ρ H (QO Hl)) (Hl.map (·.1)):=by
  refine⟨fun k hk=> ?_,fun _ h=>by cases h⟩;show k∈_
  rw[<-hpl];simp only[Y3,Xg]at hk;cases hl:lkA R k with
  | none=>rw[hl]at hk;exact absurd rfl hk
  | some j=>exact Zc.2 ⟨_,Ko hl,rfl⟩
 replace goal:=goal.out;unfold JK at goal
 rw[QI8 _ hot _ _ _ _ _ (fun e σ=>match e with
  | .n=> ∃x,φ x/\YX (Hl.map (·.1)) σ (I x)
  | .r=> ∃x,φ x/\YX (Hl.map (·.1)) σ (I x)
  | .x _=>False) (fun e s=>by cases e<;>rfl),hb]at goal
 refine QAR (show Q5 P (Y3 M R ρ H (QO Hl)).g (Y3 M R ρ H (QO Hl)).tab T from hT) hm body (hb▸hok.2) (M:=Y3 M R ρ H (QO Hl)) ⟨⟨rfl,rfl,rfl⟩,rfl⟩ hpin (NC.refl w) hsim goal ?_
 intro a' w';have done: ∀{ρ1 σ},Sim w (Y3 M R ρ H (QO Hl)) fn.ntmps ρ1 σ a' w'->(∃x,φ x/\YX (Hl.map (·.1)) σ (I x))->
   LeavesInM (FR none) 0 P fn a'.tmps (fun e w'=> ∃v ρ' H' av,e= .returned v/\HS w0 M ρ' H' w'/\Ext ρ H w ρ' H' w'/\ConcV w' (ow M ρ' H') ρ' av v/\K av H') a'.defers .returning w':=by
  rintro ρ1 σ hs' ⟨x,hx,he⟩;obtain⟨ρ2,hs2⟩:=Wo he _ _ _ _ _ _ hpin hs';refine hs2.leave fun a2 w2 hs2 ht _=> ?_
  have hp:=post x hx;unfold QOx at hp;obtain⟨vs,l,r1,r2,r3⟩:=Hq (P:=P) hT.tb hs2 hp;rw[ht]at r1;cases ho:QJC l with
  | none=>rw[ho]at r3;exact r3.elim
  | some a0=>
   rw[ho]at r3;obtain⟨a,e1,hk⟩:=r3;obtain⟨k1,k2,k3⟩:=hs.ret hand hn1 hn2 hN hs2.hs hs2.pin (fun p hp=>(hI x).1 p hp) (fun p hp b hb=>(hI x).2 p hp b hb);have hrun:(results fn a'.tmps).run P w2= .ok (if h:vs.toArray.size=1 then vs.toArray[0]else .tuple vs.toArray) w2:=by
    have:(fn.results.mapM (QET a'.tmps)).run P w2= .ok vs.toArray w2:=by
     rw[Array.mapM_eq_mapM_toList];simp[r1]
    change ((fn.results.mapM (QET a'.tmps)>>=fun vs=>pure (if h:vs.size=1 then vs[0]else .tuple vs)):Sem Value).run P w2=_;simp[this]
   exact⟨_,hrun,_,_,_,a,rfl,k1,k2,k3 _ _ _ e1 (QHP r2 ho),hk⟩
 refine⟨?_,?_,?_⟩
 ·rintro⟨ρ1,σ,hs',hr,_⟩;exact done hs' hr
 ·rintro i ⟨ρ1,σ,hs',hr,_⟩;exact hr.elim
 ·rintro⟨ρ1,σ,hs',hr,_⟩;exact done hs' hr
abbrev YA:=List AV->HP->Nat->Option (KK->Prop)
def pmL (l:List (Nat×YA)):PM:=fun f as H d=>match l with
 | []=>none
 | p::rest=>bif f.beq p.1 then p.2 as H d else pmL rest f as H d
structure J8 (P:Program)(g:Nat)(tab:List Value)(f:Nat)(c:YA):Prop where
 enter:VE P f
 sound: ∀as H d T,c as H d=some T-> ∀K,T K->SpecM P g tab f as H K
def CtrMsOK (P:Program)(g:Nat)(tab:List Value)(l:List (Nat×YA)):Prop:= ∀p∈l,J8 P g tab p.1 p.2
theorem CtrMsOK.nil:CtrMsOK P g tab []:=fun _ h=>by cases h
theorem CtrMsOK.cons {f:Nat}{c:YA}{l:List (Nat×YA)}(h:J8 P g tab f c)(hl:CtrMsOK P g tab l):CtrMsOK P g tab ((f,c)::l):=by
 intro p hp;rcases Zd.1 hp with rfl | hp
 ·exact h
 ·exact hl p hp
theorem QOy: ∀{l:List (Nat×YA)},CtrMsOK P g tab l->QIW P g tab (pmL l):=by
 intro l;induction l with
 | nil=>exact fun _=>⟨fun _ _ _ _ _ h=>(by cases h),fun _ _ _ _ _ h=>(by cases h)⟩
 | cons p l ih=>
  intro h;have h1:=h p (by simp);have h2:=ih fun q hq=>h q (by simp[hq]);refine⟨fun f as H d T ht=> ?_,fun f as H d T ht=> ?_⟩
  ·rw[pmL]at ht;cases hb:f.beq p.1 with
   | true=>have:=Za hb;subst this;exact h1.enter
   | false=>rw[hb]at ht;exact h2.enter f as H d T ht
  ·rw[pmL]at ht;cases hb:f.beq p.1 with
   | true=>rw[hb]at ht;have:=Za hb;subst this;exact h1.sound as H d T ht
   | false=>rw[hb]at ht;exact h2.sound f as H d T ht
abbrev Uu:=List AV->Option ((AV->Prop)->Prop)
def pxL (l:List (Nat×Uu)):PX:=fun f as=>match l with
 | []=>none
 | p::rest=>bif f.beq p.1 then p.2 as else pxL rest f as
def QBI (P:Program)(f:Nat)(c:Uu):Prop:= ∀as T,c as=some T-> ∀K,T K-> ∀w (O:Nat->Prop) (ρ:Env) vals,Qo w O ρ as vals->
 ∃v av,(callFunc f vals.toArray).run P w= .ok (.value v) w/\ConcV w O ρ av v/\K av
def CtrXsOK (P:Program)(l:List (Nat×Uu)):Prop:= ∀p∈l,QBI P p.1 p.2
theorem CtrXsOK.nil:CtrXsOK P []:=fun _ h=>by cases h
theorem CtrXsOK.cons {f:Nat}{c:Uu}{l:List (Nat×Uu)}(h:QBI P f c)(hl:CtrXsOK P l):CtrXsOK P ((f,c)::l):=by
 intro p hp;rcases Zd.1 hp with rfl | hp
 ·exact h
 ·exact hl p hp
theorem QOz: ∀{l:List (Nat×Uu)},CtrXsOK P l->QOa P (pxL l):=by
 intro l;induction l with
 | nil=>intro _ f as T ht;cases ht
 | cons p l ih=>
  intro h f as T ht;rw[pxL]at ht;cases hb:f.beq p.1 with
  | true=>rw[hb]at ht;have:=Za hb;subst this;exact h p (by simp) as T ht
  | false=>rw[hb]at ht;exact ih (fun q hq=>h q (by simp[hq])) f as T ht
theorem Hw.nil {H:HP}:Hw [] H (QO []):=⟨by simp,by simp,(fun _ h=>by cases h),fun c h=>absurd rfl h⟩
theorem UM {T:Qh}(hT:Q5 P g tab T)(hm:P.follows .mixedOrders=true){f:Nat}{fn:Func}(hf:P.funcs[f]? =some fn)(hok:Va fn=true){O:OT}(hot:WS O (XQ fn)=true)
    {as:List AV} {H:HP} {d t sz n r:Nat} {xs:List (List Ch)} {K:KK} {L:LI} (hargs:Zg as.length fn.ntmps=true) (has:Jf (fun _=>none) as=some as) (hd:H d=none) (hr:fn.results.toList=[.tmp r])
    (goal:QU (JK (X:=Unit) T O L fn as [] (fun _=>True) (fun _=>⟨[(r,.x false [.w 0 0 n])],[(0,.row t sz xs)]⟩)))
    (post:K (.x false [.w d 0 n]) (Xc [(0,d)] (QO [(0,.row t sz xs)]) H)):SpecM P g tab f as H K:=by
  refine Xp (R:=[]) (N:=[(0,d)]) hT hm hf hok hot hargs has .nil rfl (by simp) (by simp) (fun p hp=>by simp at hp;subst hp;exact hd) (fun x=>⟨(fun _ h=>by cases h),fun p hp b hb=> ?_⟩) goal (fun x _=> ?_)
  · simp at hp;subst hp;simp[QO]at hb;subst hb;rfl
  · rw[hr];simp only[QOx,QIw,QLh,SL.st,Qi,Nat.beq_refl,R7,QJC];exact⟨_,rfl,post⟩

end Go.Eng
