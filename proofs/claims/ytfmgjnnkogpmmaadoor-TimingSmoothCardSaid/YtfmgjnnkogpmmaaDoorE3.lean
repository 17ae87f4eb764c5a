/- The engine, part Lm: maps from numbers to numbers. -/
import Derived.Test.YtfmgjnnkogpmmaaDoorE2
import Derived.RangeFuncRecord
import Derived.OrdersIn
open Bool renaming and_eq_true → Za, not_eq_true' → Zu
open Nat renaming eq_of_beq_eq_true → Zb, lt_of_lt_of_le → Zh, le_of_ble_eq_true → Zr, le_refl → Zx
open Array renaming getD_eq_getD_getElem? → Zc, getElem?_eq_some_iff → Zg, toArray_toList → Zj, getElem?_replicate → Zw, getElem?_toList → Zy, replicate → Ya, ext' → Yd, toList_map → Yh
open Go.Result renaming andThen_ok → Zd
open List renaming getElem?_eq_some_iff → Ze, all_eq_true → Zf, mem_cons_of_mem → Zi, mem_append → Zk, mem_cons → Zl, getD_eq_getElem?_getD → Zm, getElem?_eq_getElem → Zn, mem_of_getElem? → Zo, eq_nil_of_length_eq_zero → Zp, getElem?_toArray → Zt, map_congr_left → Zv, map_cons → Zz, mem_filterMap → Yb, mem_cons_self → Yc, flatMap_cons → Ye, mem_flatMap → Yg, range → Yi
open Option renaming ne_none_iff_exists' → Zq, isSome_iff_exists → Yf
open Iff renaming rfl → Zs
namespace Go.Eng
open Go Go.RowKit
variable {P:Program}{w0:World}{M:Ctx}{ρ:Env}{H:HP}{w:World}
def HT (tb:TB)(i:TyI):Option Nat:=match i.und with
  | .map kt et=>match tb kt,tb et with
    | some ki,some ei=>match ki.und,ei.und,ei.zero with
      | .int .i64,.int _,[.int .i64 0]=>some kt
      | _,_,_=>none
    | _,_=>none
  | _=>none
theorem UA {tb:TB}(htb:JZ P tb){t:Nat}{i:TyI}(hi:Xr P t i){kt:Nat}(h:HT tb i=some kt):
  ∃et,P.underlying t=some (.map kt et)/\P.underlying kt=some (.int .i64)/\ ∀w:World,(zeroValue et).run P w= .ok (.int .i64 0) w:=by
 unfold HT at h;split at h
 ·rename_i kt' et hu;split at h
  ·rename_i ki ei hk he;split at h
   ·rename_i hki hei hz;cases h
    refine⟨et,by rw[hi.und,hu],by rw[(htb _ _ hk).und,hki],fun w=> ?_⟩;obtain⟨ti,v,h1,h2,h3⟩:=(htb _ _ he).zval _ hei;rw[hz]at h3;cases h3
    simp[zeroValue,typeInfo,h1,h2]
   ·cases h
  ·cases h
 ·cases h
def HU (f:Int->Option Int)(k v:Int):Int->Option Int:=fun x=>bif k==x then some v else f x
def KF (tb:TB)(i:TyI)(d:Nat)(H:HP)(K:KK):Prop:=
 match HT tb i,H d with
 | some _,none=>K (.x false [.m d]) (upd H d (some (.mp fun _=>none)))
 | _,_=>False
def QA8 (ok:Bool)(r:Option Int):AV:=bif ok then .t [(false,[.v (.int .i64 (r.getD 0))]),(false,[.v (.bool r.isSome)])]else .x false [.v (.int .i64 (r.getD 0))]
def Kk (tb:TB)(i:TyI)(m x:AV)(ok:Bool)(H:HP)(K:AV->Prop):Prop:=
 match HT tb i with
 | some _=>(match x with
  | .x false [.v (.int .i64 n)]=>(match m with
   | .x false [.m k]=>(match H k with
    | some (.mp f)=>K (QA8 ok (f n))
    | _=>False)
   | .x false [.v (.map none)]=>K (QA8 ok none)
   | _=>False)
  | _=>False)
 | none=>False
def Uz (tb:TB)(i:TyI)(m x v:AV)(H:HP)(K:HP->Prop):Prop:=
 match HT tb i with
 | some _=>(match m,x,v with
  | .x false [.m k],.x false [.v (.int .i64 n)],.x false [.v (.int .i64 b)]=>(match H k with
   | some (.mp f)=>K (upd H k (some (.mp (HU f n b))))
   | _=>False)
  | _,_,_=>False)
 | none=>False
theorem KG {tb:TB}{t d:Nat}{i:TyI}(hs:HS w0 M ρ H w){K:KK}(h:KF tb i d H K)(r:Option Value)(hr:r=none∨ ∃k n,r=some (.int k n))(htb:JZ P tb)(hi:Xr P t i):
  ∃v w' ρ' H' av,(Instr.makeMap t r).run P w= .ok v w'/\HS w0 M ρ' H' w'/\Ext ρ H w ρ' H' w'/\ConcV w' (ow M ρ' H') ρ' av v/\K av H':=by
 unfold KF at h;split at h
 ·rename_i kt him hd;obtain⟨et,hu,_,_⟩:=UA htb hi him;have hrun:(Instr.makeMap t r).run P w= .ok (.map (some w.heap.size)) (w.alloc (.map #[] 0)):=by
   rcases hr with rfl | ⟨k,n,rfl⟩
   ·rfl
   ·simp only[Instr.makeMap,Sem.run_bind,run_underlying hu,Zd,asInt];rfl
  have hrow:=hs.alloc hd (o:= .map #[] 0) (bd:=⟨w.heap.size,0,0,0,false,[]⟩) (b:= .mp fun _=>none) (w':=w.alloc (.map #[] 0)) rfl rfl rfl rfl rfl
   (fun hx=>⟨rfl, #[],0,World.alloc_heap_new w _,fun _=>rfl⟩)
  exact⟨_,_,_,_,.x false [.m d],hrun,hrow.1,hrow.2,⟨_,.m (bd:=⟨w.heap.size,0,0,0,false,[]⟩) (QI _ _ _) rfl .nil,rfl⟩,h⟩
 ·exact h.elim
theorem HW: ∀{es:List MapEntry} {f:Int->Option Int},MapIs es f-> ∀(k:Int) (i:Nat),(f k=none/\Instr.findNow (.int .i64) (.int .i64 k) es i=some none)∨
  ∃v j,f k=some v/\Instr.findNow (.int .i64) (.int .i64 k) es i=some (some (i+j,.int .i64 v))/\(∃e,es[j]? =some e/\e.key= .int .i64 k)/\ ∀(e:MapEntry) (b:Int),e.key= .int .i64 k->e.val= .int .i64 b->MapIs (es.set j e) (HU f k b):=by
 intro es;induction es with
 | nil=>intro f h k i;exact .inl ⟨h k,rfl⟩
 | cons e es ih=>
  rintro f ⟨a,b,g,h1,h2,h3,h4⟩ k i;by_cases hk:k=a
  ·subst hk;refine .inr ⟨b,0,by rw[h4];simp,?_,⟨e,rfl,h1⟩,fun e' b' k1 k2=>⟨k,b',g,k1,k2,h3,fun x=> ?_⟩⟩
   ·simp only[Instr.findNow,h1,Instr.sameNow,if_true,beq_self_eq_true,h2];rfl
   ·simp only[HU,h4];cases(k==x)<;>rfl
  ·have hne:(k==a)=false:=by simpa using hk
   have hne':(a==k)=false:=by simp;exact fun h=>hk h.symm
   rcases ih h3 k (i+1)with⟨k1,k2⟩ | ⟨v,j,k1,k2,k3,k4⟩
   ·exact .inl ⟨by rw[h4,hne',k1];rfl,by simp only[Instr.findNow,h1,Instr.sameNow,if_true,hne,k2]⟩
   ·refine .inr ⟨v,j+1,by rw[h4,hne',k1];rfl,?_,by simpa using k3,fun e' b' c1 c2=> ?_⟩
    ·simp only[Instr.findNow,h1,Instr.sameNow,if_true,hne,k2];rw[Nat.add_assoc,Nat.add_comm 1 j]
    ·refine⟨a,b,_,h1,h2,k4 e' b' c1 c2,fun x=> ?_⟩;simp only[HU,h4];by_cases e1:k=x
     ·subst e1;simp[hne']
     ·have:(k==x)=false:=by simpa using e1
      rw[this];rfl
theorem MapIs.push: ∀{es:List MapEntry} {f:Int->Option Int},MapIs es f-> ∀{e:MapEntry} {k b:Int},f k=none->e.key= .int .i64 k->e.val= .int .i64 b->MapIs (es++[e]) (HU f k b):=by
 intro es;induction es with
 | nil=>intro f h e k b _ h1 h2;exact⟨k,b,fun _=>none,h1,h2,fun _=>rfl,fun x=>by simp only[HU,h x]⟩
 | cons e es ih=>
  rintro f ⟨a,c,g,h1,h2,h3,h4⟩ e' k b hf k1 k2;have hka:(a==k)=false:=by
   cases hb:(a==k)with
   | false=>rfl
   | true=>rw[h4,hb]at hf;cases hf
  refine⟨a,c,_,h1,h2,ih h3 (by rw[h4,hka]at hf;exact hf) k1 k2,fun x=> ?_⟩;simp only[HU,h4];by_cases e1:k=x
  ·subst e1;simp[hka]
  ·have:(k==x)=false:=by simpa using e1
   rw[this];rfl
theorem Jc {kt:Nat}(hk:P.underlying kt=some (.int .i64)){k:Int}{es:List MapEntry}{r:Option (Nat×Value)}(h:Instr.findNow (.int .i64) (.int .i64 k) es 0=some r)(w:World):
  (Instr.findKey kt (.int .i64 k) es).run P w= .ok r w:=by
 simp only[Instr.findKey,Sem.run_bind,run_underlying hk,Zd,h,Sem.run_pure]
theorem JA {kt:Nat}(hk:P.underlying kt=some (.int .i64)){k:Int}(b:Bool)(w:World):(Instr.checkKey b 10000 kt (.int .i64 k)).run P w= .ok () w:=by
 have:(10000:Nat)=9999+1:=rfl;rw[this,Instr.checkKey];simp only[Sem.run_bind,run_underlying hk,Zd,Sem.run_pure]
theorem QIZ (hs:HS w0 M ρ H w){k:Nat}{f:Int->Option Int}(hk:H k=some (.mp f)){v:Value}(hv:ConcV w (ow M ρ H) ρ (.x false [.m k]) v):
  ∃bd es cl,ρ k=some bd/\bd.isNil=false/\v= .map (some bd.blk)/\w.heap[bd.blk]? =some (.map es cl)/\MapIs es.toList f:=by
 obtain⟨vals,hcc,hv⟩:=hv;simp at hv;subst hv;cases hcc with
 | @m _ _ bd _ _ h1 h2 _=>
  obtain⟨bd',e,h3,es,cl,h4,h5⟩:=hs.blk k _ hk rfl;rw[h1]at e;cases e
  exact⟨bd,es,cl,h1,h2,rfl,h4,h5⟩
theorem VW {O:Nat->Prop}(ok:Bool)(r:Option Int):ConcV w O ρ (QA8 ok r) (if ok then .tuple #[.int .i64 (r.getD 0),.bool r.isSome]else .int .i64 (r.getD 0)):=by
 cases ok with
 | true=>exact⟨[.int .i64 (r.getD 0),.bool r.isSome],.cons (ConcX.mk1 rfl) (.cons (ConcX.mk1 rfl) .nil),rfl⟩
 | false=>exact ConcX.mk1 rfl
theorem Gx {tb:TB}(htb:JZ P tb){t:Nat}{i:TyI}(hi:Xr P t i)(hs:HS w0 M ρ H w){m x:AV}{vm vx:Value}(hm:ConcV w (ow M ρ H) ρ m vm)(hx:ConcV w (ow M ρ H) ρ x vx){ok:Bool}{K:AV->Prop}(h:Kk tb i m x ok H K):
  ∃v av,(Instr.lookup t vm vx ok).run P w= .ok v w/\ConcV w (ow M ρ H) ρ av v/\K av:=by
 unfold Kk at h;split at h
 ·rename_i kt him;obtain⟨et,hu,hk,hz⟩:=UA htb hi him;split at h
  ·rename_i n;obtain⟨rfl,_⟩:=ConcX.one hx;split at h
   ·rename_i k;split at h
    ·rename_i f hf;obtain⟨bd,es,cl,h1,h2,rfl,h4,h5⟩:=QIZ hs hf hm;have hg:(getObj bd.blk).run P w= .ok (.map es cl) w:=by simp[getObj,Sem.run,h4]
     refine⟨_,_,?_,VW ok (f n),h⟩;rcases HW h5 n 0 with⟨k1,k2⟩ | ⟨v,j,k1,k2,k3,k4⟩
     ·simp only[Instr.lookup,Sem.run_bind,run_underlying hu,Zd,hg,Sem.run_pure,JA hk,Jc hk k2,hz,k1];cases ok<;>rfl
     ·simp only[Instr.lookup,Sem.run_bind,run_underlying hu,Zd,hg,Sem.run_pure,JA hk,Jc hk k2,k1];cases ok<;>rfl
    ·exact h.elim
   ·obtain⟨rfl,_⟩:=ConcX.one hm;refine⟨_,_,?_,VW ok none,h⟩;have k2:Instr.findNow (.int .i64) (.int .i64 n) (#[]:Array MapEntry).toList 0=some none:=rfl;simp only[Instr.lookup,Sem.run_bind,run_underlying hu,Zd,Sem.run_pure,JA hk,Jc hk k2,hz];cases ok<;>rfl
   ·exact h.elim
  ·exact h.elim
 ·exact h.elim
theorem K4 {tb:TB}(htb:JZ P tb){t:Nat}{i:TyI}(hi:Xr P t i)(hs:HS w0 M ρ H w){m x y:AV}{vm vx vy:Value}(hm:ConcV w (ow M ρ H) ρ m vm)(hx:ConcV w (ow M ρ H) ρ x vx)(hy:ConcV w (ow M ρ H) ρ y vy){K:HP->Prop}(h:Uz tb i m x y H K):
  ∃w' H',(Instr.mapUpdate t vm vx vy).run P w= .ok () w'/\HS w0 M ρ H' w'/\Ext ρ H w ρ H' w'/\K H':=by
 unfold Uz at h;split at h
 ·rename_i kt him;obtain⟨et,hu,hk,hz⟩:=UA htb hi him;split at h
  ·rename_i k n b;obtain⟨rfl,_⟩:=ConcX.one hx;obtain⟨rfl,_⟩:=ConcX.one hy;split at h
   ·rename_i f hf;obtain⟨bd,es,cl,h1,h2,rfl,h4,h5⟩:=QIZ hs hf hm;have hg:(getObj bd.blk).run P w= .ok (.map es cl) w:=by simp[getObj,Sem.run,h4]
    have hlt:bd.blk<w.heap.size:=(Zg.1 h4).1;have hset: ∀es' cl',(setObj bd.blk (.map es' cl')).run P w= .ok () (w.putObj bd.blk (.map es' cl')):=fun es' cl'=>by simp[setObj,Sem.run,World.putObj,h4]
    have hwr: ∀es' cl',MapIs es'.toList (HU f n b)->HS w0 M ρ (upd H k (some (.mp (HU f n b)))) (w.putObj bd.blk (.map es' cl'))/\Ext ρ H w ρ (upd H k (some (.mp (HU f n b)))) (w.putObj bd.blk (.map es' cl')):=fun es' cl' hm=>
     hs.write (b':= .mp (HU f n b)) hf rfl rfl h1 h2 (fun j hj=>World.putObj_heap_other hj) World.putObj_size rfl rfl rfl (fun _=>⟨h2,es',cl',World.putObj_heap_same hlt,hm⟩)
    rcases HW h5 n 0 with⟨k1,k2⟩ | ⟨v,j,k1,k2,⟨e,k3,k5⟩,k4⟩
    ·obtain⟨a1,a2⟩:=hwr (es.push {key:= .int .i64 n,val:= .int .i64 b,born:=cl}) (cl+1) (by rw[Array.toList_push];exact h5.push k1 rfl rfl);refine⟨_,_,?_,a1,a2,h⟩;simp only[Instr.mapUpdate,Sem.run_bind,run_underlying hu,Zd,hg,JA hk,Jc hk k2,hset]
    ·have hj:es[j]? =some e:=by rw[<-Zy];exact k3
     have hjl:j<es.size:=(Zg.1 hj).1;have hkeep:(Instr.keyThatStays (.int .i64 n) (.int .i64 n)).run P w= .ok (.int .i64 n) w:=by
      have:Instr.sameBits 10000 (.int .i64 n) (.int .i64 n)=true:=by
       have:(10000:Nat)=9999+1:=rfl;rw[this,Instr.sameBits];simp
      simp[Instr.keyThatStays,this]
     have hmod:(es.modify j fun e=>{e with key:= .int .i64 n,val:= .int .i64 b}).toList=es.toList.set j {e with key:= .int .i64 n,val:= .int .i64 b}:=by
      apply List.ext_getElem?
      intro q;rw[Zy,Array.getElem?_modify,List.getElem?_set,Zy,Array.length_toList];by_cases hq:j=q
      ·subst hq;simp[hjl,(Zg.1 hj).2]
      ·simp[hq]
     obtain⟨a1,a2⟩:=hwr (es.modify j fun e=>{e with key:= .int .i64 n,val:= .int .i64 b}) cl (by rw[hmod];exact k4 _ _ rfl rfl);refine⟨_,_,?_,a1,a2,h⟩;rw[Nat.zero_add]at k2;simp only[Instr.mapUpdate,Sem.run_bind,run_underlying hu,Zd,hg,JA hk,Jc hk k2,hj,Option.map_some,Option.getD_some,k5,hkeep,hset]
   ·exact h.elim
  ·exact h.elim
 ·exact h.elim
end Go.Eng
namespace Go.Eng
open Go Go.RowKit
abbrev QLV:=Nat->String->Option Nat
def QEA (P:Program)(mt:QLV):Prop:= ∀t name f,mt t name=some f-> ∀v w,(method (P.types.size+Made.depth) t v name).run P w= .ok (f,v) w
def QIa (P:Program):QLV:=fun t name=>match P.info? t with
 | some ti=>match ti.methods.find? (·.name==name),P.underlying t with
  | some m,some u=>match m.path.toList,m.func,u with
   | [],some (_,_),.pointer _=>none
   | [],some (f,false),_=>some f
   | _,_,_=>none
  | _,_=>none
 | none=>none
theorem QIb (P:Program):QEA P (QIa P):=by
 intro t name f h v w;unfold QIa at h;split at h
 ·rename_i ti hti;split at h
  ·rename_i m u hm hu;split at h
   ·cases h
   ·rename_i f' _ h1 h2 hne;cases h
    have hd:P.types.size+Made.depth=P.types.size+99+1:=by unfold Made.depth;omega
    rw[hd];unfold method;have hx:(typeInfo t).run P w= .ok ti w:=by simp[typeInfo,hti]
    simp only[Sem.run_bind,hx,Zd,hm,h1,h2,follow,Sem.run_pure];have:(receiverAt t (.val v) false (if m.path.isEmpty then some ((name.splitOn ".").getLastD name)else none)).run P w= .ok v w:=by
     unfold receiverAt;simp only[Sem.run_bind,run_underlying hu,Zd];rename_i u _;cases u<;>first | (exact absurd rfl (hne _)) | simp[Place.get] | (simp only[Place.get,Sem.run_pure])
    rw[this];rfl
   ·cases h
  ·cases h
 ·cases h
structure Qh where
  tb:TB
  pr:PR
  pm:PM
  px:PX
  mt:QLV
  it:Nat->Option (Func×(Nat->List Nat×List (List Nat)))
  im:List (Nat×Nat×Bool)

structure Q5 (P:Program)(g:Nat)(tab:List Value)(T:Qh):Prop where
 tb:JZ P T.tb
 pr:QLU P g tab T.pr
 pm:QIW P g tab T.pm
 px:QOa P T.px
 mt:QEA P T.mt
 it: ∀f p,T.it f=some p->P.funcs[f]? =some p.1
 byte: ∀t i e j,T.tb t=some i->i.und= .slice e->T.tb e=some j->j.und= .int .u8->P.underlying e=some (.int .u8)
def imL:List (Nat×Nat×Bool)->Nat->Option (Nat×Bool)
  | [],_=>none
  | p::l,t=>bif t.beq p.1 then some p.2 else imL l t
def shT (T:Qh)(t:Nat)(i:TyI):List Sh:=match imL T.im t with
 | some p=>[.ifc p.1 p.2]
 | none=>QOY T.tb 8 i
def XC (T:Qh)(t:Nat)(K:TyI->Prop):Prop:=match T.tb t with | some i=>K i | none=>False
def KH (T:Qh)(i:TyI):Bool:=
 match i.und with
 | .slice e=>match T.tb e with
  | some j=>match j.und with
   | .int .u8=>true
   | _=>false
  | none=>false
 | _=>true
def YC (o:Option Nat):Nat:=o.getD 0
def QFs:List AV->Option (List Nat)
  | []=>some []
  | a::as=>match a,QFs as with
    | .x false [.p k 0],some ks=>some (k::ks)
    | _,_=>none

def opS (T:Qh)(ev:Operand->AV)(H:HP)(d:Nat)(K:KK):Op->Prop
  | .move x | .assign x=>K (ev x) H
  | .pick c a b=>match ev c with
    | .x false [.v (.bool t)]=>cond t (K (ev a) H) (K (ev b) H)
    | _=>False
  | .alloc t=>XC T t fun i=>QA0 i t d T.tb H K
  | .box t x=>XC T t fun i=>QOZ i t d (ev x) H K
  | .build t ps=>XC T t fun i=>V1 i (ps.toList.map fun p=>(p.1,ev p.2)) T.tb fun v=>K v H
  | .buildSlice t n ps=>XC T t fun i=>match i.und with
    | .slice e=>XC T e fun ei=>WM ei e n d (ps.toList.map fun p=>(p.1,ev p.2)) H K
    | _=>False
  | .load t a=>XC T t fun i=>QAB i (shT T t i) (ev a) H fun v=>K v H
  | .store t a v=>XC T t fun i=>QDv i (ev a) (ev v) H fun H'=>K .n H'
  | .nilCheck x=>match ev x with
    | .x false [.p k o]=>K (.x false [.p k o]) H
    | .x false [.e k i o]=>K (.x false [.e k i o]) H
    | .x false [.y sz xs i o]=>K (.x false [.y sz xs i o]) H
    | _=>False
  | .binOp op t x y _=>QGt T.tb t op (ev x) (ev y) fun v=>K v H
  | .unOp op _ x=>unA op (ev x) fun v=>K v H
  | .convert s t x=>XC T s fun i=>XC T t fun j=>bif KH T i&&KH T j then QAI i j (ev x) H fun v=>K v H else False
  | .makeSlice t l c=>XC T t fun i=>match i.und with
    | .slice e=>XC T e fun ei=>VD ei e d (ev l) (ev c) H K
    | _=>False
  | .slice t x lo hi mx=>XC T t fun i=>(match mx with
    | none=>V7 i (ev x) (lo.map ev) (hi.map ev) none H T.tb fun v=>K v H
    | some m=>(match hi with
      | none=>False
      | some y=>QA3 i (ev x) (lo.map ev) (some (ev y)) (some (ev m)) d H T.tb K))
  | .fieldAddr t x f=>XC T t fun i=>JN i (ev x) f T.tb fun v=>K v H
  | .field t x f=>XC T t fun i=>Vy i (ev x) f T.tb fun v=>K v H
  | .indexAddr t x ix=>XC T t fun i=>JO i (ev x) (ev ix) H T.tb fun v=>K v H
  | .index t x ix=>XC T t fun i=>V0 i (ev x) (ev ix) fun v=>K v H
  | .extract x n=>match ev x with
    | .t l=>match l[n]? with
      | some (b,cs)=>K (.x b cs) H
      | none=>False
    | _=>False
  | .makeFunc fn first cap=>match fn,first.toList,QFs (cap.toList.map ev)with
    | .func fid,[],some ks=>K (.x false [.f fid ks]) H
    | _,_,_=>False
  | .makeInterface t x=>XC T t fun i=>match i.und,ev x with
    | .interface _,_=>False
    | _,.x ag cs=>bif cs.all HE then K (.x false [.i t ag cs]) H else False
    | _,_=>False
  | .makeMap t r=>XC T t fun i=>match r with
    | none=>KF T.tb i d H K
    | some x=>(match ev x with
      | .x false [.v (.int _ _)]=>KF T.tb i d H K
      | _=>False)
  | .lookup t m x ok=>XC T t fun i=>Kk T.tb i (ev m) (ev x) ok H fun v=>K v H
  | .mapUpdate t m x y=>XC T t fun i=>Uz T.tb i (ev m) (ev x) (ev y) H fun H'=>K .n H'
  | .insert t m x y=>XC T t fun i=>Uz T.tb i (ev m) (ev x) (ev y) H fun H'=>K .n H'
  | .call c=>match c.callee with
    | .value f=>match ev f with
      | .x false [.v (.func (.func fid) ⟨[]⟩ ⟨[]⟩)]=>match T.px fid (c.args.toList.map ev)with
        | some R=>R fun v=>K v H
        | none=>QCP T.pr T.pm fid d (c.args.toList.map ev) H K
      | .x false [.f fid ks]=>QCP T.pr T.pm fid d (c.args.toList.map ev++ks.map fun k=> .x false [.p k 0]) H K
      | _=>False
    | .invoke r name=>match ev r with
      | .x false [.i t ag cs]=>(match T.mt t name with
        | some fid=>QCP T.pr T.pm fid d (.x ag cs::c.args.toList.map ev) H K
        | none=>False)
      | _=>False
    | .builtin b=>match b,c.args.toList,c.argTypes.toList with
      | .len,[a],[t]=>XC T t fun i=>QGu i (ev a) fun v=>K v H
      | .append,[a,x],[t,t']=>bif t.beq t' then XC T t fun i=>(match i.und with
        | .slice e=>XC T e fun ei=>QA7 ei e d (ev a) (ev x) H K
        | _=>False)else False
      | .min,[x,y],_=>Wl false (ev x) (ev y) fun v=>K v H
      | .max,[x,y],_=>Wl true (ev x) (ev y) fun v=>K v H
      | _,_,_=>False
  | _=>False

def evA (T:TM):Operand->AV
 | .tmp t=>T t
 | .const (.agg cs)=> .x true (cs.toList.map .v)
 | .const (.tuple _)=> .u
 | .const v=> .x false [.v v]
 | .func f=> .x false [.v (.func (.func f) #[] #[])]
 | .global _=> .u
variable {P:Program}{w0:World}{M:Ctx}{N:Nat}{ρ:Env}{σ:St}{a:Act}{w:World}
def U0:Operand->Bool
 | .const (.agg cs)=>cs.toList.all (·.oneCell')
 | _=>true
theorem QA9 (h:Sim w0 M N ρ σ a w)(x:Operand)(hx:U0 x=true):ConcV w (ow M ρ σ.H) ρ (evA σ.T x) (a.eval x):=by
 cases x with
 | tmp t=>exact h.tmps t
 | const v=>
  cases v with
  | agg cs=>exact⟨cs.toList,CC.vals hx,rfl⟩
  | tuple vs=>trivial
  | _=>exact QZ rfl
 | func f=>exact QZ rfl
 | global g=>trivial
theorem Q4 {T:Qh}(ht:JZ P T.tb){t:Nat}{K:TyI->Prop}(h:XC T t K): ∃i,Xr P t i/\T.tb t=some i/\K i:=by
 unfold XC at h;split at h
 ·rename_i i hi;exact⟨i,ht _ _ hi,hi,h⟩
 ·exact h.elim
def QNk (o:Op):Bool:=o.operands.toList.all U0
theorem HX {ev:Operand->AV}{O:Nat->Prop}(ps:Array (Nat×Operand))(h: ∀x∈ps.toList.map (·.2),ConcV w O ρ (ev x) (a.eval x)):
  V5 w O ρ (ps.toList.map fun p=>(p.1,ev p.2)) (ps.map fun(i,x)=>(i,a.eval x)).toList:=by
 refine⟨by simp,fun j i a' i' v h1 h2=> ?_⟩;simp only[List.getElem?_map,Option.map_eq_some_iff,Yh]at h1 h2;obtain⟨p,hp,e1⟩:=h1;obtain⟨q,hq,e2⟩:=h2;rw[hp]at hq;cases hq
 cases e1
 cases e2
 exact⟨rfl,h p.2 (List.mem_map.2 ⟨p,Zo hp,rfl⟩)⟩
theorem Jz {ev:Operand->AV}{O:Nat->Prop}: ∀(xs:List Operand),(∀x∈xs,ConcV w O ρ (ev x) (a.eval x))->Qo w O ρ (xs.map ev) (xs.map a.eval)
 | [],_=> .nil
 | x::xs,h=> .cons (h x (by simp)) (Jz xs fun y hy=>h y (by simp[hy]))
theorem Qo.app {O:Nat->Prop}{as bs:List AV}{vs us:List Value}(h:Qo w O ρ as vs)(k:Qo w O ρ bs us):Qo w O ρ (as++bs) (vs++us):=by
 induction h with
 | nil=>exact k
 | cons hx _ ih=>exact .cons hx ih
theorem HY {ev:Operand->AV}{O:Nat->Prop}(x:Option Operand)(h: ∀y,x=some y->ConcV w O ρ (ev y) (a.eval y)): ∀b,x.map ev=some b-> ∃v,x.map a.eval=some v/\ConcV w O ρ b v:=by
 intro b hb;cases x with
 | none=>cases hb
 | some x=>simp at hb;subst hb;exact⟨_,rfl,h x rfl⟩
theorem HZ {ev:Operand->AV}(x:Option Operand):x.map ev=none->x.map a.eval=none:=by cases x<;>simp
theorem QEB {O:Nat->Prop}{as:List AV}{vs:List Value}(h:Qo w O ρ as vs): ∀{ks:List Nat},QFs as=some ks->(∀k∈ks,∃bd,ρ k=some bd/\bd.isNil=false)/\vs=ks.map (J3 ρ):=by
 induction h with
 | nil=>intro ks h;cases h;exact⟨by simp,rfl⟩
 | cons hx _ ih=>
  intro ks h;unfold QFs at h;split at h
  ·rename_i k ks' h2;cases h
   obtain⟨vals,hcc,hv⟩:=hx;simp at hv;subst hv;cases hcc with
   | p hk hn _=>
    obtain⟨i1,i2⟩:=ih h2;exact⟨by simpa using⟨⟨_,hk,hn⟩,i1⟩,by rw[i2,Zz,Y4 hk]⟩
  ·cases h
theorem QAJ {O:Nat->Prop}: ∀{ks:List Nat},(∀k∈ks,∃bd,ρ k=some bd/\bd.isNil=false)->Qo w O ρ (ks.map fun k=> .x false [.p k 0]) (ks.map (J3 ρ)):=by
 intro ks;induction ks with
 | nil=>exact fun _=> .nil
 | cons k ks ih=>
  intro h;obtain⟨bd,e,hn⟩:=h k (by simp);refine .cons ⟨_,?_,rfl⟩ (ih fun k hk=>h k (by simp[hk]));rw[Y4 e];exact .p e hn .nil
theorem CC.imm0 {O:Nat->Prop}{ρ ρ':Env}{cs:List Ch}{vs:List Value}(h:CC w O ρ cs vs):cs.all HE=true->CC w O ρ' cs vs:=by
 induction h with
 | nil=>exact fun _=> .nil
 | v a _ ih=>exact fun h=> .v a (ih (by simpa [HE]using h))
 | r a _ ih=>exact fun h=> .r a (ih (by simpa [HE]using h))
 | b a _ ih=>exact fun h=> .b a (ih (by simpa [HE]using h))
 | s0 _ ih=>exact fun h=> .s0 (ih (by simpa [HE]using h))
 | s00 _ ih=>exact fun h=> .s00 (ih (by simpa [HE]using h))
 | s a b c _ _ ih=>exact fun h=> .s a b c (ih (by simpa [HE]using h))
 | i a b _ _ ih=>exact fun h=> .i a b (ih (by simpa [HE]using h))
 | _=>exact fun h=>by simp[HE]at h
theorem QGw {T:Qh}(hT:Q5 P M.g M.tab T){H:HP}(hs:HS w0 M ρ H w){ev:Operand->AV}{o:Oper}{d:Nat}{K:KK}(hev: ∀x∈o.op.operands.toList,ConcV w (ow M ρ H) ρ (ev x) (a.eval x))(h:opS T ev H d K o.op):
  Good P w0 M ρ H w K ((execOp a.eval o).run P w):=by
 obtain⟨dst,op,ty,pos,after,guard⟩:=o;have vok: ∀{s:Sem Value} {v:Value},s.run P w= .ok v w->(do pure (.value (<-s)):Sem Next).run P w= .ok (.value v) w:=fun h=>by simp[h]
 have vok': ∀{s:Sem Value} {v:Value} {w':World},s.run P w= .ok v w'->(do pure (.value (<-s)):Sem Next).run P w= .ok (.value v) w':=fun h=>by simp[h]
 have rd: ∀{s:Sem Value},(∃v av,s.run P w= .ok v w/\ConcV w (ow M ρ H) ρ av v/\K av H)->Good P w0 M ρ H w K ((do pure (.value (<-s)):Sem Next).run P w):=fun⟨v,av,h1,h2,h3⟩=> .val hs (vok h1) h2 h3;have mk: ∀{s:Sem Value},(∃v w' ρ' H' av,s.run P w= .ok v w'/\HS w0 M ρ' H' w'/\Ext ρ H w ρ' H' w'/\ConcV w' (ow M ρ' H') ρ' av v/\K av H')->Good P w0 M ρ H w K ((do pure (.value (<-s)):Sem Next).run P w):=
  fun⟨v,w',ρ',H',av,h1,h2,h3,h4,h5⟩=>by rw[vok' h1];exact⟨ρ',H',av,h2,h3,h4,h5⟩
 cases op<;>simp only[opS]at h<;>simp only[Op.operands]at hev
 case move x=>exact .val hs rfl (hev x (by simp)) h
 case assign x=>exact .val hs rfl (hev x (by simp)) h
 case pick c x y=>
  have hcc:=hev c (by simp);split at h
  ·rename_i t he;rw[he]at hcc;have hv:=(ConcX.one hcc).1;cases t with
   | true=>exact .val hs (by simp[execOp,hv,asBool]) (hev x (by simp)) h
   | false=>exact .val hs (by simp[execOp,hv,asBool]) (hev y (by simp)) h
  ·exact h.elim
 case alloc t=>
  obtain⟨i,hi,_,h⟩:=Q4 hT.tb h;exact mk (QA1 hT.tb hi hs h)
 case box t x=>
  obtain⟨i,hi,_,h⟩:=Q4 hT.tb h;exact mk (QD4 hs (hev x (by simp)) h)
 case build t ps=>
  obtain⟨i,hi,_,h⟩:=Q4 hT.tb h;have hp:=HX ps (fun x hx=>hev x (by simpa using hx));exact rd (QAx hT.tb hi (by simp) hp.2 h)
 case buildSlice t n ps=>
  obtain⟨i,hi,_,h⟩:=Q4 hT.tb h;split at h
  ·rename_i e hu;obtain⟨ei,hei,_,h⟩:=Q4 hT.tb h;have hund:P.underlying t=some (.slice e):=by rw[hi.und,hu]
   have hp:=HX ps (fun x hx=>hev x (by simpa using hx));exact mk (VU hund hei hs hp h)
  ·exact h.elim
 case load t x=>
  obtain⟨i,hi,_,h⟩:=Q4 hT.tb h;exact rd (QCE hi hs (hev x (by simp)) h)
 case store t x y=>
  obtain⟨i,hi,_,h⟩:=Q4 hT.tb h;obtain⟨w',H',h1,h2,h3,h4⟩:=QAs hi hs (hev x (by simp)) (hev y (by simp)) h;have:(execOp a.eval ⟨dst,.store t x y,ty,pos,after,guard⟩).run P w= .ok .skip w':=by simp[execOp,h1]
  rw[this];exact⟨ρ,H',h2,h3,h4⟩
 case nilCheck x=>
  have hcx:=hev x (by simp);have fin: ∀{av:AV},ConcV w (ow M ρ H) ρ av (a.eval x)->(∃ad,a.eval x= .pointer (some ad))->K av H->Good P w0 M ρ H w K ((execOp a.eval ⟨dst,.nilCheck x,ty,pos,after,guard⟩).run P w):=
   fun hcv ⟨ad,e⟩ hk=> .val hs (by simp[execOp,e]) (e▸hcv) hk
  split at h
  ·rename_i he;rw[he]at hcx;refine fin hcx ?_ h
   obtain⟨vals,hcc,hv⟩:=hcx;simp at hv;subst hv;generalize a.eval x=v at hcc;cases hcc;exact⟨_,rfl⟩
  ·rename_i he;rw[he]at hcx;refine fin hcx ?_ h
   obtain⟨vals,hcc,hv⟩:=hcx;simp at hv;subst hv;generalize a.eval x=v at hcc;cases hcc;exact⟨_,rfl⟩
  ·rename_i he;rw[he]at hcx;refine fin hcx ?_ h
   obtain⟨vals,hcc,hv⟩:=hcx;simp at hv;subst hv;generalize a.eval x=v at hcc;cases hcc;exact⟨_,rfl⟩
  ·exact h.elim
 case binOp op xt x y yt=>
  exact rd (QD3 hT.tb (hev x (by simp)) (hev y (by simp)) h)
 case unOp op xt x=>exact rd (QGp (hev x (by simp)) h)
 case convert s t x=>
  obtain⟨i,hi,ti,h⟩:=Q4 hT.tb h;obtain⟨j,hj,tj,h⟩:=Q4 hT.tb h;cases hb:KH T i&&KH T j with
  | false=>rw[hb]at h;exact h.elim
  | true=>
   rw[hb]at h;simp only[R7]at h;simp only[Za]at hb;have by8: ∀{t:Nat} {i:TyI},T.tb t=some i->KH T i=true-> ∀e,i.und= .slice e->P.underlying e=some (.int .u8):=by
    intro t i ti hb e he;unfold KH at hb;rw[he]at hb;simp only at hb;split at hb
    ·rename_i j' hj';split at hb
     ·rename_i hu;exact hT.byte _ _ _ _ ti he hj' hu
     ·cases hb
    ·cases hb
   obtain⟨u,w',av,h1,h2,h3,h4,h5⟩:=QCQ hi hj (by8 ti hb.1) (by8 tj hb.2) hs (hev x (by simp)) h;exact mk ⟨u,w',ρ,H,av,h1,h2,h3,h4,h5⟩
 case makeSlice t l c=>
  obtain⟨i,hi,_,h⟩:=Q4 hT.tb h;split at h
  ·rename_i e hu;obtain⟨ei,hei,_,h⟩:=Q4 hT.tb h;exact mk (V6 (by rw[hi.und,hu]) hei hs (hev l (by simp)) (hev c (by simp)) h)
  ·exact h.elim
 case slice t x lo hi mx=>
  obtain⟨i,hi',_,h⟩:=Q4 hT.tb h;cases mx with
  | none=>exact rd (QA2 hT.tb hi' hs (hev x (by simp)) (HY lo (fun y hy=>hev y (by simp[hy]))) (HZ lo) (HY hi (fun y hy=>hev y (by simp[hy]))) (HZ hi) (fun _=>rfl) h)
  | some m=>
   cases hi with
   | none=>exact h.elim
   | some y=>exact mk (Gv hT.tb hi' hs (hev x (by simp)) (HY lo (fun y hy=>hev y (by simp[hy]))) (HZ lo) (fun a ha=>⟨_,rfl,by cases ha;exact hev y (by simp)⟩) (fun h=>by cases h) (fun a ha=>⟨_,rfl,by cases ha;exact hev m (by simp)⟩) (fun h=>by cases h) h)
 case fieldAddr t x f=>
  obtain⟨i,hi,_,h⟩:=Q4 hT.tb h;exact rd (Vx hT.tb hi (hev x (by simp)) h)
 case field t x f=>
  obtain⟨i,hi,_,h⟩:=Q4 hT.tb h;exact rd (QAv hT.tb hi (hev x (by simp)) h)
 case indexAddr t x ix=>
  obtain⟨i,hi,_,h⟩:=Q4 hT.tb h;exact rd (Vz hT.tb hi hs (hev x (by simp)) (hev ix (by simp)) h)
 case index t x ix=>
  obtain⟨i,hi,_,h⟩:=Q4 hT.tb h;exact rd (QAw hi (hev x (by simp)) (hev ix (by simp)) h)
 case extract x n=>
  have hcx:=hev x (by simp);split at h
  ·rename_i l he;rw[he]at hcx;obtain⟨vs,hl,hv⟩:=hcx;split at h
   ·rename_i b cs hn;have key: ∀{l:List (Bool×List Ch)} {vs:List Value},W5 w (ow M ρ H) ρ l vs-> ∀{n:Nat} {b:Bool} {cs:List Ch},l[n]? =some (b,cs)-> ∃v,vs[n]? =some v/\ConcX w (ow M ρ H) ρ b cs v:=by
     intro l vs h;induction h with
     | nil=>intro n b cs h;simp at h
     | cons hx _ ih=>
      intro n b cs h;cases n with
      | zero=>simp at h;obtain⟨rfl,rfl⟩:=h;exact⟨_,rfl,hx⟩
      | succ n=>simpa using ih (by simpa using h)
    obtain⟨v,h1,h2⟩:=key hl hn;exact rd ⟨v,.x b cs,by simp[Instr.extract,hv,h1],h2,h⟩
   ·exact h.elim
  ·exact h.elim
 case makeFunc fn first captured=>
  split at h
  ·rename_i fid ks h1 h2;have e1:first= #[]:=by rw[<-Zj (xs:=first),h1]
   subst e1;obtain⟨p1,p2⟩:=QEB (Jz captured.toList (fun x hx=>hev x (by simpa using hx))) h2;refine .val (v:= .func (.func fid) #[] (ks.map (J3 ρ)).toArray) (av:= .x false [.f fid ks]) hs ?_ ⟨_,.f p1 .nil,rfl⟩ h
   have e2:captured.map a.eval=(ks.map (J3 ρ)).toArray:=by rw[<-p2];apply Yd;simp
   simp[execOp,Instr.makeFunc,e2]
  ·exact h.elim
 case makeInterface t x=>
  obtain⟨i,hi,_,h⟩:=Q4 hT.tb h;have hx:=hev x (by simp);split at h
  ·exact h.elim
  ·rename_i ag cs he _;rw[he]at hx;cases hb:cs.all HE with
   | false=>rw[hb]at h;exact h.elim
   | true=>
    rw[hb]at h;simp only[R7]at h;obtain⟨vals,hcc,hv⟩:=hx;refine .val (v:= .iface t (a.eval x)) (av:= .x false [.i t ag cs]) hs ?_ ⟨_,.i (hcc.imm0 hb) hv .nil,rfl⟩ h
    have:(Instr.makeInterface t (a.eval x)).run P w= .ok (.iface t (a.eval x)) w:=by
     simp only[Instr.makeInterface,Sem.run_bind,run_underlying hi.und,Zd,Sem.run_pure]
    simp[execOp,this]
  ·exact h.elim
 case makeMap t r=>
  obtain⟨i,hi,_,h⟩:=Q4 hT.tb h;cases r with
  | none=>exact mk (KG hs h none (.inl rfl) hT.tb hi)
  | some x=>
   have hx:=hev x (by simp);simp only at h;split at h
   ·rename_i k n he;rw[he]at hx;obtain⟨hv,_⟩:=ConcX.one hx;exact mk (KG hs h (some (a.eval x)) (.inr ⟨k,n,by rw[hv]⟩) hT.tb hi)
   ·exact h.elim
 case lookup t m x ok=>
  obtain⟨i,hi,_,h⟩:=Q4 hT.tb h;exact rd (Gx hT.tb hi hs (hev m (by simp)) (hev x (by simp)) h)
 case mapUpdate t m x y=>
  obtain⟨i,hi,_,h⟩:=Q4 hT.tb h;obtain⟨w',H',h1,h2,h3,h4⟩:=K4 hT.tb hi hs (hev m (by simp)) (hev x (by simp)) (hev y (by simp)) h;have:(execOp a.eval ⟨dst,.mapUpdate t m x y,ty,pos,after,guard⟩).run P w= .ok .skip w':=by simp[execOp,h1]
  rw[this];exact⟨ρ,H',h2,h3,h4⟩
 case insert t m x y=>
  obtain⟨i,hi,_,h⟩:=Q4 hT.tb h;obtain⟨w',H',h1,h2,h3,h4⟩:=K4 hT.tb hi hs (hev m (by simp)) (hev x (by simp)) (hev y (by simp)) h;have:(execOp a.eval ⟨dst,.insert t m x y,ty,pos,after,guard⟩).run P w= .ok .skip w':=by simp[execOp,h1]
  rw[this];exact⟨ρ,H',h2,h3,h4⟩
 case call c=>
  obtain⟨callee,args,argTypes⟩:=c;simp only at h;split at h
  ·rename_i f;simp only[Call.operands]at hev;have hcf:=hev f (by simp);split at h
   ·rename_i fid he;rw[he]at hcf;have hv:=(ConcX.one hcf).1;have hargs:=Jz args.toList (fun x hx=>hev x (by simp;exact .inr (by simpa using hx)));have e:(args.toList.map a.eval).toArray=args.map a.eval:=by apply Yd;simp
    split at h
    ·rename_i R hR;obtain⟨v,av,h1,h2,h3⟩:=hT.px _ _ _ hR _ h w _ ρ _ hargs;refine .val (v:=v) hs ?_ h2 h3
     rw[e]at h1;simp[execOp,resolve,hv,Deferred.ofValue,invoke];exact h1
    ·obtain⟨hen,hcalls⟩:=KE hT.pr hT.pm hs hargs h;have:(execOp a.eval ⟨dst,.call ⟨.value f,args,argTypes⟩,ty,pos,after,guard⟩).run P w= .ok (.enter fid (args.map a.eval)) w:=by
      simp[execOp,resolve,hv,Deferred.ofValue,invoke];exact hen _ _
     rw[this];refine⟨rfl,?_⟩;rw[e]at hcalls;exact hcalls
   ·rename_i fid ks he;rw[he]at hcf;obtain⟨vals,hcc,hv⟩:=hcf;simp at hv;subst hv;generalize hvf:a.eval f=vf at hcc;cases hcc with
    | f hk _=>
    have hargs:=Jz args.toList (fun x hx=>hev x (by simp;exact .inr (by simpa using hx)));have e:(args.toList.map a.eval++ks.map (J3 ρ)).toArray=args.map a.eval++(ks.map (J3 ρ)).toArray:=by apply Yd;simp
    obtain⟨hen,hcalls⟩:=KE hT.pr hT.pm hs (hargs.app (QAJ hk)) h;have:(execOp a.eval ⟨dst,.call ⟨.value f,args,argTypes⟩,ty,pos,after,guard⟩).run P w= .ok (.enter fid (args.map a.eval++(ks.map (J3 ρ)).toArray)) w:=by
     simp only[execOp,resolve,hvf,Deferred.ofValue,invoke,Sem.run_bind,Sem.run_pure,Zd,Array.empty_append];exact hen _ _
    rw[this];refine⟨rfl,?_⟩;rw[e]at hcalls;exact hcalls
   ·exact h.elim
  ·rename_i r name;simp only[Call.operands]at hev;have hcr:=hev r (by simp);split at h
   ·rename_i t ag cs he;rw[he]at hcr;split at h
    ·rename_i fid hm;obtain⟨vals,hcc,hv⟩:=hcr;simp at hv;subst hv;generalize hvr:a.eval r=vr at hcc;cases hcc with
     | @i _ _ _ _ ivs iv _ _ hx hvi _=>
     have hargs:=Jz args.toList (fun x hx=>hev x (by simp;exact .inr (by simpa using hx)));obtain⟨hen,hcalls⟩:=KE hT.pr hT.pm hs (.cons (show ConcV w (ow M ρ H) ρ (.x ag cs) iv from⟨_,hx.mono (.refl _ _) (fun _ _ h=>h) (fun _ _ h=>by cases h),hvi⟩) hargs) h;have e:(iv::args.toList.map a.eval).toArray= #[iv]++args.map a.eval:=by apply Yd;simp
     have e2:(#[Value.iface t iv]++args.map a.eval).extract 1 (#[Value.iface t iv]++args.map a.eval).size=args.map a.eval:=by
      apply Yd;simp only[Array.toList_extract,Array.toList_append,List.cons_append,List.nil_append,Yh,List.extract_eq_take_drop,List.drop_succ_cons,List.drop_zero,Array.size_append];exact List.take_of_length_le (by simp)
     have:(execOp a.eval ⟨dst,.call ⟨.invoke r name,args,argTypes⟩,ty,pos,after,guard⟩).run P w= .ok (.enter fid (#[iv]++args.map a.eval)) w:=by
      have hp:(program).run P w= .ok P w:=rfl;have h0:(#[Value.iface t iv]++args.map a.eval)[0]? =some (.iface t iv):=by rw[Array.getElem?_append_left (by simp)];rfl
      simp only[execOp,resolve,hvr,invoke,Sem.run_bind,Sem.run_pure,Zd,h0,e2,callMethod,hp,hT.mt t name fid hm iv w];exact hen _ _
     rw[this];refine⟨rfl,?_⟩;rw[e]at hcalls;exact hcalls
    ·exact h.elim
   ·exact h.elim
  ·rename_i b;have hca: ∀x∈args.toList,ConcV w (ow M ρ H) ρ (ev x) (a.eval x):=fun x hx=>hev x (by simp only[Call.operands];simpa using hx);split at h
   ·rename_i x t h1 h2;obtain⟨i,hi,_,h⟩:=Q4 hT.tb h;have e1:args= #[x]:=by rw[<-Zj (xs:=args),h1]
    have e2:argTypes= #[t]:=by rw[<-Zj (xs:=argTypes),h2]
    subst e1 e2;obtain⟨u,av,r1,r2,r3⟩:=QD7 (tt:=ty) hi (hca x (by simp)) h;refine .val hs ?_ r2 r3
    simp[execOp,resolve,invoke,builtin,r1]
   ·rename_i x y t t' h1 h2;cases hb:t.beq t' with
    | false=>rw[hb]at h;exact h.elim
    | true=>
     rw[hb]at h;simp only[R7]at h;have:=Zb hb;subst this;obtain⟨i,hi,_,h⟩:=Q4 hT.tb h;split at h
     ·rename_i e hu;obtain⟨ei,hei,_,h⟩:=Q4 hT.tb h;have e1:args= #[x,y]:=by rw[<-Zj (xs:=args),h1]
      have e2:argTypes= #[t,t]:=by rw[<-Zj (xs:=argTypes),h2]
      subst e1 e2;obtain⟨u,w',ρ',H',av,r1,r2,r3,r4,r5⟩:=Gw (tt:=ty) (by rw[hi.und,hu]) hei hs (hca x (by simp)) (hca y (by simp)) h;have:(execOp a.eval ⟨dst,.call ⟨.builtin .append, #[x,y], #[t,t]⟩,ty,pos,after,guard⟩).run P w= .ok (.value u) w':=by
       simp[execOp,resolve,invoke,builtin,r1]
      rw[this];exact⟨ρ',H',av,r2,r3,r4,r5⟩
     ·exact h.elim
   ·rename_i x y h1;unfold Wl at h;split at h
    ·rename_i e1 e2;rw[h1]at hca;have hx:=hca x (by simp);have hy:=hca y (by simp);rw[e1]at hx;rw[e2]at hy;have e1:args= #[x,y]:=by rw[<-Zj (xs:=args),h1]
     subst e1;refine .val hs ?_ (QZ rfl) h
     simp[execOp,resolve,invoke,builtin,Builtin.min_,Builtin.min2,(ConcX.one hx).1,(ConcX.one hy).1]
    ·exact h.elim
   ·rename_i x y h1;unfold Wl at h;split at h
    ·rename_i e1 e2;rw[h1]at hca;have hx:=hca x (by simp);have hy:=hca y (by simp);rw[e1]at hx;rw[e2]at hy;have e1:args= #[x,y]:=by rw[<-Zj (xs:=args),h1]
     subst e1;refine .val hs ?_ (QZ rfl) h
     simp[execOp,resolve,invoke,builtin,Builtin.max_,Builtin.max2,(ConcX.one hx).1,(ConcX.one hy).1]
    ·exact h.elim
   ·exact h.elim
end Go.Eng
namespace Go.Eng
open Go Go.RowKit
def XJ (k:Nat)(l:List Nat):Bool:=l.any (Nat.beq k)
theorem Q9 {k:Nat}{l:List Nat}:XJ k l=true↔k∈l:=by
 simp only[XJ,List.any_eq_true];constructor
 ·rintro⟨x,hx,h⟩;exact Zb h▸hx
 ·intro h;exact⟨k,h,Nat.beq_refl k⟩
theorem Y1 {k:Nat}{l:List Nat}:XJ k l=false↔k∉l:=by
 rw[<-Q9];simp
def Qe:List Ch->List Nat
 | []=>[]
 | .p k _::cs=>k::Qe cs
 | .w k _ _::cs=>k::Qe cs
 | .e k _ _::cs=>k::Qe cs
 | .f _ ks::cs=>ks++Qe cs
 | .m k::cs=>k::Qe cs
 | .yl k::cs=>k::Qe cs
 | .q k _ _::cs=>k::Qe cs
 | .z k _ _ _ _::cs=>k::Qe cs
 | _::cs=>Qe cs
def K5:List Ch->List Nat
  | []=>[]
  | .p k _::cs=>k::(k+5000)::K5 cs
  | .w k _ _::cs=>k::K5 cs
  | .e k _ _::cs=>k::K5 cs
  | .f _ ks::cs=>ks++K5 cs
  | .m k::cs=>k::K5 cs
  | .yl k::cs=>k::K5 cs
  | .q k _ _::cs=>k::K5 cs
  | .z k _ _ _ _::cs=>k::K5 cs
  | _::cs=>K5 cs

def QQL:AV->List Nat
 | .x _ cs=>K5 cs
 | _=>[]
def QFt (ev:Operand->AV)(op:Op):List Nat:=op.operands.toList.flatMap fun x=>QQL (ev x)
def fp (ev:Operand->AV)(op:Op):List Nat:=match op with
  | .move _ | .assign _ | .extract _ _ | .pick _ _ _=>[]
  | op=>QFt ev op

def Xx (F D:List Nat)(H:HP):HP:=fun k=>bif XJ k F then H k else bif XJ k D then none else some .dead
def mrg (F:List Nat)(H1 H:HP):HP:=fun k=>bif XJ k F then H1 k else H k

variable {P:Program}{w0:World}{M:Ctx}{ρ:Env}{H:HP}{w:World}
theorem Xy {F D:List Nat}{k:Nat}(h:k∈F):Xx F D H k=H k:=by simp[Xx,Q9.2 h]
theorem QGx {F D:List Nat}{k:Nat}(h:k∉F)(h':k∉D):Xx F D H k=some .dead:=by
 simp[Xx,Y1.2 h,Y1.2 h']
theorem XH {F D:List Nat}{k:Nat}(h:XI (Xx F D H k)=true):k∈F/\XI (H k)=true:=by
 unfold Xx at h;cases hm:XJ k F
 ·rw[hm]at h;cases hd:XJ k D<;>rw[hd]at h<;>cases h
 ·rw[hm]at h;exact⟨Q9.1 hm,h⟩
theorem WR {F:List Nat}{H1:HP}{k:Nat}(h:k∈F):mrg F H1 H k=H1 k:=by simp[mrg,Q9.2 h]
theorem Y0 {F:List Nat}{H1:HP}{k:Nat}(h:k∉F):mrg F H1 H k=H k:=by simp[mrg,Y1.2 h]
def Uf (M:Ctx)(ρ:Env)(H:HP)(F D:List Nat):Ctx where
  m:=own ρ (Xx F D H)
  x:=fun b=>M.x b∨(own ρ H b/\ ¬own ρ (Xx F D H) b)
  g:=M.g
  tab:=M.tab
  pin:=M.pin
  lps:=M.lps
  stk:=M.stk
  nd:=M.nd

theorem UB {F D:List Nat}{b:Nat}(h:own ρ (Xx F D H) b):own ρ H b:=by
 obtain⟨k,bd,a1,a2,a3,a4⟩:=h;exact⟨k,bd,a1,a2,by rw[Xy (XH a4).1]at a3;exact a3,(XH a4).2⟩
theorem QCS {F D:List Nat}(b:Nat):ow (Uf M ρ H F D) ρ (Xx F D H) b↔ow M ρ H b:=by
 constructor
 ·rintro((h | ⟨h,_⟩) | h)
  ·exact .inl h
  ·exact .inr h
  ·exact .inr (UB h)
 ·rintro(h | h)
  ·exact .inl (.inl h)
  ·by_cases h':own ρ (Xx F D H) b
   ·exact .inr h'
   ·exact .inl (.inr ⟨h,h'⟩)
theorem CC.ow_iff {O O':Nat->Prop}(h: ∀b,O' b↔O b){cs:List Ch}{vs:List Value}(hc:CC w O ρ cs vs):CC w O' ρ cs vs:=hc.mono (.refl _ _) (fun b _ h'=>(h b).1 h') (fun _ _ h=>h)
theorem ConcV.ow_iff {O O':Nat->Prop}(h: ∀b,O' b↔O b){av:AV}{v:Value}(hc:ConcV w O ρ av v):ConcV w O' ρ av v:=hc.mono (.refl _ _) (fun b _ h'=>(h b).1 h') (fun _ _ h=>h)
theorem BlkOK.mono {Lp:Nat->Option Loop}{w w':World}{O O':Nat->Prop}{ρ ρ':Env}(hk:Jr O w w')(hO: ∀b,b<w.heap.size->O' b->O b)(hρ: ∀k bd,ρ k=some bd->ρ' k=some bd){bd:Xk}{b:Blk}
  (hb:bd.isNil=false->XI (some b)=true-> ∀j,XS bd (some b) j->w'.heap[j]? =w.heap[j]?) (hc:BlkOK Lp w O ρ bd b):BlkOK Lp w' O' ρ' bd b:=by
 cases b with
 | box t cs=>
  obtain⟨h1,vals,h2,h3⟩:=hc;exact⟨h1,vals,(hb h1 rfl _ Qs).trans h2,h3.mono hk hO hρ⟩
 | row t sz xs=>
  obtain⟨h1,h2,h3 | ⟨h3,arr,h4,h5,h6,h7⟩⟩:=hc
  ·exact⟨h1,h2,.inl h3⟩
  ·exact⟨h1,h2,.inr ⟨h3,arr,(hb h3 rfl _ Qs).trans h4,h5,h6,fun i x hx=>(h7 i x hx).mono hk hO (fun _ _ h=>h)⟩⟩
 | lp s=>obtain⟨h1,r,h2,h3⟩:=hc;exact⟨h1,r,(hb h1 rfl _ Qs).trans h2,h3⟩
 | mp f=>obtain⟨h1,es,cl,h2,h3⟩:=hc;exact⟨h1,es,cl,(hb h1 rfl _ Qs).trans h2,h3⟩
 | nst t sz o t2 sz2 xs=>
  obtain⟨h1,h2,h3,h4,arr,h5,h6,h7,h8⟩:=hc;exact⟨h1,h2,h3,h4,arr,(hb h1 rfl _ Qs).trans h5,h6,h7,fun i x β hx hβ=>(h8 i x β hx hβ).mono hk hO (hb h1 rfl β (.inr (Zo hβ)))⟩
 | dead=>trivial
theorem HS.inside (hs:HS w0 M ρ H w){F D:List Nat}(hD: ∀d∈D,H d=none):HS w (Uf M ρ H F D) ρ (Xx F D H) w:=by
  have hown: ∀b,own ρ (Xx F D H) b->b<w.heap.size/\(w0.heap.size<=b∨M.m b):=by
    rintro b ⟨k,bd,a1,a2,a3,a4⟩;exact hs.rng k bd a1 a2 (XH a4).2 b (by rw[Xy (XH a4).1]at a3;exact a3)
  refine⟨rfl,rfl,rfl,Zx _,⟨hs.globw,?_,Zh hs.glob.2.2.1 hs.size,?_⟩,fun _ _ _=>rfl,?_,?_,?_,?_⟩
  · intro h;rcases(hown _ h).2 with h' | h'
    · have:=hs.glob.2.2.1;simp only[Uf]at h';omega
    · exact hs.glob.2.1 h'
  · rintro b (h | ⟨h,h'⟩)
    · refine⟨Zh (hs.glob.2.2.2 b h).1 hs.size,fun ho=> ?_⟩;rcases(hown b ho).2 with h' | h'
      · have:=(hs.glob.2.2.2 b h).1;omega
      · exact(hs.glob.2.2.2 b h).2 h'
    · exact⟨HO hs (.inr h),h'⟩
  · intro k b hk hl;have hkk:k∈F/\H k=some b:=by
      have:=XH (F:=F) (D:=D) (H:=H) (k:=k) (by rw[hk];exact hl);exact⟨this.1,by rw[Xy this.1]at hk;exact hk⟩
    obtain⟨bd,e,ok⟩:=hs.blk k b hkk.2 hl;exact⟨bd,e,ok.mono (.refl _ _) (fun b _ h=>(QCS b).1 h) (fun _ _ h=>h) (fun _ _ _ _=>rfl)⟩
  · intro k hk;unfold Xx at hk;cases hm:XJ k F
    · rw[hm]at hk;cases hd:XJ k D
      · rw[hd]at hk;cases hk
      · exact hs.dom k (hD k (Q9.1 hd))
    · rw[hm]at hk;exact hs.dom k hk
  · intro k bd h1 h2 h3 j hj;have hj':=hj;rw[Xy (XH h3).1]at hj';exact⟨(hs.rng k bd h1 h2 (XH h3).2 j hj').1,.inr ⟨k,bd,h1,h2,hj,h3⟩⟩
  · intro k k' bd bd' a1 a2 a3 a4 a5 a6;rw[Xy (XH a5).1,Xy (XH a6).1];exact hs.dist k k' bd bd' a1 a2 a3 a4 (XH a5).2 (XH a6).2

theorem HS.back (hs:HS w0 M ρ H w){F D:List Nat}(hD: ∀d∈D,H d=none){w1:World}{ρ1:Env}{H1:HP}(h1:HS w (Uf M ρ H F D) ρ1 H1 w1)(hx:Ext ρ (Xx F D H) w ρ1 H1 w1):
    HS w0 M ρ1 (mrg (F++D) H1 H) w1/\Ext ρ H w ρ1 (mrg (F++D) H1 H) w1/\ ∀av v,ConcV w1 (ow (Uf M ρ H F D) ρ1 H1) ρ1 av v->ConcV w1 (ow M ρ1 (mrg (F++D) H1 H)) ρ1 av v:=by
  have hm: ∀b,own ρ (Xx F D H) b->w0.heap.size<=b∨M.m b:=by
    rintro b ⟨k,bd,a1,a2,a3,a4⟩;exact(hs.rng k bd a1 a2 (XH a4).2 b (by rw[Xy (XH a4).1]at a3;exact a3)).2
  have hout: ∀k,k∉F++D->ρ1 k=ρ k:=fun k hk=>by
    simp only[Zk,not_or]at hk;exact(hx.ids k (by rw[QGx hk.1 hk.2];simp)).1
  have hforeign: ∀k bd,k∉F++D->ρ k=some bd->bd.isNil=false->XI (H k)=true-> ∀j,XS bd (H k) j->j<w.heap.size/\own ρ H j/\ ¬own ρ (Xx F D H) j:=by
    intro k bd hk a1 a2 a3 j hj;refine⟨(hs.rng k bd a1 a2 a3 j hj).1,⟨k,bd,a1,a2,hj,a3⟩,?_⟩;rintro⟨k',bd',b1,b2,b3,b4⟩;have hk':=XH b4;rw[Xy hk'.1]at b3;have:=hs.dist k' k bd' bd b1 a1 b2 a2 hk'.2 a3 j b3 hj;subst this;exact hk (by simp[hk'.1])
  have how: ∀b,ow M ρ1 (mrg (F++D) H1 H) b->ow (Uf M ρ H F D) ρ1 H1 b:=by
    rintro b (h | ⟨k,bd,a1,a2,a3,a4⟩)
    · exact .inl (.inl h)
    · by_cases hk:k∈F++D
      · rw[WR hk]at a3 a4;exact .inr ⟨k,bd,a1,a2,a3,a4⟩
      · rw[Y0 hk]at a3 a4;rw[hout k hk]at a1;exact .inl (.inr (hforeign k bd hk a1 a2 a4 b a3).2)
  have hown: ∀b,b<w.heap.size->own ρ1 (mrg (F++D) H1 H) b->own ρ H b:=by
    rintro b hb ⟨k,bd,a1,a2,a3,a4⟩;by_cases hk:k∈F++D
    · rw[WR hk]at a3 a4;exact UB (hx.own b hb ⟨k,bd,a1,a2,a3,a4⟩)
    · rw[Y0 hk]at a3 a4;rw[hout k hk]at a1;exact⟨k,bd,a1,a2,a3,a4⟩
  have hkeep:Jr (own ρ H) w w1:=⟨h1.size,fun b hb ho=>h1.old b hb (fun h=>ho (UB h))⟩;have hX:Ext ρ H w ρ1 (mrg (F++D) H1 H) w1:=by
    refine⟨hkeep,hown,hx.env,fun k hk=> ?_⟩;by_cases hkf:k∈F
    · have:=hx.ids k (by rw[Xy hkf];exact hk);exact⟨this.1,by rw[WR (by simp[hkf])];exact this.2⟩
    · by_cases hkd:k∈D
      · exact absurd (hD k hkd) hk
      · exact⟨hout k (by simp[hkf,hkd]),by rw[Y0 (by simp[hkf,hkd])];exact hk⟩
  refine⟨⟨h1.os.trans hs.os,h1.tape.trans hs.tape,h1.output.trans hs.output,Nat.le_trans hs.size h1.size,hs.glob,?_,?_,?_,?_,?_⟩,hX,fun av v hc=>hc.mono (.refl _ _) (fun b _ h=>how b h) (fun _ _ h=>h)⟩
  · intro b hb hmm
    rw [h1.old b (Nat.lt_of_lt_of_le hb hs.size) (fun h => by rcases hm b h with h' | h'; · omega
                                                              · exact hmm h')]
    exact hs.old b hb hmm
  · intro k b hk hl;by_cases hkk:k∈F++D
    · rw[WR hkk]at hk;obtain⟨bd,e,ok⟩:=h1.blk k b hk hl;exact⟨bd,e,ok.mono (.refl _ _) (fun b _ h=>how b h) (fun _ _ h=>h) (fun _ _ _ _=>rfl)⟩
    · rw[Y0 hkk]at hk;obtain⟨bd,e,ok⟩:=hs.blk k b hk hl
      exact⟨bd,by rw[hout k hkk];exact e,ok.ext hX (fun hn hl j hj=>by
        have:=hforeign k bd hkk e hn (by rw[hk];exact hl) j (by rw[hk];exact hj)
        exact h1.old _ this.1 this.2.2)⟩
  · intro k hk;by_cases hkk:k∈F++D
    · rw[WR hkk]at hk;exact h1.dom k hk
    · rw[Y0 hkk]at hk;rw[hout k hkk];exact hs.dom k hk
  · intro k bd a1 a2 a3 j hj;by_cases hkk:k∈F++D
    · rw[WR hkk]at a3 hj;have:=h1.rng k bd a1 a2 a3 j hj;refine⟨this.1,?_⟩;rcases this.2 with h | h
      · exact .inl (Nat.le_trans hs.size h)
      · exact hm _ h
    · rw[Y0 hkk]at a3 hj;rw[hout k hkk]at a1;have:=hs.rng k bd a1 a2 a3 j hj;exact⟨Zh this.1 h1.size,this.2⟩
  · intro k k' bd bd' a1 a2 a3 a4 a5 a6 j a7 a8;by_cases hkk:k∈F++D
    · rw[WR hkk]at a5 a7;by_cases hkk':k'∈F++D
      · rw[WR hkk']at a6 a8;exact h1.dist k k' bd bd' a1 a2 a3 a4 a5 a6 j a7 a8
      · rw[Y0 hkk']at a6 a8;rw[hout k' hkk']at a2;have hf:=hforeign k' bd' hkk' a2 a4 a6 j a8;rcases(h1.rng k bd a1 a3 a5 j a7).2 with h | h
        · omega
        · exact absurd h hf.2.2
    · rw[Y0 hkk]at a5 a7;rw[hout k hkk]at a1;by_cases hkk':k'∈F++D
      · rw[WR hkk']at a6 a8;have hf:=hforeign k bd hkk a1 a3 a5 j a7;rcases(h1.rng k' bd' a2 a4 a6 j a8).2 with h | h
        · omega
        · exact absurd h hf.2.2
      · rw[Y0 hkk']at a6 a8;rw[hout k' hkk']at a2;exact hs.dist k k' bd bd' a1 a2 a3 a4 a5 a6 j a7 a8

def U1:Op->Bool
 | .alloc _ | .box .. | .buildSlice .. | .makeSlice .. | .makeMap .. =>true
 | .slice _ _ _ _ (some _)=>true
 | .call c=>match c.callee with
  | .builtin .append=>true
  | .builtin _=>false
  | _=>true
 | _=>false
def QLW:Op->Bool
 | .call c=>match c.callee with
  | .builtin _=>false
  | _=>true
 | _=>false
def YW (op:Op)(d:Nat):List Nat:=bif U1 op then(bif QLW op then[d,d+1000,d+2000]else[d])else[]
def KI:List Nat->HP->Prop->Prop
  | [],_,p=>p
  | k::ks,H,p=>match H k with
    | none=>KI ks H p
    | some _=>False
theorem JP {H:HP}{p:Prop}: ∀{l:List Nat},KI l H p↔(∀k∈l,H k=none)/\p:=by
 intro l;induction l with
 | nil=>simp[KI]
 | cons k ks ih=>
  simp only[KI];cases hk:H k with
  | none=>simp only[ih];simp[hk]
  | some b=>simp[hk]
def opL (T:Qh)(ev:Operand->AV)(H:HP)(d:Nat)(K:KK)(op:Op):Prop:=
  KI (YW op d) H<| opS T ev (Xx (fp ev op) (YW op d) H) d (fun v H1=>K v (mrg (fp ev op++YW op d) H1 H)) op

theorem Good.back (hs:HS w0 M ρ H w){F D:List Nat}(hD: ∀d∈D,H d=none){K:KK}{r:Result Next}(h:Good P w (Uf M ρ H F D) ρ (Xx F D H) w (fun v H1=>K v (mrg (F++D) H1 H)) r):Good P w0 M ρ H w K r:=by
 cases r with
 | halt h w'=>cases h<;>(rename_i hh;exact hh.elim)
 | ok n w'=>
  cases n with
  | value v=>
   obtain⟨ρ',H',av,a1,a2,a3,a4⟩:=h;obtain⟨b1,b2,b3⟩:=hs.back hD a1 a2;exact⟨ρ',_,av,b1,b2,b3 _ _ a3,a4⟩
  | skip=>
   obtain⟨ρ',H',a1,a2,a4⟩:=h;obtain⟨b1,b2,b3⟩:=hs.back hD a1 a2;exact⟨ρ',_,b1,b2,a4⟩
  | enter f args=>
   obtain⟨e,hc⟩:=h;refine⟨e,hc.mono ?_⟩;rintro e w'' ⟨v,ρ',H',av,rfl,a1,a2,a3,a4⟩;obtain⟨b1,b2,b3⟩:=hs.back hD a1 a2;exact⟨v,ρ',_,av,rfl,b1,b2,b3 _ _ a3,a4⟩
  | _=>exact h.elim
theorem QGy {T:Qh}(hT:Q5 P M.g M.tab T){a:Act}(hs:HS w0 M ρ H w){ev:Operand->AV}{o:Oper}{d:Nat}{K:KK}(hev: ∀x∈o.op.operands.toList,ConcV w (ow M ρ H) ρ (ev x) (a.eval x))(h:opL T ev H d K o.op):
  Good P w0 M ρ H w K ((execOp a.eval o).run P w):=by
 obtain⟨hD,h⟩:=JP.1 h;refine Good.back hs hD (QGw (M:=Uf M ρ H (fp ev o.op) (YW o.op d)) hT (hs.inside hD) (fun x hx=> ?_) h);exact(hev x hx).ow_iff (fun b=>QCS b)
end Go.Eng
namespace Go.Eng
open Go Go.RowKit
def WI (g:Bool)(v:AV)(K:AV->Prop):Prop:=
  bif g then(match v with
    | .x false [.v (.bool b)]=>bif b then K (YF (.bool true))else K (YF (.bool false))
    | v=>K v)else K v

def isG (ops:List Oper)(i:Nat):Bool:=ops.any fun o=>match o.guard with | some (j,_)=>j.beq i | none=>false
def Jd (ops:List Oper)(o:Oper):Option Nat:=
  match o.guard with
  | some (j,_)=>match ops[j]? with
    | some p=>p.dst
    | none=>none
  | none=>none

def Wm (ops:List Oper)(T:TM)(o:Oper)(yes no:Prop):Prop:=
 match o.guard with
 | none=>yes
 | some (_,want)=>match Jd ops o with
  | some t=>match T t with
   | .x false [.v (.bool b)]=>cond (b==want) yes no
   | .n=>no
   | _=>False
  | none=>False
def opA (T:Qh)(ops:List Oper)(chk:Nat->List Nat->Bool)(i:Nat)(o:Oper)(σ:St)(K:St->Prop):Prop:=
 Wm ops σ.T o
  (bif chk i (fp (evA σ.T) o.op)then opL T (evA σ.T) σ.H (YC o.dst) (fun v H'=>WI (isG ops i) v fun v'=>K ⟨YE σ.T o.dst v',H'⟩) o.op else False)
  (K ⟨YE σ.T o.dst .n,σ.H⟩)
def JQ (N:Nat)(o:Oper):Bool:=(match o.dst with | some d=>Nat.blt d N | none=>true)&&QNk o.op
variable {P:Program}{w0:World}{M:Ctx}{N:Nat}{ρ:Env}{σ:St}{a:Act}{w:World}
theorem QGz {O:Nat->Prop}{g:Bool}{av:AV}{v:Value}(hc:ConcV w O ρ av v){K:AV->Prop}(h:WI g av K): ∃av',ConcV w O ρ av' v/\K av':=by
 unfold WI at h;cases g with
 | false=>exact⟨av,hc,h⟩
 | true=>
  simp only[R7]at h;split at h
  ·rename_i b;have:=(ConcX.one hc).1;subst this;cases b with
   | true=>exact⟨_,QZ rfl,h⟩
   | false=>exact⟨_,QZ rfl,h⟩
  ·exact⟨_,hc,h⟩
theorem Wn {o:Oper}(h:JQ N o=true): ∀t,o.dst=some t->t<N:=by
 intro t ht;simp only[JQ,ht,Za]at h;exact Zr h.1
theorem Ha {o:Oper}(h:JQ N o=true): ∀x∈o.op.operands.toList,U0 x=true:=by
 simp only[JQ,Za,QNk,Zf]at h;exact h.2
def FR (r:Option Nat):Fence:={Fence.wide with round:=r}
theorem QLX {r:Option Nat}{n:Nat}{f:FuncId}{args:Array Value}{R:Ending->World->Prop}(h:Calls P f args w R):CallsIn (FR r) n P f args w R:=
 (callsIn_wide (n:=n)).2 h
def KJ (w0:World)(M:Ctx)(N:Nat)(ws:World)(K:St->Prop)(a:Act)(w:World):Prop:= ∃ρ σ,Sim w0 M N ρ σ a w/\K σ/\NC ws w

theorem QLY {T:Qh}{ev:Operand->AV}{d:Nat}{K:KK}{op:Op}{H:HP}(h:opL T ev H d K op): ∀c,op≠ .defer c:=by
 rintro c rfl;exact(JP.1 h).2
theorem QEC (hs:Sim w0 M N ρ σ a w){ws:World}(hn:NC ws w){o:Oper}(hd: ∀t,o.dst=some t->t<N)(hnd: ∀c,o.op≠ .defer c){K:KK}{K':St->Prop}(hK: ∀v H' ρ' w' x,ConcV w' (ow M ρ' H') ρ' v x->K v H'-> ∃v',ConcV w' (ow M ρ' H') ρ' v' x/\K' ⟨YE σ.T o.dst v',H'⟩)
  {r:Option Nat} {n:Nat} {Q:Exit->Act->World->Prop} (h:Good P w0 M ρ σ.H w K ((execOp a.eval o).run P w)):o.wpIn (FR r) n P a w (KJ w0 M N ws K') Q:=by
 unfold Oper.wpIn;refine⟨fun _ _=>trivial,?_⟩;rw[Oper.semAt_eq _ _ _ hnd];generalize (execOp a.eval o).run P w=r at h;have key: ∀{w' ρ' H' av v},HS w0 M ρ' H' w'->Ext ρ σ.H w ρ' H' w'->ConcV w' (ow M ρ' H') ρ' av v->K av H'->KJ w0 M N ws K' (a.put o.dst v) w':=by
  intro w' ρ' H' av v h1 h2 h3 h4;obtain⟨v',c1,c2⟩:=hK _ _ _ _ _ h3 h4;exact⟨ρ',_,hs.put h1 h2 hd c1,c2,hn.trans (h2.nc hs.hs)⟩
 cases r with
 | halt h w'=>cases h<;>(rename_i hh;exact hh.elim)
 | ok n w'=>
  cases n with
  | value v=>
   obtain⟨ρ',H',av,a1,a2,a3,a4⟩:=h;exact key a1 a2 a3 a4
  | skip=>
   obtain⟨ρ',H',a1,a2,a4⟩:=h;exact key (v:=undef) (av:= .n) a1 a2 rfl a4
  | enter f args=>
   obtain⟨rfl,hc⟩:=h;refine⟨fun h=>(by cases h),QLX (hc.mono ?_)⟩;rintro e w'' ⟨v,ρ',H',av,rfl,a1,a2,a3,a4⟩;exact key a1 a2 a3 a4
  | _=>exact h.elim
theorem Hb {ops:List Oper}{o:Oper}{j:Nat}{want:Bool}(hg:o.guard=some (j,want)){t:Nat}(ht:Jd ops o=some t)(tmps:Array Value):
  yielded ops.toArray tmps j=match tmps[t]? with | some (.bool b)=>some b | _=>none:=by
 unfold Jd at ht;rw[hg]at ht;simp only at ht;split at ht
 ·rename_i p hp;simp only[yielded,Zt,hp,Option.bind_some,ht];cases tmps[t]? with
  | none=>rfl
  | some x=>cases x<;>rfl
 ·cases ht
theorem UC {T:Qh}(hT:Q5 P M.g M.tab T)(hs:Sim w0 M N ρ σ a w){ops:List Oper}{chk:Nat->List Nat->Bool}{i:Nat}{o:Oper}(hi:ops[i]? =some o)(hok:JQ N o=true){K:St->Prop}(h:opA T ops chk i o σ K){ws:World}(hn:NC ws w){r:Option Nat}{n:Nat}{Q:Exit->Act->World->Prop}:
  wpOpIn (FR r) n P ops.toArray Q i (KJ w0 M N ws K) a w:=by
 have run:(bif chk i (fp (evA σ.T) o.op)then opL T (evA σ.T) σ.H (YC o.dst) (fun v H'=>WI (isG ops i) v fun v'=>K ⟨YE σ.T o.dst v',H'⟩) o.op else False)->o.wpIn (FR r) n P a w (KJ w0 M N ws K) Q:=by
  intro h;cases hc:chk i (fp (evA σ.T) o.op)with
  | false=>rw[hc]at h;exact h.elim
  | true=>
   rw[hc]at h;simp only[R7]at h;exact QEC hs hn (Wn hok) (QLY h) (fun v H' ρ' w' x h1 h2=>QGz h1 h2) (QGy hT hs.hs (fun x hx=>QA9 hs x (Ha hok x hx)) h)
 have skip:K ⟨YE σ.T o.dst .n,σ.H⟩->(∀f,o.about P w a.eval=some f->(FR r).fn f)/\KJ w0 M N ws K (a.put o.dst undef) w:=fun h=>⟨fun _ _=>trivial,ρ,_,hs.put hs.hs (.refl _ _ _) (Wn hok) (av:= .n) rfl,h,hn⟩;unfold wpOpIn;simp only[Zt,hi];unfold opA Wm at h;split at h
 ·rename_i hg;rw[if_pos (by simp[Region.wanted,hg])];exact run h
 ·rename_i j want hg;split at h
  ·rename_i t ht;have hy:=Hb hg ht a.tmps;have hct:=hs.tmps t;split at h
   ·rename_i b hb;rw[hb]at hct;have hv:=(ConcX.one hct).1;have ht':a.tmps[t]? =some (.bool b):=by
     rw[Zc]at hv;cases he:a.tmps[t]? with
     | none=>rw[he]at hv;simp[undef]at hv
     | some x=>rw[he]at hv;simp at hv;rw[hv]
    rw[ht']at hy;simp only at hy;simp only[Region.wanted,hg,hy];cases hbw:(b==want)with
    | true=>
     rw[hbw]at h;rw[if_pos (by simpa using hbw)];exact run h
    | false=>
     rw[hbw]at h;rw[if_neg (by simpa using hbw)];exact skip h
   ·rename_i hb;rw[hb]at hct;have hv:a.tmps.getD t undef=undef:=hct;have hy':yielded ops.toArray a.tmps j=none:=by
     rw[hy];rw[Zc]at hv;cases he:a.tmps[t]? with
     | none=>rfl
     | some x=>
      rw[he]at hv;simp at hv;subst hv;rfl
    simp only[Region.wanted,hg,hy'];rw[if_neg (by simp)];exact skip h
   ·exact h.elim
  ·exact h.elim
def QG0 (T:Qh)(ops:List Oper)(chk:Nat->List Nat->Bool):List Nat->St->(St->Prop)->Prop
 | [],σ,K=>K σ
 | i::rest,σ,K=>match ops[i]? with
  | some o=>opA T ops chk i o σ fun σ'=>QG0 T ops chk rest σ' K
  | none=>False
theorem QED {T:Qh}(hT:Q5 P M.g M.tab T){ops:List Oper}{chk:Nat->List Nat->Bool}(hok:ops.all (JQ N)=true){K:St->Prop}{Q:Exit->Act->World->Prop}{ws:World}{r:Option Nat}{n:Nat}(hQ: ∀a w,KJ w0 M N ws K a w->Q .normal a w):
  ∀(l:List Nat) {ρ:Env} {σ:St} {a:Act} {w:World},NC ws w->Sim w0 M N ρ σ a w->QG0 T ops chk l σ K->wpOpsIn (FR r) n P ops.toArray Q l a w:=by
 intro l;induction l with
 | nil=>intro ρ σ a w hn hs h;exact hQ _ _ ⟨ρ,σ,hs,h,hn⟩
 | cons i rest ih=>
  intro ρ σ a w hn hs h;rw[wpOpsIn_cons];simp only[QG0]at h;split at h
  ·rename_i o ho;have hoo:JQ N o=true:=by
    rw[Zf]at hok;exact hok o (Zo ho)
   refine wpOpIn_mono ?_ (UC hT hs ho hoo h hn (Q:=Q))
   rintro a' w' ⟨ρ',σ',hs',h',hn'⟩;exact ih hn' hs' h'
  ·exact h.elim
end Go.Eng
namespace Go.Eng
open Go Go.RowKit
structure SL where
 T:List (Nat×AV)
 H:List (Nat×Blk)
def Qi:List (Nat×AV)->Nat->AV
 | [],_=> .u
 | (k,v)::l,t=>bif t.beq k then v else Qi l t
def QO:List (Nat×Blk)->Nat->Option Blk
 | [],_=>none
 | (k,v)::l,t=>bif t.beq k then some v else QO l t
def SL.st (s:SL):St:=⟨Qi s.T,QO s.H⟩
theorem QAK {l:List (Nat×AV)}{t:Nat}:Qi l t= .u∨(t,Qi l t)∈l:=by
  induction l with
  | nil=>exact .inl rfl
  | cons p l ih=>
    obtain⟨k,v⟩:=p;simp only[Qi];cases h:t.beq k with
    | true=>have:=Zb h;subst this;exact .inr (by simp)
    | false => rcases ih with ih | ih
               · exact .inl ih
               · exact .inr (by simp[ih])
theorem QAL {l:List (Nat×Blk)}{k:Nat}{b:Blk}(h:QO l k=some b):(k,b)∈l:=by
 induction l with
 | nil=>cases h
 | cons p l ih=>
  obtain⟨k',v⟩:=p;simp only[QO]at h;cases hb:k.beq k' with
  | true=>rw[hb]at h;have:=Zb hb;subst this;cases h;simp
  | false=>rw[hb]at h;exact Zi _ (ih h)
def VX:AV->List Nat
  | .x _ cs=>Qe cs
  | .t l=>l.flatMap fun p=>Qe p.2
  | _=>[]

structure QEE (M:Ctx)(pl:List Nat):Prop where
  pin: ∀k,M.pin k≠none->k∈pl
  stk: ∀p∈M.stk,∀t,∀k∈VX (p.1 t),M.pin k≠none

def Ent (pl:List Nat)(σ:St)(s:SL):Prop:=
  ∀w0 (M:Ctx) N ρ a w,QEE M pl->Sim w0 M N ρ σ a w-> ∃ρ',Sim w0 M N ρ' s.st a w

theorem CC.env {w:World}{O O':Nat->Prop}{ρ ρ':Env}(hO: ∀b,O' b->O b){cs:List Ch}{vs:List Value}(h:CC w O ρ cs vs):(∀k∈Qe cs,∀bd,ρ k=some bd->ρ' k=some bd)->CC w O' ρ' cs vs:=by
  have z: ∀{cs:List Ch} {vs:List Value},CC w O (fun _=>none) cs vs->CC w O' (fun _=>none) cs vs:=fun h=>h.mono (.refl _ _) (fun b _ h=>hO b h) (fun _ _ h=>h);have m: ∀{b o sz:Nat} {xs:List (List Ch)} {f:Nat->List Value},WX w O b o sz xs f->WX w O' b o sz xs f:=fun h=>h.mono (.refl _ _) (fun b _ h=>hO b h);induction h with
  | nil=>exact fun _=> .nil
  | v a _ ih=>exact fun h=> .v a (ih (by simpa [Qe]using h))
  | r a _ ih=>exact fun h=> .r a (ih (by simpa [Qe]using h))
  | b a _ ih=>exact fun h=> .b a (ih (by simpa [Qe]using h))
  | s0 _ ih=>exact fun h=> .s0 (ih (by simpa [Qe]using h))
  | s00 _ ih=>exact fun h=> .s00 (ih (by simpa [Qe]using h))
  | s a b c _ _ ih=>exact fun h=> .s (m a) (fun i x hi=>z (b i x hi)) c (ih (by simpa [Qe]using h))
  | p a b _ ih=>exact fun h=> .p (h _ (by simp[Qe]) _ a) b (ih fun k hk=>h k (by simp[Qe,hk]))
  | w a b c d e _ ih=>exact fun h=> .w (h _ (by simp[Qe]) _ a) b c d e (ih fun k hk=>h k (by simp[Qe,hk]))
  | w0 a b _ ih=>exact fun h=> .w0 (h _ (by simp[Qe]) _ a) b (ih fun k hk=>h k (by simp[Qe,hk]))
  | w00 a _ ih=>exact fun h=> .w00 (h _ (by simp[Qe]) _ a) (ih fun k hk=>h k (by simp[Qe,hk]))
  | e a b _ ih=>exact fun h=> .e (h _ (by simp[Qe]) _ a) b (ih fun k hk=>h k (by simp[Qe,hk]))
  | q a b c d _ ih=>exact fun h=> .q (h _ (by simp[Qe]) _ a) b c d (ih fun k hk=>h k (by simp[Qe,hk]))
  | z a b c _ ih=>exact fun h=> .z (h _ (by simp[Qe]) _ a) b c (ih fun k hk=>h k (by simp[Qe,hk]))
  | y a b _ _ ih=>exact fun h=> .y (m a) (fun i x hi=>z (b i x hi)) (ih (by simpa [Qe]using h))
  | @f ρ fid ks cs vs hk _ ih=>
    intro h;have e:ks.map (J3 ρ)=ks.map (J3 ρ'):=Zv fun k hm=>by
      obtain⟨bd,e,_⟩:=hk k hm;rw[Y4 e,Y4 (h k (by simp[Qe,hm]) bd e)]
    rw[e];exact .f (fun k hm=>let ⟨bd,e,hn⟩:=hk k hm;⟨bd,h k (by simp[Qe,hm]) bd e,hn⟩) (ih fun k hk=>h k (by simp[Qe,hk]))
  | i a b _ _ ih=>exact fun h=> .i (z a) b (ih (by simpa [Qe]using h))
  | m a b _ ih=>exact fun h=> .m (h _ (by simp[Qe]) _ a) b (ih fun k hk=>h k (by simp[Qe,hk]))
  | yl a b _ ih=>exact fun h=> .yl (h _ (by simp[Qe]) _ a) b (ih fun k hk=>h k (by simp[Qe,hk]))
  | u a _ ih=>exact fun h=> .u a (ih (by simpa [Qe]using h))

theorem ConcV.env {w:World}{O O':Nat->Prop}{ρ ρ':Env}(hO: ∀b,O' b->O b){av:AV}{v:Value}(h:ConcV w O ρ av v)(hk: ∀k∈VX av,∀bd,ρ k=some bd->ρ' k=some bd):ConcV w O' ρ' av v:=by
 cases av with
 | x b cs=>obtain⟨vals,h1,h2⟩:=h;exact⟨vals,h1.env hO hk,h2⟩
 | t l=>
  obtain⟨vs,h1,h2⟩:=h;refine⟨vs,?_,h2⟩;clear h2;simp only[VX]at hk;induction h1 with
  | nil=>exact .nil
  | cons hx _ ih=>
   obtain⟨vals,k1,k2⟩:=hx;exact .cons ⟨vals,k1.env hO (fun k hk'=>hk k (by simp[hk'])),k2⟩ (ih fun k hk'=>hk k (by simp only[Ye,Zk];exact .inr hk'))
 | n=>exact h
 | u=>trivial
inductive MC (g:Nat->Option (Option Nat)):List Ch->List Ch->Prop
  | nil:MC g [] []
  | v {x:Value} {cs ds:List Ch} (h:MC g cs ds):MC g (.v x::cs) (.v x::ds)
  | r {q:Rat} {n m:Nat} {cs ds:List Ch} (hn:n<=m) (h:MC g cs ds):MC g (.r q n::cs) (.r q m::ds)
  | b {q n m:Nat} {cs ds:List Ch} (hn:n<=m) (h:MC g cs ds):MC g (.b q n::cs) (.b q m::ds)
  | s {sz:Nat} {xs:List (List Ch)} {cs ds:List Ch} (h:MC g cs ds):MC g (.s sz xs::cs) (.s sz xs::ds)
  | p {k k' o:Nat} {cs ds:List Ch} (hk:g k=some (some k')) (h:MC g cs ds):MC g (.p k' o::cs) (.p k o::ds)
  | w {k k' o n:Nat} {cs ds:List Ch} (hk:g k=some (some k')) (h:MC g cs ds):MC g (.w k' o n::cs) (.w k o n::ds)
  | w0 {k:Nat} {cs ds:List Ch} (hk:g k=some none) (h:MC g cs ds):MC g (.v (.slice none 0 0)::cs) (.w k 0 0::ds)
  | e {k k' i o:Nat} {cs ds:List Ch} (hk:g k=some (some k')) (h:MC g cs ds):MC g (.e k' i o::cs) (.e k i o::ds)
  | y {sz:Nat} {xs:List (List Ch)} {i o:Nat} {cs ds:List Ch} (h:MC g cs ds):MC g (.y sz xs i o::cs) (.y sz xs i o::ds)
  | f {fid:Nat} {ks ks':List Nat} {cs ds:List Ch} (hl:ks'.length=ks.length) (hk: ∀(i k k':Nat),ks[i]? =some k->ks'[i]? =some k'->g k=some (some k')) (h:MC g cs ds):MC g (.f fid ks'::cs) (.f fid ks::ds)
  | i {t:Nat} {ag:Bool} {ics cs ds:List Ch} (h:MC g cs ds):MC g (.i t ag ics::cs) (.i t ag ics::ds)
  | m {k k':Nat} {cs ds:List Ch} (hk:g k=some (some k')) (h:MC g cs ds):MC g (.m k'::cs) (.m k::ds)
  | yl {k k':Nat} {cs ds:List Ch} (hk:g k=some (some k')) (h:MC g cs ds):MC g (.yl k'::cs) (.yl k::ds)

theorem KL {n m:Nat}(h:n<=m):2^n<=2^m:=Nat.pow_le_pow_right (by omega) h
theorem Bd.mono {n m:Nat}{q:Rat}(h:n<=m)(hb:Bd n q):Bd m q:=⟨Zh hb.1 (KL h),Zh hb.2 (KL h)⟩
theorem QCT {ρ ρ':Env}: ∀{ks ks':List Nat},ks'.length=ks.length->(∀(i k k':Nat),ks[i]? =some k->ks'[i]? =some k'-> ∀bd,ρ k'=some bd->ρ' k=some bd)->
    (∀k∈ks',∃bd,ρ k=some bd/\bd.isNil=false)->ks'.map (J3 ρ)=ks.map (J3 ρ')/\ ∀k∈ks,∃bd,ρ' k=some bd/\bd.isNil=false:=by
  intro ks;induction ks with
  | nil=>intro ks' hl _ _;have:ks'=[]:=Zp hl;subst this;exact⟨rfl,by simp⟩
  | cons k ks ih=>
    intro ks' hl h hk;match ks',hl with
    | k'::ks',hl=>
      obtain⟨bd,e,hn⟩:=hk k' (by simp);have e':=h 0 k k' rfl rfl bd e;obtain⟨i1,i2⟩:=ih (ks':=ks') (by simpa using hl) (fun i a b ha hb=>h (i+1) a b (by simpa using ha) (by simpa using hb)) (fun a ha=>hk a (by simp[ha]));exact⟨by rw[Zz,Zz,Y4 e,Y4 e',i1],by simpa using⟨⟨bd,e',hn⟩,i2⟩⟩

theorem MC.sound {g:Nat->Option (Option Nat)}{w:World}{O O':Nat->Prop}{ρ ρ':Env}(hO: ∀b,O' b->O b)(h1: ∀k k' bd,g k=some (some k')->ρ k'=some bd->ρ' k=some bd)(h2: ∀k,g k=some none-> ∃bd,ρ' k=some bd/\bd.isNil=true)
  {cs ds:List Ch} (h:MC g cs ds): ∀{vs:List Value},CC w O ρ cs vs->CC w O' ρ' ds vs:=by
 induction h with
 | nil=>intro vs hc;cases hc;exact .nil
 | v _ ih=>intro vs hc;cases hc with | v a hc=>exact .v a (ih hc)
 | r hn _ ih=>intro vs hc;cases hc with | r a hc=>exact .r (a.mono hn) (ih hc)
 | b hn _ ih=>intro vs hc;cases hc with | b a hc=>exact .b (Zh a (KL hn)) (ih hc)
 | s _ ih=>
  intro vs hc;cases hc with
  | s0 hc=>exact .s0 (ih hc)
  | s00 hc=>exact .s00 (ih hc)
  | s hr hx hcap hc=>exact .s (hr.mono (.refl _ _) (fun b _ h=>hO b h)) (fun i x hi=>(hx i x hi).mono (.refl _ _) (fun b _ h=>hO b h) (fun _ _ h=>h)) hcap (ih hc)
 | p hk _ ih=>intro vs hc;cases hc with | p a b hc=>exact .p (h1 _ _ _ hk a) b (ih hc)
 | w hk _ ih=>
  intro vs hc;cases hc with
  | w a b c d e hc=>exact .w (h1 _ _ _ hk a) b c d e (ih hc)
  | w0 a b hc=>exact .w0 (h1 _ _ _ hk a) b (ih hc)
  | w00 a hc=>exact .w00 (h1 _ _ _ hk a) (ih hc)
 | w0 hk _ ih=>
  intro vs hc;cases hc with
  | v a hc=>
   obtain⟨bd,e1,e2⟩:=h2 _ hk;exact .w0 e1 e2 (ih hc)
 | e hk _ ih=>intro vs hc;cases hc with | e a b hc=>exact .e (h1 _ _ _ hk a) b (ih hc)
 | f hl hk _ ih=>
  intro vs hc;cases hc with
  | f a hc=>
   obtain⟨e1,e2⟩:=QCT hl (fun i k k' hi hi' bd hb=>h1 k k' bd (hk i k k' hi hi') hb) a;rw[e1];exact .f e2 (ih hc)
 | i _ ih=>intro vs hc;cases hc with | i a b hc=>exact .i (a.mono (.refl _ _) (fun b _ h=>hO b h) (fun _ _ h=>h)) b (ih hc)
 | m hk _ ih=>intro vs hc;cases hc with | m a b hc=>exact .m (h1 _ _ _ hk a) b (ih hc)
 | yl hk _ ih=>intro vs hc;cases hc with | yl a b hc=>exact .yl (h1 _ _ _ hk a) b (ih hc)
 | y _ ih=>
  intro vs hc;cases hc with
  | y hr hx hc=>exact .y (hr.mono (.refl _ _) (fun b _ h=>hO b h)) (fun i x hi=>(hx i x hi).mono (.refl _ _) (fun b _ h=>hO b h) (fun _ _ h=>h)) (ih hc)
inductive MA (g:Nat->Option (Option Nat)):AV->AV->Prop
 | x {b:Bool} {cs ds:List Ch} (h:MC g cs ds):MA g (.x b cs) (.x b ds)
 | n:MA g .n .n
 | u {a:AV}:MA g a .u
 | t0:MA g (.t []) (.t [])
 | t {b:Bool} {cs ds:List Ch} {l l':List (Bool×List Ch)} (h:MC g cs ds) (ht:MA g (.t l) (.t l')):MA g (.t ((b,cs)::l)) (.t ((b,ds)::l'))
theorem MA.sound {g:Nat->Option (Option Nat)}{w:World}{O O':Nat->Prop}{ρ ρ':Env}(hO: ∀b,O' b->O b)(h1: ∀k k' bd,g k=some (some k')->ρ k'=some bd->ρ' k=some bd)(h2: ∀k,g k=some none-> ∃bd,ρ' k=some bd/\bd.isNil=true)
  {a b:AV} (h:MA g a b): ∀{v:Value},ConcV w O ρ a v->ConcV w O' ρ' b v:=by
 induction h with
 | x h=>rintro v ⟨vals,c1,c2⟩;exact⟨vals,h.sound hO h1 h2 c1,c2⟩
 | n=>exact fun h=>h
 | u=>exact fun _=>trivial
 | t0=>rintro v ⟨vs,c1,c2⟩;cases c1;exact⟨[],.nil,c2⟩
 | t h _ ih=>
  rintro v ⟨vs,c1,c2⟩;cases c1 with
  | cons hx ht=>
   obtain⟨vals,k1,k2⟩:=hx;obtain⟨vs',m1,m2⟩:=ih (v:= .tuple _) ⟨_,ht,rfl⟩;simp at m2;subst m2;exact⟨_,.cons ⟨vals,h.sound hO h1 h2 k1,k2⟩ m1,c2⟩
structure YO (sz2:Nat)(xs ys:List (List Ch)):Prop where
  len:xs.length=ys.length
  el: ∀(i:Nat) (x y:List Ch),xs[i]? =some x->ys[i]? =some y->
    ∃t a b,x=[.v t,.s sz2 a]/\y=[.v t,.s sz2 b]/\a.length=b.length/\ ∀(j:Nat) (u v:List Ch),a[j]? =some u->b[j]? =some v->(MC (fun _=>none) u v/\Qe v=[])∨ ∃(q:Rat) (n m:Nat),u=[.r q n]/\v=[.r q m]/\Bd m q
inductive MB (g:Nat->Option (Option Nat)):Blk->Blk->Prop
  | box {t:Nat} {cs ds:List Ch} (h:MC g cs ds):MB g (.box t cs) (.box t ds)
  | row {t sz:Nat} {xs ys:List (List Ch)} (hl:xs.length=ys.length) (h: ∀(i:Nat) (x y:List Ch),xs[i]? =some x->ys[i]? =some y->MC (fun _=>none) x y/\Qe y=[]):MB g (.row t sz xs) (.row t sz ys)
  | same {t sz:Nat} {xs:List (List Ch)}:MB g (.row t sz xs) (.row t sz xs)
  | lp {s:Nat}:MB g (.lp s) (.lp s)
  | mp {f:Int->Option Int}:MB g (.mp f) (.mp f)
  | nst {t sz o t2 sz2:Nat} {xs ys:List (List Ch)} (h:xs=ys∨YO sz2 xs ys):MB g (.nst t sz o t2 sz2 xs) (.nst t sz o t2 sz2 ys)
  | dead {b:Blk}:MB g b .dead

theorem MC.sound0 {g:Nat->Option (Option Nat)}{w:World}{O O':Nat->Prop}(hO: ∀b,O' b->O b){cs ds:List Ch}(h:MC g cs ds)(hi:Qe ds=[]): ∀{vs:List Value},CC w O (fun _=>none) cs vs->CC w O' (fun _=>none) ds vs:=by
 induction h with
 | nil=>intro vs hc;cases hc;exact .nil
 | v _ ih=>intro vs hc;cases hc with | v a hc=>exact .v a (ih (by simpa [Qe]using hi) hc)
 | r hn _ ih=>intro vs hc;cases hc with | r a hc=>exact .r (a.mono hn) (ih (by simpa [Qe]using hi) hc)
 | b hn _ ih=>intro vs hc;cases hc with | b a hc=>exact .b (Zh a (KL hn)) (ih (by simpa [Qe]using hi) hc)
 | s _ ih=>
  intro vs hc;have ih:= @ih (by simpa [Qe]using hi);cases hc with
  | s0 hc=>exact .s0 (ih hc)
  | s00 hc=>exact .s00 (ih hc)
  | s hr hx hcap hc=>exact .s (hr.mono (.refl _ _) (fun b _ h=>hO b h)) (fun i x hi=>(hx i x hi).mono (.refl _ _) (fun b _ h=>hO b h) (fun _ _ h=>h)) hcap (ih hc)
 | p=>simp[Qe]at hi
 | w=>simp[Qe]at hi
 | w0=>simp[Qe]at hi
 | e=>simp[Qe]at hi
 | @f fid ks ks' cs ds hl hk _ ih=>
  intro vs hc;simp only[Qe,List.append_eq_nil_iff]at hi;obtain⟨rfl,hi⟩:=hi;have:ks'=[]:=Zp hl;subst this;cases hc with | f a hc=>exact .f (by simp) (ih hi hc)
 | i _ ih=>intro vs hc;cases hc with | i a b hc=>exact .i (a.mono (.refl _ _) (fun b _ h=>hO b h) (fun _ _ h=>h)) b (ih (by simpa [Qe]using hi) hc)
 | m=>simp[Qe]at hi
 | yl=>simp[Qe]at hi
 | y _ ih=>
  intro vs hc;cases hc with
  | y hr hx hc=>exact .y (hr.mono (.refl _ _) (fun b _ h=>hO b h)) (fun i x hi=>(hx i x hi).mono (.refl _ _) (fun b _ h=>hO b h) (fun _ _ h=>h)) (ih (by simpa [Qe]using hi) hc)
def Xn:List (Nat×Option Nat)->Nat->Option (Option Nat)
 | [],_=>none
 | (k,v)::l,t=>bif t.beq k then some v else Xn l t
theorem UD: ∀{G:List (Nat×Option Nat)} {l:List (Nat×Blk)},G.map (·.1)=l.map (·.1)-> ∀k,Xn G k=none↔QO l k=none:=by
 intro G;induction G with
 | nil=>intro l h k;cases l with
  | nil=>simp[Xn,QO]
  | cons p l=>simp at h
 | cons p G ih=>
  intro l h k;cases l with
  | nil=>simp at h
  | cons q l=>
   obtain⟨a,b⟩:=p;obtain⟨c,d⟩:=q;simp only[Zz,List.cons.injEq]at h;obtain⟨rfl,h⟩:=h;simp only[Xn,QO];cases k.beq a with
   | true=>simp
   | false=>exact ih h k
theorem QAM {G:List (Nat×Option Nat)}{k:Nat}{v:Option Nat}(h:Xn G k=some v):(k,v)∈G:=by
 induction G with
 | nil=>cases h
 | cons p G ih=>
  obtain⟨a,b⟩:=p;simp only[Xn]at h;cases hb:k.beq a with
  | true=>rw[hb]at h;have:=Zb hb;subst this;cases h;simp
  | false=>rw[hb]at h;exact Zi _ (ih h)
def QIc:Option Nat->Option Nat->Bool
 | some a,some b=>a.beq b
 | _,_=>false
def QLZ (G:List (Nat×Option Nat)):Bool:=G.all fun p=>G.all fun q=> !(QIc p.2 q.2) || p.1.beq q.1
def QLa (pl:List Nat)(G:List (Nat×Option Nat)):Bool:=pl.all fun k=>match Xn G k with | some (some j)=>j.beq k | _=>false
def Hc (l:List (Nat×Blk)):List (Nat×Option Nat)->List (Nat×Option Nat)
  | []=>[]
  | p::G=>bif XI (QO l p.1)then p::Hc l G else Hc l G
theorem QAN {l:List (Nat×Blk)}{p:Nat×Option Nat}(hl:XI (QO l p.1)=true): ∀{G:List (Nat×Option Nat)},p∈G->p∈Hc l G:=by
 intro G;induction G with
 | nil=>exact fun h=>h
 | cons q G ih=>
  intro h;simp only[Hc];rcases Zl.1 h with rfl | h
  ·rw[hl];exact Yc
  ·cases XI (QO l q.1)with
   | true=>exact Zi _ (ih h)
   | false=>exact ih h
theorem Ent.mk {pl:List Nat}{σ:St}{s:SL}(G:List (Nat×Option Nat))(hpl:QLa pl G=true)(hkeys:G.map (·.1)=s.H.map (·.1))(hinj:QLZ (Hc s.H G)=true)
    (hT: ∀p∈s.T,MA (Xn G) (σ.T p.1) p.2) (hH: ∀p∈s.H,match Xn G p.1 with
      | some (some k)=> ∃b,σ.H k=some b/\MB (Xn G) b p.2
      | _=> ∃t sz,p.2= .row t sz []):Ent pl σ s:=by
  intro w0 M N ρ a w hpin hs;let ρ':Env:=fun k=>match Xn G k with
    | none=>none
    | some (some j)=>ρ j
    | some none=>match QO s.H k with
      | some (.row _ sz _)=>some ⟨0,0,0,sz,true,[]⟩
      | _=>none
  have r1: ∀k j,Xn G k=some (some j)->ρ' k=ρ j:=by intro k j hg;simp only[ρ',hg]
  have r2: ∀k b,QO s.H k=some b->Xn G k=some none-> ∃t sz,b= .row t sz []/\ρ' k=some ⟨0,0,0,sz,true,[]⟩:=by
    intro k b hk hg;have:=hH (k,b) (QAL hk);simp only[hg]at this;obtain⟨t,sz,e⟩:=this;subst e;exact⟨t,sz,rfl,by simp only[ρ',hk,hg]⟩
  have hg: ∀k b,QO s.H k=some b->(∃j b',Xn G k=some (some j)/\σ.H j=some b'/\MB (Xn G) b' b)∨Xn G k=some none:=by
    intro k b hk;have hm:=hH (k,b) (QAL hk);cases hgk:Xn G k with
    | none=>rw[(UD hkeys k).1 hgk]at hk;cases hk
    | some o=>
      cases o with
      | none=>exact .inr rfl
      | some j=>
        rw[hgk]at hm;obtain⟨b',h1,h2⟩:=hm;exact .inl ⟨j,b',rfl,h1,h2⟩
  have mlive: ∀{b b':Blk},XI (some b)=true->MB (Xn G) b' b->XI (some b')=true:=fun hl h=>by cases h<;>first | rfl | cases hl
  have mhas: ∀{b b':Blk} {bd:Xk} {i:Nat},MB (Xn G) b' b->XS bd (some b) i->XS bd (some b') i:=fun h hi=>by cases h<;>first | exact hi | (cases hi;exact Qs)
  have hown: ∀b,own ρ' (QO s.H) b->own ρ σ.H b:=by
    rintro b ⟨k,bd,a1,a2,a3,a4⟩;cases hb:QO s.H k with
    | none=>rw[hb]at a4;cases a4
    | some bb=>
      rcases hg k bb hb with⟨j,b',h1,h2,h3⟩ | h1
      · rw[r1 k j h1]at a1;exact⟨j,bd,a1,a2,by rw[h2];rw[hb]at a3;exact mhas h3 a3,by rw[h2];rw[hb]at a4;exact mlive a4 h3⟩
      · obtain⟨t,sz,e,e'⟩:=r2 k bb hb h1;rw[e']at a1;cases a1;cases a2
  have how: ∀b,ow M ρ' (QO s.H) b->ow M ρ σ.H b:=fun b h=>h.imp id (hown b);have s1: ∀k k' bd,Xn G k=some (some k')->ρ k'=some bd->ρ' k=some bd:=by
    intro k k' bd hg hr;rw[r1 k k' hg];exact hr
  have s2: ∀k,Xn G k=some none-> ∃bd,ρ' k=some bd/\bd.isNil=true:=by
    intro k hgk;cases hb:QO s.H k with
    | none=>rw[(UD hkeys k).2 hb]at hgk;cases hgk
    | some b=>
      obtain⟨t,sz,e,e'⟩:=r2 k b hb hgk;exact⟨_,e',rfl⟩
  have hjn: ∀k k' j,XI (QO s.H k)=true->XI (QO s.H k')=true->Xn G k=some (some j)->Xn G k'=some (some j)->k=k':=by
    intro k k' j l1 l2 h1 h2;simp only[QLZ,Zf]at hinj;have:=hinj _ (QAN l1 (QAM h1)) _ (QAN l2 (QAM h2));simp only[QIc,Nat.beq_refl,Bool.not_true,Bool.false_or]at this;exact Zb this
  have hHS:=hs.hs;have hpin': ∀k bd,M.pin k=some bd->ρ' k=some bd:=by
    intro k bd hk;have hp:=hpin.pin k (by rw[hk];simp);simp only[QLa,Zf]at hpl;have:=hpl k hp;split at this
    · rename_i j hj;have e:=Zb this;subst e;rw[r1 j j hj];exact hs.pin j bd hk
    · cases this
  refine⟨ρ',hs.size,hs.dfr,hs.dfn,hpin',?_,fun p hp t=>(hs.stk p hp t).env how fun k hk bd hb=> ?_,⟨hHS.os,hHS.tape,hHS.output,hHS.size,hHS.glob,hHS.old,?_,?_,?_,?_⟩⟩
  · intro t;rcases QAK (l:=s.T) (t:=t)with h | h
    · show ConcV w _ ρ' (Qi s.T t) _
      rw[h];trivial
    · exact(hT _ h).sound how s1 s2 (hs.tmps t)
  · obtain⟨bd',hb'⟩:=Zq.1 (hpin.stk p hp t k hk);rw[hs.pin k bd' hb']at hb;cases hb
    exact hpin' k _ hb'
  · intro k b hk hl;rcases hg k b hk with⟨j,b',h1,h2,h3⟩ | h1
    · obtain⟨bd,e,ok⟩:=hHS.blk j b' h2 (mlive hl h3);refine⟨bd,by rw[r1 k j h1];exact e,?_⟩;cases h3 with
      | box hm=>
        obtain⟨c1,vals,c2,c3⟩:=ok;exact⟨c1,vals,c2,hm.sound how s1 s2 c3⟩
      | @row _ _ xs' _ hle hm=>
        obtain⟨c1,c2,c3 | ⟨c3,arr,c4,c5,c6,c7⟩⟩:=ok
        · refine⟨by omega,c2,.inl ⟨c3.1,?_⟩⟩;obtain⟨_,e⟩:=c3;subst e;exact Zp (by simpa using hle.symm)
        · refine⟨by omega,c2,.inr ⟨c3,arr,c4,c5,by omega,fun i y hy=> ?_⟩⟩;have hlt:=(Ze.1 hy).1;obtain⟨x,hx⟩: ∃x,xs'[i]? =some x:=⟨_,Zn (by omega)⟩
          exact(hm i x y hx hy).1.sound0 how (hm i x y hx hy).2 (c7 i x hx)
      | same=>
        obtain⟨c1,c2,c3 | ⟨c3,arr,c4,c5,c6,c7⟩⟩:=ok
        · exact⟨c1,c2,.inl c3⟩
        · exact⟨c1,c2,.inr ⟨c3,arr,c4,c5,c6,fun i x hx=>(c7 i x hx).mono (.refl _ _) (fun b _ h=>how b h) (fun _ _ h=>h)⟩⟩
      | lp=>exact ok
      | mp=>exact ok
      | @nst _ _ o _ sz2 xs ys hxy=>
        obtain⟨c1,c2,c3,c4,arr,c5,c6,c7,c8⟩:=ok;rcases hxy with rfl | ⟨hlen,hxy⟩
        · exact⟨c1,c2,c3,c4,arr,c5,c6,c7,fun i x β hx hβ=>(c8 i x β hx hβ).sub how⟩
        · refine⟨c1,by omega,c3,⟨by omega,c4.2⟩,arr,c5,c6,by omega,fun i y β hy hβ=> ?_⟩;have hlt:=(Ze.1 hy).1;obtain⟨x,hx⟩: ∃x,xs[i]? =some x:=⟨_,Zn (by omega)⟩
          obtain⟨t,qa,qb,rfl,rfl,hl,hab⟩:=hxy i x y hx hy;obtain⟨pre,zs,post,us,us',cap,e1,e2,e3,d1,d2,arr2,d3,d4,d5,d6⟩:=(c8 i _ β hx hβ).sub (O':=ow M ρ' (QO s.H)) how;obtain⟨rfl,rfl,rfl⟩:pre=[.v t]/\zs=qa/\post=[]:=by
            match pre,e1 with
            | [],e1=>cases e1
            | [c],e1=>cases e1;exact⟨rfl,rfl,rfl⟩
            | c::c'::cs,e1=>simp at e1
          refine⟨[.v t],qb,[],us,us',cap,rfl,e2,by rw[e3,hl],d1,d2,arr2,d3,d4,by omega,fun j v hv=> ?_⟩;have hltj:=(Ze.1 hv).1;obtain⟨u,hu⟩: ∃u,zs[j]? =some u:=⟨_,Zn (by omega)⟩
          rcases hab j u v hu hv with⟨h1,h2⟩ | ⟨q,n,m,rfl,rfl,hb⟩
          · exact h1.sound0 (fun _ h=>h) h2 (d6 j u hu)
          · have hd:=d6 j _ hu;revert hd;generalize QX arr2 sz2 j=es;intro hd;cases hd with
            | r _ hd=>cases hd;exact .r hb .nil
      | dead=>cases hl
    · obtain⟨t,sz,e,e'⟩:=r2 k b hk h1;subst e;exact⟨_,e',rfl,rfl,.inl ⟨rfl,rfl⟩⟩
  · intro k hk;have hgk:=(UD hkeys k).2 hk;simp only[ρ',hgk]
  · intro k bd a1 a2 a3 i hi;cases hb:QO s.H k with
    | none=>rw[show s.st.H k=QO s.H k from rfl,hb]at a3;cases a3
    | some b=>
      rcases hg k b hb with⟨j,b',h1,h2,h3⟩ | h1
      · rw[r1 k j h1]at a1;exact hHS.rng j bd a1 a2 (by rw[h2];rw[show s.st.H k=QO s.H k from rfl,hb]at a3;exact mlive a3 h3) i (by rw[h2];rw[show s.st.H k=QO s.H k from rfl,hb]at hi;exact mhas h3 hi)
      · obtain⟨t,sz,e,e'⟩:=r2 k b hb h1;rw[e']at a1;cases a1;cases a2
  · intro k k' bd bd' a1 a2 a3 a4 a5 a6 i a7 a8;cases hb:QO s.H k with
    | none=>rw[show s.st.H k=QO s.H k from rfl,hb]at a5;cases a5
    | some b=>
      cases hb':QO s.H k' with
      | none=>rw[show s.st.H k'=QO s.H k' from rfl,hb']at a6;cases a6
      | some b1=>
        rcases hg k b hb with⟨j,b2,h1,h2,h3⟩ | h1
        · rcases hg k' b1 hb' with⟨j',b3,g1,g2,g3⟩ | g1
          · rw[r1 k j h1]at a1;rw[r1 k' j' g1]at a2;rw[show s.st.H k=QO s.H k from rfl]at a5;rw[show s.st.H k'=QO s.H k' from rfl]at a6;have:=hHS.dist j j' bd bd' a1 a2 a3 a4 (by rw[h2];rw[hb]at a5;exact mlive a5 h3) (by rw[g2];rw[hb']at a6;exact mlive a6 g3) i (by rw[h2];rw[show s.st.H k=QO s.H k from rfl,hb]at a7;exact mhas h3 a7) (by rw[g2];rw[show s.st.H k'=QO s.H k' from rfl,hb']at a8;exact mhas g3 a8);subst this;exact hjn k k' j a5 a6 h1 g1
          · obtain⟨t,sz,e,e'⟩:=r2 k' b1 hb' g1;rw[e']at a2;cases a2;cases a4
        · obtain⟨t,sz,e,e'⟩:=r2 k b hb h1;rw[e']at a1;cases a1;cases a3

end Go.Eng
namespace Go.Eng
open Go Go.RowKit
def eqV:Value->Value->Prop
  | .int k a,.int k' b=>bif decide (k=k')then a=b else False
  | .bool a,.bool b=>a=b
  | .string a,.string b=>a=b
  | x,y=>x=y
theorem QOb {x y:Value}(h:eqV x y):x=y:=by
 unfold eqV at h;split at h
 ·rename_i k a k' b;by_cases hk:k=k'
  ·simp only[hk,decide_true,R7]at h;rw[hk,h]
  ·simp[hk]at h
 ·rw[h]
 ·rw[h]
 ·exact h
def QG (xs ys:List (List Ch)):Prop:=xs.length=ys.length/\ ∀(i:Nat) (x y:List Ch),xs[i]? =some x->ys[i]? =some y->MC (fun _=>none) x y/\Qe y=[]

def gEq (o:Option (Option Nat))(k:Nat):Bool:=match o with | some (some j)=>j.beq k | _=>false
def QLb (g:Nat->Option (Option Nat)):List Nat->List Nat->Bool
 | [],[]=>true
 | k'::ks',k::ks=>gEq (g k) k'&&QLb g ks' ks
 | _,_=>false
def mcP (g:Nat->Option (Option Nat)):List Ch->List Ch->Prop->Prop
 | [],[],p=>p
 | .v x::cs,.v y::ds,p=>eqV x y/\mcP g cs ds p
 | .r q n::cs,.r q' m::ds,p=>q=q'/\n<=m/\mcP g cs ds p
 | .b q n::cs,.b q' m::ds,p=>q=q'/\n<=m/\mcP g cs ds p
 | .s sz xs::cs,.s sz' ys::ds,p=>sz=sz'/\xs=ys/\mcP g cs ds p
 | .p k' o::cs,.p k o'::ds,p=>bif gEq (g k) k' then o=o'/\mcP g cs ds p else False
 | .w k' o n::cs,.w k o' n'::ds,p=>bif gEq (g k) k' then o=o'/\n=n'/\mcP g cs ds p else False
 | .v x::cs,.w k o n::ds,p=>match g k with
  | some none=>x= .slice none 0 0/\o=0/\n=0/\mcP g cs ds p
  | _=>False
 | .e k' i o::cs,.e k i' o'::ds,p=>bif gEq (g k) k' then i=i'/\o=o'/\mcP g cs ds p else False
 | .y sz xs i o::cs,.y sz' ys i' o'::ds,p=>sz=sz'/\xs=ys/\i=i'/\o=o'/\mcP g cs ds p
 | .f fid ks'::cs,.f fid' ks::ds,p=>bif QLb g ks' ks then fid=fid'/\mcP g cs ds p else False
 | .i t ag ics::cs,.i t' ag' ics'::ds,p=>t=t'/\ag=ag'/\ics=ics'/\mcP g cs ds p
 | .m k'::cs,.m k::ds,p=>bif gEq (g k) k' then mcP g cs ds p else False
 | .yl k'::cs,.yl k::ds,p=>bif gEq (g k) k' then mcP g cs ds p else False
 | _,_,_=>False
theorem UE {o:Option (Option Nat)}{k:Nat}(h:gEq o k=true):o=some (some k):=by
 unfold gEq at h;split at h
 ·have:=Zb h;subst this;rfl
 ·cases h
theorem QFu {g:Nat->Option (Option Nat)}: ∀{ks' ks:List Nat},QLb g ks' ks=true->ks'.length=ks.length/\ ∀(i k k':Nat),ks[i]? =some k->ks'[i]? =some k'->g k=some (some k'):=by
 intro ks';induction ks' with
 | nil=>intro ks h;cases ks with
  | nil=>exact⟨rfl,by simp⟩
  | cons=>cases h
 | cons k' ks' ih=>
  intro ks h;cases ks with
  | nil=>cases h
  | cons k ks=>
   simp only[QLb,Za]at h;obtain⟨i1,i2⟩:=ih h.2;refine⟨by simp[i1],fun i a b ha hb=> ?_⟩;cases i with
   | zero=>simp at ha hb;subst ha hb;exact UE h.1
   | succ i=>exact i2 i a b (by simpa using ha) (by simpa using hb)
theorem QBA {g:Nat->Option (Option Nat)}{cs ds:List Ch}{p:Prop}(h:mcP g cs ds p):MC g cs ds/\p:=by
 fun_induction mcP g cs ds p with
 | case1 p=>exact⟨.nil,h⟩
 | case2 p x cs y ds ih=>
  have:=QOb h.1;subst this;exact⟨.v (ih h.2).1,(ih h.2).2⟩
 | case3 p q n cs q' m ds ih=>obtain⟨rfl,h1,h2⟩:=h;exact⟨.r h1 (ih h2).1,(ih h2).2⟩
 | case4 p q n cs q' m ds ih=>obtain⟨rfl,h1,h2⟩:=h;exact⟨.b h1 (ih h2).1,(ih h2).2⟩
 | case5 p sz xs cs sz' ys ds ih=>obtain⟨rfl,rfl,h2⟩:=h;exact⟨.s (ih h2).1,(ih h2).2⟩
 | case6 k' o cs k o' ds p hb ih=>obtain⟨rfl,h2⟩:=h;exact⟨.p (UE hb) (ih h2).1,(ih h2).2⟩
 | case7=>exact h.elim
 | case8 k' o n cs k o' n' ds p hb ih=>obtain⟨rfl,rfl,h2⟩:=h;exact⟨.w (UE hb) (ih h2).1,(ih h2).2⟩
 | case9=>exact h.elim
 | case10 x cs k o n ds p hk ih=>obtain⟨rfl,rfl,rfl,h2⟩:=h;exact⟨.w0 hk (ih h2).1,(ih h2).2⟩
 | case11=>exact h.elim
 | case12 k' i o cs k i' o' ds p hb ih=>obtain⟨rfl,rfl,h2⟩:=h;exact⟨.e (UE hb) (ih h2).1,(ih h2).2⟩
 | case13=>exact h.elim
 | case14 sz xs i o cs sz' ys i' o' ds p ih=>obtain⟨rfl,rfl,rfl,rfl,h2⟩:=h;exact⟨.y (ih h2).1,(ih h2).2⟩
 | case15 fid ks' cs fid' ks ds p hb ih=>obtain⟨rfl,h2⟩:=h;exact⟨.f (QFu hb).1 (QFu hb).2 (ih h2).1,(ih h2).2⟩
 | case16=>exact h.elim
 | case17 t ag ics cs t' ag' ics' ds p ih=>obtain⟨rfl,rfl,rfl,h2⟩:=h;exact⟨.i (ih h2).1,(ih h2).2⟩
 | case18 k' cs k ds p hb ih=>exact⟨.m (UE hb) (ih h).1,(ih h).2⟩
 | case19=>exact h.elim
 | case20 k' cs k ds p hb ih=>exact⟨.yl (UE hb) (ih h).1,(ih h).2⟩
 | case21=>exact h.elim
 | case22=>exact h.elim
def maP (g:Nat->Option (Option Nat))(a b:AV)(p:Prop):Prop:=
 match a,b with
 | _,.u=>p
 | .n,.n=>p
 | .x t cs,.x t' ds=>bif t==t' then mcP g cs ds p else False
 | _,_=>False
theorem QOc {g:Nat->Option (Option Nat)}{a b:AV}{p:Prop}(h:maP g a b p):MA g a b/\p:=by
 unfold maP at h;split at h
 ·exact⟨.u,h⟩
 ·exact⟨.n,h⟩
 ·rename_i t cs t' ds;cases hb:t==t' with
  | false=>rw[hb]at h;exact h.elim
  | true=>
   rw[hb]at h;have:t=t':=by simpa using hb
   subst this;exact⟨.x (QBA h).1,(QBA h).2⟩
 ·exact h.elim
def mbP (g:Nat->Option (Option Nat))(a b:Blk)(p:Prop):Prop:=
 match a,b with
 | .box t cs,.box t' ds=>t=t'/\mcP g cs ds p
 | .row t sz xs,.row t' sz' ys=>t=t'/\sz=sz'/\(xs=ys∨QG xs ys)/\p
 | .lp s,.lp s'=>s=s'/\p
 | .mp f,.mp f'=>f=f'/\p
 | .nst t sz o t2 sz2 xs,.nst t' sz' o' t2' sz2' ys=>(t=t'/\sz=sz'/\o=o'/\t2=t2'/\sz2=sz2')/\(xs=ys∨YO sz2 xs ys)/\p
 | _,.dead=>p
 | _,_=>False
theorem QOd {g:Nat->Option (Option Nat)}{a b:Blk}{p:Prop}(h:mbP g a b p):MB g a b/\p:=by
 unfold mbP at h;split at h
 ·obtain⟨rfl,h⟩:=h;exact⟨.box (QBA h).1,(QBA h).2⟩
 ·obtain⟨rfl,rfl,h | h,hp⟩:=h
  ·subst h;exact⟨.same,hp⟩
  ·exact⟨.row h.1 h.2,hp⟩
 ·obtain⟨rfl,hp⟩:=h;exact⟨.lp,hp⟩
 ·obtain⟨rfl,hp⟩:=h;exact⟨.mp,hp⟩
 ·obtain⟨⟨rfl,rfl,rfl,rfl,rfl⟩,h,hp⟩:=h;exact⟨.nst h,hp⟩
 ·exact⟨.dead,h⟩
 ·exact h.elim
def JW:List Ch->List Ch->List (Nat×Option Nat)
 | .p k' _::cs,.p k _::ds=>(k,some k')::JW cs ds
 | .w k' _ _::cs,.w k _ _::ds=>(k,some k')::JW cs ds
 | .e k' _ _::cs,.e k _ _::ds=>(k,some k')::JW cs ds
 | .f _ ks'::cs,.f _ ks::ds=>(List.zipWith (fun k k'=>(k,some k')) ks ks')++JW cs ds
 | .m k'::cs,.m k::ds=>(k,some k')::JW cs ds
 | .yl k'::cs,.yl k::ds=>(k,some k')::JW cs ds
 | .v _::cs,.w k _ _::ds=>(k,none)::JW cs ds
 | _::cs,_::ds=>JW cs ds
 | _,_=>[]
def QEF (σ:St):List (Nat×AV)->List (Nat×Option Nat)
 | []=>[]
 | (t,.x _ ds)::l=>(match σ.T t with | .x _ cs=>JW cs ds | _=>[])++QEF σ l
 | _::l=>QEF σ l
def QBB (σ:St)(G:List (Nat×Option Nat)):List (Nat×Blk)->List (Nat×Option Nat)
 | []=>[]
 | (k,.box _ ds)::l=>(match Xn G k with
  | some (some j)=>(match σ.H j with | some (.box _ cs)=>JW cs ds | _=>[])
  | _=>[])++QBB σ G l
 | _::l=>QBB σ G l
def QRU (pl:List Nat)(G:List (Nat×Option Nat))(k:Nat):Option Nat:=bif XJ k pl then some k else(Xn G k).getD none
def QCU (pl:List Nat)(σ:St)(s:SL):List (Nat×Option Nat):=
 let G1:=pl.map (fun k=>(k,some k))++QEF σ s.T
 let G2:=G1++QBB σ G1 s.H
 let G3:=G2++QBB σ G2 s.H
 s.H.map fun p=>(p.1,QRU pl G3 p.1)
def tP (g:Nat->Option (Option Nat))(T:TM):List (Nat×AV)->Prop->Prop
 | [],p=>p
 | (t,b)::l,p=>maP g (T t) b (tP g T l p)
theorem QQM {g:Nat->Option (Option Nat)}{T:TM}: ∀{l:List (Nat×AV)} {p:Prop},tP g T l p->(∀q∈l,MA g (T q.1) q.2)/\p:=by
  intro l;induction l with
  | nil=>exact fun h=>⟨by simp,h⟩
  | cons q l ih=>
    intro p h;obtain⟨t,b⟩:=q;obtain⟨h1,h2⟩:=QOc h;obtain⟨h3,h4⟩:=ih h2
    exact ⟨fun q hq => by rcases List.mem_cons.1 hq with rfl | hq
                          · exact h1
                          · exact h3 q hq,h4⟩

def hP1 (g:Nat->Option (Option Nat))(H:HP)(k:Nat)(b:Blk)(p:Prop):Prop:=
 match g k with
 | some (some j)=>match H j with
  | some b'=>mbP g b' b p
  | none=>False
 | _=>match b with
  | .row _ _ xs=>xs=[]/\p
  | _=>False
def hP (g:Nat->Option (Option Nat))(H:HP):List (Nat×Blk)->Prop->Prop
 | [],p=>p
 | (k,b)::l,p=>hP1 g H k b (hP g H l p)
theorem QQN {g : Nat → Option (Option Nat)} {H : HP} : ∀ {l : List (Nat × Blk)} {p : Prop}, hP g H l p → (∀ q ∈ l, match g q.1 with
      | some (some k)=> ∃b,H k=some b/\MB g b q.2
      | _=> ∃t sz,q.2= .row t sz [])/\p:=by
  intro l;induction l with
  | nil=>exact fun h=>⟨by simp,h⟩
  | cons q l ih=>
    intro p h;obtain⟨k,b⟩:=q
    have key:(match g k with
      | some (some j)=> ∃b',H j=some b'/\MB g b' b
      | _=> ∃t sz,b= .row t sz [])/\hP g H l p:=by
      simp only[hP,hP1]at h;cases hg:g k with
      | none=>
        rw[hg]at h;simp only at h;split at h
        · obtain⟨rfl,h2⟩:=h;exact⟨⟨_,_,rfl⟩,h2⟩
        · exact h.elim
      | some o=>
        cases o with
        | none=>
          rw[hg]at h;simp only at h;split at h
          · obtain⟨rfl,h2⟩:=h;exact⟨⟨_,_,rfl⟩,h2⟩
          · exact h.elim
        | some j=>
          rw[hg]at h;simp only at h;split at h
          · rename_i b' hb';obtain⟨h1,h2⟩:=QOd h;exact⟨⟨b',hb',h1⟩,h2⟩
          · exact h.elim
    obtain⟨h3,h4⟩:=ih key.2;refine⟨fun q hq=> ?_,h4⟩;rcases Zl.1 hq with rfl | hq
    · exact key.1
    · exact h3 q hq

def YX (pl:List Nat)(σ:St)(s:SL):Prop:=
 let G:=QCU pl σ s
 bif QLa pl G&&QLZ (Hc s.H G)then tP (Xn G) σ.T s.T (hP (Xn G) σ.H s.H True)else False
theorem Wo {pl:List Nat}{σ:St}{s:SL}(h:YX pl σ s):Ent pl σ s:=by
 unfold YX at h;simp only at h;cases hb:QLa pl (QCU pl σ s)&&QLZ (Hc s.H (QCU pl σ s))with
 | false=>rw[hb]at h;exact h.elim
 | true=>
  rw[hb]at h;simp only[R7]at h;simp only[Za]at hb;obtain⟨h1,h2⟩:=QQM h;exact Ent.mk (QCU pl σ s) hb.1 (by simp[QCU]) hb.2 h1 (QQN h2).1
end Go.Eng
namespace Go.Eng
open Go Go.RowKit
inductive Ex where
 | n
 | x (id:Nat)
 | r
abbrev QQ:=Ex->St->Prop
structure Inv where
  X:Type
  S:X->SL
  φ:X->Prop
  m:X->Nat
  t:X->Nat

inductive KM:Type 1 where
  | inv (I:Inv)
  | inv2 (A B:Inv)
  | invf (K:List Nat) (I:Inv)
  | unroll (n:Nat)
  | cut (I:Inv)
  | cutf (K:List Nat) (I:Inv)
  | cutf2 (K:List Nat) (A B:Inv)
  | it (I:Inv) (K:List Nat) (k:Nat) (kt:List Nat) (L:I.X->Nat->KM)
  | no

def QEG (K:List Nat)(H:HP):List Ch->List Ch
 | []=>[]
 | .w k o n::cs=>(bif XJ k K then(match H k with | some (.row _ sz xs)=> .s sz ((xs.drop o).take n) | some (.nst _ sz _ _ _ xs)=> .s sz ((xs.drop o).take n) | _=> .w k o n)else .w k o n)::QEG K H cs
 | c::cs=>c::QEG K H cs
def QQO (K:List Nat)(H:HP):AV->AV
 | .x b cs=> .x b (QEG K H cs)
 | .t l=> .t (l.map fun p=>(p.1,QEG K H p.2))
 | a=>a
def KN (K:List Nat)(H:HP):HP:=fun k=>match H k with
 | some (.row t sz xs)=>bif XJ k K then some .dead else some (.row t sz xs)
 | some (.nst t sz o t2 sz2 xs)=>bif XJ k K then some .dead else some (.nst t sz o t2 sz2 xs)
 | some (.box t cs)=>some (.box t (QEG K H cs))
 | b=>b
def Ut:List Nat->St->St
 | [],σ=>σ
 | k::K,σ=>⟨fun t=>QQO (k::K) σ.H (σ.T t),KN (k::K) σ.H⟩
section frz
variable {w0:World}{M:Ctx}{ρ:Env}{H:HP}{w:World}{K:List Nat}
theorem X0 {k:Nat}(hk:XI (KN K H k)=true):XI (H k)=true/\ ∀bd b,XS bd (KN K H k) b->XS bd (H k) b:=by
 unfold KN at hk⊢;cases e:H k with
 | none=>rw[e]at hk;cases hk
 | some B=>
  rw[e]at hk;cases B with
  | row t sz xs=>
   simp only at hk⊢;cases hm:XJ k K with
   | true=>rw[hm]at hk;cases hk
   | false=>exact⟨rfl,fun _ _ h=>h⟩
  | box t cs=>exact⟨rfl,fun _ _ h=>h⟩
  | lp s=>exact⟨rfl,fun _ _ h=>h⟩
  | mp f=>exact⟨rfl,fun _ _ h=>h⟩
  | nst t sz o t2 sz2 xs=>
   simp only at hk⊢;cases hm:XJ k K with
   | true=>rw[hm]at hk;cases hk
   | false=>exact⟨rfl,fun _ _ h=>h⟩
  | dead=>cases hk
theorem QId {b:Nat}(h:own ρ (KN K H) b):own ρ H b:=by
 obtain⟨k,bd,a1,a2,a3,a4⟩:=h;exact⟨k,bd,a1,a2,(X0 a4).2 bd b a3,(X0 a4).1⟩
theorem Kl {b:Nat}(h:ow M ρ (KN K H) b):ow M ρ H b:=h.imp id QId
theorem CC.frz (hs:HS w0 M ρ H w): ∀{cs:List Ch} {vs:List Value},CC w (ow M ρ H) ρ cs vs->CC w (ow M ρ (KN K H)) ρ (QEG K H cs) vs:=by
 have lift: ∀{cs:List Ch} {vs:List Value},CC w (ow M ρ H) ρ cs vs->CC w (ow M ρ (KN K H)) ρ cs vs:=fun h=>h.mono (.refl _ _) (fun b _ h=>Kl h) (fun _ _ h=>h);intro cs;induction cs with
 | nil=>intro vs h;cases h;exact .nil
 | cons c cs ih=>
  intro vs h;obtain⟨us,rest,rfl,hl,h1,h2⟩:=h.cons;have h2':=ih h2;cases c with
  | w k o n=>
   simp only[QEG];cases hm:XJ k K with
   | false=>simp only[R8];exact(lift h1).append h2'
   | true=>
    simp only[R7];split
    ·rename_i t sz xs hk;match us,hl with
     | [u0],_=>
      have hA:=QFo hs hk h1 (O':=ow M ρ (KN K H)) (fun b hb=>Kl hb) (fun bd hρ hn hb=> ?_)
      ·exact(hA.mono (.refl _ _) (fun _ _ h=>h) (fun _ _ h=>by cases h):CC w _ ρ _ _).append h2'
      ·rcases hb with hb | ⟨k',bd',a1,a2,a3,a4⟩
       ·exact hs.nx hρ hn (by rw[hk];rfl) hb
       ·have hl':XI (H k')=true:=(X0 a4).1;have:=hs.dist k' k bd' bd a1 hρ a2 hn hl' (by rw[hk];rfl) _ ((X0 a4).2 bd' _ a3) Qs;subst this;unfold KN at a4;rw[hk,hm]at a4;cases a4
    ·rename_i t sz oo t2 sz2 xs hk;match us,hl with
     | [u0],_=>
      have hA:=QFp hs hk h1 (O':=ow M ρ (KN K H)) (fun b hb=>Kl hb) (fun bd hρ hn b hB hb=> ?_)
      ·exact(hA.mono (.refl _ _) (fun _ _ h=>h) (fun _ _ h=>by cases h):CC w _ ρ _ _).append h2'
      ·rcases hb with hb | ⟨k',bd',a1,a2,a3,a4⟩
       ·exact hs.nxB hρ hn (by rw[hk];rfl) hB hb
       ·have hl':XI (H k')=true:=(X0 a4).1;have:=hs.dist k' k bd' bd a1 hρ a2 hn hl' (by rw[hk];rfl) _ ((X0 a4).2 bd' _ a3) hB;subst this;unfold KN at a4;rw[hk,hm]at a4;cases a4
    ·exact(lift h1).append h2'
  | _=>exact(lift h1).append h2'
theorem ConcV.frz (hs:HS w0 M ρ H w){av:AV}{v:Value}(h:ConcV w (ow M ρ H) ρ av v):ConcV w (ow M ρ (KN K H)) ρ (QQO K H av) v:=by
 cases av with
 | x b cs=>obtain⟨vals,h1,h2⟩:=h;exact⟨vals,h1.frz hs,h2⟩
 | t l=>
  obtain⟨vs,h1,h2⟩:=h;refine⟨vs,?_,h2⟩;clear h2;induction h1 with
  | nil=>exact .nil
  | cons hx _ ih=>obtain⟨vals,k1,k2⟩:=hx;exact .cons ⟨vals,k1.frz hs,k2⟩ ih
 | n=>exact h
 | u=>trivial
theorem HS.frz (hs:HS w0 M ρ H w):HS w0 M ρ (KN K H) w:=by
 have hlv: ∀k,XI (KN K H k)=true->XI (H k)=true:=by
  intro k hk;exact(X0 hk).1
 refine⟨hs.os,hs.tape,hs.output,hs.size,hs.glob,hs.old,?_,?_,fun k bd a b c i hi=>hs.rng k bd a b (hlv k c) i ((X0 c).2 bd i hi),fun k k' bd bd' a b c d e f i g g'=>hs.dist k k' bd bd' a b c d (hlv k e) (hlv k' f) i ((X0 e).2 bd i g) ((X0 f).2 bd' i g')⟩
 ·intro k b hk hl;unfold KN at hk;split at hk
  ·rename_i t sz xs e;cases hm:XJ k K with
   | true=>rw[hm]at hk;cases hk;cases hl
   | false=>
    rw[hm]at hk;cases hk
    obtain⟨bd,e1,ok⟩:=hs.blk k _ e rfl;refine⟨bd,e1,?_⟩;obtain⟨c1,c2,c3 | ⟨c3,arr,c4,c5,c6,c7⟩⟩:=ok
    ·exact⟨c1,c2,.inl c3⟩
    ·exact⟨c1,c2,.inr ⟨c3,arr,c4,c5,c6,fun i x hx=>(c7 i x hx).mono (.refl _ _) (fun b _ h=>Kl h) (fun _ _ h=>h)⟩⟩
  ·rename_i t sz o t2 sz2 xs e;cases hm:XJ k K with
   | true=>rw[hm]at hk;cases hk;cases hl
   | false=>
    rw[hm]at hk;cases hk
    obtain⟨bd,e1,c1,c2,c3,c4,arr,c5,c6,c7,c8⟩:=hs.blk k _ e rfl;exact⟨bd,e1,c1,c2,c3,c4,arr,c5,c6,c7,fun i x β hx hβ=>(c8 i x β hx hβ).sub (fun b h=>Kl h)⟩
  ·rename_i t cs e;cases hk
   obtain⟨bd,e1,ok⟩:=hs.blk k _ e rfl;obtain⟨c1,vals,c2,c3⟩:=ok;exact⟨bd,e1,c1,vals,c2,c3.frz hs⟩
  ·rename_i hn1 hn3 hn2;obtain⟨bd,e1,ok⟩:=hs.blk k b hk hl;refine⟨bd,e1,?_⟩;cases b with
   | box t cs=>exact absurd hk (hn2 t cs)
   | row t sz xs=>exact absurd hk (hn1 t sz xs)
   | lp s=>exact ok
   | mp f=>exact ok
   | nst t sz o t2 sz2 xs=>exact absurd hk (hn3 t sz o t2 sz2 xs)
   | dead=>cases hl
 ·intro k hk;unfold KN at hk;split at hk
  ·rename_i t sz xs e;cases hm:XJ k K<;>(rw[hm]at hk;cases hk)
  ·rename_i e;cases hm:XJ k K<;>(rw[hm]at hk;cases hk)
  ·cases hk
  ·exact hs.dom k hk
theorem Sim.frz {N:Nat}{σ:St}{a:Act}(h:Sim w0 M N ρ σ a w)(K:List Nat):Sim w0 M N ρ (Ut K σ) a w:=by
 cases K with
 | nil=>exact h
 | cons k K=>exact⟨h.size,h.dfr,h.dfn,h.pin,fun t=>(h.tmps t).frz h.hs,fun p hp t=>(h.stk p hp t).mono (.refl _ _) (fun b _ h=>Kl h) (fun _ _ h=>h),h.hs.frz⟩
end frz
def QIe (pl:List Nat)(I:Inv)(body:Nat->St->QQ->Prop)(μ:Nat)(σ:St)(Q:QQ):Prop:=
 (∃x,(I.φ x/\I.t x=μ)/\YX pl σ (I.S x))/\
  ∀x,I.φ x->I.t x=μ->body (I.m x) (I.S x).st fun e σ'=>match e with
   | .n=> ∃x',(I.φ x'/\I.t x'=μ/\I.m x'<I.m x)/\YX pl σ' (I.S x')
   | e=>Q e σ'
def QIf (pl:List Nat)(K:List Nat)(I:Inv)(body:Nat->St->QQ->Prop)(μ:Nat)(σ:St)(Q:QQ):Prop:=
 (∃x,(I.φ x/\I.t x=μ)/\YX pl (Ut K σ) (I.S x))/\
  ∀x,I.φ x->I.t x=μ->body (I.m x) (I.S x).st fun e σ'=>match e with
   | .n=> ∃x',(I.φ x'/\I.t x'=μ/\I.m x'<I.m x)/\YX pl (Ut K σ') (I.S x')
   | e=>Q e σ'
def QCV (A B:Inv):Inv where
  X:=A.X ⊕ B.X
  S:=Sum.elim A.S B.S
  φ:=Sum.elim A.φ B.φ
  m:=Sum.elim A.m B.m
  t:=Sum.elim A.t B.t
def QQP:KM->KM
 | .inv2 A B=> .inv (QCV A B)
 | l=>l
def Km (body:St->QQ->Prop):Nat->St->QQ->Prop
 | 0,_,_=>False
 | n+1,σ,Q=>body σ fun e σ'=>match e with
  | .n=>Km body n σ' Q
  | e=>Q e σ'
def QIg (pl:List Nat)(L:KM)(body:Nat->St->QQ->Prop)(μ:Nat)(σ:St)(Q:QQ):Prop:=
 match QQP L with
 | .inv I=>QIe pl I body μ σ Q
 | .invf K I=>QIf pl K I body μ σ Q
 | .unroll n=>Km (body μ) n σ Q
 | _=>False
def QIh (pl:List Nat)(K:List Nat)(I:Inv)(a b:St->QQ->Prop)(μ:Nat)(σ:St)(Q:QQ):Prop:=
  (a σ fun e σ'=>match e with
    | .n=> ∃x,(I.φ x/\I.t x=μ)/\YX pl (Ut K σ') (I.S x)
    | e=>Q e σ')/\ ∀x,I.φ x->I.t x=μ->b (I.S x).st Q

def Jm:Code->Option Nat
  | .region id _ _=>some id
  | .seq a b=>match Jm a with
    | some i=>some i
    | none=>Jm b
  | .cond _ a b=>match Jm a with
    | some i=>some i
    | none=>Jm b
  | .block _ c=>Jm c
  | .loop c=>Jm c
  | _=>none

abbrev LI:=Nat->KM
def QOe (L:LI)(b:Code):Option (List Nat×Inv×Option Inv):=match Jm b with
 | some i=>match L i with
  | .cut I=>some ([],I,none)
  | .cutf K I=>some (K,I,none)
  | .cutf2 K A B=>some (K,A,some B)
  | _=>none
 | none=>none
def cutI (L:LI)(b:Code):Option (List Nat×Inv):=match QOe L b with
 | some (K,I,none)=>some (K,I)
 | some (K,A,some B)=>some (K,QCV A B)
 | none=>none
abbrev WF:=List Nat->Option Nat->Nat->St->QQ->Prop
abbrev RGT:=Nat->List Oper->Bool->St->(St->Prop)->Prop
abbrev RFT:=KM->Operand->List Nat->WF->WF->WF
def wpG (RG:RGT)(L:LI)(RF:RFT):Code->WF
  | .skip,_,_,_,σ,Q=>Q .n σ
  | .region _ ops draw,_,_,μ,σ,Q=>RG μ ops.toList draw σ (Q .n)
  | .seq a b,pl,ro,μ,σ,Q=>match cutI L b with
    | some (K,I)=>QIh pl K I (wpG RG L RF a pl ro μ) (wpG RG L RF b pl ro μ) μ σ Q
    | none=>wpG RG L RF a pl ro μ σ fun e σ'=>match e with
      | .n=>wpG RG L RF b pl ro μ σ' Q
      | e=>Q e σ'
  | .cond c a b,pl,ro,μ,σ,Q=>match evA σ.T c with
    | .x false [.v (.bool t)]=>bif t then wpG RG L RF a pl ro μ σ Q else wpG RG L RF b pl ro μ σ Q
    | _=>False
  | .block id c,pl,ro,μ,σ,Q=>wpG RG L RF c pl ro μ σ fun e σ'=>match e with
    | .x i=>bif i.beq id then Q .n σ' else Q (.x i) σ'
    | e=>Q e σ'
  | .loop c,pl,ro,μ,σ,Q=>QIg pl (match Jm c with | some i=>L i | none=> .no) (wpG RG L RF c pl ro) μ σ Q
  | .rangeFunc f ps a b,pl,ro,μ,σ,Q=>RF (match Jm a with | some i=>L i | none=> .no) f ps.toList (wpG RG L RF a) (wpG RG L RF b) pl ro μ σ Q
  | .exit id,_,_,_,σ,Q=>Q (.x id) σ
  | .label _,_,_,_,σ,Q=>Q .n σ
  | .ret,_,_,_,σ,Q=>Q .r σ
  | _,_,_,_,_,_=>False

variable {P:Program}{w0:World}{M:Ctx}{N:Nat}
def PQ (w0:World)(M:Ctx)(N:Nat)(ws:World)(Q:QQ)(Q':Exit->Act->World->Prop):Prop:=
  ∀a w,(KJ w0 M N ws (Q .n) a w->Q' .normal a w)/\(∀i,KJ w0 M N ws (Q (.x i)) a w->Q' (.exit i) a w)/\(KJ w0 M N ws (Q .r) a w->Q' .ret a w)

def QBC (p:Nat):Oper:={dst:=some p,op:= .move (.tmp 0),type:=0,pos:= "",after:= #[],guard:=none}
def JB (ok:List Oper->Bool->Bool):Code->Bool
  | .region _ ops draw=>ok ops.toList draw
  | .seq a b=>JB ok a&&JB ok b
  | .cond _ a b=>JB ok a&&JB ok b
  | .block _ c=>JB ok c
  | .loop c=>JB ok c
  | .rangeFunc _ ps a b=>ps.toList.all (fun p=>ok [QBC p] false)&&(JB ok a&&JB ok b)
  | _=>true

abbrev CX:=Ctx->Option Nat->Option Nat->Prop

def QOf (P:Program)(w0:World)(M:Ctx)(N:Nat)(r:Option Nat)(ok:List Oper->Bool->Bool)(RG:RGT):Prop:=
 ∀(id:Nat) (ops:List Oper) (draw:Bool),ok ops draw=true-> ∀μ ρ σ a w ws K n Q',NC ws w->Sim w0 M N ρ σ a w->RG μ ops draw σ K->(∀a w,KJ w0 M N ws K a w->Q' Exit.normal a w)->(Code.region id ops.toArray draw).wpIn (FR r) n P Q' a w
def Snd (P:Program)(w0:World)(N:Nat)(CM:CX)(c:Code)(W:WF):Prop:=
  ∀{M pl ro r n μ ρ σ a w ws Q Q'},CM M ro r->QEE M pl->NC ws w->Sim w0 M N ρ σ a w->W pl ro μ σ Q->PQ w0 M N ws Q Q'->c.wpIn (FR r) n P Q' a w

theorem Wa (r:Option Nat)(m:Machine):m.fenced P (FR r):=fenced_wide P m
theorem QAO {CM:CX}{ok:List Oper->Bool->Bool}{RG:RGT}{L:LI}{RF:RFT}(hRG: ∀M ro r,CM M ro r->QOf P w0 M N r ok RG)
  (hRF: ∀it f (ps:Array Tmp) a b wa wb,ps.toList.all (fun p=>ok [QBC p] false)=true->Snd P w0 N CM a wa->Snd P w0 N CM b wb->Snd P w0 N CM (.rangeFunc f ps a b) (RF it f ps.toList wa wb)): ∀(c:Code),JB ok c=true->Snd P w0 N CM c (wpG RG L RF c):=by
 intro c;induction c with
 | skip=>intro _ M pl ro r n μ ρ σ a w ws Q Q' _ _ hn hs h hq;exact wpIn_skip ((hq a w).1 ⟨ρ,σ,hs,h,hn⟩)
 | region id ops draw=>
  intro hk M pl ro r n μ ρ σ a w ws Q Q' hcm _ hn hs h hq;have:=hRG M ro r hcm id ops.toList draw hk μ ρ σ a w ws (Q .n) n Q' hn hs h (fun a w h=>(hq a w).1 h);simpa using this
 | seq x y ihx ihy=>
  intro hk M pl ro r n μ ρ σ a w ws Q Q' hcm hpl hn hs h hq;have hk1:=(Za _ _▸hk).1;have hk2:=(Za _ _▸hk).2;simp only[wpG]at h;split at h
  ·obtain⟨h,hb⟩:=h;refine wpIn_seq (ihx hk1 hcm hpl hn hs h (Q':=Exit.then (y.wpIn (FR r) n P Q') Q') fun a w=>⟨?_,?_,?_⟩)
   ·rintro⟨ρ',σ',hs',⟨x,h1,h2⟩,hn'⟩;obtain⟨ρ2,hs2⟩:=Wo h2 _ _ _ _ _ _ hpl (hs'.frz _);exact ihy hk2 hcm hpl hn' hs2 (hb x h1.1 h1.2) hq
   ·rintro i ⟨ρ',σ',hs',h',hn'⟩;exact(hq a w).2.1 i ⟨ρ',σ',hs',h',hn'⟩
   ·rintro⟨ρ',σ',hs',h',hn'⟩;exact(hq a w).2.2 ⟨ρ',σ',hs',h',hn'⟩
  ·refine wpIn_seq (ihx hk1 hcm hpl hn hs h (Q':=Exit.then (y.wpIn (FR r) n P Q') Q') fun a w=>⟨?_,?_,?_⟩)
   ·rintro⟨ρ',σ',hs',h',hn'⟩;exact ihy hk2 hcm hpl hn' hs' h' hq
   ·rintro i ⟨ρ',σ',hs',h',hn'⟩;exact(hq a w).2.1 i ⟨ρ',σ',hs',h',hn'⟩
   ·rintro⟨ρ',σ',hs',h',hn'⟩;exact(hq a w).2.2 ⟨ρ',σ',hs',h',hn'⟩
 | cond c x y ihx ihy=>
  intro hk M pl ro r n μ ρ σ a w ws Q Q' hcm hpl hn hs h hq;have hk1:=(Za _ _▸hk).1;have hk2:=(Za _ _▸hk).2;simp only[wpG]at h;split at h
  ·rename_i t he;have hcv:a.eval c= .bool t:=by
    cases c with
    | tmp k=>have:=hs.tmps k;rw[show σ.T k=_ from he]at this;exact(ConcX.one this).1
    | const v=>cases v<;>simp[evA]at he<;>first | exact congrArg Value.bool he | skip
    | func f=>simp[evA]at he
    | global g=>simp[evA]at he
   exact wpIn_cond_split hcv (fun ht=>ihx hk1 hcm hpl hn hs (by rw[ht]at h;exact h) hq) (fun ht=>ihy hk2 hcm hpl hn hs (by rw[ht]at h;exact h) hq)
  ·exact h.elim
 | block id c ih=>
  intro hk M pl ro r n μ ρ σ a w ws Q Q' hcm hpl hn hs h hq;refine wpIn_block (ih hk hcm hpl hn hs h (Q':=Exit.inBlock id Q') fun a w=>⟨?_,?_,?_⟩)
  ·rintro⟨ρ',σ',hs',h',hn'⟩;exact(hq a w).1 ⟨ρ',σ',hs',h',hn'⟩
  ·rintro i ⟨ρ',σ',hs',h',hn'⟩;simp only[Exit.inBlock];cases hb:i.beq id with
   | true=>
    have:=Zb hb;rw[if_pos this];simp only[hb,R7]at h';exact(hq a w).1 ⟨ρ',σ',hs',h',hn'⟩
   | false=>
    rw[if_neg (fun e=>by subst e;simp at hb)];simp only[hb,R8]at h';exact(hq a w).2.1 i ⟨ρ',σ',hs',h',hn'⟩
  ·rintro⟨ρ',σ',hs',h',hn'⟩;exact(hq a w).2.2 ⟨ρ',σ',hs',h',hn'⟩
 | loop c ih=>
  intro hk M pl ro r n μ ρ σ a w ws Q Q' hcm hpl hn hs h hq;simp only[wpG,QIg]at h;split at h
  ·-- by what is known at its head
   rename_i I _;obtain⟨⟨x0,h0,he0⟩,hr⟩:=h;intro b k cs hro hfb hroom;have key: ∀j x,I.m x=j->(I.φ x/\I.t x=μ)-> ∀ρ a w,NC ws w->Sim w0 M N ρ (I.S x).st a w-> ∃e a' w',Q' e a' w'/\ArrivesIn (Machine.fenced P (FR r)) P (lone (b.atR a (.code c:: .inLoop c::k)) cs w) b k cs e a' w':=by
    intro j;induction j using Nat.strongRecOn with
    | _ j ihn=>
     intro x hm hx ρ a w hn hs
     have hround:=ih hk hcm hpl hn hs (hr x hx.1 hx.2) (n:=n) (Q':=Exit.then (fun a' w'=> ∃x',(I.φ x'/\I.t x'=μ)/\I.m x'<I.m x/\ ∃ρ',Sim w0 M N ρ' (I.S x').st a' w'/\NC ws w') Q') (fun a w=>⟨by
       rintro⟨ρ',σ',hs',⟨x',h1,h3⟩,hn'⟩;obtain⟨ρ2,hs2⟩:=Wo h3 _ _ _ _ _ _ hpl hs';exact⟨x',⟨h1.1,h1.2.1⟩,h1.2.2,ρ2,hs2,hn'⟩,by
       rintro i ⟨ρ',σ',hs',h',hn'⟩;exact(hq a w).2.1 i ⟨ρ',σ',hs',h',hn'⟩,by
       rintro⟨ρ',σ',hs',h',hn'⟩;exact(hq a w).2.2 ⟨ρ',σ',hs',h',hn'⟩⟩) b (.inLoop c::k) cs hro hfb hroom
     obtain⟨e,a₁,w₁,hq1,harr⟩:=hround;cases e with
     | normal=>
      obtain⟨x',h1,h2,ρ',hs',hn'⟩:=hq1;obtain⟨e₂,a₂,w₂,hq₂,harr₂⟩:=ihn (I.m x') (by omega) x' rfl h1 ρ' a₁ w₁ hn' hs';exact⟨e₂,a₂,w₂,hq₂,.of_steps (StepsIn.trans harr (.one (Wa r _) stepR_inLoop)) harr₂⟩
     | exit id=>exact⟨_,a₁,w₁,hq1,.pass (x:= .inLoop c) rfl (fun _ _=> .inl (by simp)) harr⟩
     | goto l=>exact⟨_,a₁,w₁,hq1,.pass (x:= .inLoop c) rfl (fun _ _=> .inl (by simp)) harr⟩
     | ret=>exact⟨_,a₁,w₁,hq1,.pass (x:= .inLoop c) rfl (fun _ _=> .inl (by simp)) harr⟩
     | panic ch=>exact⟨_,a₁,w₁,hq1,.pass (x:= .inLoop c) rfl (fun _ _=> .inl (by simp)) harr⟩
     | outgrown=>exact⟨_,a₁,w₁,hq1,.pass (x:= .inLoop c) rfl (fun _ _=> .inl (by simp)) harr⟩
   obtain⟨ρ',hs'⟩:=Wo he0 _ _ _ _ _ _ hpl hs;obtain⟨e,a',w',hq',harr⟩:=key _ x0 rfl h0 ρ' a w hn hs';exact⟨e,a',w',hq',.of_steps (.one (Wa r _) stepR_loop) harr⟩
  ·-- the same, rows read alone from there on
   rename_i K I _;obtain⟨⟨x0,h0,he0⟩,hr⟩:=h;intro b k cs hro hfb hroom;have key: ∀j x,I.m x=j->(I.φ x/\I.t x=μ)-> ∀ρ a w,NC ws w->Sim w0 M N ρ (I.S x).st a w-> ∃e a' w',Q' e a' w'/\ArrivesIn (Machine.fenced P (FR r)) P (lone (b.atR a (.code c:: .inLoop c::k)) cs w) b k cs e a' w':=by
    intro j;induction j using Nat.strongRecOn with
    | _ j ihn=>
     intro x hm hx ρ a w hn hs
     have hround:=ih hk hcm hpl hn hs (hr x hx.1 hx.2) (n:=n) (Q':=Exit.then (fun a' w'=> ∃x',(I.φ x'/\I.t x'=μ)/\I.m x'<I.m x/\ ∃ρ',Sim w0 M N ρ' (I.S x').st a' w'/\NC ws w') Q') (fun a w=>⟨by
       rintro⟨ρ',σ',hs',⟨x',h1,h3⟩,hn'⟩;obtain⟨ρ2,hs2⟩:=Wo h3 _ _ _ _ _ _ hpl (hs'.frz _);exact⟨x',⟨h1.1,h1.2.1⟩,h1.2.2,ρ2,hs2,hn'⟩,by
       rintro i ⟨ρ',σ',hs',h',hn'⟩;exact(hq a w).2.1 i ⟨ρ',σ',hs',h',hn'⟩,by
       rintro⟨ρ',σ',hs',h',hn'⟩;exact(hq a w).2.2 ⟨ρ',σ',hs',h',hn'⟩⟩) b (.inLoop c::k) cs hro hfb hroom
     obtain⟨e,a₁,w₁,hq1,harr⟩:=hround;cases e with
     | normal=>
      obtain⟨x',h1,h2,ρ',hs',hn'⟩:=hq1;obtain⟨e₂,a₂,w₂,hq₂,harr₂⟩:=ihn (I.m x') (by omega) x' rfl h1 ρ' a₁ w₁ hn' hs';exact⟨e₂,a₂,w₂,hq₂,.of_steps (StepsIn.trans harr (.one (Wa r _) stepR_inLoop)) harr₂⟩
     | exit id=>exact⟨_,a₁,w₁,hq1,.pass (x:= .inLoop c) rfl (fun _ _=> .inl (by simp)) harr⟩
     | goto l=>exact⟨_,a₁,w₁,hq1,.pass (x:= .inLoop c) rfl (fun _ _=> .inl (by simp)) harr⟩
     | ret=>exact⟨_,a₁,w₁,hq1,.pass (x:= .inLoop c) rfl (fun _ _=> .inl (by simp)) harr⟩
     | panic ch=>exact⟨_,a₁,w₁,hq1,.pass (x:= .inLoop c) rfl (fun _ _=> .inl (by simp)) harr⟩
     | outgrown=>exact⟨_,a₁,w₁,hq1,.pass (x:= .inLoop c) rfl (fun _ _=> .inl (by simp)) harr⟩
   obtain⟨ρ',hs'⟩:=Wo he0 _ _ _ _ _ _ hpl (hs.frz _);obtain⟨e,a',w',hq',harr⟩:=key _ x0 rfl h0 ρ' a w hn hs';exact⟨e,a',w',hq',.of_steps (.one (Wa r _) stepR_loop) harr⟩
  ·-- round by round
   rename_i m _;intro b k cs hro hfb hroom;have key: ∀m ρ σ a w,NC ws w->Sim w0 M N ρ σ a w->Km (wpG RG L RF c pl ro μ) m σ Q-> ∃e a' w',Q' e a' w'/\ArrivesIn (Machine.fenced P (FR r)) P (lone (b.atR a (.code c:: .inLoop c::k)) cs w) b k cs e a' w':=by
    intro m;induction m with
    | zero=>intro ρ σ a w _ _ h;exact h.elim
    | succ m ihn=>
     intro ρ σ a w hn hs h
     have hround:=ih hk hcm hpl hn hs h (n:=n) (Q':=Exit.then (fun a' w'=> ∃ρ' σ',Sim w0 M N ρ' σ' a' w'/\Km (wpG RG L RF c pl ro μ) m σ' Q/\NC ws w') Q') (fun a w=>⟨by
       rintro⟨ρ',σ',hs',h3,hn'⟩;exact⟨ρ',σ',hs',h3,hn'⟩,by
       rintro i ⟨ρ',σ',hs',h',hn'⟩;exact(hq a w).2.1 i ⟨ρ',σ',hs',h',hn'⟩,by
       rintro⟨ρ',σ',hs',h',hn'⟩;exact(hq a w).2.2 ⟨ρ',σ',hs',h',hn'⟩⟩) b (.inLoop c::k) cs hro hfb hroom
     obtain⟨e,a₁,w₁,hq1,harr⟩:=hround;cases e with
     | normal=>
      obtain⟨ρ',σ',hs',h',hn'⟩:=hq1;obtain⟨e₂,a₂,w₂,hq₂,harr₂⟩:=ihn ρ' σ' a₁ w₁ hn' hs' h';exact⟨e₂,a₂,w₂,hq₂,.of_steps (StepsIn.trans harr (.one (Wa r _) stepR_inLoop)) harr₂⟩
     | exit id=>exact⟨_,a₁,w₁,hq1,.pass (x:= .inLoop c) rfl (fun _ _=> .inl (by simp)) harr⟩
     | goto l=>exact⟨_,a₁,w₁,hq1,.pass (x:= .inLoop c) rfl (fun _ _=> .inl (by simp)) harr⟩
     | ret=>exact⟨_,a₁,w₁,hq1,.pass (x:= .inLoop c) rfl (fun _ _=> .inl (by simp)) harr⟩
     | panic ch=>exact⟨_,a₁,w₁,hq1,.pass (x:= .inLoop c) rfl (fun _ _=> .inl (by simp)) harr⟩
     | outgrown=>exact⟨_,a₁,w₁,hq1,.pass (x:= .inLoop c) rfl (fun _ _=> .inl (by simp)) harr⟩
   obtain⟨e,a',w',hq',harr⟩:=key m ρ σ a w hn hs h;exact⟨e,a',w',hq',.of_steps (.one (Wa r _) stepR_loop) harr⟩
  ·exact h.elim
 | rangeFunc f ps x y ihx ihy=>
  intro hk M pl ro r n μ ρ σ a w ws Q Q' hcm hpl hn hs h hq;simp only[JB,Za]at hk;exact hRF _ f ps x y _ _ hk.1 (ihx hk.2.1) (ihy hk.2.2) hcm hpl hn hs h hq
 | exit id=>intro _ M pl ro r n μ ρ σ a w ws Q Q' _ _ hn hs h hq;exact wpIn_exit ((hq a w).2.1 id ⟨ρ,σ,hs,h,hn⟩)
 | label l=>intro _ M pl ro r n μ ρ σ a w ws Q Q' _ _ hn hs h hq;exact wpIn_label ((hq a w).1 ⟨ρ,σ,hs,h,hn⟩)
 | ret=>intro _ M pl ro r n μ ρ σ a w ws Q Q' _ _ hn hs h hq;exact wpIn_ret ((hq a w).2.2 ⟨ρ,σ,hs,h,hn⟩)
 | _=>intro _ M pl ro r n μ ρ σ a w ws Q Q' _ _ _ _ h _;exact h.elim
end Go.Eng
namespace Go.Eng
open Go Go.RowKit
def Qx:Op->Bool
  | .move _ | .assign _ | .load .. | .fieldAddr .. | .field .. | .indexAddr .. | .index .. | .extract .. | .binOp .. | .unOp .. | .convert .. | .pick .. | .lookup .. | .nilCheck _=>true
  | .slice _ _ _ _ none=>true
  | .call c=>match c.callee with
    | .builtin .len=>true
    | .builtin .min=>true
    | _=>false
  | _=>false

theorem Jn {op:Op}(h:Qx op=true):U1 op=false:=by
 cases op<;>simp[Qx]at h<;>first | rfl | skip
 case slice t x lo hi mx=>cases mx with
  | none=>rfl
  | some m=>simp at h
 rename_i c;obtain⟨callee,args,ts⟩:=c;cases callee with
 | builtin b=>cases b<;>simp at h<;>rfl
 | _=>simp at h
def KO:Op->Bool
  | .alloc _=>true
  | .makeMap _ none=>true
  | .buildSlice .. =>true
  | .nilCheck _=>true
  | .build .. =>true
  | o=>Qx o

theorem QG1 (T:Qh){ev ev':Operand->AV}{H:HP}{d:Nat}{K:KK}{op:Op}(h: ∀x∈op.operands.toList,ev x=ev' x):opS T ev H d K op=opS T ev' H d K op:=by
 have pairs: ∀ps:Array (Nat×Operand),(∀x∈ps.toList.map (·.2),ev x=ev' x)->(ps.toList.map fun p=>(p.1,ev p.2))=(ps.toList.map fun p=>(p.1,ev' p.2)):=fun ps hp=>
  Zv fun p hm=>by rw[hp p.2 (List.mem_map.2 ⟨p,hm,rfl⟩)]
 cases op<;>simp only[Op.operands]at h<;>simp only[opS]
 case build t ps=>rw[pairs ps fun x hx=>h x (by simpa using hx)]
 case buildSlice t n ps=>rw[pairs ps fun x hx=>h x (by simpa using hx)]
 case slice t x lo hi mx=>cases lo<;>cases hi<;>cases mx<;>simp_all
 case makeFunc fn first cap=>
  have hc:cap.toList.map ev=cap.toList.map ev':=Zv fun y hy=>h y (by simp;exact .inr (by simpa using hy));rw[hc]
 case makeInterface t x=>rw[h x (by simp)]
 case makeMap t r=>cases r<;>simp_all
 case call c=>
  obtain⟨callee,args,argTypes⟩:=c;have hargs:args.toList.map ev=args.toList.map ev':=Zv fun x hx=>h x (by simp only[Call.operands];cases callee<;>simp_all);cases callee with
  | value f=>
   have hf:ev f=ev' f:=h f (by simp[Call.operands]);simp only[hf,hargs]
  | invoke r m=>
   have hr:ev r=ev' r:=h r (by simp[Call.operands]);simp only[hr,hargs]
  | builtin b=>
   have ha: ∀x∈args.toList,ev x=ev' x:=fun x hx=>h x (by simp only[Call.operands];simp_all);simp only;split<;>simp_all
 all_goals (first | rfl | (simp_all;done))
theorem VF (T:Qh){ev:Operand->AV}{H:HP}{d:Nat}{K:KK}{op:Op}(h:Qx op=true):opS T ev H d K op=opS T ev H d (fun v _=>K v H) op:=by
 cases op<;>simp[Qx]at h<;>first | rfl | skip
 case slice t x lo hi mx=>cases mx with
  | none=>rfl
  | some m=>simp at h
 rename_i c;obtain⟨callee,args,ts⟩:=c;cases callee with
 | builtin b=>
  cases b<;>simp at h
  all_goals
   simp only[opS]
   split<;>first | rfl | (rename_i h1 h2;cases h1) | skip
   all_goals (first | rfl | contradiction)
 | _=>simp at h
def Det {α:Type}(f:(α->Prop)->Prop):Prop:= ∀K0,f K0-> ∃v,∀K,f K↔K v
theorem Det.orF (o:Option AV):Det (orF o):=fun K0 h=>by
 cases o with
 | none=>exact h.elim
 | some v=>exact⟨v,fun K=>Zs⟩
theorem Xo {T:Qh}{t:Nat}{α:Type}{f:TyI->(α->Prop)->Prop}(h: ∀i,Det (f i)):Det fun K=>XC T t fun i=>f i K:=fun K0 h0=>by
 unfold XC at h0⊢;cases hi:T.tb t with
 | none=>rw[hi]at h0;exact h0.elim
 | some i=>rw[hi]at h0;simp only;exact h i K0 h0
theorem YH {α:Type}{p:Prop}{f:(α->Prop)->Prop}(hf:Det f):Det fun K=>p/\f K:=fun K0 h=>by
 obtain⟨v,hv⟩:=hf K0 h.2;exact⟨v,fun K=>⟨fun hk=>(hv K).1 hk.2,fun hk=>⟨h.1,(hv K).2 hk⟩⟩⟩
theorem Qp {α:Type}(v:α):Det fun K=>K v:=fun _ _=>⟨v,fun _=>Zs⟩
theorem QJ {α:Type}:Det fun(_:α->Prop)=>False:=fun _ h=>h.elim
theorem X7 {α:Type}{b:Bool}{f g:(α->Prop)->Prop}(hf:Det f)(hg:Det g):Det fun K=>bif b then f K else g K:=by
 cases b
 ·exact hg
 ·exact hf
theorem QFv {α:Type}{o:Option (List Ch)}{sz:Nat}{f:List (List Ch)->(α->Prop)->Prop}(hf: ∀x,Det (f x)):Det fun K=> ∃ys,o=some [.s sz ys]/\f ys K:=fun K0 h=>by
 obtain⟨x,h1,h2⟩:=h;obtain⟨v,hv⟩:=hf x K0 h2;exact⟨v,fun K=>⟨fun⟨y,a1,a2⟩=>by rw[h1]at a1;cases a1;exact(hv K).1 a2,fun hk=>⟨x,h1,(hv K).2 hk⟩⟩⟩
theorem QBD (sh:List Sh)(xs:List (List Ch))(j o n:Nat)(agg:Bool):Det (ldP sh xs j o n agg):=fun K0 h=>by
 obtain⟨cs,h1,h2,h3⟩:=VS.1 h;refine⟨.x agg cs,fun K=>⟨fun hk=> ?_,fun hk=>VS.2 ⟨cs,h1,h2,hk⟩⟩⟩;obtain⟨cs',_,k2,k3⟩:=VS.1 hk;rw[h2]at k2;cases k2
 exact k3
theorem QG2 (i:TyI)(sh:List Sh)(a:AV)(H:HP):Det (QAB i sh a H):=by
 unfold QAB;split
 ·split
  ·exact Det.orF _
  ·exact QJ
 ·exact QBD _ _ _ _ _ _
 ·split
  ·exact QBD _ _ _ _ _ _
  ·refine X7 ?_ QJ
   exact QFv fun ys=>Qp _
  ·exact QJ
 ·split
  ·refine X7 ?_ QJ
   exact QFv fun ys=>QBD _ _ _ _ _ _
  ·exact QJ
 ·exact QJ
theorem Hd (i:TyI)(a:AV)(f:Nat)(tb:TB):Det (JN i a f tb):=by
 unfold JN;split
 ·split
  ·split
   ·refine X7 QJ ?_
    split
    ·exact Qp _
    ·exact Qp _
    ·exact Qp _
    ·exact QJ
   ·exact QJ
  ·exact QJ
 ·exact QJ
theorem QEH (i:TyI)(a:AV)(f:Nat)(tb:TB):Det (Vy i a f tb):=by
 unfold Vy;split
 ·split
  ·split
   ·split
    ·exact Det.orF _
    ·exact QJ
   ·exact QJ
  ·exact QJ
 ·exact QJ
theorem He (i:TyI)(a ix:AV)(H:HP)(tb:TB):Det (JO i a ix H tb):=by
 unfold JO;split
 ·split
  ·split
   ·exact X7 (YH (Qp _)) QJ
   ·split
    ·exact X7 (YH (Qp _)) QJ
    ·exact X7 (YH (Qp _)) QJ
    ·exact QJ
   ·split
    ·exact X7 (YH (Qp _)) QJ
    ·exact QJ
   ·exact QJ
  ·exact QJ
 ·split
  ·split
   ·split
    ·exact X7 (YH (Qp _)) QJ
    ·exact QJ
   ·exact QJ
  ·exact QJ
 ·exact QJ
theorem QEI (i:TyI)(a ix:AV):Det (V0 i a ix):=by
 unfold V0;split
 ·intro K0 h;obtain⟨b,h1,h2⟩:=h;exact⟨_,fun K=>⟨fun⟨b',k1,k2⟩=>by rw[h1.2]at k1;cases k1.2;exact k2,fun hk=>⟨b,h1,hk⟩⟩⟩
 ·intro K0 h;obtain⟨b,h1,h2⟩:=h;exact⟨_,fun K=>⟨fun⟨b',k1,k2⟩=>by rw[h1.2]at k1;cases k1.2;exact k2,fun hk=>⟨b,h1,hk⟩⟩⟩
 ·exact QJ
theorem QOg (r:BR):Det (r.run):=by
 cases r with
 | ok v=>exact Qp _
 | need p v=>exact YH (Qp _)
 | bad=>exact QJ
theorem Det.map {α β:Type}{f:(α->Prop)->Prop}(h:Det f)(g:α->β):Det fun K:β->Prop=>f fun v=>K (g v):=fun K0 h0=>by
 obtain⟨v,hv⟩:=h _ h0;exact⟨g v,fun K=>hv _⟩
theorem QIi (op:BinOp)(x y:AV):Det (QIU op x y):=by
 unfold QIU;split
 ·exact(QOg _).map YF
 ·split
  ·exact Qp _
  ·exact Qp _
  ·exact QJ
 ·split
  ·exact Qp _
  ·exact Qp _
  ·exact QJ
 ·split
  ·exact YH (Qp _)
  ·exact Qp _
  ·exact Qp _
  ·exact QJ
 ·exact QJ
theorem QIj (tb:TB)(t:Nat)(op:BinOp)(x y:AV):Det (QGt tb t op x y):=by
 unfold QGt;split
 ·unfold eqA;split
  ·exact QJ
  ·refine X7 ?_ QJ
   split
   ·exact QJ
   ·refine X7 ?_ QJ
    split
    ·exact QJ
    ·split
     ·exact Qp _
     ·exact Qp _
     ·exact QJ
 ·split
  ·split
   ·exact YH (Qp _)
   ·exact YH (Qp _)
   ·exact QJ
  ·exact QIi _ _ _
theorem QLc (op:UnOp)(x:AV):Det (unA op x):=by
 unfold unA;split
 ·exact Qp _
 ·exact Qp _
 ·exact QJ
theorem QEJ {a b:UInt8}(h:QK a=QK b):a=b:=by
 unfold QK at h;simp at h;exact UInt8.toNat_inj.1 (by omega)
theorem Hf {a b:List UInt8}(h:a.map QK=b.map QK):a=b:=by
 induction a generalizing b with
 | nil=>cases b with
  | nil=>rfl
  | cons y b=>simp at h
 | cons x a ih=>cases b with
  | nil=>simp at h
  | cons y b=>
   simp only[Zz,List.cons.injEq]at h;rw[QEJ h.1,ih h.2]
theorem QG3 (i j:TyI)(a:AV)(H:HP):Det (QCM i j a H):=by
 unfold QCM;split
 ·exact Qp _
 ·exact Qp _
 ·exact Qp _
 ·split
  ·intro K0 h;obtain⟨bs,h1,h2⟩:=h;exact⟨_,fun K=>⟨fun⟨bs',k1,k2⟩=>by rw[h1]at k1;rw[Hf k1];exact k2,fun hk=>⟨bs,h1,hk⟩⟩⟩
  ·exact QJ
 ·exact QJ
theorem WN {α:Type}{x:Option AV}{d:Int}{f:Int->(α->Prop)->Prop}(h: ∀j,Det (f j)):Det fun K=>bnd x d fun j=>f j K:=by
 unfold bnd;split
 ·exact h _
 ·exact h _
 ·exact QJ
theorem QEK (i:TyI)(a:AV)(lo hi:Option AV)(H:HP)(tb:TB):Det (V7 i a lo hi none H tb):=by
 unfold V7;simp only;split
 ·exact WN fun l=>WN fun h=>YH (Qp _)
 ·split
  ·exact X7 (WN fun l=>WN fun h=>YH (Qp _)) QJ
  ·exact QJ
 ·split
  ·exact X7 (WN fun l=>WN fun h=>YH (Qp _)) QJ
  ·exact QJ
 ·split
  ·exact X7 (WN fun l=>WN fun h=>YH (Qp _)) QJ
  ·exact QJ
 ·exact QJ
theorem QCW (tb:TB)(i:TyI)(m x:AV)(ok:Bool)(H:HP):Det (Kk tb i m x ok H):=by
 unfold Kk;split
 ·split
  ·split
   ·split
    ·exact Qp _
    ·exact QJ
   ·exact Qp _
   ·exact QJ
  ·exact QJ
 ·exact QJ
theorem QCX (m:Bool)(a b:AV):Det (Wl m a b):=by
 unfold Wl;split<;>first | exact Qp _ | exact QJ
theorem QIk (i:TyI)(a:AV):Det (QGu i a):=by
 unfold QGu;split<;>first | exact Qp _ | exact QJ
theorem QEL (i:TyI)(parts:List (Nat×AV))(tb:TB):Det (V1 i parts tb):=by
 unfold V1;split
 ·split
  ·rename_i fs _ pl _;intro K0 h;cases ho:QAF (fun j=>pl[j]?) (i.zero.map Ch.v) parts with
   | none=>rw[ho]at h;exact h.elim
   | some cs=>exact⟨.x true cs,fun K=>Zs⟩
  ·exact QJ
 ·exact QJ
theorem QG4 (i j:TyI)(a:AV)(H:HP):Det (QAI i j a H):=by
 unfold QAI;split
 ·exact Qp _
 ·exact QG3 _ _ _ _
theorem Det.two {f:(AV->Prop)->Prop}(h:Det f)(H:HP): ∀K0:KK,f (fun v=>K0 v H)-> ∃v,∀K:KK,f (fun v=>K v H)↔K v H:=fun K0 h0=>by
 obtain⟨v,hv⟩:=h _ h0;exact⟨v,fun K=>hv _⟩
theorem QLd (T:Qh){ev:Operand->AV}{H:HP}{d:Nat}{op:Op}(h:KO op=true): ∀K0,opS T ev H d K0 op-> ∃v H1,(Qx op=true->H1=H)/\ ∀K,opS T ev H d K op↔K v H1:=by
 intro K0 h0;have rd: ∀{f:(AV->Prop)->Prop},Det f->f (fun v=>K0 v H)->(∃v H1,(Qx op=true->H1=H)/\ ∀K:KK,f (fun v=>K v H)↔K v H1):=fun hf h0=>by
  obtain⟨v,hv⟩:=hf.two H K0 h0;exact⟨v,H,fun _=>rfl,hv⟩
 cases op<;>simp[KO,Qx]at h
 case move x=>exact⟨_,H,fun _=>rfl,fun K=>Zs⟩
 case assign x=>exact⟨_,H,fun _=>rfl,fun K=>Zs⟩
 case load t x=>exact rd (f:=fun K=>XC T t fun i=>QAB i (shT T t i) (ev x) H K) (Xo fun i=>QG2 _ _ _ _) h0
 case fieldAddr t x f=>exact rd (f:=fun K=>XC T t fun i=>JN i (ev x) f T.tb K) (Xo fun i=>Hd _ _ _ _) h0
 case build t ps=>exact rd (f:=fun K=>XC T t fun i=>V1 i (ps.toList.map fun p:Nat×Operand=>(p.1,ev p.2)) T.tb K) (Xo fun i=>QEL _ _ _) h0
 case field t x f=>exact rd (f:=fun K=>XC T t fun i=>Vy i (ev x) f T.tb K) (Xo fun i=>QEH _ _ _ _) h0
 case indexAddr t x ix=>exact rd (f:=fun K=>XC T t fun i=>JO i (ev x) (ev ix) H T.tb K) (Xo fun i=>He _ _ _ _ _) h0
 case index t x ix=>exact rd (f:=fun K=>XC T t fun i=>V0 i (ev x) (ev ix) K) (Xo fun i=>QEI _ _ _) h0
 case binOp op xt x y yt=>exact rd (f:=QGt T.tb xt op (ev x) (ev y)) (QIj _ _ _ _ _) h0
 case lookup t m x ok=>exact rd (f:=fun K=>XC T t fun i=>Kk T.tb i (ev m) (ev x) ok H K) (Xo fun i=>QCW _ _ _ _ _ _) h0
 case unOp op xt x=>exact rd (f:=unA op (ev x)) (QLc _ _) h0
 case convert s t x=>exact rd (f:=fun K=>XC T s fun i=>XC T t fun j=>bif KH T i&&KH T j then QAI i j (ev x) H K else False) (Xo fun i=>Xo fun j=>X7 (QG4 _ _ _ _) QJ) h0
 case slice t x lo hi mx=>
  cases mx with
  | none=>exact rd (f:=fun K=>XC T t fun i=>V7 i (ev x) (lo.map ev) (hi.map ev) none H T.tb K) (Xo fun i=>QEK _ _ _ _ _ _) h0
  | some m=>simp at h
 case pick c x y=>
  simp only[opS]at h0⊢;split at h0
  ·rename_i b hb;cases b
   ·exact⟨_,H,fun _=>rfl,fun K=>Zs⟩
   ·exact⟨_,H,fun _=>rfl,fun K=>Zs⟩
  ·exact h0.elim
 case call c=>
  obtain⟨callee,args,ts⟩:=c;cases callee with
  | builtin b=>
   cases b<;>simp at h
   case min=>
    have key: ∀K:KK,opS T ev H d K (.call ⟨.builtin .min,args,ts⟩)↔(match args.toList with
     | [x,y]=>Wl false (ev x) (ev y) fun v=>K v H
     | _=>False):=fun K=>by
     simp only[opS];split
     ·rename_i hb _ _;exact absurd hb (by simp)
     ·rename_i hb _ _;exact absurd hb (by simp)
     ·rename_i h1;simp only[h1]
     ·rename_i hb _;exact absurd hb (by simp)
     ·rename_i hne1 hne2 hne3 hne4;split
      ·rename_i h1;first | exact(hne1 _ _ rfl h1).elim | exact(hne2 _ _ rfl h1).elim | exact(hne3 _ _ rfl h1).elim | exact(hne4 _ _ rfl h1).elim | (have:=hne3 _ _;simp_all)
      ·exact Zs
    have h1:=(key K0).1 h0;split at h1
    ·rename_i x y e1;obtain⟨v,hv⟩:=(QCX false (ev x) (ev y)).two H K0 h1;exact⟨v,H,fun _=>rfl,fun K=>by rw[key];simp only[e1];exact hv K⟩
    ·exact h1.elim
   have key: ∀K:KK,opS T ev H d K (.call ⟨.builtin .len,args,ts⟩)↔(match args.toList,ts.toList with
    | [a],[t]=>XC T t fun i=>QGu i (ev a) fun v=>K v H
    | _,_=>False):=fun K=>by
    simp only[opS];split
    ·rename_i h1 h2;simp only[h1,h2]
    ·rename_i hb _ _;exact absurd hb (by simp)
    ·rename_i hb _;exact absurd hb (by simp)
    ·rename_i hb _;exact absurd hb (by simp)
    ·rename_i hne1 hne2 hne3 hne4;split
     ·rename_i h1 h2;first | exact(hne1 _ _ rfl h1 h2).elim | exact(hne2 _ _ rfl h1 h2).elim | exact(hne3 _ _ rfl h1 h2).elim | exact(hne4 _ _ rfl h1 h2).elim | (have:=hne1 _ _;simp_all)
     ·exact Zs
   have h1:=(key K0).1 h0;split at h1
   ·rename_i a t e1 e2;obtain⟨v,hv⟩:=(Xo (T:=T) (t:=t) fun i=>QIk i (ev a)).two H K0 h1;exact⟨v,H,fun _=>rfl,fun K=>by rw[key];simp only[e1,e2];exact hv K⟩
   ·exact h1.elim
  | _=>simp at h
 case extract x n=>
  simp only[opS]at h0⊢;split at h0
  ·split at h0
   ·exact⟨_,H,fun _=>rfl,fun K=>Zs⟩
   ·exact h0.elim
  ·exact h0.elim
 case alloc t=>
  simp only[opS]at h0⊢;unfold XC at h0⊢;cases hi:T.tb t with
  | none=>rw[hi]at h0;exact h0.elim
  | some i=>
   rw[hi]at h0;simp only at h0⊢;unfold QA0 at h0⊢;split at h0
   ·exact h0.elim
   ·split at h0
    ·split at h0
     ·rename_i n e _ _ ei hte;cases hb:(i.cells.beq (n*ei.cells)&&Nat.blt 0 ei.cells)with
      | false=>rw[hb]at h0;exact h0.elim
      | true=>
       rw[hb]at h0;simp only[R7]at h0⊢;exact⟨.x false [.p d 0],upd H d (some (.row t ei.cells (List.replicate n (ei.zero.map Ch.v)))),(fun h=>absurd h (by simp[Qx])),fun K=>Iff.intro (fun hk=>hk.1 _ rfl h0.2) (fun hk=>And.intro (fun _ _ _=>hk) h0.2)⟩
     ·exact h0.elim
    ·exact⟨_,_,(fun h=>absurd h (by simp[Qx])),fun K=>Zs⟩
 case makeMap t r=>
  cases r with
  | some x=>simp at h
  | none=>
   simp only[opS]at h0⊢;unfold XC at h0⊢;cases hi:T.tb t with
   | none=>rw[hi]at h0;exact h0.elim
   | some i=>
    rw[hi]at h0;simp only at h0⊢;unfold KF at h0⊢;split at h0
    ·exact⟨_,_,(fun h=>absurd h (by simp[Qx])),fun K=>Zs⟩
    ·exact h0.elim
 case buildSlice t n ps=>
  simp only[opS]at h0⊢;unfold XC at h0⊢;cases hi:T.tb t with
  | none=>rw[hi]at h0;exact h0.elim
  | some i=>
   rw[hi]at h0;simp only at h0⊢;split at h0
   ·rename_i e hu;cases he:T.tb e with
    | none=>rw[he]at h0;exact h0.elim
    | some ei=>
     rw[he]at h0;simp only at h0⊢;unfold WM at h0⊢;rcases hnp:KC H (ps.toList.map fun p=>(p.1,ev p.2))with _ | ⟨tv,k,m,t2,sz2,ys⟩
     rotate_left
     ·simp only[hnp]at h0⊢;cases hb:(n.beq 1&&ei.cells.beq 2)with
      | false=>rw[hb]at h0;exact h0.elim
      | true=>
       rw[hb]at h0;simp only[R7]at h0⊢;split at h0
       ·exact⟨_,_,(fun h=>absurd h (by simp[Qx])),fun K=>⟨fun h=>h.2,fun h=>⟨h0.1,h⟩⟩⟩
       ·exact h0.elim
     simp only[hnp]at h0⊢;cases hb:((n*ei.cells).ble 1000000&&(ps.toList.map fun p=>(p.1,ev p.2)).length.beq n&&Nat.blt 0 ei.cells)with
     | false=>rw[hb]at h0;exact h0.elim
     | true=>
      rw[hb]at h0;simp only[R7]at h0⊢;unfold orH at h0⊢;split at h0
      ·split at h0
       ·exact⟨_,_,(fun h=>absurd h (by simp[Qx])),fun K=>Zs⟩
       ·exact h0.elim
      ·exact h0.elim
   ·exact h0.elim
 case nilCheck x=>
  simp only[opS]at h0⊢;split at h0
  ·exact⟨_,H,(fun _=>rfl),fun K=>Zs⟩
  ·exact⟨_,H,(fun _=>rfl),fun K=>Zs⟩
  ·exact⟨_,H,(fun _=>rfl),fun K=>Zs⟩
  ·exact h0.elim
theorem QIl (g:Bool)(v:AV):Det (WI g v):=by
 unfold WI;cases g with
 | false=>exact Qp _
 | true=>
  simp only[R7];split
  ·rename_i b;intro K0 h;cases b with
   | true=>exact⟨_,fun K=>Zs⟩
   | false=>exact⟨_,fun K=>Zs⟩
  ·exact Qp _
end Go.Eng
namespace Go.Eng
open Go Go.RowKit
def gOf (o:Oper)(T:TM):List Nat:=fp (evA T) o.op++YW o.op (YC o.dst)
def QAP (ops:List Oper)(o:Oper):List Nat:=
  (o.op.operands.toList.filterMap fun x=>match x with | .tmp t=>some t | _=>none)++(match Jd ops o with | some t=>[t] | none=>[])

structure Hg (ops:List Oper)(o:Oper)(σ σ2:St):Prop where
 ev: ∀x∈o.op.operands.toList,evA σ.T x=evA σ2.T x
 gd: ∀t,Jd ops o=some t->σ.T t=σ2.T t
 hp: ∀k∈gOf o σ.T,σ.H k=σ2.H k
theorem VY {ev ev':Operand->AV}{op:Op}(h: ∀x∈op.operands.toList,ev x=ev' x):fp ev op=fp ev' op:=by
 have key:QFt ev op=QFt ev' op:= ?_
 ·unfold fp;split
  ·rfl
  ·rfl
  ·rfl
  ·rfl
  ·exact key
 unfold QFt;generalize op.operands.toList=l at h;induction l with
 | nil=>rfl
 | cons x xs ih=>simp only[Ye];rw[h x (by simp),ih fun y hy=>h y (by simp[hy])]
theorem Hg.g {ops:List Oper}{o:Oper}{σ σ2:St}(h:Hg ops o σ σ2):gOf o σ.T=gOf o σ2.T:=by
 unfold gOf;rw[VY h.ev]
theorem QCY {F D:List Nat}{H H2:HP}(h: ∀k∈F++D,H k=H2 k):Xx F D H=Xx F D H2:=by
 funext k;unfold Xx;cases hm:XJ k F
 ·rfl
 ·simp only[R7];exact h k (by simp[Q9.1 hm])
def Jo:Nat->List Nat->Bool:=fun _ _=>true
def app (o:Oper)(G:List Nat)(v:AV)(H1:HP)(σ:St):St:=⟨YE σ.T o.dst v,mrg G H1 σ.H⟩

theorem QCZ {G:List Nat}{H:HP}:mrg G H H=H:=by funext k;unfold mrg;cases XJ k G<;>rfl
theorem Jp {G:List Nat}{H1 H:HP}(h: ∀k∈G,H1 k=H k):mrg G H1 H=H:=by
 funext k;unfold mrg;cases hm:XJ k G
 ·rfl
 ·exact h k (Q9.1 hm)
variable {T:Qh}{ops:List Oper}{i j:Nat}{o p:Oper}{σ σ2:St}
theorem UF {K K':St->Prop}(ha:Hg ops o σ σ2)
    (hK: ∀v H1,(Qx o.op=true-> ∀k∈gOf o σ.T,H1 k=σ.H k)->K (app o (gOf o σ.T) v H1 σ)=K' (app o (gOf o σ.T) v H1 σ2)):
    opA T ops Jo i o σ K=opA T ops Jo i o σ2 K':=by
  have hskip:K ⟨YE σ.T o.dst .n,σ.H⟩=K' ⟨YE σ2.T o.dst .n,σ2.H⟩:=by
    have:=hK .n σ.H (fun _ _ _=>rfl);unfold app at this;rw[QCZ,Jp ha.hp]at this;exact this
  have hrun:opL T (evA σ.T) σ.H (YC o.dst) (fun v H'=>WI (isG ops i) v fun v'=>K ⟨YE σ.T o.dst v',H'⟩) o.op=
      opL T (evA σ2.T) σ2.H (YC o.dst) (fun v H'=>WI (isG ops i) v fun v'=>K' ⟨YE σ2.T o.dst v',H'⟩) o.op:=by
    have hf:=VY ha.ev;have hh: ∀k∈fp (evA σ.T) o.op++YW o.op (YC o.dst),σ.H k=σ2.H k:=ha.hp;unfold opL;rw[propext JP,propext JP];rw[<-hf,<-QG1 T ha.ev,<-QCY hh];have hn:(∀k∈YW o.op (YC o.dst),σ.H k=none)=(∀k∈YW o.op (YC o.dst),σ2.H k=none):=by
      apply propext;exact⟨fun h k hk=>by rw[<-hh k (by simp[hk])];exact h k hk,fun h k hk=>by rw[hh k (by simp[hk])];exact h k hk⟩
    rw[hn];congr 1;cases hr:Qx o.op with
    | true=>
      have e2:mrg (fp (evA σ.T) o.op++YW o.op (YC o.dst)) (Xx (fp (evA σ.T) o.op) (YW o.op (YC o.dst)) σ.H) σ.H=σ.H:=Jp fun k hk=>by
        have hnew:YW o.op (YC o.dst)=[]:=by
          have:U1 o.op=false:=Jn hr;simp[YW,this]
        rw[hnew,List.append_nil]at hk;exact Xy hk
      rw[VF T hr];conv=>rhs;rw[VF T hr]
      congr 1;funext v _;show WI _ _ _=WI _ _ _
      congr 1;funext v'
      exact hK v' _ (fun _ k hk=>by
        have:=congrFun e2 k;unfold mrg at this;rw[Q9.2 (show k∈fp (evA σ.T) o.op++YW o.op (YC o.dst)from hk)]at this
        exact this)
    | false=>
      congr 1;funext v H1;show WI _ _ _=WI _ _ _
      congr 1;funext v';exact hK v' H1 (fun h=>by rw[hr]at h;cases h)
  unfold opA Wm;simp only[Jo,R7];rw[hrun,hskip];cases o.guard with
  | none=>rfl
  | some gw=>
    simp only;cases hg:Jd ops o with
    | none=>rfl
    | some t=>simp only[ha.gd t hg]

theorem U2 (hd:KO o.op=true){K0:St->Prop}(h:opA T ops Jo i o σ K0):
    ∃v H1,(Qx o.op=true-> ∀k∈gOf o σ.T,H1 k=σ.H k)/\ ∀K,opA T ops Jo i o σ K↔K (app o (gOf o σ.T) v H1 σ):=by
  have skip: ∃v H1,(Qx o.op=true-> ∀k∈gOf o σ.T,H1 k=σ.H k)/\ ∀K:St->Prop,K ⟨YE σ.T o.dst .n,σ.H⟩↔K (app o (gOf o σ.T) v H1 σ):=
    ⟨.n,σ.H,fun _ _ _=>rfl,fun K=>by unfold app;rw[QCZ]⟩
  have run: ∀{K0:St->Prop},opL T (evA σ.T) σ.H (YC o.dst) (fun v H'=>WI (isG ops i) v fun v'=>K0 ⟨YE σ.T o.dst v',H'⟩) o.op->
      ∃v H1,(Qx o.op=true-> ∀k∈gOf o σ.T,H1 k=σ.H k)/\ ∀K:St->Prop,opL T (evA σ.T) σ.H (YC o.dst) (fun v H'=>WI (isG ops i) v fun v'=>K ⟨YE σ.T o.dst v',H'⟩) o.op↔K (app o (gOf o σ.T) v H1 σ):=by
    intro K0 h;obtain⟨h1,h2⟩:=JP.1 h;obtain⟨v,H1,hr,hv⟩:=QLd T hd _ h2;have h3:=(hv _).1 h2;obtain⟨v',hv'⟩:=QIl _ _ _ h3;refine⟨v',H1,fun hrr k hk=> ?_,fun K=> ?_⟩
    · have hnew:YW o.op (YC o.dst)=[]:=by
        have:U1 o.op=false:=Jn hrr;simp[YW,this]
      rw[hr hrr];unfold gOf at hk;rw[hnew,List.append_nil]at hk;exact Xy hk
    · unfold opL;rw[JP,hv];show _/\WI _ _ _↔_
      rw[hv'];exact⟨fun h=>h.2,fun h=>⟨h1,h⟩⟩
  unfold opA Wm at h⊢;simp only[Jo,R7]at h⊢;cases hg:o.guard with
  | none=>rw[hg]at h;exact run h
  | some gw=>
    rw[hg]at h;simp only at h⊢;cases hgt:Jd ops o with
    | none=>rw[hgt]at h;exact h.elim
    | some t=>
      rw[hgt]at h;simp only at h⊢;split at h
      · rename_i b hb;cases hbw:(b==gw.2)with
        | true=>rw[hbw]at h;exact run h
        | false=>exact skip
      · exact skip
      · exact h.elim

def Gy (a b:List Nat):Bool:=a.all fun k=> !XJ k b
theorem KP {a b:List Nat}:Gy a b=true↔ ∀k∈a,k∉b:=by
 simp[Gy,Zf,Y1]
def rdr (ops:List Oper)(i:Nat):Bool:=match ops[i]? with | some o=>Qx o.op | none=>false
def Hh (ops:List Oper)(x y:Oper):Bool:=
  (match x.dst with | some d=> !XJ d (QAP ops y)&&(match y.dst with | some e=> !d.beq e | none=>true) | none=>true)&&
  (match y.dst with | some d=> !XJ d (QAP ops x) | none=>true)

theorem Hi {x y:Oper}(h:Hh ops x y=true):(∀d,x.dst=some d->d∉QAP ops y)/\(∀d,x.dst=some d->y.dst≠some d)/\(∀d,y.dst=some d->d∉QAP ops x):=by
 unfold Hh at h;simp only[Za]at h;refine⟨fun d hd=> ?_,fun d hd he=> ?_,fun d hd=> ?_⟩
 ·rw[hd]at h;simp only[Za,Zu,Y1]at h;exact h.1.1
 ·rw[hd,he]at h;simp at h
 ·rw[hd]at h;simp only[Zu,Y1]at h;exact h.2
theorem Wb {o:Oper}{d:Option Nat}{v:AV}{T0:TM}(h: ∀t,d=some t->t∉QAP ops o):(∀x∈o.op.operands.toList,evA T0 x=evA (YE T0 d v) x)/\ ∀t,Jd ops o=some t->T0 t=YE T0 d v t:=by
 cases d with
 | none=>exact⟨fun _ _=>rfl,fun _ _=>rfl⟩
 | some t=>
  have hn:=h t rfl;simp only[QAP,Zk,not_or]at hn;refine⟨fun x hx=> ?_,fun s hs=> ?_⟩
  ·cases x with
   | tmp s=>
    have:s≠t:=fun e=>hn.1 (Yb.2 ⟨.tmp s,hx,by rw[e]⟩);exact(QR _ _ this).symm
   | const v=>cases v<;>rfl
   | _=>rfl
  ·have:s≠t:=fun e=>hn.2 (by rw[hs];simp[e]);exact(QR _ _ this).symm
theorem QAQ {d e:Option Nat}{x y:AV}{T0:TM}(h: ∀t,d=some t->e≠some t):YE (YE T0 d x) e y=YE (YE T0 e y) d x:=by
 cases d with
 | none=>rfl
 | some d=>
  cases e with
  | none=>rfl
  | some e=>exact QIR _ _ _ fun he=>h d rfl (by rw[he])
theorem QCa {F G:List Nat}{H1 H2 H:HP}(h: ∀k∈F,k∉G):mrg F H1 (mrg G H2 H)=mrg G H2 (mrg F H1 H):=by
 funext k;unfold mrg;cases hf:XJ k F
 ·cases XJ k G<;>rfl
 ·have:=Y1.2 (h k (Q9.1 hf));rw[this];rfl
theorem QIm (hd:KO o.op=true)(hap:Hh ops o p=true)(hc:(Qx o.op=true/\Qx p.op=true)∨Gy (gOf o σ.T) (gOf p σ.T)=true){K:St->Prop}
    (h:opA T ops Jo j o σ fun σ1=>opA T ops Jo i p σ1 K):opA T ops Jo i p σ fun σ1=>opA T ops Jo j o σ1 K:=by
  obtain⟨a1,a2,a3⟩:=Hi hap;obtain⟨v,H1,hr,hv⟩:=U2 hd h;have h2:=(hv _).1 h;have e1:=Wb (ops:=ops) (o:=p) (T0:=σ.T) (v:=v) a1;have hdis:Gy (gOf o σ.T) (gOf p σ.T)=true-> ∀k∈gOf p σ.T,k∉gOf o σ.T:=fun h k hk hk'=>KP.1 h k hk' hk
  have hag:Hg ops p σ (app o (gOf o σ.T) v H1 σ):=⟨e1.1,e1.2,fun k hk=>by
    rcases hc with hc | hc
    · show σ.H k=mrg _ _ _ k
      rw[Jp (hr hc.1)]
    · exact(Y0 (hdis hc k hk)).symm⟩
  rw[UF (i:=i) hag (K':=K) (K:=fun σ1=>opA T ops Jo j o σ1 K) ?_]
  · exact h2
  · intro v' H1' hr';-- the first one once more, behind the second
    have e2:=Wb (ops:=ops) (o:=o) (T0:=σ.T) (v:=v') a3
    have hag2:Hg ops o σ (app p (gOf p σ.T) v' H1' σ):=⟨e2.1,e2.2,fun k hk=>by
      rcases hc with hc | hc
      · show σ.H k=mrg _ _ _ k
        rw[Jp (hr' hc.2)]
      · exact(Y0 (KP.1 hc k hk)).symm⟩
    have e3:opA T ops Jo j o σ (fun σ1=>K (app p (gOf p σ.T) v' H1' σ1))=opA T ops Jo j o (app p (gOf p σ.T) v' H1' σ) K:=by
      refine UF (i:=j) hag2 ?_
      intro x U hu;congr 1;unfold app;simp only;congr 1
      · exact QAQ a2
      · rcases hc with hc | hc
        · rw[Jp (hu hc.1)];rw[Jp (hr' hc.2)];rw[Jp (hu hc.1)]
        · exact QCa fun k hk=>hdis hc k hk
    rw[<-e3];apply propext;rw[hv]

def Gz (T:Qh)(op:Op):Bool:=match op with
  | .call c=>(match c.callee with
    | .value (.func f)=>(match imL T.im (1000000+f)with
      | some _=>true
      | none=>false)
    | .value (.tmp _)=>(match imL T.im 999999 with
      | some _=>true
      | none=>false)
    | _=>false)
  | _=>false
theorem QCb {op:Op}(h:KO op=true):Gz T op=false:=by
 cases op<;>first | rfl | skip
 rename_i c;obtain⟨callee,args,ts⟩:=c;cases callee<;>first | rfl | (simp[KO,Qx]at h)
def K6:List Nat->HP->HP->Prop->Prop
  | [],_,_,p=>p
  | k::F,H1,H,p=>(match H1 k,H k with
    | none,none=>K6 F H1 H p
    | some a,some b=>a=b/\K6 F H1 H p
    | _,_=>False)
theorem UG {H1 H:HP}{p:Prop}: ∀{F:List Nat},K6 F H1 H p↔(∀k∈F,H1 k=H k)/\p:=by
 intro F;induction F with
 | nil=>simp[K6]
 | cons k F ih=>
  simp only[K6];cases h1:H1 k with
  | none=>
   cases h2:H k with
   | none=>simp only[ih];simp[h1,h2]
   | some b=>simp[h1,h2]
  | some a=>
   cases h2:H k with
   | none=>simp[h1,h2]
   | some b=>simp only[ih];simp[h1,h2,and_assoc]
def G0 (T:Qh)(o:Oper)(σ:St)(K:St->Prop):St->Prop:=bif Gz T o.op then fun σ'=>K6 (gOf o σ.T) σ'.H σ.H (K σ')else K
theorem QIn {K:St->Prop}{σ':St}(h:G0 T o σ K σ'):K σ':=by
 unfold G0 at h;cases hr:Gz T o.op with
 | false=>rw[hr]at h;exact h
 | true=>rw[hr]at h;exact(UG.1 h).2
theorem Hj {A B:St->Prop}{σ':St}(h:A σ'=B σ'):G0 T o σ A σ'=G0 T o σ B σ':=by
 unfold G0;cases Gz T o.op with
 | false=>exact h
 | true=>simp only[R7];rw[h]
def opX (T:Qh)(ops:List Oper)(i:Nat)(o:Oper)(σ:St)(K:St->Prop):Prop:=opA T ops Jo i o σ (G0 T o σ K)
theorem VZ (hd:KO o.op=true){K:St->Prop}:opX T ops j o σ K=opA T ops Jo j o σ K:=by
 unfold opX G0;rw[QCb hd];rfl
theorem QIo (hd:KO o.op=true)(hap:Hh ops o p=true)(hc:(Qx o.op=true/\(Qx p.op=true∨Gz T p.op=true))∨Gy (gOf o σ.T) (gOf p σ.T)=true){K:St->Prop}
  (h:opX T ops j o σ fun σ1=>opX T ops i p σ1 K):opX T ops i p σ fun σ1=>opX T ops j o σ1 K:=by
 cases hro:Gz T p.op with
 | false=>
  have e: ∀(σ:St) (K:St->Prop),opX T ops i p σ K=opA T ops Jo i p σ K:=fun σ K=>by unfold opX G0;rw[hro];rfl
  simp only[e,VZ hd]at h⊢;refine QIm hd hap ?_ h
  rcases hc with hc | hc
  ·rcases hc.2 with h' | h'
   ·exact .inl ⟨hc.1,h'⟩
   ·rw[hro]at h';cases h'
  ·exact .inr hc
 | true=>
  have e: ∀(σ:St) (K:St->Prop),opX T ops i p σ K=opA T ops Jo i p σ (fun σ'=>K6 (gOf p σ.T) σ'.H σ.H (K σ')):=fun σ K=>by unfold opX G0;rw[hro];rfl
  simp only[e,VZ hd]at h⊢;obtain⟨a1,a2,a3⟩:=Hi hap;obtain⟨v,H1,hr,hv⟩:=U2 hd h;have h2:=(hv _).1 h;have e1:=Wb (ops:=ops) (o:=p) (T0:=σ.T) (v:=v) a1;have hdis:Gy (gOf o σ.T) (gOf p σ.T)=true-> ∀k∈gOf p σ.T,k∉gOf o σ.T:=fun h k hk hk'=>KP.1 h k hk' hk
  have hag:Hg ops p σ (app o (gOf o σ.T) v H1 σ):=⟨e1.1,e1.2,fun k hk=>by
   rcases hc with hc | hc
   ·show σ.H k=mrg _ _ _ k
    rw[Jp (hr hc.1)]
   ·exact(Y0 (hdis hc k hk)).symm⟩
  have hg:=hag.g;rw[UF (i:=i) hag (K':=fun σ'=>K6 (gOf p (app o (gOf o σ.T) v H1 σ).T) σ'.H (app o (gOf o σ.T) v H1 σ).H (K σ')) (K:=fun σ'=>K6 (gOf p σ.T) σ'.H σ.H (opA T ops Jo j o σ' K)) ?_]
  ·exact h2
  ·intro v' H1' _;simp only[<-hg];apply propext;rw[UG,UG];have hin: ∀(H:HP) k,k∈gOf p σ.T->mrg (gOf p σ.T) H1' H k=H1' k:=fun H k hk=>WR hk;have cond:(∀k∈gOf p σ.T,(app p (gOf p σ.T) v' H1' σ).H k=σ.H k)↔(∀k∈gOf p σ.T,(app p (gOf p σ.T) v' H1' (app o (gOf o σ.T) v H1 σ)).H k=(app o (gOf o σ.T) v H1 σ).H k):=by
    refine forall_congr' fun k=>imp_congr_right fun hk=> ?_
    show mrg _ _ _ k=_↔mrg _ _ _ k=_
    rw[hin _ k hk,hin _ k hk,hag.hp k hk]
   rw[cond];refine and_congr_right fun hs=> ?_
   have hs:=cond.2 hs;have hm:mrg (gOf p σ.T) H1' σ.H=σ.H:=Jp fun k hk=>by rw[<-hin σ.H k hk];exact hs k hk
   -- the first one once more, behind the second
   have e2:=Wb (ops:=ops) (o:=o) (T0:=σ.T) (v:=v') a3
   have hag2:Hg ops o σ (app p (gOf p σ.T) v' H1' σ):=⟨e2.1,e2.2,fun k hk=>by
    show σ.H k=mrg _ _ _ k
    rw[hm]⟩
   have e3:opA T ops Jo j o σ (fun σ1=>K (app p (gOf p σ.T) v' H1' σ1))=opA T ops Jo j o (app p (gOf p σ.T) v' H1' σ) K:=by
    refine UF (i:=j) hag2 ?_
    intro x U hu;congr 1;unfold app;simp only;congr 1
    ·exact QAQ a2
    ·rcases hc with hc | hc
     ·rw[Jp (hu hc.1),hm,Jp (hu hc.1)]
     ·exact QCa fun k hk=>hdis hc k hk
   rw[<-e3,hv]
def YP (o:Oper):List Nat:=o.after.toList.filterMap fun e=>bif Region.binds .any e then some e.on else none
def QFw:List Oper->List (List Nat)->List (List Nat)
  | [],acc=>acc
  | o::os,acc=>QFw os (acc++[((YP o).flatMap fun p=>p::acc.getD p []).eraseDups])

def KQ (ops:List Oper):List (List Nat):=QFw ops []
def QOh (ops:List Oper):Nat->List Nat->List Nat
  | 0,_=>[]
  | n+1,done=>
    let rdy:=(Yi ops.length).filter fun i=> !XJ i done&&(match ops[i]? with | some o=>(YP o).all fun p=>XJ p done | none=>false)
    match rdy.find? fun i=>match ops[i]? with | some o=>KO o.op | none=>false with
    | some i=>i::QOh ops n (i::done)
    | none=>match rdy with
      | i::_=>i::QOh ops n (i::done)
      | []=>[]

def ord (ops:List Oper):List Nat:=QOh ops ops.length []
def K7 (ops:List Oper)(anc:List (List Nat))(x y:Nat):Bool:=
  match ops[x]?,ops[y]? with
  | some o,some p=> !XJ y (YP o)&&(XJ x (anc.getD y []) || (KO o.op&&Hh ops o p&& !XJ y (anc.getD x [])))
  | _,_=>false

def QBE (ops:List Oper)(anc:List (List Nat)):List Nat->Bool
 | []=>true
 | x::rest=>rest.all (fun y=> !x.beq y&&K7 ops anc x y)&&QBE ops anc rest
def QEM (ops:List Oper):Bool:=
 let n:=ops.length
 let l:=ord ops
 l.length.beq n&&(Yi n).all (fun i=>XJ i l)&&l.all (fun i=>Nat.blt i n)&&QBE ops (KQ ops) l&&
  (Yi n).all fun i=>match ops[i]? with | some o=>(YP o).all (fun p=>Nat.blt p i) | none=>false
def rdX (T:Qh)(ops:List Oper)(i:Nat):Bool:=match ops[i]? with | some o=>Gz T o.op | none=>false
def JC (T:Qh)(ops:List Oper)(anc:List (List Nat))(i j:Nat)(F G:List Nat):Bool:=
 (rdr ops i&&rdr ops j) || (rdr ops i&&rdX T ops j) || (rdX T ops i&&rdr ops j) || XJ j (anc.getD i []) || XJ i (anc.getD j []) || Gy G F
def Wp (T:Qh)(ops:List Oper)(anc:List (List Nat)):List Nat->List (Nat×List Nat)->St->(St->Prop)->Prop
 | [],_,σ,K=>K σ
 | i::rest,log,σ,K=>match ops[i]? with
  | some o=>bif log.all (fun p=>JC T ops anc i p.1 (gOf o σ.T) p.2)then opX T ops i o σ fun σ'=>Wp T ops anc rest ((i,gOf o σ.T)::log) σ' K else False
  | none=>False
theorem QG5 {a b:List Nat}:Gy a b=Gy b a:=by
 rw[Bool.eq_iff_iff,KP,KP];exact⟨fun h k hk hk'=>h k hk' hk,fun h k hk hk'=>h k hk' hk⟩
theorem QCc {anc:List (List Nat)}{i j:Nat}{F G:List Nat}:JC T ops anc i j F G=JC T ops anc j i G F:=by
 unfold JC;rw[QG5 (a:=G)];cases XJ j (anc.getD i [])<;>cases XJ i (anc.getD j [])<;>cases rdr ops i<;>cases rdr ops j<;>cases rdX T ops i<;>cases rdX T ops j<;>simp
theorem QLe {α:Type}{l l':List α}{p:α->Bool}(h: ∀x,x∈l↔x∈l'):l.all p=l'.all p:=by
 rw[Bool.eq_iff_iff,Zf,Zf];exact⟨fun k x hx=>k x ((h x).2 hx),fun k x hx=>k x ((h x).1 hx)⟩
theorem QIp {anc:List (List Nat)}{K:St->Prop}: ∀(l:List Nat) {log log':List (Nat×List Nat)} {σ:St},(∀x,x∈log↔x∈log')->Wp T ops anc l log σ K=Wp T ops anc l log' σ K:=by
 intro l;induction l with
 | nil=>intros;rfl
 | cons i rest ih=>
  intro log log' σ h;simp only[Wp];cases ops[i]? with
  | none=>rfl
  | some o=>
   simp only;rw[QLe h];congr 2;funext σ';exact ih fun x=>by simp[h]
theorem QG6 {anc:List (List Nat)}{K:St->Prop}{rest:List Nat}{log:List (Nat×List Nat)}(hp:K7 ops anc j i=true)(hn:XJ j (anc.getD i [])=false)
  (h:Wp T ops anc (j::i::rest) log σ K):Wp T ops anc (i::j::rest) log σ K:=by
 unfold K7 at hp;split at hp
 ·rename_i o p ho hpp;rw[hn]at hp;simp only[Bool.false_or,Za,Zu]at hp;obtain⟨_,⟨hd,hap⟩,hna⟩:=hp;simp only[Wp,ho,hpp]at h⊢;cases hl:log.all (fun q=>JC T ops anc j q.1 (gOf o σ.T) q.2)with
  | false=>rw[hl]at h;exact h.elim
  | true=>
   rw[hl]at h;simp only[R7]at h;rw[VZ hd]at h;obtain⟨v,H1,hr,hv⟩:=U2 hd h;have h2:=(hv _).1 h;obtain⟨a1,a2,a3⟩:=Hi hap;have e1:=Wb (ops:=ops) (o:=p) (T0:=σ.T) (v:=v) a1;have hg:gOf p (YE σ.T o.dst v)=gOf p σ.T:=by unfold gOf;rw[<-VY e1.1]
   rw[show gOf p (app o (gOf o σ.T) v H1 σ).T=gOf p σ.T from hg]at h2;simp only[List.all_cons]at h2;cases hc:JC T ops anc i j (gOf p σ.T) (gOf o σ.T)with
   | false=>rw[hc]at h2;exact h2.elim
   | true=>
    rw[hc]at h2;simp only[Bool.true_and]at h2;cases hl2:log.all (fun q=>JC T ops anc i q.1 (gOf p σ.T) q.2)with
    | false=>rw[hl2]at h2;exact h2.elim
    | true=>
     rw[hl2]at h2;simp only[R7]at h2;have hcc:(Qx o.op=true/\(Qx p.op=true∨Gz T p.op=true))∨Gy (gOf o σ.T) (gOf p σ.T)=true:=by
      unfold JC at hc;rw[hn,hna]at hc;simp only[Bool.or_false,Bool.or_eq_true,Za,rdr,rdX,ho,hpp]at hc;rcases hc with((hc | hc) | hc) | hc
      ·exact .inl ⟨hc.2,.inl hc.1⟩
      ·rw[QCb hd]at hc;cases hc.2
      ·exact .inl ⟨hc.2,.inr hc.1⟩
      ·exact .inr hc
     -- the two steps alone
     have hstep:opX T ops j o σ fun σ1=>opX T ops i p σ1 fun σ2=>Wp T ops anc rest ((i,gOf p σ.T)::(j,gOf o σ.T)::log) σ2 K:=by rw[VZ hd];exact(hv _).2 h2
     have hsw:=QIo hd hap hcc hstep;-- what is asked of it
     simp only[R7];refine Eq.mp ?_ hsw
     unfold opX;refine UF (i:=i) ⟨fun _ _=>rfl,fun _ _=>rfl,fun _ _=>rfl⟩ ?_
     intro v' H1' hr';refine Hj ?_
     have e2:=Wb (ops:=ops) (o:=o) (T0:=σ.T) (v:=v') a3;have hg2:gOf o (YE σ.T p.dst v')=gOf o σ.T:=by unfold gOf;rw[<-VY e2.1]
     rw[show gOf o (app p (gOf p σ.T) v' H1' σ).T=gOf o σ.T from hg2];simp only[List.all_cons];rw[QCc,hc,hl];simp only[Bool.true_and,R7];refine UF (i:=j) ⟨fun _ _=>rfl,fun _ _=>rfl,fun _ _=>rfl⟩ ?_
     intro v2 H2 _;refine Hj ?_
     exact QIp rest fun x=>by simp only[Zl];constructor<;>(rintro(h | h | h)<;>simp[h])
 ·cases hp
theorem QEN {anc:List (List Nat)}{K:St->Prop}: ∀(l1:List Nat) {l2:List Nat} {log:List (Nat×List Nat)} {σ:St},(∀j∈l1,K7 ops anc j i=true/\XJ j (anc.getD i [])=false)->
  Wp T ops anc (l1++i::l2) log σ K->Wp T ops anc (i::(l1++l2)) log σ K:=by
 intro l1;induction l1 with
 | nil=>intro l2 log σ _ h;exact h
 | cons j l1 ih=>
  intro l2 log σ hl h;have hj:=hl j (by simp);refine QG6 hj.1 hj.2 ?_
  have hdet: ∃o,ops[j]? =some o/\KO o.op=true:=by
   have hp:=hj.1;unfold K7 at hp;split at hp
   ·rename_i o p ho hpp;rw[hj.2]at hp;simp only[Bool.false_or,Za]at hp;exact⟨o,ho,hp.2.1.1⟩
   ·cases hp
  obtain⟨o,ho,hd⟩:=hdet;rw[List.cons_append]at h;rw[Wp]at h⊢;simp only[ho]at h⊢;cases hal:log.all (fun q=>JC T ops anc j q.1 (gOf o σ.T) q.2)with
  | false=>rw[hal]at h;exact h.elim
  | true=>
   rw[hal]at h;simp only[R7]at h⊢;rw[VZ hd]at h⊢;obtain⟨v,H1,_,hv⟩:=U2 hd h;exact(hv _).2 (ih (fun j hj=>hl j (by simp[hj])) ((hv _).1 h))
theorem QIq {D:Nat->Prop}(hD: ∀i o,D i->ops[i]? =some o-> ∀p∈YP o,D p):
    ∀(os:List Oper) (acc:List (List Nat)),(∀k o,os[k]? =some o->ops[acc.length+k]? =some o)->(∀k o,k<acc.length->ops[k]? =some o->(∀p∈YP o,D p)-> ∀q∈acc.getD k [],D q)->
    (∀k o,k<acc.length->ops[k]? =some o-> ∀p∈YP o,p<k)->(∀k o,ops[k]? =some o-> ∀p∈YP o,p<k)->
    ∀k o,k<acc.length+os.length->ops[k]? =some o->(∀p∈YP o,D p)-> ∀q∈(QFw os acc).getD k [],D q:=by
  intro os;induction os with
  | nil=>intro acc _ h _ _ k o hk;exact h k o (by simpa using hk)
  | cons o os ih=>
    intro acc ho h h2 hp;rw[QFw];intro k0 o0 hk0;refine ih (acc++[_]) (fun k o' hk=> ?_) (fun k o' hk hk' hpd=> ?_) (fun k o' _ hk'=>hp k o' hk') hp k0 o0 (by simp at hk0⊢;omega)
    · have:=ho (k+1) o' (by simpa using hk);simp only[List.length_append,List.length_singleton];rw[Nat.add_assoc,Nat.add_comm 1 k];exact this
    · by_cases hlt:k<acc.length
      · rw[Zm,List.getElem?_append_left hlt,<-Zm];exact h k o' hlt hk' hpd
      · have hk2:k=acc.length:=by simp at hk;omega
        subst hk2;have:o'=o:=by have:=ho 0 o rfl;rw[Nat.add_zero]at this;rw[hk']at this;cases this;rfl
        subst this;intro q hq;rw[Zm,List.getElem?_append_right (Zx _),Nat.sub_self]at hq;simp only[List.getElem?_cons_zero,Option.getD_some,List.mem_eraseDups,Yg,Zl]at hq;obtain⟨p,hpm,rfl | hq⟩:=hq
        · exact hpd _ hpm
        · have hlt:=hp _ _ hk' p hpm;have hpo: ∃op,ops[p]? =some op:=by
            have:acc.length<ops.length:=(Ze.1 hk').1;exact⟨_,Zn (by omega)⟩
          obtain⟨op,hpo⟩:=hpo;exact h p op hlt hpo (hD p op (hpd _ hpm) hpo) q hq

end Go.Eng
namespace Go.Eng
open Go Go.RowKit
variable {P:Program}{w0:World}{M:Ctx}{N:Nat}{T:Qh}{ops:List Oper}
theorem QEO {anc:List (List Nat)}: ∀{l:List Nat},QBE ops anc l=true->l.Pairwise fun x y=>x≠y/\K7 ops anc x y=true:=by
 intro l;induction l with
 | nil=>exact fun _=> .nil
 | cons x rest ih=>
  intro h;simp only[QBE,Za,Zf,Zu]at h;refine .cons (fun y hy=>⟨fun e=> ?_,(h.1 y hy).2⟩) (ih h.2);have:=(h.1 y hy).1;subst e;simp at this
structure QIr (ops:List Oper):Prop where
 len:(ord ops).length=ops.length
 all: ∀i,i<ops.length->i∈ord ops
 bnd: ∀i∈ord ops,i<ops.length
 pairs:(ord ops).Pairwise fun x y=>x≠y/\K7 ops (KQ ops) x y=true
 lt: ∀k o,ops[k]? =some o-> ∀p∈YP o,p<k
theorem QG7 (h:QEM ops=true):QIr ops:=by
 simp only[QEM,Za,Zf,List.mem_range]at h;obtain⟨⟨⟨⟨h1,h2⟩,hb⟩,h3⟩,h4⟩:=h;refine⟨Zb h1,fun i hi=>Q9.1 (h2 i hi),fun i hi=>Zr (hb i hi),QEO h3,fun k o hk p hp=> ?_⟩;have hlt:k<ops.length:=(Ze.1 hk).1;have:=h4 k hlt;rw[hk]at this;simp only[Zf]at this;exact Zr (this p hp)
theorem QG8 {o:Oper}{e:Edge}(he:e∈o.after)(hb:Region.binds .any e=true):e.on∈YP o:=by
 unfold YP;exact Yb.2 ⟨e,by simpa using he,by simp[hb]⟩
theorem QG9 {o:Oper}{p:Nat}(h:p∈YP o): ∃e∈o.after,Region.binds .any e=true/\e.on=p:=by
 unfold YP at h;obtain⟨e,he,h⟩:=Yb.1 h;cases hb:Region.binds .any e with
 | false=>simp[hb]at h
 | true=>simp[hb]at h;exact⟨e,by simpa using he,hb,h⟩
theorem QHA (hT:Q5 P M.g M.tab T)(hok:ops.all (JQ N)=true)(hd:QIr ops){K:St->Prop}{Q:Exit->Act->World->Prop}{ws:World}{r:Option Nat}{n:Nat}(hQ: ∀a w,KJ w0 M N ws K a w->Q .normal a w):
  ∀(fuel:Nat) (L:List Nat) (log:List (Nat×List Nat)) (listed:Array Bool) {ρ:Env} {σ:St} {a:Act} {w:World},L.length<=fuel->listed.size=ops.length->
   (L.Pairwise fun x y=>x≠y/\K7 ops (KQ ops) x y=true)->(∀k∈L,k<ops.length/\listed.getD k true=false)->(∀k,k<ops.length->k∉L->listed.getD k false=true)->
   (∀i o,listed.getD i false=true->ops[i]? =some o-> ∀p∈YP o,listed.getD p false=true)->
   NC ws w->Sim w0 M N ρ σ a w->Wp T ops (KQ ops) L log σ K->wpAnyIn (FR r) n P .any ops.toArray Q fuel listed a w:=by
 have both: ∀{listed:Array Bool} {k:Nat},listed.getD k true=false->listed.getD k false=true->False:=fun {listed k} h1 h2=>by
  rw[Zc]at h1 h2;cases he:listed[k]? with
  | none=>rw[he]at h1;cases h1
  | some b=>rw[he]at h1 h2;simp at h1 h2;rw[h1]at h2;cases h2
 have rdyL: ∀{listed:Array Bool} {L:List Nat},(∀k,k<ops.length->k∉L->listed.getD k false=true)-> ∀i∈Region.ready .any ops.toArray listed,i∈L/\ ∃o,ops[i]? =some o/\ ∀p∈YP o,listed.getD p false=true:=by
  intro listed L hun i hi;obtain⟨h0,o,ho,hall⟩:=mem_ready.1 hi;rw[Zt]at ho;refine⟨Classical.byContradiction fun hn=>both h0 (hun i (Ze.1 ho).1 hn),o,ho,fun p hp=> ?_⟩;obtain⟨e,he,hb,rfl⟩:=QG9 hp;exact hall e he hb
 have done: ∀{listed:Array Bool} {L:List Nat} {log:List (Nat×List Nat)} {ρ:Env} {σ:St} {a:Act} {w:World},(L.Pairwise fun x y=>x≠y/\K7 ops (KQ ops) x y=true)->(∀k∈L,k<ops.length/\listed.getD k true=false)->(∀k,k<ops.length->k∉L->listed.getD k false=true)->
   NC ws w->Sim w0 M N ρ σ a w->Wp T ops (KQ ops) L log σ K->Region.ready .any ops.toArray listed=[]->Q .normal a w:=by
  intro listed L log ρ σ a w hp hin hun hn hs h hr;cases L with
  | nil=>exact hQ _ _ ⟨ρ,σ,hs,h,hn⟩
  | cons x rest=>
   exfalso;have hx:=hin x (by simp);have:x∈Region.ready .any ops.toArray listed:=by
    refine mem_ready.2 ⟨hx.2,ops[x],by simp[hx.1],fun e he hb=> ?_⟩;have hox:ops[x]? =some ops[x]:=Zn hx.1
    have hpm:=QG8 he hb;have hlt:=hd.lt x _ hox _ hpm;refine hun _ (by omega) fun hmem=> ?_
    rcases Zl.1 hmem with h' | h'
    ·omega
    ·have:=((List.pairwise_cons.1 hp).1 _ h').2;unfold K7 at this;split at this
     ·rename_i o p ho _;rw[hox]at ho;cases ho
      rw[Q9.2 hpm]at this;simp at this
     ·cases this
   rw[hr]at this;cases this
 intro fuel;induction fuel with
 | zero=>
  intro L log listed ρ σ a w hl hsz hp hin hun hcl hn hs h;have hr:Region.ready .any ops.toArray listed=[]:=by
   cases hrr:Region.ready .any ops.toArray listed with
   | nil=>rfl
   | cons i t=>
    have:=(rdyL hun i (by rw[hrr];simp)).1;have hL:L=[]:=Zp (by omega);rw[hL]at this;cases this
  exact⟨hr,done hp hin hun hn hs h hr⟩
 | succ fuel ih=>
  intro L log listed ρ σ a w hl hsz hp hin hun hcl hn hs h;refine⟨done hp hin hun hn hs h,fun i hi=> ?_⟩;obtain⟨hiL,o,ho,hpre⟩:=rdyL hun i hi;obtain⟨l1,l2,rfl⟩:=List.append_of_mem hiL;have hfr:Wp T ops (KQ ops) (i::(l1++l2)) log σ K:=by
   refine QEN l1 (fun j hj=>⟨?_,?_⟩) h
   ·rw[List.pairwise_append]at hp;exact(hp.2.2 j hj i (by simp)).2
   ·cases hm:XJ j ((KQ ops).getD i [])with
    | false=>rfl
    | true=>
     have hsub:=QIq (ops:=ops) (D:=fun k=>listed.getD k false=true) hcl ops [] (by simp) (by simp) (by simp) hd.lt i o (by simpa using(Ze.1 ho).1) ho hpre j (Q9.1 hm);exact(both (hin j (by simp[hj])).2 hsub).elim
  rw[Wp]at hfr;simp only[ho]at hfr;cases hlg:log.all (fun p=>JC T ops (KQ ops) i p.1 (gOf o σ.T) p.2)with
  | false=>rw[hlg]at hfr;exact hfr.elim
  | true=>
   rw[hlg]at hfr;simp only[R7]at hfr;have hoo:JQ N o=true:=by
    rw[Zf]at hok;exact hok o (Zo ho)
   refine wpOpIn_mono ?_ (UC hT hs ho hoo hfr hn (Q:=Q))
   rintro a' w' ⟨ρ',σ',hs',h',hn'⟩;have hnot:i∉l1++l2:=by
    rw[List.pairwise_append,List.pairwise_cons]at hp;intro hm;rcases Zk.1 hm with h | h
    ·exact(hp.2.2 i h i (by simp)).1 rfl
    ·exact(hp.2.1.1 i h).1 rfl
   have hlti:i<listed.size:=by rw[hsz];exact(Ze.1 ho).1
   have hseti:(listed.setIfInBounds i true).getD i false=true:=by simp[hlti]
   refine ih (l1++l2) _ _ (by simp at hl⊢;omega) (by simpa using hsz) (hp.sublist (by simp)) (fun k hk=> ?_) (fun k hk hkn=> ?_) (fun k ok hk hok' p hpk=> ?_) hn' hs' (QIn h')
   ·have hne:i≠k:=fun e=>hnot (e▸hk);have:=hin k (by simp at hk⊢;rcases hk with h | h<;>simp[h]);exact⟨this.1,by rw[getD_set_ne true hne];exact this.2⟩
   ·by_cases e:i=k
    ·subst e;exact hseti
    ·exact getD_set_true (hun k hk (by simp at hkn⊢;exact⟨hkn.1,fun h=>e h.symm,hkn.2⟩))
   ·by_cases e:i=k
    ·subst e;rw[ho]at hok';cases hok'
     exact getD_set_true (hpre p hpk)
    ·rw[getD_set_ne false e]at hk;exact getD_set_true (hcl k ok hk hok' p hpk)
def QHB (T:Qh)(ops:List Oper)(draw:Bool)(σ:St)(K:St->Prop):Prop:=
  bif draw then Wp T ops (KQ ops) (ord ops) [] σ K else QG0 T ops Jo (Yi ops.length) σ K

def KR (N:Nat)(ops:List Oper)(draw:Bool):Bool:=ops.all (JQ N)&&(bif draw then QEM ops else true)
theorem Hk {r:Option Nat}(hT:Q5 P M.g M.tab T)(hm:P.follows .mixedOrders=true):QOf P w0 M N r (KR N) (fun _=>QHB T):=by
 intro id ops draw hok μ ρ σ a w ws K n Q' hn hs h hQ;simp only[KR,Za]at hok;cases draw with
 | false=>
  simp only[QHB,R8]at h;refine wpIn_region ?_
  simpa using QED hT hok.1 hQ _ hn hs h
 | true=>
  simp only[QHB,R7]at h hok;have hd:=QG7 hok.2;refine wpIn_region_any hm ?_
  obtain⟨s1,s2⟩:=hs.hs.same (w':={w with drawn:=w.drawn+1}) rfl rfl rfl rfl;have hs':Sim w0 M N ρ σ a {w with drawn:=w.drawn+1}:=⟨hs.size,hs.dfr,hs.dfn,hs.pin,fun t=>s2.conc (hs.tmps t),fun p hp t=>s2.conc (hs.stk p hp t),s1⟩;have hget: ∀k,k<ops.length->(Ya ops.length false).getD k true=false:=fun k hk=>by simp[hk]
  refine QHA hT hok.1 hd hQ _ (ord ops) [] _ (by simp[hd.len]) (by simp) hd.pairs (fun k hk=> ?_) (fun k hk hkn=>absurd (hd.all k hk) hkn) (fun i o hi=> ?_) hn hs' h
  ·have hlt:k<ops.length:=hd.bnd k hk;exact⟨hlt,by simpa using hget k hlt⟩
  ·exfalso;rw[Zc]at hi;simp only[List.size_toArray,Zw]at hi;split at hi<;>simp at hi
end Go.Eng
namespace Go.Eng
open Go Go.RowKit
variable {P:Program}{w0:World}{M:Ctx}{N:Nat}{ρ:Env}{H:HP}{σ:St}{a:Act}{w:World}
def Wq:Obj->Bool
 | .cells .. =>true
 | _=>false
theorem KS {w:World}{r:Nat}{o o':Obj}(h:w.heap[r]? =some o)(ho:Wq o=false)(ho':Wq o'=false)(b i:Nat):(w.putObj r o').cell? ⟨b,i,none⟩=w.cell? ⟨b,i,none⟩:=by
 by_cases e:b=r
 ·subst e;have hlt:=(Zg.1 h).1;simp only[World.cell?,World.putObj_heap_same hlt,h];cases o<;>cases o'<;>first | rfl | (simp[Wq]at ho ho')
 ·simp only[World.cell?,World.putObj_heap_other e]
theorem WX.cells {w':World}{O:Nat->Prop}{b o sz:Nat}{xs:List (List Ch)}{f:Nat->List Value}(hc: ∀b i,w'.cell? ⟨b,i,none⟩=w.cell? ⟨b,i,none⟩)(hs:w.heap.size<=w'.heap.size)(h:WX w O b o sz xs f):WX w' O b o sz xs f:=
 ⟨Zh h.lt hs,h.free,fun i x hx=>⟨(h.cell i x hx).1,fun j hj=>by rw[hc];exact(h.cell i x hx).2 j hj⟩⟩
theorem CC.cells' {w':World}{O:Nat->Prop}{ρ:Env}(hc: ∀b i,w'.cell? ⟨b,i,none⟩=w.cell? ⟨b,i,none⟩)(hs:w.heap.size<=w'.heap.size){cs:List Ch}{vs:List Value}(h:CC w O ρ cs vs):CC w' O ρ cs vs:=by
 induction h with
 | nil=>exact .nil
 | v a _ ih=>exact .v a ih
 | r a _ ih=>exact .r a ih
 | b a _ ih=>exact .b a ih
 | s0 _ ih=>exact .s0 ih
 | s00 _ ih=>exact .s00 ih
 | s a _ c _ ihx ih=>exact .s (a.cells hc hs) ihx c ih
 | p a b _ ih=>exact .p a b ih
 | w a b c d e _ ih=>exact .w a b c d e ih
 | w0 a b _ ih=>exact .w0 a b ih
 | w00 a _ ih=>exact .w00 a ih
 | e a b _ ih=>exact .e a b ih
 | y a _ _ ihx ih=>exact .y (a.cells hc hs) ihx ih
 | f a _ ih=>exact .f a ih
 | i _ b _ ihx ih=>exact .i ihx b ih
 | m a b _ ih=>exact .m a b ih
 | yl a b _ ih=>exact .yl a b ih
 | q a b c d _ ih=>exact .q a b c d ih
 | z a b c _ ih=>exact .z a b c ih
 | u a _ ih=>exact .u a ih
theorem ConcV.cells' {w':World}{O:Nat->Prop}(hc: ∀b i,w'.cell? ⟨b,i,none⟩=w.cell? ⟨b,i,none⟩)(hs:w.heap.size<=w'.heap.size){av:AV}{v:Value}(h:ConcV w O ρ av v):ConcV w' O ρ av v:=by
 cases av with
 | x b cs=>obtain⟨vals,h1,h2⟩:=h;exact⟨vals,h1.cells' hc hs,h2⟩
 | t l=>
  obtain⟨vs,h1,h2⟩:=h;refine⟨vs,?_,h2⟩;clear h2;induction h1 with
  | nil=>exact .nil
  | cons hx _ ih=>obtain⟨vals,k1,k2⟩:=hx;exact .cons ⟨vals,k1.cells' hc hs,k2⟩ ih
 | n=>exact h
 | u=>trivial
theorem HS.putNC (hs:HS w0 M ρ H w){r:Nat}{o o':Obj}(h:w.heap[r]? =some o)(ho:Wq o=false)(ho':Wq o'=false)(hown: ¬own ρ H r)(hw:w0.heap.size<=r):HS w0 M ρ H (w.putObj r o'):=by
  have hc:=KS h ho ho';have hz:w.heap.size<=(w.putObj r o').heap.size:=by rw[World.putObj_size];exact Zx _
  refine⟨hs.os,hs.tape,hs.output,by rw[World.putObj_size];exact hs.size,hs.glob,fun b hb hm=> ?_,fun k b hk hl=> ?_,hs.dom,fun k bd a b c=>by rw[World.putObj_size];exact hs.rng k bd a b c,hs.dist⟩
  · rw[World.putObj_heap_other (by omega)];exact hs.old b hb hm
  · obtain⟨bd,e,ok⟩:=hs.blk k b hk hl;refine⟨bd,e,?_⟩;have hne:bd.isNil=false->bd.blk≠r:=fun hn he=>hown (he▸⟨k,bd,e,hn,Qs,by rw[hk];exact hl⟩);cases b with
    | box t cs=>
      obtain⟨h1,vals,h2,h3⟩:=ok;exact⟨h1,vals,by rw[World.putObj_heap_other (hne h1)];exact h2,h3.cells' hc hz⟩
    | row t sz xs=>
      obtain⟨h1,h2,h3 | ⟨h3,arr,h4,h5,h6,h7⟩⟩:=ok
      · exact⟨h1,h2,.inl h3⟩
      · exact⟨h1,h2,.inr ⟨h3,arr,by rw[World.putObj_heap_other (hne h3)];exact h4,h5,h6,fun i x hx=>(h7 i x hx).cells' hc hz⟩⟩
    | lp s=>obtain⟨h1,r',h2,h3⟩:=ok;exact⟨h1,r',by rw[World.putObj_heap_other (hne h1)];exact h2,h3⟩
    | mp f=>obtain⟨h1,es,cl,h2,h3⟩:=ok;exact⟨h1,es,cl,by rw[World.putObj_heap_other (hne h1)];exact h2,h3⟩
    | nst t sz o t2 sz2 xs=>
      obtain⟨c1,c2,c3,c4,arr,c5,c6,c7,c8⟩:=ok;refine⟨c1,c2,c3,c4,arr,by rw[World.putObj_heap_other (hne c1)];exact c5,c6,c7,fun i x β hx hβ=> ?_⟩;obtain⟨pre,ys,post,us,us',cap,e1,e2,e3,d1,d2,arr2,d3,d4,d5,d6⟩:=c8 i x β hx hβ;have hnb:β≠r:=fun he=>hown (he▸⟨k,bd,e,c1,by rw[hk];exact .inr (Zo hβ),by rw[hk];exact hl⟩);exact⟨pre,ys,post,us,us',cap,e1,e2,e3,d1.cells' hc hz,d2.cells' hc hz,arr2,by rw[World.putObj_heap_other hnb];exact d3,d4,d5,fun j y hy=>(d6 j y hy).cells' hc hz⟩
    | dead=>trivial

theorem Sim.putNC (h:Sim w0 M N ρ σ a w){r:Nat}{o o':Obj}(hr:w.heap[r]? =some o)(ho:Wq o=false)(ho':Wq o'=false)(hown: ¬own ρ σ.H r)(hw:w0.heap.size<=r){ds:List Deferred}(hd:Marks w0 (w.putObj r o') ds)(hdn:M.nd=true->ds=[]):Sim w0 M N ρ σ {a with defers:=ds} (w.putObj r o'):=by
  have hc:=KS hr ho ho';have hz:w.heap.size<=(w.putObj r o').heap.size:=by rw[World.putObj_size];exact Zx _
  exact⟨h.size,hd,hdn,h.pin,fun t=>(h.tmps t).cells' hc hz,fun p hp t=>(h.stk p hp t).cells' hc hz,h.hs.putNC hr ho ho' hown hw⟩

theorem HS.relp (hs:HS w0 M ρ H w){L':Nat->Option Loop}{p:Env}{s:List (TM×Array Value)}{nd:Bool}(hag: ∀k t bd,H k=some (.lp t)->ρ k=some bd->L' bd.blk=M.lps bd.blk):HS w0 {M with lps:=L',pin:=p,stk:=s,nd:=nd} ρ H w:=by
  refine⟨hs.os,hs.tape,hs.output,hs.size,hs.glob,hs.old,fun k b hk hl=> ?_,hs.dom,hs.rng,hs.dist⟩;obtain⟨bd,e,ok⟩:=hs.blk k b hk hl;refine⟨bd,e,?_⟩;cases b with
  | box t cs=>exact ok
  | row t sz xs=>exact ok
  | lp t=>obtain⟨h1,r,h2,h3,h4⟩:=ok;exact⟨h1,r,h2,h3,(hag k t bd hk e).trans h4⟩
  | mp f=>exact ok
  | nst t sz o t2 sz2 xs=>exact ok
  | dead=>trivial

theorem QCd {F:Fence}{n:Nat}{fn:Func}{R:Ending->World->Prop}: ∀(rs:List Nat) {a:Act} {w:World},a.defers=rs.map (fun r=>({target:= .collected r,args:= #[]}:Deferred))->Sim w0 M N ρ σ a w->
    (∀a' w',Sim w0 M N ρ σ a' w'->a'.tmps=a.tmps->a'.defers=[]-> ∃v,(results fn a.tmps).run P w'= .ok v w'/\R (.returned v) w')->LeavesInM F n P fn a.tmps R a.defers .returning w:=by
  intro rs;induction rs with
  | nil=>
    intro a w hd hs h;rw[hd];exact h a w hs rfl (by rw[hd];rfl)
  | cons r rs ih=>
    intro a w hd hs h;obtain⟨rs',e1,e2,e3⟩:=hs.dfr;have hrs:rs'=r::rs:=by
      have:rs'.map (fun r=>({target:= .collected r,args:= #[]}:Deferred))=(r::rs).map (fun r=>({target:= .collected r,args:= #[]}:Deferred)):=e1.symm.trans hd;refine(List.map_inj_right (fun x y hxy=> ?_)).1 this;injection hxy with h1 _
      injection h1
    subst hrs;obtain⟨hr,hw⟩:=e3 r (by simp);have hnd:=List.nodup_cons.1 e2;have hdr:Marks w0 (w.putObj r (.deferred none)) (rs.map (fun r=>({target:= .collected r,args:= #[]}:Deferred))):=
      ⟨rs,rfl,hnd.2,fun j hj=>by
        have:=e3 j (by simp[hj]);have hne:j≠r:=fun e=>hnd.1 (by rw[<-e];exact hj)
        exact⟨by rw[World.putObj_heap_other hne];exact this.1,this.2⟩⟩
    have hs':=hs.putNC (o':= .deferred none) hr rfl rfl (fun ho=>by have:=hs.hs.own_rf ho hr;cases this) hw hdr (fun h=>by have:=hs.dfn h;rw[hd]at this;cases this);rw[hd];refine⟨by simp,.inl ⟨r,_,rfl,run_takeDeferred hr,?_⟩⟩;exact ih (a:={a with defers:=rs.map (fun r=>({target:= .collected r,args:= #[]}:Deferred))}) rfl hs' h

theorem Sim.leave (hs:Sim w0 M N ρ σ a w){F:Fence}{n:Nat}{fn:Func}{R:Ending->World->Prop}
  (h: ∀a' w',Sim w0 M N ρ σ a' w'->a'.tmps=a.tmps->a'.defers=[]-> ∃v,(results fn a.tmps).run P w'= .ok v w'/\R (.returned v) w'):LeavesInM F n P fn a.tmps R a.defers .returning w:=by
 obtain⟨rs,e1,_⟩:=hs.dfr;exact QCd rs e1 hs h
theorem QBF (hs:Sim w0 M N ρ σ a w){ops:List Oper}{i:Nat}{o:Oper}(hi:ops[i]? =some o){yes no:Prop}(h:Wm ops σ.T o yes no){r:Option Nat}{n:Nat}{X:Act->World->Prop}{Q:Exit->Act->World->Prop}
  (hy:yes->o.wpIn (FR r) n P a w X Q) (hn:no->X (a.put o.dst undef) w):wpOpIn (FR r) n P ops.toArray Q i X a w:=by
 have skip:no->(∀f,o.about P w a.eval=some f->(FR r).fn f)/\X (a.put o.dst undef) w:=fun h=>⟨fun _ _=>trivial,hn h⟩;unfold wpOpIn;simp only[Zt,hi];unfold Wm at h;split at h
 ·rename_i hg;rw[if_pos (by simp[Region.wanted,hg])];exact hy h
 ·rename_i j want hg;split at h
  ·rename_i t ht;have hyl:=Hb hg ht a.tmps;have hct:=hs.tmps t;split at h
   ·rename_i b hb;rw[hb]at hct;have hv:=(ConcX.one hct).1;have ht':a.tmps[t]? =some (.bool b):=by
     rw[Zc]at hv;cases he:a.tmps[t]? with
     | none=>rw[he]at hv;simp[undef]at hv
     | some x=>rw[he]at hv;simp at hv;rw[hv]
    rw[ht']at hyl;simp only at hyl;simp only[Region.wanted,hg,hyl];cases hbw:(b==want)with
    | true=>
     rw[hbw]at h;rw[if_pos (by simpa using hbw)];exact hy h
    | false=>
     rw[hbw]at h;rw[if_neg (by simpa using hbw)];exact skip h
   ·rename_i hb;rw[hb]at hct;have hv:a.tmps.getD t undef=undef:=hct;have hy':yielded ops.toArray a.tmps j=none:=by
     rw[hyl];rw[Zc]at hv;cases he:a.tmps[t]? with
     | none=>rfl
     | some x=>
      rw[he]at hv;simp at hv;subst hv;rfl
    simp only[Region.wanted,hg,hy'];rw[if_neg (by simp)];exact skip h
   ·exact h.elim
  ·exact h.elim
theorem CC.ids_some {O:Nat->Prop}{cs:List Ch}{vs:List Value}(h:CC w O ρ cs vs): ∀k∈Qe cs,ρ k≠none:=by
 induction h with
 | nil=>intro k hk;simp[Qe]at hk
 | p a _ _ ih | w a _ _ _ _ _ ih | w0 a _ _ ih | w00 a _ ih | e a _ _ ih | m a _ _ ih | yl a _ _ ih | q a _ _ _ _ ih | z a _ _ _ ih=>
  intro k hk;simp only[Qe,Zl]at hk;rcases hk with rfl | hk
  ·rw[a];simp
  ·exact ih k hk
 | f a _ ih=>
  intro k hk;simp only[Qe,Zk]at hk;rcases hk with hk | hk
  ·obtain⟨bd,e,_⟩:=a k hk;rw[e];simp
  ·exact ih k hk
 | _=>rename_i ih;intro k hk;exact ih k (by simpa [Qe]using hk)
theorem ConcV.ids_some {O:Nat->Prop}{av:AV}{v:Value}(h:ConcV w O ρ av v): ∀k∈VX av,ρ k≠none:=by
 cases av with
 | x b cs=>obtain⟨vals,h1,_⟩:=h;exact h1.ids_some
 | t l=>
  obtain⟨vs,h1,h2⟩:=h;clear h2;induction h1 with
  | nil=>intro k hk;simp[VX]at hk
  | cons hx _ ih=>
   obtain⟨vals,k1,_⟩:=hx;intro k hk;simp only[VX,Ye,Zk]at hk;rcases hk with hk | hk
   ·exact k1.ids_some k hk
   ·exact ih k hk
 | n=>intro k hk;simp[VX]at hk
 | u=>intro k hk;simp[VX]at hk
end Go.Eng
namespace Go.Eng
open Go Go.RowKit
variable {P:Program}{w0:World}{M:Ctx}{N:Nat}{ρ:Env}{σ:St}{a:Act}{w:World}{T:Qh}
def Hm (k:Nat)(ev:Operand->AV)(op:Op):Option (List AV):=match op with
 | .call c=>match c.callee with
  | .value f=>match ev f with
   | .x false [.yl k']=>bif k'.beq k then some (c.args.toList.map ev)else none
   | _=>none
  | _=>none
 | _=>none
abbrev YD:=List Nat->Nat->List AV->HP->(HP->Prop)->(Nat->HP->Prop)->Prop

def J6 (kt:List Nat)(T:TM):TM:=fun t=>bif XJ t kt then T t else .u
def QIs (kt:List Nat)(T:TM):List Nat:=kt.flatMap fun t=>VX (T t)
def Hn (k:Nat)(kt:List Nat)(Y:YD)(μ:Nat)(dst:Option Nat)(args:List AV)(σ:St)(K:St->Prop):Prop:=
 match σ.H k with
 | some (.lp 0)=>Y (QIs kt σ.T) μ args σ.H
   (fun H'=>K ⟨YE (J6 kt σ.T) dst (YF (.bool true)),upd H' k (some (.lp 0))⟩)
   (fun s H'=>K ⟨YE (J6 kt σ.T) dst (YF (.bool false)),upd H' k (some (.lp s))⟩)
 | _=>False
def opI (T:Qh)(k:Nat)(kt:List Nat)(Y:YD)(μ:Nat)(ops:List Oper)(i:Nat)(o:Oper)(σ:St)(K:St->Prop):Prop:=
 match Hm k (evA σ.T) o.op with
 | some args=>Wm ops σ.T o (Hn k kt Y μ o.dst args σ K) (K ⟨YE σ.T o.dst .n,σ.H⟩)
 | none=>opA T ops Jo i o σ K
def QEP (T:Qh)(k:Nat)(kt:List Nat)(Y:YD)(μ:Nat)(ops:List Oper):List Nat->St->(St->Prop)->Prop
 | [],σ,K=>K σ
 | i::rest,σ,K=>match ops[i]? with
  | some o=>opI T k kt Y μ ops i o σ fun σ'=>QEP T k kt Y μ ops rest σ' K
  | none=>False
def QIt (T:Qh)(k:Nat)(kt:List Nat)(Y:YD):RGT:=fun μ ops draw σ K=>
 bif draw then QHB T ops true σ K else QEP T k kt Y μ ops (Yi ops.length) σ K
def YOK (P:Program)(w0:World)(Mi:Ctx)(k l:Nat)(st:Loop)(Y:YD):Prop:=
  ∀(plI:List Nat) (μ:Nat) (args:List AV) (H:HP) (Kt:HP->Prop) (Kj:Nat->HP->Prop),Y plI μ args H Kt Kj->
    ∀(Ts:TM) (tmps vals:Array Value) (ρ:Env) (w:World) (m:Nat),HS w0 Mi ρ H w->(∀j bd,Mi.pin j=some bd->ρ j=some bd)->(∀p∈Mi.stk,∀t,ConcV w (ow Mi ρ H) ρ (p.1 t) (p.2.getD t undef))->
      (∀t,ConcV w (ow Mi ρ H) ρ (Ts t) (tmps.getD t undef))->(∀t,∀j∈VX (Ts t),j∈plI)->Qo w (ow Mi ρ H) ρ args vals.toList->H k=some (.lp 0)->
      vals.size=st.params.size/\RoundIn (FR none) m P l st.fn ((st.params.zip vals).foldl (fun tmps (t,a)=>tmps.setIfInBounds t a) st.tmps) st.assign st.body w fun e w'=>
        ∃(ρ':Env) (H':HP) (b:Bool) (s:Nat),e= .returned (.bool b)/\HS w0 Mi ρ' (upd H' k (some (.lp s))) w'/\(∀j bd,Mi.pin j=some bd->ρ' j=some bd)/\
          (∀p∈Mi.stk,∀t,ConcV w' (ow Mi ρ' (upd H' k (some (.lp s)))) ρ' (p.1 t) (p.2.getD t undef))/\(∀t,ConcV w' (ow Mi ρ' (upd H' k (some (.lp s)))) ρ' (Ts t) (tmps.getD t undef))/\NC w w'/\
          ((b=true/\s=0/\Kt H')∨(b=false/\Kj s H'))

theorem QCe {Mi:Ctx}{k l:Nat}{kt:List Nat}{bd:Xk}{st:Loop}{Y:YD}(hY:YOK P w0 Mi k l st Y)(hpin:Mi.pin k=some bd)(hbl:bd.blk=l)(_hnil:bd.isNil=false)(hlp:Mi.lps l=some st)
  (hs:Sim w0 Mi N ρ σ a w) {ws:World} (hn:NC ws w) {μ:Nat} {o:Oper} (hd: ∀t,o.dst=some t->t<N) (hok: ∀x∈o.op.operands.toList,U0 x=true) {args:List AV} (hy:Hm k (evA σ.T) o.op=some args) {K:St->Prop}
  (h:Hn k kt Y μ o.dst args σ K) {n:Nat} {Q:Exit->Act->World->Prop}:o.wpIn (FR none) n P a w (KJ w0 Mi N ws K) Q:=by
 obtain⟨dst,op,ty,pos,after,guard⟩:=o;cases op<;>simp only[Hm]at hy
 case call c=>
  obtain⟨callee,cargs,argTypes⟩:=c;cases callee<;>simp only at hy
  case value f=>
   split at hy
   ·rename_i k' hf;cases hb:k'.beq k with
    | false=>rw[hb]at hy;cases hy
    | true=>
     rw[hb]at hy;cases hy
     have:=Zb hb;subst this;have hcf:ConcV w (ow Mi ρ σ.H) ρ (evA σ.T f) (a.eval f):=QA9 hs f (hok f (by simp[Op.operands,Call.operands]));rw[hf]at hcf;obtain⟨us,hcc,hv⟩:=hcf;simp at hv;subst hv;generalize hvf:a.eval f=vf at hcc;cases hcc with
     | @yl _ _ bd' _ _ hk hn' _=>
     rw[hs.pin _ _ hpin]at hk;cases hk
     unfold Hn at h;split at h
     ·rename_i hH;have hargs:Qo w (ow Mi ρ σ.H) ρ (cargs.toList.map (evA σ.T)) (cargs.map a.eval).toList:=by
       rw[Yh];exact Jz cargs.toList (fun x hx=>QA9 hs x (hok x (by simp[Op.operands,Call.operands];exact .inr (by simpa using hx))))
      have hrest: ∀t,ConcV w (ow Mi ρ σ.H) ρ (J6 kt σ.T t) (a.tmps.getD t undef):=by
       intro t;unfold J6;cases XJ t kt
       ·trivial
       ·exact hs.tmps t
      have hids: ∀t,∀j∈VX (J6 kt σ.T t),j∈QIs kt σ.T:=by
       intro t j hj;unfold J6 at hj;cases hm:XJ t kt with
       | false=>rw[hm]at hj;simp[VX]at hj
       | true=>rw[hm]at hj;exact Yg.2 ⟨t,Q9.1 hm,hj⟩
      obtain⟨hsz,hround⟩:=hY _ _ _ _ _ _ h (J6 kt σ.T) a.tmps (cargs.map a.eval) ρ w (n-1) hs.hs hs.pin hs.stk hrest hids hargs hH;obtain⟨bd2,e2,hB⟩:=hs.hs.blk _ _ hH rfl;rw[hs.pin _ _ hpin]at e2;cases e2
      obtain⟨_,rec,hrec,_,hst⟩:=hB;rw[hbl]at hrec hst;rw[hlp]at hst;have hst:=Option.some.inj hst;have hrun:(execOp a.eval ⟨dst,.call ⟨.value f,cargs,argTypes⟩,ty,pos,after,guard⟩).run P w= .ok (.round l st.fn ((st.params.zip (cargs.map a.eval)).foldl (fun tmps (t,a)=>tmps.setIfInBounds t a) st.tmps) st.assign st.body) w:=by
       have hry:=run_yield (P:=P) (args:=cargs.map a.eval) hrec (by rw[hsz,hst];rfl);rw[hst];simp only[execOp,resolve,hvf,hbl,Deferred.ofValue,invoke,Sem.run_bind,Sem.run_pure,Zd,Array.empty_append];exact hry
      unfold Oper.wpIn;refine⟨fun _ _=>trivial,?_⟩;rw[Oper.semAt_eq _ _ _ (by intro c hc;cases hc),hrun];refine⟨fun h=>(by cases h),hround.mono ?_⟩;rintro e w' ⟨ρ',H',b,s,rfl,k1,k2,k3,k4,k5,k6⟩;have done: ∀b,K ⟨YE (J6 kt σ.T) dst (YF (.bool b)),upd H' k' (some (.lp s))⟩->KJ w0 Mi N ws K (a.put dst (.bool b)) w':=fun b hk=>by
       have hs0:Sim w0 Mi N ρ' ⟨J6 kt σ.T,upd H' k' (some (.lp s))⟩ a w':=⟨hs.size,hs.dfr.nc k5,hs.dfn,k2,k4,k3,k1⟩;exact⟨ρ',_,hs0.put hs0.hs (.refl _ _ _) hd (QZ rfl),hk,hn.trans k5⟩
      rcases k6 with⟨rfl,rfl,hk⟩ | ⟨rfl,hk⟩
      ·exact done true hk
      ·exact done false hk
     ·exact h.elim
   ·cases hy
  all_goals cases hy
 all_goals cases hy
theorem QEQ {Mi:Ctx}(hT:Q5 P Mi.g Mi.tab T){k l:Nat}{kt:List Nat}{bd:Xk}{st:Loop}{Y:YD}(hY:YOK P w0 Mi k l st Y)(hpin:Mi.pin k=some bd)(hbl:bd.blk=l)(hnil:bd.isNil=false)(hlp:Mi.lps l=some st)
  {ops:List Oper} (hok:ops.all (JQ N)=true) {μ:Nat} {K:St->Prop} {Q:Exit->Act->World->Prop} {ws:World} {n:Nat} (hQ: ∀a w,KJ w0 Mi N ws K a w->Q .normal a w):
  ∀(l:List Nat) {ρ:Env} {σ:St} {a:Act} {w:World},NC ws w->Sim w0 Mi N ρ σ a w->QEP T k kt Y μ ops l σ K->wpOpsIn (FR none) n P ops.toArray Q l a w:=by
 intro l;induction l with
 | nil=>intro ρ σ a w hn hs h;exact hQ _ _ ⟨ρ,σ,hs,h,hn⟩
 | cons i rest ih=>
  intro ρ σ a w hn hs h;rw[wpOpsIn_cons];simp only[QEP]at h;split at h
  ·rename_i o ho;have hoo:JQ N o=true:=by
    rw[Zf]at hok;exact hok o (Zo ho)
   unfold opI at h;split at h
   ·rename_i args hy;refine wpOpIn_mono ?_ (QBF (Q:=Q) (X:=KJ w0 Mi N ws (fun σ'=>QEP T k kt Y μ ops rest σ' K)) hs ho h (fun h=>QCe hY hpin hbl hnil hlp hs hn (Wn hoo) (Ha hoo) hy h) (fun h=>⟨ρ,_,hs.put hs.hs (.refl _ _ _) (Wn hoo) (av:= .n) rfl,h,hn⟩))
    rintro a' w' ⟨ρ',σ',hs',h',hn'⟩;exact ih hn' hs' h'
   ·refine wpOpIn_mono ?_ (UC hT hs ho hoo h hn (Q:=Q))
    rintro a' w' ⟨ρ',σ',hs',h',hn'⟩;exact ih hn' hs' h'
  ·exact h.elim
theorem QER {Mi:Ctx}(hT:Q5 P Mi.g Mi.tab T)(hm:P.follows .mixedOrders=true){k l:Nat}{kt:List Nat}{bd:Xk}{st:Loop}{Y:YD}(hY:YOK P w0 Mi k l st Y)(hpin:Mi.pin k=some bd)(hbl:bd.blk=l)(hnil:bd.isNil=false)(hlp:Mi.lps l=some st):
  QOf P w0 Mi N none (KR N) (QIt T k kt Y):=by
 intro id ops draw hok μ ρ σ a w ws K n Q' hn hs h hQ;cases draw with
 | true=>exact Hk hT hm id ops true hok μ ρ σ a w ws K n Q' hn hs h hQ
 | false=>
  simp only[KR,Za]at hok;simp only[QIt,R8]at h;refine wpIn_region ?_
  simpa using QEQ hT hY hpin hbl hnil hlp hok.1 hQ _ hn hs h
end Go.Eng
namespace Go.Eng
open Go Go.RowKit
variable {P:Program}{w0:World}{M:Ctx}{N:Nat}{ρ:Env}{H:HP}{σ:St}{a:Act}{w:World}{T:Qh}
def QLf (as:List AV):TM:=fun t=>as.getD t .n
theorem Qo.len {w:World}{O:Nat->Prop}{ρ:Env}{as:List AV}{vs:List Value}(h:Qo w O ρ as vs):as.length=vs.length:=by
 induction h with
 | nil=>rfl
 | cons _ _ ih=>simp[ih]
theorem UH {w:World}{O:Nat->Prop}{ρ:Env}{as:List AV}{vs:List Value}(h:Qo w O ρ as vs)(n t:Nat):ConcV w O ρ (QLf as t) ((vs.toArray++Ya n undef).getD t undef):=by
  have e1:(vs.toArray++Ya n undef).getD t undef=vs.getD t undef:=by
    simp only[Zc,Zm];rw[Array.getElem?_append];split
    · simp
    · rename_i hn;have:vs[t]? =none:=by simp at hn⊢;omega
      rw[this,Zw];split<;>rfl
  rw[e1];unfold QLf;induction h generalizing t with
  | nil=>cases t<;>exact rfl
  | cons hc _ ih=>
    cases t with
    | zero=>exact hc
    | succ t=>simpa using ih t (by
        simp only[Zc,Zm];rw[Array.getElem?_append];split
        · simp
        · rename_i vs' _ hn;have:vs'[t]? =none:=by simp at hn⊢;omega
          rw[this,Zw]
          split<;>rfl)


def XQ (fn:Func):Code:=match fn.body with | some c=>c | none=> .skip
def Va (fn:Func):Bool:= !(fn.name== "runtime.NumGoroutine")&&fn.body.isSome&&JB (KR fn.ntmps) (XQ fn)
theorem Qm {f:Nat}{fn:Func}(hf:P.funcs[f]? =some fn)(hok:Va fn=true):VE P f:=by
 intro args w;simp only[Va,Za,Zu,beq_eq_false_iff_ne]at hok;obtain⟨c,hc⟩:=Yf.1 hok.1.2;simp[callFunc,hf,hc,hok.1.1]
def VG:Nat->List AV->List (Nat×AV)
 | _,[]=>[]
 | n,a::as=>(n,a)::VG (n+1) as
theorem VH (as:List AV): ∀n t,Qi (VG n as) t= .u∨(n<=t/\Qi (VG n as) t=as.getD (t-n) .n):=by
 induction as with
 | nil=>intro n t;exact .inl rfl
 | cons a as ih=>
  intro n t;simp only[VG,Qi];cases hb:t.beq n with
  | true=>have:=Zb hb;subst this;exact .inr ⟨Zx _,by simp⟩
  | false=>
   rcases ih (n+1) t with h | ⟨h1,h2⟩
   ·exact .inl h
   ·refine .inr ⟨by omega,?_⟩;show Qi (VG (n+1) as) t=_
    rw[h2,show t-n=(t-(n+1))+1 by omega];rfl
abbrev OT:=Nat->List Nat×List (List Nat)

def WS (O:OT):Code->Bool
 | .region id ops draw=>bif draw then decide (O id=(ord ops.toList,KQ ops.toList))else true
 | .seq a b=>WS O a&&WS O b
 | .cond _ a b=>WS O a&&WS O b
 | .block _ c=>WS O c
 | .loop c=>WS O c
 | .rangeFunc _ _ a b=>WS O a&&WS O b
 | _=>true
def Ho (T:TM):List Nat->List AV->TM
  | p::ps,a::as=>Ho (upd T p a) ps as
  | _,_=>T
def QRV (l:List (Nat×AV)):List Nat:=l.flatMap fun p=>VX p.2
def UI (wa wb:WF)(pl:List Nat)(ps:List Nat)(Tc:TM)(k:Nat):YD:=fun plI μ args H Kt Kj=>
 bif args.length.beq ps.length then
  wa (plI++pl) (some k) μ ⟨Ho Tc ps args,H⟩ fun e σ1=>match e with
   | .n=>(match σ1.H k with
    | some (.lp 0)=>wb (plI++pl) (some k) μ ⟨σ1.T,upd σ1.H k (some (.lp 1))⟩ fun e σ2=>(match σ2.H k with
     | some (.lp 1)=>(match e with
      | .n=>Kt σ2.H
      | .r=>Kj 2 σ2.H
      | .x i=>Kj (i+3) σ2.H)
     | _=>False)
    | _=>False)
   | _=>False
 else False
def rfN:RFT:=fun _ _ _ _ _ _ _ _ _ _=>False
def QHC (fn:Func):Bool:=Va fn&&fn.results.toList.isEmpty
def roA (ro:Option Nat)(H:HP)(p:Prop):Prop:=match ro with
 | none=>p
 | some k0=>match H k0 with
  | some (.lp 1)=>p
  | _=>False
def QIu (k:Nat)(s:SL)(Q:QQ):QQ:=fun e σ'=>match e with
 | .x _=>False
 | _=>match σ'.H k with
  | some (.lp 0)=>Q .n ⟨Qi s.T,upd σ'.H k (some .dead)⟩
  | some (.lp 2)=>Q .r ⟨Qi s.T,upd σ'.H k (some .dead)⟩
  | some (.lp (i+3))=>Q (.x i) ⟨Qi s.T,upd σ'.H k (some .dead)⟩
  | _=>False
def plI (k:Nat)(pl:List Nat)(s:SL):List Nat:=k::(pl++QRV s.T)
def KT (k:Nat)(ks:List Nat):List AV:= .x false [.yl k]::ks.map fun j=> .x false [.p j 0]
def rfC (T:Qh)(k:Nat)(kt:List Nat)(L:LI)(ps:List Nat)(wa wb:WF)(pl:List Nat)(μ:Nat)(s:SL)(Q:QQ)(fid:Nat)(ks:List Nat):Prop:=
 match T.it fid,QO s.H k with
 | some (fn,O),none=>bif(QHC fn&&Nat.ble (ks.length+1) fn.ntmps)&&WS O (XQ fn)then
   wpG (QIt T k kt (UI wa wb (plI k pl s) ps (Qi s.T) k)) L rfN (XQ fn) (plI k pl s) none μ
    ⟨Qi (VG 0 (KT k ks)),upd (QO s.H) k (some (.lp 0))⟩ (QIu k s Q)
  else False
 | _,_=>False
def rfB (T:Qh)(k:Nat)(kt:List Nat)(L:LI)(f:Operand)(ps:List Nat)(wa wb:WF)(pl:List Nat)(ro:Option Nat)(μ:Nat)(s:SL)(Q:QQ):Prop:=
 roA ro (QO s.H)<| match f with
  | .tmp t=>(match Qi s.T t with
   | .x false [.f fid ks]=>rfC T k kt L ps wa wb pl μ s Q fid ks
   | _=>False)
  | _=>False
def rfA (T:Qh):RFT:=fun it f ps wa wb pl ro μ σ Q=>match it with
 | .it I K k kt L=>(∃x,(I.φ x/\I.t x=μ)/\YX pl (Ut K σ) (I.S x))/\ ∀x,I.φ x->I.t x=μ->rfB T k kt (L x) f ps wa wb pl ro (I.m x) (I.S x) Q
 | _=>False
def CMc (g:Nat)(tab:List Value):CX:=fun M ro r=>(M.g=g/\M.tab=tab/\M.nd=false)/\match ro with
 | none=>r=none
 | some k0=> ∃bd,M.pin k0=some bd/\r=some bd.blk
theorem QES {O:Nat->Prop}: ∀(ps:List Nat) (as:List AV) (vs:List Value) (T:TM) (tmps:Array Value),Qo w O ρ as vs->(∀t,ConcV w O ρ (T t) (tmps.getD t undef))->(∀p∈ps,p<tmps.size)->as.length=ps.length->
  ((ps.zip vs).foldl (fun tmps (t,a)=>tmps.setIfInBounds t a) tmps).size=tmps.size/\ ∀t,ConcV w O ρ (Ho T ps as t) (((ps.zip vs).foldl (fun tmps (t,a)=>tmps.setIfInBounds t a) tmps).getD t undef):=by
 intro ps;induction ps with
 | nil=>
  intro as vs T tmps h hT _ hl;cases h with
  | nil=>exact⟨rfl,hT⟩
  | cons=>simp at hl
 | cons p ps ih=>
  intro as vs T tmps h hT hp hl;cases h with
  | nil=>simp at hl
  | @cons a as v vs hx ht=>
   have hpl:=hp p (by simp)
   obtain⟨h1,h2⟩:=ih as vs (upd T p a) (tmps.setIfInBounds p v) ht (fun t=>by
    by_cases e:t=p
    ·subst e;rw[QI];have:(tmps.setIfInBounds t v).getD t undef=v:=by simp[hpl]
     rw[this];exact hx
    ·rw[QR _ _ e];have:(tmps.setIfInBounds p v).getD t undef=tmps.getD t undef:=by
      simp only[Zc];rw[Array.getElem?_setIfInBounds_ne (fun he=>e he.symm)]
     rw[this];exact hT t) (fun q hq=>by simp only[Array.size_setIfInBounds];exact hp q (by simp[hq])) (by simpa using hl)
   refine⟨by rw[List.zip_cons_cons,List.foldl_cons,h1];simp,fun t=> ?_⟩;rw[List.zip_cons_cons,List.foldl_cons];exact h2 t
theorem QHD (ps:Array Nat)(vals tmps:Array Value):(ps.zip vals).foldl (fun tmps (t,a)=>tmps.setIfInBounds t a) tmps=(ps.toList.zip vals.toList).foldl (fun tmps (t,a)=>tmps.setIfInBounds t a) tmps:=by
 rw[<-Array.foldl_toList,Array.toList_zip]
theorem Hp (hs:HS w0 M ρ H w){k s:Nat}{bd:Xk}(hk:H k=some (.lp s))(hρ:ρ k=some bd):bd.isNil=false/\ ∃r,w.heap[bd.blk]? =some (.loop r)/\QLP s r/\M.lps bd.blk=some (QCD r):=by
  obtain⟨bd',e,h⟩:=hs.blk k _ hk rfl;rw[hρ]at e;cases e
  exact h

theorem QIv (hs:HS w0 M ρ H w){k s s':Nat}{bd:Xk}(hk:H k=some (.lp s))(hρ:ρ k=some bd){r r':Loop}(hr:w.heap[bd.blk]? =some (.loop r))(hst:QCD r'=QCD r)(hok:QLP s' r'):
    HS w0 M ρ (upd H k (some (.lp s'))) (w.putObj bd.blk (.loop r'))/\Ext ρ H w ρ (upd H k (some (.lp s'))) (w.putObj bd.blk (.loop r')):=by
  obtain⟨hn,r1,h1,h2,h3⟩:=Hp hs hk hρ;rw[hr]at h1;cases h1
  have hlt:=(Zg.1 hr).1;exact hs.write hk rfl rfl hρ hn (fun j hj=>World.putObj_heap_other hj) World.putObj_size rfl rfl rfl (fun _=>⟨hn,r',World.putObj_heap_same hlt,hok,by rw[h3,hst]⟩)

theorem QOi {g:Nat}{tab:List Value}{x y:Code}{wa wb:WF}(ha:Snd P w0 N (CMc g tab) x wa)(hb:Snd P w0 N (CMc g tab) y wb){Mi:Ctx}{k l:Nat}{bd:Xk}{st:Loop}{ps:List Nat}{Tc:TM}{tmps:Array Value}{pl:List Nat}{S0:List (TM×Array Value)}
  (hg:Mi.g=g/\Mi.tab=tab) (hpin:Mi.pin k=some bd) (hbl:bd.blk=l) (_hnil:bd.isNil=false) (hlp:Mi.lps l=some st) (hx:st.assign=x) (hy:st.body=y) (hps:st.params.toList=ps) (htm:st.tmps=tmps) (hN:tmps.size=N)
  (hpl:QEE Mi pl) (hstk:Mi.stk=(Tc,tmps)::S0) (_hpk:k∈pl) (hin: ∀p∈ps,p<N):YOK P w0 Mi k l st (UI wa wb pl ps Tc k):=by
 subst hx hy hps htm hbl;intro plJ μ args H Kt Kj h Ts itm vals ρ w m hs hpi hsk hTs hids hargs hH;unfold UI at h;cases hlen:args.length.beq st.params.toList.length with
 | false=>rw[hlen]at h;exact h.elim
 | true=>
  rw[hlen]at h;simp only[R7]at h;have hlen:=Zb hlen;have hvl:vals.size=st.params.size:=by have:=hargs.len;simp at this hlen;omega
  refine⟨hvl,?_⟩;have hTc: ∀t,ConcV w (ow Mi ρ H) ρ (Tc t) (st.tmps.getD t undef):=fun t=>hsk (Tc,st.tmps) (by rw[hstk];simp) t;obtain⟨p1,p2⟩:=QES st.params.toList args vals.toList Tc st.tmps hargs hTc (fun p hp=>by rw[hN];exact hin p hp) hlen;rw[QHD];-- the context of the round
  obtain⟨Mb,hMb⟩: ∃Mb:Ctx,Mb={Mi with pin:=fun j=>bif XJ j (plJ++pl)then ρ j else none,stk:=(Ts,itm)::Mi.stk,nd:=false}:=⟨_,rfl⟩;have hpinb: ∀j bd,Mi.pin j=some bd->Mb.pin j=some bd:=fun j bd hj=>by
   have:j∈pl:=hpl.pin j (by rw[hj];simp);subst hMb;simp only;rw[Q9.2 (by simp[this])];exact hpi j bd hj
  have hHb:HS w0 Mb ρ H w:=by subst hMb;exact hs.relp (L':=Mi.lps) (fun _ _ _ _ _=>rfl)
  have hHi: ∀{ρ' H' w'},HS w0 Mb ρ' H' w'->HS w0 Mi ρ' H' w':=fun h=>by
   subst hMb;exact(h.relp (L':=Mi.lps) (p:=Mi.pin) (s:=Mi.stk) (nd:=Mi.nd) (fun _ _ _ _ _=>rfl))
  have how: ∀ρ' H',ow Mb ρ' H'=ow Mi ρ' H':=fun ρ' H'=>by subst hMb;rfl
  have hsim:Sim w0 Mb N ρ ⟨Ho Tc st.params.toList args,H⟩ {tmps:=(st.params.toList.zip vals.toList).foldl (fun tmps (t,a)=>tmps.setIfInBounds t a) st.tmps,defers:=[]} w:=by
   refine⟨by rw[p1,hN],.nil,fun _=>rfl,fun j bd hj=> ?_,fun t=> ?_,fun p hp t=> ?_,hHb⟩
   ·subst hMb;simp only at hj;cases hm:XJ j (plJ++pl)with
    | false=>rw[hm]at hj;cases hj
    | true=>rw[hm]at hj;exact hj
   ·rw[how];exact p2 t
   ·rw[how];subst hMb;rcases Zl.1 hp with rfl | hp
    ·exact hTs t
    ·exact hsk p hp t
  have hpins:QEE Mb (plJ++pl):=by
   refine⟨fun j hj=> ?_,fun p hp t j hj=> ?_⟩
   ·subst hMb;simp only at hj;cases hm:XJ j (plJ++pl)with
    | false=>rw[hm]at hj;exact absurd rfl hj
    | true=>exact Q9.1 hm
   ·subst hMb;simp only;rcases Zl.1 hp with rfl | hp
    ·rw[Q9.2 (Zk.2 (.inl (hids t j hj)))];exact(hTs t).ids_some j hj
    ·have h1:=hpl.stk p hp t j hj;rw[Q9.2 (Zk.2 (.inr (hpl.pin j h1)))];obtain⟨bd',e⟩:=Zq.1 h1;simp only[R7];rw[hpi j bd' e];simp
  have hcm:CMc g tab Mb (some k) (some bd.blk):=⟨by subst hMb;exact⟨hg.1,hg.2,rfl⟩,bd,hpinb k bd hpin,rfl⟩;refine roundIn_of_wpIn trivial ?_
  refine ha (r:=some bd.blk) hcm hpins (NC.refl w) hsim h fun a1 w1=>⟨?_,fun i=> ?_,?_⟩
  ·rintro⟨ρ1,σ1,hs1,hq1,hn1⟩;simp only at hq1;split at hq1
   ·rename_i hk1;have hρ1:ρ1 k=some bd:=hs1.pin k bd (hpinb k bd hpin);obtain⟨_,r1,hr1,hok1,hst1⟩:=Hp hs1.hs hk1 hρ1;obtain⟨g1,g2⟩:=QIv (s':=1) (r':={r1 with state:= .busy}) hs1.hs hk1 hρ1 hr1 rfl rfl;refine⟨_,run_beginRound hr1 hok1.1,?_⟩;have hs1':Sim w0 Mb N ρ1 ⟨σ1.T,upd σ1.H k (some (.lp 1))⟩ a1 (w1.putObj bd.blk (.loop {r1 with state:= .busy})):=
     ⟨hs1.size,hs1.dfr.nc (g2.nc hs1.hs),hs1.dfn,hs1.pin,fun t=>g2.conc (hs1.tmps t),fun p hp t=>g2.conc (hs1.stk p hp t),g1⟩
    -- what is left behind the round
    have fin: ∀{jump:Option Code} {s:Nat} {b:Bool} {KK:HP->Prop} {a2:Act} {w2:World},jump.isNone=b->(∀r:Loop,QLP s {r with state:=if jump.isNone then .ready else .done,pending:=jump})->
      KJ w0 Mb N w (fun σ2=>match σ2.H k with
       | some (.lp 1)=>KK σ2.H
       | _=>False) a2 w2->(∀H,KK H->(b=true/\s=0/\Kt H)∨(b=false/\Kj s H))->
      ∃v w',(Instr.endRound bd.blk jump).run P w2= .ok v w'/\ ∃(ρ':Env) (H':HP) (b:Bool) (s:Nat),(Ending.returned v:Ending)= .returned (.bool b)/\HS w0 Mi ρ' (upd H' k (some (.lp s))) w'/\(∀j bd,Mi.pin j=some bd->ρ' j=some bd)/\
       (∀p∈Mi.stk,∀t,ConcV w' (ow Mi ρ' (upd H' k (some (.lp s)))) ρ' (p.1 t) (p.2.getD t undef))/\(∀t,ConcV w' (ow Mi ρ' (upd H' k (some (.lp s)))) ρ' (Ts t) (itm.getD t undef))/\NC w w'/\((b=true/\s=0/\Kt H')∨(b=false/\Kj s H')):=by
     rintro jump s b KK a2 w2 hjb hjs ⟨ρ2,σ2,hs2,hq2,hn2⟩ hwhich;split at hq2
     ·rename_i hk2;have hρ2:ρ2 k=some bd:=hs2.pin k bd (hpinb k bd hpin);obtain⟨_,r2,hr2,_,hst2⟩:=Hp hs2.hs hk2 hρ2;obtain⟨f1,f2⟩:=QIv (s':=s) (r':={r2 with state:=if jump.isNone then .ready else .done,pending:=jump}) hs2.hs hk2 hρ2 hr2 rfl (hjs r2);refine⟨_,_,run_endRound jump hr2,ρ2,σ2.H,b,s,by rw[hjb],hHi f1,fun j bd hj=>hs2.pin j bd (hpinb j bd hj),fun p hp t=> ?_,fun t=> ?_,hn2.trans (f2.nc hs2.hs),hwhich _ hq2⟩
      ·have:=f2.conc (hs2.stk p (by subst hMb;exact Zi _ hp) t);rw[how]at this;exact this
      ·have:=f2.conc (hs2.stk (Ts,itm) (by subst hMb;simp) t);rw[how]at this;exact this
     ·exact hq2.elim
    refine hb (r:=some bd.blk) hcm hpins (hn1.trans (g2.nc hs1.hs)) hs1' hq1 fun a2 w2=>⟨?_,fun i=> ?_,?_⟩
    ·intro hp;exact fin (jump:=none) (s:=0) rfl (fun r=>⟨rfl,rfl⟩) hp (fun H h=> .inl ⟨rfl,rfl,h⟩)
    ·intro hp;exact fin (jump:=some (.exit i)) (s:=i+3) rfl (fun r=>⟨rfl,rfl⟩) hp (fun H h=> .inr ⟨rfl,h⟩)
    ·intro hp;exact fin (jump:=some .ret) (s:=2) rfl (fun r=>⟨rfl,rfl⟩) hp (fun H h=> .inr ⟨rfl,h⟩)
   ·exact hq1.elim
  ·rintro⟨ρ1,σ1,hs1,hq1,hn1⟩;exact hq1
  ·rintro⟨ρ1,σ1,hs1,hq1,hn1⟩;exact hq1
theorem QLg {fn:Func}(h:QHC fn=true): ∃c,fn.body=some c/\XQ fn=c/\JB (KR fn.ntmps) c=true/\fn.results.toList=[]/\Va fn=true:=by
 simp only[QHC,Za]at h;have h1:=h.1;simp only[Va,Za]at h1;obtain⟨c,hc⟩:=Yf.1 h1.1.2;have hb:XQ fn=c:=by unfold XQ;rw[hc]
 exact⟨c,hc,hb,hb▸h1.2,by simpa using h.2,h.1⟩
theorem UJ {fn:Func}(h:fn.results.toList=[])(tmps:Array Value)(w:World):(results fn tmps).run P w= .ok (.tuple #[]) w:=by
 have:fn.results= #[]:=by rw[<-Zj (xs:=fn.results),h]
 simp[results,this]
theorem QOj {ro:Option Nat}{H:HP}{p:Prop}(h:roA ro H p):p/\ ∀k0,ro=some k0->H k0=some (.lp 1):=by
 unfold roA at h;split at h
 ·exact⟨h,fun _ h=>by cases h⟩
 ·split at h
  ·rename_i hk;exact⟨h,fun k h=>by cases h;exact hk⟩
  ·exact h.elim
theorem QHE {g:Nat}{tab:List Value}(hT:Q5 P g tab T)(hm:P.follows .mixedOrders=true){x y:Code}{wa wb:WF}(ha:Snd P w0 N (CMc g tab) x wa)(hb:Snd P w0 N (CMc g tab) y wb){f:Operand}{ps:Array Tmp}(hps: ∀p∈ps.toList,p<N){k:Nat}{kt:List Nat}{L:LI}
  {pl:List Nat} {ro r:Option Nat} {n μ:Nat} {s:SL} {ws:World} {Q:QQ} {Q':Exit->Act->World->Prop} (hcm:CMc g tab M ro r) (hpl:QEE M pl) (hn:NC ws w) (hs:Sim w0 M N ρ s.st a w) (h:rfB T k kt L f ps.toList wa wb pl ro μ s Q) (hq:PQ w0 M N ws Q Q'):
  (Code.rangeFunc f ps x y).wpIn (FR r) n P Q' a w:=by
 unfold rfB at h;obtain⟨h,hro⟩:=QOj h;cases f with
 | tmp t=>
  simp only at h;split at h
  ·rename_i fid ks hf;unfold rfC at h;split at h
   ·rename_i fn O hit hk0;cases hok:(QHC fn&&Nat.ble (ks.length+1) fn.ntmps)&&WS O (XQ fn)with
    | false=>rw[hok]at h;exact h.elim
    | true=>
     rw[hok]at h;simp only[R7]at h;simp only[Za]at hok;obtain⟨c,hbody,hbo,hcode,hres,hfn⟩:=QLg hok.1.1;have hf2:=hT.it _ _ hit;have hen:=Qm hf2 hfn;-- the iterator's value
     have hcf:ConcV w (ow M ρ s.st.H) ρ (s.st.T t) (a.eval (.tmp t)):=hs.tmps t;rw[show s.st.T t=_ from hf]at hcf;generalize hvf:a.eval (.tmp t)=vf at hcf;obtain⟨us,hcc,hv⟩:=hcf;simp at hv;subst hv;cases hcc with
     | @f _ _ _ _ _ hks _=>
     refine wpIn_rangeFunc (fun fnid _=> ?_);-- the statement is entered
     obtain⟨l,mark,wA,rec,hrun,hbel,hl,hrt,hmarks⟩: ∃(l:Nat) (mark:List Deferred) (wA:World) (rec:Loop),(Instr.enterLoop fnid a.tmps ps x y (FR r).round).run P w= .ok (l,mark) (wA.alloc (.loop rec))/\Below w.heap.size w wA/\l=wA.heap.size/\
       (rec.state= .ready/\rec.pending=none/\rec.tmps=a.tmps/\rec.params=ps/\rec.assign=x/\rec.body=y)/\Marks w0 (wA.alloc (.loop rec)) (mark++a.defers):=by
      have hsz:=hs.hs.size;cases ro with
      | none=>
       have hr:r=none:=hcm.2;subst hr;refine⟨_,_,w.alloc (.deferred (some [])),_,run_enterLoop_outer _ _ _ _ _,(Below.refl _ w).alloc (Zx _) _,by simp,⟨rfl,rfl,rfl,rfl,rfl,rfl⟩,?_⟩;obtain⟨rs,e1,e2,e3⟩:=hs.dfr;have hlt: ∀j∈rs,j<w.heap.size:=fun j hj=>(Zg.1 (e3 j hj).1).1;refine⟨w.heap.size::rs,by rw[e1];rfl,List.nodup_cons.2 ⟨fun hm=>Nat.lt_irrefl _ (hlt _ hm),e2⟩,fun j hj=> ?_⟩;rcases Zl.1 hj with rfl | hj
       ·refine⟨?_,hsz⟩;rw[Below.heap_alloc _ _ _ (by simp)];exact World.alloc_heap_new w _
       ·have:=hlt j hj;refine⟨?_,(e3 j hj).2⟩;rw[Below.heap_alloc _ _ _ (by simp;omega),Below.heap_alloc _ _ _ this];exact(e3 j hj).1
      | some k0=>
       obtain⟨bd0,hp0,hr⟩:=hcm.2;subst hr;obtain⟨_,r0,hr0,_,_⟩:=Hp hs.hs (hro k0 rfl) (hs.pin k0 bd0 hp0);refine⟨_,[],w,{state:= .ready,pending:=none,fn:=fnid,tmps:=a.tmps,params:=ps,assign:=x,body:=y,defers:=r0.defers},?_,Below.refl _ w,rfl,⟨rfl,rfl,rfl,rfl,rfl,rfl⟩,?_⟩
       ·show(Instr.enterLoop fnid a.tmps ps x y (some bd0.blk)).run P w=_
        unfold Instr.enterLoop;simp only[Sem.run_bind,run_getLoop hr0,Result.andThen,Sem.run_pure,run_newObj_alloc]
       ·obtain⟨rs,e1,e2,e3⟩:=hs.dfr;refine⟨rs,e1,e2,fun j hj=>⟨?_,(e3 j hj).2⟩⟩;rw[Below.heap_alloc _ _ _ (Zg.1 (e3 j hj).1).1];exact(e3 j hj).1
     obtain⟨r1,r2,r3,r4,r5,r6⟩:=hrt;-- the record as an own block
     obtain⟨hA1,hA2⟩:=hs.hs.below hbel;have hlfree: ∀j bd,ρ j=some bd->bd.isNil=false->XI (QO s.H j)=true->bd.blk≠l:=fun j bd e1 e2 e3 e4=>by
      have:=(hA1.rng j bd e1 e2 e3 _ Qs).1;omega
     obtain⟨ρ1,hρ1⟩: ∃ρ1:Env,ρ1=upd ρ k (some ⟨l,0,0,0,false,[]⟩):=⟨_,rfl⟩;obtain⟨Mi,hMi⟩: ∃Mi:Ctx,Mi={M with lps:=upd M.lps l (some rec),pin:=fun j=>bif XJ j (plI k pl s)then ρ1 j else none,stk:=(Qi s.T,a.tmps)::M.stk,nd:=true}:=⟨_,rfl⟩;have how: ∀ρ' H',ow Mi ρ' H'=ow M ρ' H':=fun ρ' H'=>by subst hMi;rfl
     have hB:HS w0 Mi ρ (QO s.H) wA:=by
      subst hMi
      exact hA1.relp (fun j t bd e1 e2=>QR _ _ (by
       obtain⟨bd',e,ok⟩:=hA1.blk j _ e1 rfl;rw[e2]at e;cases e
       exact hlfree j bd e2 ok.1 (by show XI (s.st.H j)=true;rw[show s.st.H j=_ from e1];rfl)))
     have hstat:QCD rec=rec:=by
      cases rec
      simp only at r1 r2;subst r1 r2;rfl
     obtain⟨hC1,hC2⟩:=hB.alloc (w':=wA.alloc (.loop rec)) hk0 (o:= .loop rec) (bd:=⟨l,0,0,0,false,[]⟩) (b:= .lp 0) hl rfl rfl rfl rfl (fun _=>⟨rfl,rec,by rw[hl];exact World.alloc_heap_new wA _,⟨r1,r2⟩,by rw[hstat];subst hMi;exact QI _ _ _⟩);rw[<-hρ1]at hC1 hC2;have hX:=hA2.trans hC2;have hnc1:NC w (wA.alloc (.loop rec)):=hX.nc hs.hs;have hk1:ρ1 k=some ⟨l,0,0,0,false,[]⟩:=by rw[hρ1];exact QI _ _ _
     have hstk: ∀p∈Mi.stk,∀t,ConcV (wA.alloc (.loop rec)) (ow Mi ρ1 (upd (QO s.H) k (some (.lp 0)))) ρ1 (p.1 t) (p.2.getD t undef):=by
      intro p hp t;rw[how];subst hMi;rcases Zl.1 hp with rfl | hp
      ·exact hX.conc (hs.tmps t)
      ·exact hX.conc (hs.stk p hp t)
     have hks1:=Vw hks hX.env;have hargs:Qo (wA.alloc (.loop rec)) (ow Mi ρ1 (upd (QO s.H) k (some (.lp 0)))) ρ1 (KT k ks) (.func (.yield l) #[] #[]::ks.map (J3 ρ)):=by
      refine .cons ⟨_,.yl hk1 rfl .nil,rfl⟩ ?_
      rw[hks1.1];exact QAJ hks1.2
     have hpins:QEE Mi (plI k pl s):=by
      refine⟨fun j hj=> ?_,fun p hp t j hj=> ?_⟩
      ·subst hMi;simp only at hj;cases hmm:XJ j (plI k pl s)with
       | false=>rw[hmm]at hj;exact absurd rfl hj
       | true=>exact Q9.1 hmm
      ·subst hMi;simp only;rcases Zl.1 hp with rfl | hp
       ·have hj':j∈plI k pl s:=by
         unfold plI;refine Zi _ (Zk.2 (.inr ?_));rcases QAK (l:=s.T) (t:=t)with he | he
         ·simp only at hj;rw[he]at hj;simp[VX]at hj
         ·exact Yg.2 ⟨_,he,hj⟩
        rw[Q9.2 hj'];have:=(hs.tmps t).ids_some j hj;obtain⟨bd',e⟩:=Zq.1 this;simp only[R7];rw[hX.env j bd' e];simp
       ·have h1:=hpl.stk p hp t j hj;rw[Q9.2 (show j∈plI k pl s from Zi _ (Zk.2 (.inl (hpl.pin j h1))))];obtain⟨bd',e⟩:=Zq.1 h1;simp only[R7];rw[hX.env j bd' (hs.pin j bd' e)];simp
     have hpk:Mi.pin k=some ⟨l,0,0,0,false,[]⟩:=by
      subst hMi;simp only;rw[Q9.2 (show k∈plI k pl s from Yc ..)];exact hk1
     have hpinM: ∀j bd,M.pin j=some bd->Mi.pin j=some bd:=fun j bd hj=>by
      subst hMi;simp only;rw[Q9.2 (show j∈plI k pl s from Zi _ (Zk.2 (.inl (hpl.pin j (by rw[hj];simp)))))];exact hX.env j bd (hs.pin j bd hj)
     have hlps:Mi.lps l=some rec:=by subst hMi;exact QI _ _ _
     have hTi:Q5 P Mi.g Mi.tab T:=by
      have:Mi.g=g/\Mi.tab=tab:=by subst hMi;exact⟨hcm.1.1,hcm.1.2.1⟩
      rw[this.1,this.2];exact hT
     have hyok:=QOi (P:=P) (w0:=w0) (pl:=plI k pl s) (S0:=M.stk) (Tc:=Qi s.T) (tmps:=a.tmps) (ps:=ps.toList) (wa:=wa) (wb:=wb) ha hb (Mi:=Mi) (k:=k) (l:=l) (bd:=⟨l,0,0,0,false,[]⟩) (st:=rec) (by subst hMi;exact⟨hcm.1.1,hcm.1.2.1⟩) hpk rfl rfl hlps r5 r6 (by rw[r4]) r3 hs.size hpins (by subst hMi;rfl) (Yc ..) hps;refine⟨l,mark,_,{target:= .fn (.func fid) (ks.map (J3 ρ)).toArray,args:= #[.func (.yield l) #[] #[]]},wA.alloc (.loop rec),fid, #[.func (.yield l) #[] #[]]++(ks.map (J3 ρ)).toArray,wA.alloc (.loop rec),hrun,?_,fun _ _=>trivial,?_,fun h=>(by cases h),?_⟩
     ·have e:(#[]:Array Value)++Array.map a.eval #[Operand.const (.func (.yield l) #[] #[])]= #[.func (.yield l) #[] #[]]:=by simp[Act.eval]
      simp only[resolve,hvf,Deferred.ofValue,e];rfl
     ·exact hen _ _
     ·-- the call
      refine(callsIn_of_wp (F:=FR none) hf2 hbody trivial ?_ rfl:CallsIn (FR none) (n-1) P fid _ _ _);have hNi:ks.length+1<=fn.ntmps:=Zr hok.1.2;have hav:(#[Value.func (.yield l) #[] #[]]++(ks.map (J3 ρ)).toArray)=(Value.func (.yield l) #[] #[]::ks.map (J3 ρ)).toArray:=by apply Yd;simp
      have hsimI:Sim w0 Mi fn.ntmps ρ1 ⟨Qi (VG 0 (KT k ks)),upd (QO s.H) k (some (.lp 0))⟩ {tmps:=(#[Value.func (.yield l) #[] #[]]++(ks.map (J3 ρ)).toArray)++Ya (fn.ntmps-(#[Value.func (.yield l) #[] #[]]++(ks.map (J3 ρ)).toArray).size) undef,defers:=[]} (wA.alloc (.loop rec)):=by
       refine⟨by simp;omega,.nil,fun _=>rfl,fun j bd hj=> ?_,fun t=> ?_,hstk,hC1⟩
       ·subst hMi;simp only at hj;cases hmm:XJ j (plI k pl s)with
        | false=>rw[hmm]at hj;cases hj
        | true=>rw[hmm]at hj;exact hj
       ·show ConcV _ _ ρ1 (Qi (VG 0 (KT k ks)) t) _
        rcases VH (KT k ks) 0 t with he | ⟨_,he⟩
        ·rw[he];trivial
        ·rw[he,Nat.sub_zero,hav];exact UH hargs _ t
      refine QAO (w0:=w0) (N:=fn.ntmps) (CM:=fun M' ro' r'=>M'=Mi/\r'=none) (ok:=KR fn.ntmps) (RG:=QIt T k kt (UI wa wb (plI k pl s) ps.toList (Qi s.T) k)) (L:=L) (RF:=rfN)
       (fun M' ro' r' hM'=>by obtain⟨rfl,rfl⟩:=hM';exact QER hTi hm hyok hpk rfl rfl hlps) (fun _ _ _ _ _ _ _ _ _ _=>fun _ _ _ _ h _=>h.elim) c hcode ⟨rfl,rfl⟩ hpins (NC.refl _) hsimI (hbo▸h) ?_
      -- the end of it
      have fin: ∀{e:Ex} {b:Act} {w':World},(e= .n∨e= .r)->KJ w0 Mi fn.ntmps (wA.alloc (.loop rec)) (QIu k s Q e) b w'->b.defers=[]/\ ∃v,(results fn b.tmps).run P w'= .ok v w'/\rangePost (FR r) n P l Q' {a with defers:=mark++a.defers} (.returned v) w':=by
       rintro e b w' he ⟨ρ',σ',hs',hq',hn'⟩;refine⟨hs'.dfn (by subst hMi;rfl),_,UJ hres _ _,?_⟩;have hend: ∃j,σ'.H k=some (.lp j)/\((j=0/\Q .n ⟨Qi s.T,upd σ'.H k (some .dead)⟩)∨(j=2/\Q .r ⟨Qi s.T,upd σ'.H k (some .dead)⟩)∨ ∃i,j=i+3/\Q (.x i) ⟨Qi s.T,upd σ'.H k (some .dead)⟩):=by
        rcases he with rfl | rfl
        all_goals
         simp only[QIu]at hq'
         split at hq'
         ·rename_i hk;exact⟨0,hk,.inl ⟨rfl,hq'⟩⟩
         ·rename_i hk;exact⟨2,hk,.inr (.inl ⟨rfl,hq'⟩)⟩
         ·rename_i i hk;exact⟨i+3,hk,.inr (.inr ⟨i,rfl,hq'⟩)⟩
         ·exact hq'.elim
       obtain⟨j,hkj,hj⟩:=hend;have hρ':=hs'.pin k _ hpk;obtain⟨_,rec',hrec',hokj,hstj⟩:=Hp hs'.hs hkj hρ';have hbusy:rec'.state≠ .busy:=by
        rcases hj with⟨rfl,_⟩ | ⟨rfl,_⟩ | ⟨i,rfl,_⟩
        ·rw[hokj.1];simp
        ·rw[hokj.1];simp
        ·rw[hokj.1];simp
       -- back to the caller
       obtain⟨d1,d2⟩:=hs'.hs.kill hkj;have hother: ∀i bd,ρ' i=some bd->bd.isNil=false->XI (upd σ'.H k (some .dead) i)=true-> ¬XS bd (upd σ'.H k (some .dead) i) l:=by
        intro i bd e1 e2 e3 e4;have hne:i≠k:=fun e=>by subst e;rw[QI]at e3;cases e3
        rw[QR _ _ hne]at e3 e4;exact hne (hs'.hs.dist i k bd _ e1 hρ' e2 rfl e3 (by rw[hkj];rfl) l e4 Qs)
       have e1:HS w0 M ρ' (upd σ'.H k (some .dead)) w':=by
        have:=d1.relp (L':=M.lps) (p:=M.pin) (s:=M.stk) (nd:=M.nd) (fun i t bd e1 e2=>by
         obtain⟨bd',e,ok⟩:=d1.blk i _ e1 rfl;rw[e2]at e;cases e
         have:=hother i bd e2 ok.1 (by rw[e1];rfl);subst hMi
         exact(QR _ _ (fun e=>this (by rw[<-e];exact Qs))).symm)
        subst hMi;exact this
       have hnown: ¬own ρ' (upd σ'.H k (some .dead)) l:=by
        rintro⟨i,bd,e1,e2,e3,e4⟩;exact hother i bd e1 e2 e4 e3
       have hle:w0.heap.size<=l:=by rw[hl];exact Nat.le_trans hs.hs.size hbel.size
       have hcl:=KS hrec' (o':= .loop {rec' with state:= .exhausted}) rfl rfl;have hz:w'.heap.size<=(w'.putObj l (.loop {rec' with state:= .exhausted})).heap.size:=by rw[World.putObj_size];exact Zx _
       have hnc4:NC w' (w'.putObj l (.loop {rec' with state:= .exhausted})):=by
        intro b o hb ho;by_cases e:b=l
        ·subst e;rw[hrec']at hb;cases hb;cases ho
        ·rw[World.putObj_heap_other e];exact hb
       have hsim4:Sim w0 M N ρ' ⟨Qi s.T,upd σ'.H k (some .dead)⟩ {a with defers:=mark++a.defers} (w'.putObj l (.loop {rec' with state:= .exhausted})):=by
        have hst2: ∀p∈Mi.stk,∀t,ConcV (w'.putObj l (.loop {rec' with state:= .exhausted})) (ow M ρ' (upd σ'.H k (some .dead))) ρ' (p.1 t) (p.2.getD t undef):=fun p hp t=>by
         have:=(d2.conc (hs'.stk p hp t)).cells' hcl hz;rw[how]at this;exact this
        refine⟨hs.size,(hmarks.nc hn').nc hnc4,fun hd=> ?_,fun i bd hi=>hs'.pin i bd (hpinM i bd hi),fun t=>hst2 (Qi s.T,a.tmps) (by subst hMi;simp) t,fun p hp t=>hst2 p (by subst hMi;exact Zi _ hp) t,e1.putNC hrec' rfl rfl hnown hle⟩;rw[hcm.1.2.2]at hd;cases hd
       have hnF:NC ws (w'.putObj l (.loop {rec' with state:= .exhausted})):=hn.trans (hnc1.trans (hn'.trans hnc4));have hend4:=run_endLoop (P:=P) hrec' hbusy;generalize w'.putObj l (.loop {rec' with state:= .exhausted})=w4 at hsim4 hnF hend4;refine⟨_,_,hend4,?_⟩;rcases hj with⟨rfl,hQ⟩ | ⟨rfl,hQ⟩ | ⟨i,rfl,hQ⟩
       ·rw[hokj.2];exact(hq _ _).1 ⟨ρ',_,hsim4,hQ,hnF⟩
       ·rw[hokj.2];exact wpIn_ret ((hq _ _).2.2 ⟨ρ',_,hsim4,hQ,hnF⟩)
       ·rw[hokj.2];exact wpIn_exit ((hq _ _).2.1 i ⟨ρ',_,hsim4,hQ,hnF⟩)
      exact fun b w'=>⟨fun h=>fin (.inl rfl) h,fun i h=>by obtain⟨_,_,_,h,_⟩:=h;exact h.elim,fun h=>fin (.inr rfl) h⟩
   ·exact h.elim
  ·exact h.elim
 | _=>exact h.elim
theorem QHF {g:Nat}{tab:List Value}(hT:Q5 P g tab T)(hm:P.follows .mixedOrders=true)(it:KM)(f:Operand)(ps:Array Tmp)(x y:Code)(wa wb:WF)(hps:ps.toList.all (fun p=>KR N [QBC p] false)=true)(ha:Snd P w0 N (CMc g tab) x wa)(hb:Snd P w0 N (CMc g tab) y wb):
  Snd P w0 N (CMc g tab) (.rangeFunc f ps x y) (rfA T it f ps.toList wa wb):=by
 intro M pl ro r n μ ρ σ a w ws Q Q' hcm hpl hn hs h hq;unfold rfA at h;split at h
 ·rename_i I K k kt L;obtain⟨⟨x0,h0,he⟩,hall⟩:=h;obtain⟨ρ1,hs1⟩:=Wo he _ _ _ _ _ _ hpl (hs.frz K);have hps': ∀p∈ps.toList,p<N:=fun p hp=>by
   have:=Zf.1 hps p hp;simp only[KR,JQ,QBC,List.all_cons,List.all_nil,Bool.and_true,Za]at this;exact Zr this.1.1
  exact QHE hT hm (wa:=wa) (wb:=wb) ha hb hps' hcm hpl hn hs1 (hall x0 h0.1 h0.2) hq
 ·exact h.elim
end Go.Eng
