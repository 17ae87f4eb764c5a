/- The engine, part Lm: maps from numbers to numbers. -/
import Derived.Test.YtmpfaflhpioaiaaGreatDoorE2
import Derived.RangeFuncRecord
import Derived.OrdersIn
open _root_ renaming List → C, Nat → E, Option → A, False → B, Bool → I, Array → c, guard → jd, absurd → je
open Option renaming some → J, none → z, ne_none_iff_exists' → Zo, isSome_iff_exists → Yf
open Bool renaming false → U, true → Z, and_eq_true → Za, not_eq_true' → Zs
open Go renaming World → S, Value → X, Oper → R, execOp → L, Operand → At, undef → Lm, run_underlying → be, Program → hZ, resolve → ja, Act → jb, Deferred → jc, invoke → jf, Code → jg, MapEntry → jh, wpOpIn_mono → ji, getD_set_true → jj
open List renaming length → Sj, all_eq_true → Ze, mem_append → Zj, mem_cons → Zl, mem_cons_of_mem → Zh, getElem?_eq_some_iff → Zk, map_cons → Zz, range → Yi, getD_eq_getElem?_getD → Zm, mem_of_getElem? → Zt, getElem?_toArray → Zr, map_congr_left → Zu, eq_nil_of_length_eq_zero → Zn, flatMap_cons → Ye, mem_cons_self → Yc, getElem?_eq_getElem → Zv, mem_filterMap → Yb, mem_flatMap → Yg
open Iff renaming rfl → Zq
open Go.Result renaming andThen_ok → Zd
open Nat renaming eq_of_beq_eq_true → Zb, lt_of_lt_of_le → Zg, le_refl → Zx, le_of_ble_eq_true → Zp
open Array renaming getD_eq_getD_getElem? → Zc, toArray_toList → Zi, getElem?_eq_some_iff → Zf, ext' → Yd, replicate → Ya, getElem?_toList → Zy, toList_map → Yh, getElem?_replicate → Zw
namespace Go.Eng
open Go Go.RowKit
variable {P:hZ}{w0:S}{M:Ctx}{ρ:Env}{H:HP}{w:S}
def bE (tb:TB)(i:TyI):A E:=match i.zd with
  | .map kt b=>match tb kt,tb b with
    | some c,J e=>match c.zd,e.zd,e.zero with
      | .int .i64,.int _,[.int .i64 0]=>J kt
      | _,_,_=>z
    | _,_=>z
  | _=>z
variable{kt t:E}{tb:TB}{i:TyI}
theorem G6(b:Wf P tb)(u:JK P t i)(h:bE tb i=J kt):
  ∃e,P.underlying t=J (.map kt e)/\P.underlying kt=J (.int .i64)/\ ∀w:S,(zeroValue e).run P w= .ok (.int .i64 0) w:=by
 unfold bE at h;split at h
 ·rename_i B e y;split at h
  ·rename_i E C x s;split at h
   ·rename_i f c A;cases h
    refine⟨e,by rw[u.zd,y],by rw[(b _ _ x).zd,f],fun w=> ?_⟩;obtain⟨I,v,m,q,g⟩:=(b _ _ s).zval _ c;rw[A]at g;cases g
    simp[zeroValue,typeInfo,m,q]
   ·cases h
  ·cases h
 ·cases h
def JM (f:Int->A Int)(k v:Int):Int->A Int:=fun x=>bif k==x then J v else f x
def V3 (tb:TB)(i:TyI)(d:E)(H:HP)(K:KK):Prop:=
 match bE tb i,H d with
 | some _,z=>K (.x U [.m d]) (upd H d (J (.mp fun _=>z)))
 | _,_=>B
def qt (ok:I)(r:A Int):AV:=bif ok then .t [(U,[.v (.int .i64 (r.getD 0))]),(U,[.v (.bool r.isSome)])]else .x U [.v (.int .i64 (r.getD 0))]
def Ul (tb:TB)(i:TyI)(m x:AV)(ok:I)(H:HP)(K:AV->Prop):Prop:=
 match bE tb i with
 | some _=>(match x with
  | .x U [.v (.int .i64 n)]=>(match m with
   | .x U [.m k]=>(match H k with
    | some (.mp f)=>K (qt ok (f n))
    | _=>B)
   | .x U [.v (.map z)]=>K (qt ok z)
   | _=>B)
  | _=>B)
 | none=>B
def cf (tb:TB)(i:TyI)(m x v:AV)(H:HP)(K:HP->Prop):Prop:=
 match bE tb i with
 | some _=>(match m,x,v with
  | .x U [.m k],.x U [.v (.int .i64 n)],.x U [.v (.int .i64 b)]=>(match H k with
   | some (.mp f)=>K (upd H k (J (.mp (JM f n b))))
   | _=>B)
  | _,_,_=>B)
 | none=>B
theorem V4{d:E}(x:HS w0 M ρ H w){K:KK}(h:V3 tb i d H K)(r:A X)(u:r=z\/ ∃k n,r=J (.int k n))(m:Wf P tb)(s:JK P t i):
  ∃v w' ρ' f av,(Instr.makeMap t r).run P w= .ok v w'/\HS w0 M ρ' f w'/\Ext ρ H w ρ' f w'/\ConcV w' (ow M ρ' f) ρ' av v/\K av f:=by
 unfold V3 at h;split at h
 ·rename_i kt g q;obtain⟨B,y,_,_⟩:=G6 m s g;have e:(Instr.makeMap t r).run P w= .ok (.map (J w.heap.size)) (w.alloc (.map #[] 0)):=by
   rcases u with rfl | ⟨k,n,rfl⟩
   ·rfl
   ·simp only[Instr.makeMap,Sem.run_bind,be y,Zd,asInt];rfl
  have c:=x.alloc q (o:= .map #[] 0) (bd:=⟨w.heap.size,0,0,0,U⟩) (b:= .mp fun _=>z) (w':=w.alloc (.map #[] 0)) rfl rfl rfl rfl rfl
   (fun C=>⟨rfl, #[],0,World.alloc_heap_new w _,fun _=>rfl⟩)
  exact⟨_,_,_,_,.x U [.m d],e,c.1,c.2,⟨_,.m (bd:=⟨w.heap.size,0,0,0,U⟩) (QT _ _ _) rfl .nil,rfl⟩,h⟩
 ·exact h.elim
theorem tE: ∀{m:C jh} {f:Int->A Int},MapIs m f-> ∀(k:Int) (i:E),(f k=z/\Instr.findNow (.int .i64) (.int .i64 k) m i=J z)\/
  ∃v j,f k=J v/\Instr.findNow (.int .i64) (.int .i64 k) m i=J (J (i+j,.int .i64 v))/\(∃e,m[j]? =J e/\e.key= .int .i64 k)/\ ∀(e:jh) (b:Int),e.key= .int .i64 k->e.val= .int .i64 b->MapIs (m.set j e) (JM f k b):=by
 intro m;induction m with
 | nil=>intro f h k i;exact .inl ⟨h k,rfl⟩
 | cons e m ih=>
  rintro f ⟨a,b,g,q,V,W,s⟩ k i;by_cases L:k=a
  ·subst L;refine .inr ⟨b,0,by rw[s];simp,?_,⟨e,rfl,q⟩,fun R I y B=>⟨k,I,g,y,B,W,fun x=> ?_⟩⟩
   ·simp only[Instr.findNow,q,Instr.sameNow,if_true,beq_self_eq_true,V];rfl
   ·simp only[JM,s];cases(k==x)<;>rfl
  ·have u:(k==a)=U:=(j9 L)
   have c:(a==k)=U:=by simp;exact fun h=>L h.symm
   rcases ih W k (i+1)with⟨y,B⟩ | ⟨v,j,y,B,k3,k4⟩
   ·exact .inl ⟨by rw[s,c,y];rfl,by simp only[Instr.findNow,q,Instr.sameNow,if_true,u,B]⟩
   ·refine .inr ⟨v,j+1,by rw[s,c,y];rfl,?_,(j9 k3),fun R I X c2=> ?_⟩
    ·simp only[Instr.findNow,q,Instr.sameNow,if_true,u,B];rw[E.add_assoc,E.add_comm 1 j]
    ·refine⟨a,b,_,q,V,k4 R I X c2,fun x=> ?_⟩;simp only[JM,s];by_cases S:k=x
     ·subst S;simp[c]
     ·have:(k==x)=U:=(j9 S)
      rw[this];rfl
theorem MapIs.push: ∀{m:C jh} {f:Int->A Int},MapIs m f-> ∀{e:jh} {k b:Int},f k=z->e.key= .int .i64 k->e.val= .int .i64 b->MapIs (m++[e]) (JM f k b):=by
 intro m;induction m with
 | nil=>intro f h e k b _ u v;exact⟨k,b,fun _=>z,u,v,fun _=>rfl,fun x=>by simp only[JM,h x]⟩
 | cons e m L=>
  rintro f ⟨a,c,g,u,v,E,y⟩ V k b s R S;have q:(a==k)=U:=by
   cases I:(a==k)with
   | false=>rfl
   | true=>rw[y,I]at s;cases s
  refine⟨a,c,_,u,v,L E (by rw[y,q]at s;exact s) R S,fun x=> ?_⟩;simp only[JM,y];by_cases B:k=x
  ·subst B;simp[q]
  ·have:(k==x)=U:=(j9 B)
   rw[this];rfl
theorem Wh(hk:P.underlying kt=J (.int .i64)){k:Int}{e:C jh}{r:A (E×X)}(h:Instr.findNow (.int .i64) (.int .i64 k) e 0=J r)(w:S):
  (Instr.findKey kt (.int .i64 k) e).run P w= .ok r w:=by
 simp only[Instr.findKey,Sem.run_bind,be hk,Zd,h,Sem.run_pure]
theorem Jz(hk:P.underlying kt=J (.int .i64)){k:Int}(b:I)(w:S):(Instr.checkKey b 10000 kt (.int .i64 k)).run P w= .ok () w:=by
 have:(10000:E)=9999+1:=rfl;rw[this,Instr.checkKey];simp only[Sem.run_bind,be hk,Zd,Sem.run_pure]
theorem tH (C:HS w0 M ρ H w){k:E}{f:Int->A Int}(hk:H k=J (.mp f)){v:X}(h:ConcV w (ow M ρ H) ρ (.x U [.m k]) v):
  ∃bd b c,ρ k=J bd/\bd.isNil=U/\v= .map (J bd.zc)/\w.heap[bd.zc]? =J (.map b c)/\MapIs b.toList f:=by
 obtain⟨s,g,h⟩:=h;simp at h;subst h;cases g with
 | @m _ _ bd _ _ q x _=>
  obtain⟨u,e,I,b,c,y,B⟩:=C.zc k _ hk rfl;rw[q]at e;cases e
  exact⟨bd,b,c,q,x,rfl,y,B⟩
theorem Hy {O:E->Prop}(ok:I)(r:A Int):ConcV w O ρ (qt ok r) (if ok then .tuple #[.int .i64 (r.getD 0),.bool r.isSome]else .int .i64 (r.getD 0)):=by
 cases ok with
 | true=>exact⟨[.int .i64 (r.getD 0),.bool r.isSome],.cons (ConcX.mk1 rfl) (.cons (ConcX.mk1 rfl) .nil),rfl⟩
 | false=>exact ConcX.mk1 rfl
theorem QEQ(q:Wf P tb)(hi:JK P t i)(hs:HS w0 M ρ H w){m x:AV}{C E:X}(A:ConcV w (ow M ρ H) ρ m C)(hx:ConcV w (ow M ρ H) ρ x E){ok:I}{K:AV->Prop}(h:Ul tb i m x ok H K):
  ∃v av,(Instr.lookup t C E ok).run P w= .ok v w/\ConcV w (ow M ρ H) ρ av v/\K av:=by
 unfold Ul at h;split at h
 ·rename_i kt g;obtain⟨et,s,b,B⟩:=G6 q hi g;split at h
  ·rename_i n;obtain⟨rfl,_⟩:=ConcX.one hx;split at h
   ·rename_i k;split at h
    ·rename_i f W;obtain⟨bd,R,L,h1,h2,rfl,S,V⟩:=tH hs W A;have y:(getObj bd.zc).run P w= .ok (.map R L) w:=by simp[getObj,Sem.run,S]
     refine⟨_,_,?_,Hy ok (f n),h⟩;rcases tE V n 0 with⟨u,e⟩ | ⟨v,j,u,e,k3,k4⟩
     ·simp only[Instr.lookup,Sem.run_bind,be s,Zd,y,Sem.run_pure,Jz b,Wh b e,B,u];cases ok<;>rfl
     ·simp only[Instr.lookup,Sem.run_bind,be s,Zd,y,Sem.run_pure,Jz b,Wh b e,u];cases ok<;>rfl
    ·exact h.elim
   ·obtain⟨rfl,_⟩:=ConcX.one A;refine⟨_,_,?_,Hy ok z,h⟩;have e:Instr.findNow (.int .i64) (.int .i64 n) (#[]:c jh).toList 0=J z:=rfl;simp only[Instr.lookup,Sem.run_bind,be s,Zd,Sem.run_pure,Jz b,Wh b e,B];cases ok<;>rfl
   ·exact h.elim
  ·exact h.elim
 ·exact h.elim
theorem HC(jn:Wf P tb)(hi:JK P t i)(hs:HS w0 M ρ H w){m x y:AV}{vm vx vy:X}(hm:ConcV w (ow M ρ H) ρ m vm)(hx:ConcV w (ow M ρ H) ρ x vx)(hy:ConcV w (ow M ρ H) ρ y vy){K:HP->Prop}(h:cf tb i m x y H K):
  ∃w' H',(Instr.mapUpdate t vm vx vy).run P w= .ok () w'/\HS w0 M ρ H' w'/\Ext ρ H w ρ H' w'/\K H':=by
 unfold cf at h;split at h
 ·rename_i kt jk;obtain⟨et,hu,W,hz⟩:=G6 jn hi jk;split at h
  ·rename_i k n b;obtain⟨rfl,_⟩:=ConcX.one hx;obtain⟨rfl,_⟩:=ConcX.one hy;split at h
   ·rename_i f hf;obtain⟨bd,B,V,h1,h2,rfl,h4,h5⟩:=tH hs hf hm;have hg:(getObj bd.zc).run P w= .ok (.map B V) w:=by simp[getObj,Sem.run,h4]
    have jm:bd.zc<w.heap.size:=(Zf.1 h4).1;have u: ∀g s,(setObj bd.zc (.map g s)).run P w= .ok () (w.putObj bd.zc (.map g s)):=fun g s=>by simp[setObj,Sem.run,World.putObj,h4]
    have S: ∀g s,MapIs g.toList (JM f n b)->HS w0 M ρ (upd H k (J (.mp (JM f n b)))) (w.putObj bd.zc (.map g s))/\Ext ρ H w ρ (upd H k (J (.mp (JM f n b)))) (w.putObj bd.zc (.map g s)):=fun g s hm=>
     hs.write (b':= .mp (JM f n b)) hf rfl rfl h1 h2 (fun j L=>World.putObj_heap_other L) World.putObj_size rfl rfl rfl (fun _=>⟨h2,g,s,World.putObj_heap_same jm,hm⟩)
    rcases tE h5 n 0 with⟨k1,k2⟩ | ⟨v,j,k1,k2,⟨e,k3,k5⟩,k4⟩
    ·obtain⟨a1,a2⟩:=S (B.push {key:= .int .i64 n,val:= .int .i64 b,born:=V}) (V+1) (by rw[c.toList_push];exact h5.push k1 rfl rfl);refine⟨_,_,?_,a1,a2,h⟩;simp only[Instr.mapUpdate,Sem.run_bind,be hu,Zd,hg,Jz W,Wh W k2,u]
    ·have L:B[j]? =J e:=by rw[<-Zy];exact k3
     have jl:j<B.size:=(Zf.1 L).1;have I:(Instr.keyThatStays (.int .i64 n) (.int .i64 n)).run P w= .ok (.int .i64 n) w:=by
      have:Instr.sameBits 10000 (.int .i64 n) (.int .i64 n)=Z:=by
       have:(10000:E)=9999+1:=rfl;rw[this,Instr.sameBits];simp
      simp[Instr.keyThatStays,this]
     have R:(B.modify j fun e=>{e with key:= .int .i64 n,val:= .int .i64 b}).toList=B.toList.set j {e with key:= .int .i64 n,val:= .int .i64 b}:=by
      apply C.ext_getElem?
      intro q;rw[Zy,c.getElem?_modify,C.getElem?_set,Zy,c.length_toList];by_cases hq:j=q
      ·subst hq;simp[jl,(Zf.1 L).2]
      ·simp[hq]
     obtain⟨a1,a2⟩:=S (B.modify j fun e=>{e with key:= .int .i64 n,val:= .int .i64 b}) V (by rw[R];exact k4 _ _ rfl rfl);refine⟨_,_,?_,a1,a2,h⟩;rw[E.zero_add]at k2;simp only[Instr.mapUpdate,Sem.run_bind,be hu,Zd,hg,Jz W,Wh W k2,L,A.map_some,A.getD_some,k5,I,u]
   ·exact h.elim
  ·exact h.elim
 ·exact h.elim
end Go.Eng
namespace Go.Eng
open Go Go.RowKit
abbrev bN:=E->String->A E
def ai (P:hZ)(m:bN):Prop:= ∀t b f,m t b=J f-> ∀v w,(method (P.types.size+Made.depth) t v b).run P w= .ok (f,v) w
def ZR (P:hZ):bN:=fun t b=>match P.info? t with
 | some c=>match c.methods.find? (·.name==b),P.underlying t with
  | some m,J u=>match m.path.toList,m.func,u with
   | [],J (_,_),.pointer _=>z
   | [],J (f,U),_=>J f
   | _,_,_=>z
  | _,_=>z
 | none=>z
theorem mB (P:hZ):ai P (ZR P):=by
 intro t b f h v w;unfold ZR at h;split at h
 ·rename_i B e;split at h
  ·rename_i m u x y;split at h
   ·cases h
   ·rename_i C _ g q c;cases h
    have s:P.types.size+Made.depth=P.types.size+99+1:=by unfold Made.depth;omega
    rw[s];unfold method;have A:(typeInfo t).run P w= .ok B w:=by simp[typeInfo,e]
    simp only[Sem.run_bind,A,Zd,x,g,q,follow,Sem.run_pure];have:(receiverAt t (.val v) U (if m.path.isEmpty then J ((b.splitOn ".").getLastD b)else z)).run P w= .ok v w:=by
     unfold receiverAt;simp only[Sem.run_bind,be y,Zd];rename_i u _;cases u<;>first | (exact je rfl (c _)) | simp[Place.get] | (simp only[Place.get,Sem.run_pure])
    rw[this];rfl
   ·cases h
  ·cases h
 ·cases h
structure Qd where
  tb:TB
  pr:PR
  pm:PM
  px:PX
  mt:bN
  it:E->A (Func×(E->C E×C (C E)))
  im:C (E×E×I)

structure XC (P:Program)(g:E)(zb:C Value)(T:Qd):Prop where
 tb:Wf P T.tb
 pr:dG P g zb T.pr
 pm:bQ P g zb T.pm
 px:kI P T.px
 mt:ai P T.mt
 it: ∀f p,T.it f=J p->P.funcs[f]? =J p.1
 byte: ∀t i e j,T.tb t=J i->i.zd= .slice e->T.tb e=J j->j.zd= .int .u8->P.underlying e=J (.int .u8)
def imL:C (E×E×I)->E->A (E×I)
  | [],_=>z
  | p::l,t=>bif t.beq p.1 then J p.2 else imL l t
def shT (T:Qd)(t:E)(i:TyI):C Sh:=match imL T.im t with
 | some p=>[.ifc p.1 p.2]
 | none=>ng T.tb 8 i
def Xf (T:Qd)(t:E)(K:TyI->Prop):Prop:=match T.tb t with | some i=>K i | none=>B
def V5 (T:Qd)(i:TyI):I:=
 match i.zd with
 | .slice e=>match T.tb e with
  | some j=>match j.zd with
   | .int .u8=>Z
   | _=>U
  | none=>U
 | _=>Z
def JN (o:A E):E:=o.getD 0
def cz:C AV->A (C E)
  | []=>J []
  | a::b=>match a,cz b with
    | .x U [.p k 0],J c=>J (k::c)
    | _,_=>z

def opS (T:Qd)(ev:At->AV)(H:HP)(d:E)(K:KK):Op->Prop
  | .move x | .assign x=>K (ev x) H
  | .pick c a b=>match ev c with
    | .x U [.v (.bool t)]=>cond t (K (ev a) H) (K (ev b) H)
    | _=>B
  | .alloc t=>Xf T t fun i=>eR i t d T.tb H K
  | .box t x=>Xf T t fun i=>pH i t d (ev x) H K
  | .build t S=>Xf T t fun i=>Gv i (S.toList.map fun p=>(p.1,ev p.2)) T.tb fun v=>K v H
  | .buildSlice t n S=>Xf T t fun i=>match i.zd with
    | .slice e=>Xf T e fun q=>Ke q e n d (S.toList.map fun p=>(p.1,ev p.2)) H K
    | _=>B
  | .load t a=>Xf T t fun i=>aR i (shT T t i) (ev a) H fun v=>K v H
  | .store t a v=>Xf T t fun i=>pG i (ev a) (ev v) H fun h=>K .n h
  | .nilCheck x=>match ev x with
    | .x U [.p k o]=>K (.x U [.p k o]) H
    | .x U [.e k i o]=>K (.x U [.e k i o]) H
    | .x U [.y sz xs i o]=>K (.x U [.y sz xs i o]) H
    | _=>B
  | .binOp op t x y _=>aW T.tb t op (ev x) (ev y) fun v=>K v H
  | .unOp op _ x=>unA op (ev x) fun v=>K v H
  | .convert s t x=>Xf T s fun i=>Xf T t fun j=>bif V5 T i&&V5 T j then Z4 i j (ev x) H fun v=>K v H else B
  | .makeSlice t l c=>Xf T t fun i=>match i.zd with
    | .slice e=>Xf T e fun q=>HN q e d (ev l) (ev c) H K
    | _=>B
  | .slice t x W V X=>Xf T t fun i=>(match X with
    | none=>G0 i (ev x) (W.map ev) (V.map ev) z H T.tb fun v=>K v H
    | some m=>(match V with
      | none=>B
      | some y=>lJ i (ev x) (W.map ev) (J (ev y)) (J (ev m)) d H T.tb K))
  | .fieldAddr t x f=>Xf T t fun i=>WR i (ev x) f T.tb fun v=>K v H
  | .field t x f=>Xf T t fun i=>Gs i (ev x) f T.tb fun v=>K v H
  | .indexAddr t x I=>Xf T t fun i=>WS i (ev x) (ev I) H T.tb fun v=>K v H
  | .index t x I=>Xf T t fun i=>Gu i (ev x) (ev I) fun v=>K v H
  | .extract x n=>match ev x with
    | .t l=>match l[n]? with
      | some (b,cs)=>K (.x b cs) H
      | none=>B
    | _=>B
  | .makeFunc fn first C=>match fn,first.toList,cz (C.toList.map ev)with
    | .func g,[],J L=>K (.x U [.f g L]) H
    | _,_,_=>B
  | .makeInterface t x=>Xf T t fun i=>match i.zd,ev x with
    | .interface _,_=>B
    | _,.x A cs=>bif cs.all S7 then K (.x U [.i t A cs]) H else B
    | _,_=>B
  | .makeMap t r=>Xf T t fun i=>match r with
    | none=>V3 T.tb i d H K
    | some x=>(match ev x with
      | .x U [.v (.int _ _)]=>V3 T.tb i d H K
      | _=>B)
  | .lookup t m x ok=>Xf T t fun i=>Ul T.tb i (ev m) (ev x) ok H fun v=>K v H
  | .mapUpdate t m x y=>Xf T t fun i=>cf T.tb i (ev m) (ev x) (ev y) H fun h=>K .n h
  | .insert t m x y=>Xf T t fun i=>cf T.tb i (ev m) (ev x) (ev y) H fun h=>K .n h
  | .call c=>match c.callee with
    | .value f=>match ev f with
      | .x U [.v (.func (.func g) ⟨[]⟩ ⟨[]⟩)]=>match T.px g (c.args.toList.map ev)with
        | some R=>R fun v=>K v H
        | none=>Z0 T.pr T.pm g d (c.args.toList.map ev) H K
      | .x U [.f g L]=>Z0 T.pr T.pm g d (c.args.toList.map ev++L.map fun k=> .x U [.p k 0]) H K
      | _=>B
    | .invoke r u=>match ev r with
      | .x U [.i t A cs]=>(match T.mt t u with
        | some g=>Z0 T.pr T.pm g d (.x A cs::c.args.toList.map ev) H K
        | none=>B)
      | _=>B
    | .builtin b=>match b,c.args.toList,c.argTypes.toList with
      | .len,[a],[t]=>Xf T t fun i=>Z9 i (ev a) fun v=>K v H
      | .append,[a,x],[t,t']=>bif t.beq t' then Xf T t fun i=>(match i.zd with
        | .slice e=>Xf T e fun q=>rC q e d (ev a) (ev x) H K
        | _=>B)else B
      | .min,[x,y],_=>VU U (ev x) (ev y) fun v=>K v H
      | .max,[x,y],_=>VU Z (ev x) (ev y) fun v=>K v H
      | _,_,_=>B
  | _=>B

def evA (T:TM):At->AV
 | .tmp t=>T t
 | .const (.agg cs)=> .x Z (cs.toList.map .v)
 | .const (.tuple _)=> .u
 | .const v=> .x U [.v v]
 | .func f=> .x U [.v (.func (.func f) #[] #[])]
 | .global _=> .u
variable {P:hZ}{w0:S}{M:Ctx}{N:E}{ρ:Env}{σ:St}{a:jb}{w:S}
def fB:At->I
 | .const (.agg cs)=>cs.toList.all (·.oneCell')
 | _=>Z
theorem fU (h:Sim w0 M N ρ σ a w)(x:At)(b:fB x=Z):ConcV w (ow M ρ σ.H) ρ (evA σ.T x) (a.eval x):=by
 cases x with
 | tmp t=>exact h.tmps t
 | const v=>
  cases v with
  | agg cs=>exact⟨cs.toList,CC.vals b,rfl⟩
  | tuple vs=>trivial
  | _=>exact Qg rfl
 | func f=>exact Qg rfl
 | global g=>trivial
theorem XJ {T:Qd}(c:Wf P T.tb){t:E}{K:TyI->Prop}(h:Xf T t K): ∃i,JK P t i/\T.tb t=J i/\K i:=by
 unfold Xf at h;split at h
 ·rename_i i b;exact⟨i,c _ _ b,b,h⟩
 ·exact h.elim
def vw (o:Op):I:=o.operands.toList.all fB
variable{O:E->Prop}{ev:At->AV}
theorem tG(ps:c (E×At))(h: ∀x∈ps.toList.map (·.2),ConcV w O ρ (ev x) (a.eval x)):
  QEi w O ρ (ps.toList.map fun p=>(p.1,ev p.2)) (ps.map fun(i,x)=>(i,a.eval x)).toList:=by
 refine⟨o6,fun j i y B v b e=> ?_⟩;simp only[C.getElem?_map,A.map_eq_some_iff,Yh]at b e;obtain⟨p,f,m⟩:=b;obtain⟨q,g,s⟩:=e;rw[f]at g;cases g
 cases m
 cases s
 exact⟨rfl,h p.2 (C.mem_map.2 ⟨p,Zt f,rfl⟩)⟩
theorem W7 {ev:At->AV}{O:E->Prop}: ∀(xs:C At),(∀x∈xs,ConcV w O ρ (ev x) (a.eval x))->Qu w O ρ (xs.map ev) (xs.map a.eval)
 | [],_=> .nil
 | x::xs,h=> .cons (h x o6) (W7 xs fun y b=>h y (by simp[b]))
variable{vs:C X}
theorem Qu.app{b c:C AV}{us:C X}(h:Qu w O ρ b vs)(k:Qu w O ρ c us):Qu w O ρ (b++c) (vs++us):=by
 induction h with
 | nil=>exact k
 | cons e _ f=>exact .cons e f
theorem gP(x:A At)(h: ∀y,x=J y->ConcV w O ρ (ev y) (a.eval y)): ∀b,x.map ev=J b-> ∃v,x.map a.eval=J v/\ConcV w O ρ b v:=by
 intro b c;cases x with
 | none=>cases c
 | some x=>simp at c;subst c;exact⟨_,rfl,h x rfl⟩
theorem gE(x:A At):x.map ev=z->x.map a.eval=z:=by cases x<;>simp
theorem QKg{c:C AV}(h:Qu w O ρ c vs): ∀{ks:C E},cz c=J ks->(∀k∈ks,∃bd,ρ k=J bd/\bd.isNil=U)/\vs=ks.map (KD ρ):=by
 induction h with
 | nil=>intro ks h;cases h;exact⟨o6,rfl⟩
 | cons q _ x=>
  intro ks h;unfold cz at h;split at h
  ·rename_i k y g;cases h
   obtain⟨v,b,f⟩:=q;simp at f;subst f;cases b with
   | p e m _=>
    obtain⟨s,u⟩:=x g;exact⟨by simpa using⟨⟨_,e,m⟩,s⟩,by rw[u,Zz,Jq e]⟩
  ·cases h
theorem vS: ∀{ks:C E},(∀k∈ks,∃bd,ρ k=J bd/\bd.isNil=U)->Qu w O ρ (ks.map fun k=> .x U [.p k 0]) (ks.map (KD ρ)):=by
 intro ks;induction ks with
 | nil=>exact fun _=> .nil
 | cons k ks f=>
  intro h;obtain⟨bd,e,c⟩:=h k o6;refine .cons ⟨_,?_,rfl⟩ (f fun k b=>h k (by simp[b]));rw[Jq e];exact .p e c .nil
theorem CC.imm0{ρ ρ':Env}{cs:C Ch}(h:CC w O ρ cs vs):cs.all S7=Z->CC w O ρ' cs vs:=by
 induction h with
 | nil=>exact fun _=> .nil
 | v a _ e=>exact fun h=> .v a (e (by simpa [S7]using h))
 | r a _ e=>exact fun h=> .r a (e (by simpa [S7]using h))
 | b a _ e=>exact fun h=> .b a (e (by simpa [S7]using h))
 | s0 _ e=>exact fun h=> .s0 (e (by simpa [S7]using h))
 | s00 _ e=>exact fun h=> .s00 (e (by simpa [S7]using h))
 | s a b c _ _ e=>exact fun h=> .s a b c (e (by simpa [S7]using h))
 | i a b _ _ e=>exact fun h=> .i a b (e (by simpa [S7]using h))
 | _=>exact fun h=>by simp[S7]at h
theorem QPl {T:Qd}(V:XC P M.g M.zb T){H:HP}(hs:HS w0 M ρ H w){o:R}{d:E}{K:KK}(q: ∀x∈o.op.operands.toList,ConcV w (ow M ρ H) ρ (ev x) (a.eval x))(h:opS T ev H d K o.op):
  Good P w0 M ρ H w K ((L a.eval o).run P w):=by
 obtain⟨dst,op,ty,jt,jl,jd⟩:=o;have jM: ∀{s:Sem X} {v:X},s.run P w= .ok v w->(do pure (.value (<-s)):Sem Next).run P w= .ok (.value v) w:=fun h=>by simp[h]
 have jE: ∀{s:Sem X} {v:X} {w':S},s.run P w= .ok v w'->(do pure (.value (<-s)):Sem Next).run P w= .ok (.value v) w':=fun h=>by simp[h]
 have rd: ∀{s:Sem X},(∃v av,s.run P w= .ok v w/\ConcV w (ow M ρ H) ρ av v/\K av H)->Good P w0 M ρ H w K ((do pure (.value (<-s)):Sem Next).run P w):=fun⟨v,av,h1,h2,h3⟩=> .val hs (jM h1) h2 h3;have mk: ∀{s:Sem X},(∃v w' ρ' H' av,s.run P w= .ok v w'/\HS w0 M ρ' H' w'/\Ext ρ H w ρ' H' w'/\ConcV w' (ow M ρ' H') ρ' av v/\K av H')->Good P w0 M ρ H w K ((do pure (.value (<-s)):Sem Next).run P w):=
  fun⟨v,w',ρ',H',av,h1,h2,h3,h4,h5⟩=>by rw[jE h1];exact⟨ρ',H',av,h2,h3,h4,h5⟩
 cases op<;>simp only[opS]at h<;>simp only[Op.operands]at q
 case move x=>exact .val hs rfl (q x o6) h
 case assign x=>exact .val hs rfl (q x o6) h
 case pick c x y=>
  have jk:=q c o6;split at h
  ·rename_i t he;rw[he]at jk;have hv:=(ConcX.one jk).1;cases t with
   | true=>exact .val hs (by simp[L,hv,asBool]) (q x o6) h
   | false=>exact .val hs (by simp[L,hv,asBool]) (q y o6) h
  ·exact h.elim
 case alloc t=>
  obtain⟨i,hi,_,h⟩:=XJ V.tb h;exact mk (QF0 V.tb hi hs h)
 case box t x=>
  obtain⟨i,hi,_,h⟩:=XJ V.tb h;exact mk (QKa hs (q x o6) h)
 case build t ps=>
  obtain⟨i,hi,_,h⟩:=XJ V.tb h;have hp:=tG ps (fun x hx=>q x ((j9 hx)));exact rd (QFw V.tb hi o6 hp.2 h)
 case buildSlice t n ps=>
  obtain⟨i,hi,_,h⟩:=XJ V.tb h;split at h
  ·rename_i e hu;obtain⟨ei,jv,_,h⟩:=XJ V.tb h;have jD:P.underlying t=J (.slice e):=by rw[hi.zd,hu]
   have hp:=tG ps (fun x hx=>q x ((j9 hx)));exact mk (Hw jD jv hs hp h)
  ·exact h.elim
 case load t x=>
  obtain⟨i,hi,_,h⟩:=XJ V.tb h;exact rd (QIA hi hs (q x o6) h)
 case store t x y=>
  obtain⟨i,hi,_,h⟩:=XJ V.tb h;obtain⟨w',H',h1,h2,h3,h4⟩:=QFq hi hs (q x o6) (q y o6) h;have:(L a.eval ⟨dst,.store t x y,ty,jt,jl,jd⟩).run P w= .ok .skip w':=by simp[L,h1]
  rw[this];exact⟨ρ,H',h2,h3,h4⟩
 case nilCheck x=>
  have jn:=q x o6;have jz: ∀{av:AV},ConcV w (ow M ρ H) ρ av (a.eval x)->(∃ad,a.eval x= .pointer (J ad))->K av H->Good P w0 M ρ H w K ((L a.eval ⟨dst,.nilCheck x,ty,jt,jl,jd⟩).run P w):=
   fun jG ⟨ad,e⟩ hk=> .val hs (by simp[L,e]) (e▸jG) hk
  split at h
  ·rename_i he;rw[he]at jn;refine jz jn ?_ h
   obtain⟨ju,jk,hv⟩:=jn;simp at hv;subst hv;generalize a.eval x=v at jk;cases jk;exact⟨_,rfl⟩
  ·rename_i he;rw[he]at jn;refine jz jn ?_ h
   obtain⟨ju,jk,hv⟩:=jn;simp at hv;subst hv;generalize a.eval x=v at jk;cases jk;exact⟨_,rfl⟩
  ·rename_i he;rw[he]at jn;refine jz jn ?_ h
   obtain⟨ju,jk,hv⟩:=jn;simp at hv;subst hv;generalize a.eval x=v at jk;cases jk;exact⟨_,rfl⟩
  ·exact h.elim
 case binOp op xt x y yt=>
  exact rd (QKZ V.tb (q x o6) (q y o6) h)
 case unOp op xt x=>exact rd (QPf (q x o6) h)
 case convert s t x=>
  obtain⟨i,hi,ti,h⟩:=XJ V.tb h;obtain⟨j,hj,tj,h⟩:=XJ V.tb h;cases hb:V5 T i&&V5 T j with
  | false=>rw[hb]at h;exact h.elim
  | true=>
   rw[hb]at h;simp only[R7]at h;simp only[Za]at hb;have jA: ∀{t:E} {i:TyI},T.tb t=J i->V5 T i=Z-> ∀e,i.zd= .slice e->P.underlying e=J (.int .u8):=by
    intro t i ti hb e he;unfold V5 at hb;rw[he]at hb;simp only at hb;split at hb
    ·rename_i j' jH;split at hb
     ·rename_i hu;exact V.byte _ _ _ _ ti he jH hu
     ·cases hb
    ·cases hb
   obtain⟨u,w',av,h1,h2,h3,h4,h5⟩:=QIL hi hj (jA ti hb.1) (jA tj hb.2) hs (q x o6) h;exact mk ⟨u,w',ρ,H,av,h1,h2,h3,h4,h5⟩
 case makeSlice t l c=>
  obtain⟨i,hi,_,h⟩:=XJ V.tb h;split at h
  ·rename_i e hu;obtain⟨ei,jv,_,h⟩:=XJ V.tb h;exact mk (Gz (by rw[hi.zd,hu]) jv hs (q l o6) (q c o6) h)
  ·exact h.elim
 case slice t x lo hi mx=>
  obtain⟨i,jC,_,h⟩:=XJ V.tb h;cases mx with
  | none=>exact rd (QF1 V.tb jC hs (q x o6) (gP lo (fun y hy=>q y (by simp[hy]))) (gE lo) (gP hi (fun y hy=>q y (by simp[hy]))) (gE hi) (fun _=>rfl) h)
  | some m=>
   cases hi with
   | none=>exact h.elim
   | some y=>exact mk (QEO V.tb jC hs (q x o6) (gP lo (fun y hy=>q y (by simp[hy]))) (gE lo) (fun a ha=>⟨_,rfl,by cases ha;exact q y o6⟩) (fun h=>by cases h) (fun a ha=>⟨_,rfl,by cases ha;exact q m o6⟩) (fun h=>by cases h) h)
 case fieldAddr t x f=>
  obtain⟨i,hi,_,h⟩:=XJ V.tb h;exact rd (Gr V.tb hi (q x o6) h)
 case field t x f=>
  obtain⟨i,hi,_,h⟩:=XJ V.tb h;exact rd (QFu V.tb hi (q x o6) h)
 case indexAddr t x ix=>
  obtain⟨i,hi,_,h⟩:=XJ V.tb h;exact rd (Gt V.tb hi hs (q x o6) (q ix o6) h)
 case index t x ix=>
  obtain⟨i,hi,_,h⟩:=XJ V.tb h;exact rd (QFv hi (q x o6) (q ix o6) h)
 case extract x n=>
  have jn:=q x o6;split at h
  ·rename_i l he;rw[he]at jn;obtain⟨vs,hl,hv⟩:=jn;split at h
   ·rename_i b cs hn;have jL: ∀{l:C (I×C Ch)} {vs:C X},Vx w (ow M ρ H) ρ l vs-> ∀{n:E} {b:I} {cs:C Ch},l[n]? =J (b,cs)-> ∃v,vs[n]? =J v/\ConcX w (ow M ρ H) ρ b cs v:=by
     intro l vs h;induction h with
     | nil=>intro n b cs h;simp at h
     | cons hx _ ih=>
      intro n b cs h;cases n with
      | zero=>simp at h;obtain⟨rfl,rfl⟩:=h;exact⟨_,rfl,hx⟩
      | succ n=>simpa using ih ((j9 h))
    obtain⟨v,h1,h2⟩:=jL hl hn;exact rd ⟨v,.x b cs,by simp[Instr.extract,hv,h1],h2,h⟩
   ·exact h.elim
  ·exact h.elim
 case makeFunc fn first captured=>
  split at h
  ·rename_i jq ks h1 h2;have e1:first= #[]:=by rw[<-Zi (xs:=first),h1]
   subst e1;obtain⟨p1,p2⟩:=QKg (W7 captured.toList (fun x hx=>q x ((j9 hx)))) h2;refine .val (v:= .func (.func jq) #[] (ks.map (KD ρ)).toArray) (av:= .x U [.f jq ks]) hs ?_ ⟨_,.f p1 .nil,rfl⟩ h
   have e2:captured.map a.eval=(ks.map (KD ρ)).toArray:=by rw[<-p2];apply Yd;simp
   simp[L,Instr.makeFunc,e2]
  ·exact h.elim
 case makeInterface t x=>
  obtain⟨i,hi,_,h⟩:=XJ V.tb h;have hx:=q x o6;split at h
  ·exact h.elim
  ·rename_i ag cs he _;rw[he]at hx;cases hb:cs.all S7 with
   | false=>rw[hb]at h;exact h.elim
   | true=>
    rw[hb]at h;simp only[R7]at h;obtain⟨ju,jk,hv⟩:=hx;refine .val (v:= .iface t (a.eval x)) (av:= .x U [.i t ag cs]) hs ?_ ⟨_,.i (jk.imm0 hb) hv .nil,rfl⟩ h
    have:(Instr.makeInterface t (a.eval x)).run P w= .ok (.iface t (a.eval x)) w:=by
     simp only[Instr.makeInterface,Sem.run_bind,be hi.zd,Zd,Sem.run_pure]
    simp[L,this]
  ·exact h.elim
 case makeMap t r=>
  obtain⟨i,hi,_,h⟩:=XJ V.tb h;cases r with
  | none=>exact mk (V4 hs h z (.inl rfl) V.tb hi)
  | some x=>
   have hx:=q x o6;simp only at h;split at h
   ·rename_i k n he;rw[he]at hx;obtain⟨hv,_⟩:=ConcX.one hx;exact mk (V4 hs h (J (a.eval x)) (.inr ⟨k,n,by rw[hv]⟩) V.tb hi)
   ·exact h.elim
 case lookup t m x ok=>
  obtain⟨i,hi,_,h⟩:=XJ V.tb h;exact rd (QEQ V.tb hi hs (q m o6) (q x o6) h)
 case mapUpdate t m x y=>
  obtain⟨i,hi,_,h⟩:=XJ V.tb h;obtain⟨w',H',h1,h2,h3,h4⟩:=HC V.tb hi hs (q m o6) (q x o6) (q y o6) h;have:(L a.eval ⟨dst,.mapUpdate t m x y,ty,jt,jl,jd⟩).run P w= .ok .skip w':=by simp[L,h1]
  rw[this];exact⟨ρ,H',h2,h3,h4⟩
 case insert t m x y=>
  obtain⟨i,hi,_,h⟩:=XJ V.tb h;obtain⟨w',H',h1,h2,h3,h4⟩:=HC V.tb hi hs (q m o6) (q x o6) (q y o6) h;have:(L a.eval ⟨dst,.insert t m x y,ty,jt,jl,jd⟩).run P w= .ok .skip w':=by simp[L,h1]
  rw[this];exact⟨ρ,H',h2,h3,h4⟩
 case call c=>
  obtain⟨jF,A,B⟩:=c;simp only at h;split at h
  ·rename_i f;simp only[Call.operands]at q;have jx:=q f o6;split at h
   ·rename_i jq he;rw[he]at jx;have hv:=(ConcX.one jx).1;have jm:=W7 A.toList (fun x hx=>q x (by simp;exact .inr ((j9 hx))));have e:(A.toList.map a.eval).toArray=A.map a.eval:=by apply Yd;simp
    split at h
    ·rename_i g hR;obtain⟨v,av,h1,h2,h3⟩:=V.px _ _ _ hR _ h w _ ρ _ jm;refine .val (v:=v) hs ?_ h2 h3
     rw[e]at h1;simp[L,ja,hv,Deferred.ofValue,jf];exact h1
    ·obtain⟨jw,W⟩:=Kf V.pr V.pm hs jm h;have:(L a.eval ⟨dst,.call ⟨.value f,A,B⟩,ty,jt,jl,jd⟩).run P w= .ok (.enter jq (A.map a.eval)) w:=by
      simp[L,ja,hv,Deferred.ofValue,jf];exact jw _ _
     rw[this];refine⟨rfl,?_⟩;rw[e]at W;exact W
   ·rename_i jq ks he;rw[he]at jx;obtain⟨ju,jk,hv⟩:=jx;simp at hv;subst hv;generalize jI:a.eval f=vf at jk;cases jk with
    | f hk _=>
    have jm:=W7 A.toList (fun x hx=>q x (by simp;exact .inr ((j9 hx))));have e:(A.toList.map a.eval++ks.map (KD ρ)).toArray=A.map a.eval++(ks.map (KD ρ)).toArray:=by apply Yd;simp
    obtain⟨jw,W⟩:=Kf V.pr V.pm hs (jm.app (vS hk)) h;have:(L a.eval ⟨dst,.call ⟨.value f,A,B⟩,ty,jt,jl,jd⟩).run P w= .ok (.enter jq (A.map a.eval++(ks.map (KD ρ)).toArray)) w:=by
     simp only[L,ja,jI,Deferred.ofValue,jf,Sem.run_bind,Sem.run_pure,Zd,Array.empty_append];exact jw _ _
    rw[this];refine⟨rfl,?_⟩;rw[e]at W;exact W
   ·exact h.elim
  ·rename_i r jy;simp only[Call.operands]at q;have jB:=q r o6;split at h
   ·rename_i t ag cs he;rw[he]at jB;split at h
    ·rename_i jq hm;obtain⟨ju,jk,hv⟩:=jB;simp at hv;subst hv;generalize jK:a.eval r=vr at jk;cases jk with
     | @i _ _ _ _ jN iv _ _ hx jJ _=>
     have jm:=W7 A.toList (fun x hx=>q x (by simp;exact .inr ((j9 hx))));obtain⟨jw,W⟩:=Kf V.pr V.pm hs (.cons (show ConcV w (ow M ρ H) ρ (.x ag cs) iv from⟨_,hx.mono (.refl _ _) (fun _ _ h=>h) (fun _ _ h=>by cases h),jJ⟩) jm) h;have e:(iv::A.toList.map a.eval).toArray= #[iv]++A.map a.eval:=by apply Yd;simp
     have e2:(#[Value.iface t iv]++A.map a.eval).extract 1 (#[Value.iface t iv]++A.map a.eval).size=A.map a.eval:=by
      apply Yd;simp only[Array.toList_extract,Array.toList_append,C.cons_append,C.nil_append,Yh,C.extract_eq_take_drop,C.drop_succ_cons,C.drop_zero,Array.size_append];exact C.take_of_length_le o6
     have:(L a.eval ⟨dst,.call ⟨.invoke r jy,A,B⟩,ty,jt,jl,jd⟩).run P w= .ok (.enter jq (#[iv]++A.map a.eval)) w:=by
      have hp:(program).run P w= .ok P w:=rfl;have h0:(#[Value.iface t iv]++A.map a.eval)[0]? =J (.iface t iv):=by rw[Array.getElem?_append_left o6];rfl
      simp only[L,ja,jK,jf,Sem.run_bind,Sem.run_pure,Zd,h0,e2,callMethod,hp,V.mt t jy jq hm iv w];exact jw _ _
     rw[this];refine⟨rfl,?_⟩;rw[e]at W;exact W
    ·exact h.elim
   ·exact h.elim
  ·rename_i b;have jr: ∀x∈A.toList,ConcV w (ow M ρ H) ρ (ev x) (a.eval x):=fun x hx=>q x (by simp only[Call.operands];simpa using hx);split at h
   ·rename_i x t h1 h2;obtain⟨i,hi,_,h⟩:=XJ V.tb h;have e1:A= #[x]:=by rw[<-Zi (xs:=A),h1]
    have e2:B= #[t]:=by rw[<-Zi (xs:=B),h2]
    subst e1 e2;obtain⟨u,av,r1,r2,r3⟩:=QKd (tt:=ty) hi (jr x o6) h;refine .val hs ?_ r2 r3
    simp[L,ja,jf,builtin,r1]
   ·rename_i x y t t' h1 h2;cases hb:t.beq t' with
    | false=>rw[hb]at h;exact h.elim
    | true=>
     rw[hb]at h;simp only[R7]at h;have:=Zb hb;subst this;obtain⟨i,hi,_,h⟩:=XJ V.tb h;split at h
     ·rename_i e hu;obtain⟨ei,jv,_,h⟩:=XJ V.tb h;have e1:A= #[x,y]:=by rw[<-Zi (xs:=A),h1]
      have e2:B= #[t,t]:=by rw[<-Zi (xs:=B),h2]
      subst e1 e2;obtain⟨u,w',ρ',H',av,r1,r2,r3,r4,r5⟩:=QEP (tt:=ty) (by rw[hi.zd,hu]) jv hs (jr x o6) (jr y o6) h;have:(L a.eval ⟨dst,.call ⟨.builtin .append, #[x,y], #[t,t]⟩,ty,jt,jl,jd⟩).run P w= .ok (.value u) w':=by
       simp[L,ja,jf,builtin,r1]
      rw[this];exact⟨ρ',H',av,r2,r3,r4,r5⟩
     ·exact h.elim
   ·rename_i x y h1;unfold VU at h;split at h
    ·rename_i e1 e2;rw[h1]at jr;have hx:=jr x o6;have hy:=jr y o6;rw[e1]at hx;rw[e2]at hy;have e1:A= #[x,y]:=by rw[<-Zi (xs:=A),h1]
     subst e1;refine .val hs ?_ (Qg rfl) h
     simp[L,ja,jf,builtin,Builtin.min_,Builtin.min2,(ConcX.one hx).1,(ConcX.one hy).1]
    ·exact h.elim
   ·rename_i x y h1;unfold VU at h;split at h
    ·rename_i e1 e2;rw[h1]at jr;have hx:=jr x o6;have hy:=jr y o6;rw[e1]at hx;rw[e2]at hy;have e1:A= #[x,y]:=by rw[<-Zi (xs:=A),h1]
     subst e1;refine .val hs ?_ (Qg rfl) h
     simp[L,ja,jf,builtin,Builtin.max_,Builtin.max2,(ConcX.one hx).1,(ConcX.one hy).1]
    ·exact h.elim
   ·exact h.elim
end Go.Eng
namespace Go.Eng
open Go Go.RowKit
def Xw (k:E)(l:C E):I:=l.any (E.beq k)
variable{k:E}
theorem XR{l:C E}:Xw k l=Z↔k∈l:=by
 simp only[Xw,C.any_eq_true];constructor
 ·rintro⟨x,b,h⟩;exact Zb h▸b
 ·intro h;exact⟨k,h,E.beq_refl k⟩
theorem Jn{l:C E}:Xw k l=U↔k∉l:=by
 rw[<-XR];simp
def Qm:C Ch->C E
 | []=>[]
 | .p k _::cs=>k::Qm cs
 | .w k _ _::cs=>k::Qm cs
 | .e k _ _::cs=>k::Qm cs
 | .f _ ks::cs=>ks++Qm cs
 | .m k::cs=>k::Qm cs
 | .yl k::cs=>k::Qm cs
 | _::cs=>Qm cs
def Te:C Ch->C E
  | []=>[]
  | .p k _::cs=>k::(k+5000)::Te cs
  | .w k _ _::cs=>k::Te cs
  | .e k _ _::cs=>k::Te cs
  | .f _ b::cs=>b++Te cs
  | .m k::cs=>k::Te cs
  | .yl k::cs=>k::Te cs
  | _::cs=>Te cs

def QiX:AV->C E
 | .x _ cs=>Te cs
 | _=>[]
def fC (ev:At->AV)(op:Op):C E:=op.operands.toList.flatMap fun x=>QiX (ev x)
def fp (ev:At->AV)(op:Op):C E:=match op with
  | .move _ | .assign _ | .extract _ _ | .pick _ _ _=>[]
  | op=>fC ev op

def Y4 (F D:C E)(H:HP):HP:=fun k=>bif Xw k F then H k else bif Xw k D then z else J .dead
def mrg (F:C E)(H1 H:HP):HP:=fun k=>bif Xw k F then H1 k else H k

variable {P:hZ}{w0:S}{M:Ctx}{ρ:Env}{H:HP}{w:S}
variable{D F:C E}
theorem V6(h:k∈F):Y4 F D H k=H k:=by simp[Y4,XR.2 h]
theorem QPm(h:k∉F)(h':k∉D):Y4 F D H k=J .dead:=by
 simp[Y4,Jn.2 h,Jn.2 h']
theorem JO(h:Xt (Y4 F D H k)=Z):k∈F/\Xt (H k)=Z:=by
 unfold Y4 at h;cases b:Xw k F
 ·rw[b]at h;cases c:Xw k D<;>rw[c]at h<;>cases h
 ·rw[b]at h;exact⟨XR.1 b,h⟩
variable{H1:HP}
theorem Kw(h:k∈F):mrg F H1 H k=H1 k:=by simp[mrg,XR.2 h]
theorem Jm(h:k∉F):mrg F H1 H k=H k:=by simp[mrg,Jn.2 h]
def Tq (M:Ctx)(ρ:Env)(H:HP)(F D:C E):Ctx where
  m:=own ρ (Y4 F D H)
  x:=fun b=>M.x b\/(own ρ H b/\ ¬own ρ (Y4 F D H) b)
  g:=M.g
  zb:=M.zb
  zg:=M.zg
  zp:=M.zp
  zk:=M.zk
  nd:=M.nd

theorem G7{b:E}(h:own ρ (Y4 F D H) b):own ρ H b:=by
 obtain⟨k,bd,c,e,f,g⟩:=h;exact⟨k,bd,c,e,f,(JO g).2⟩
theorem vU(b:E):ow (Tq M ρ H F D) ρ (Y4 F D H) b↔ow M ρ H b:=by
 constructor
 ·rintro((h | ⟨h,_⟩) | h)
  ·exact .inl h
  ·exact .inr h
  ·exact .inr (G7 h)
 ·rintro(h | h)
  ·exact .inl (.inl h)
  ·by_cases c:own ρ (Y4 F D H) b
   ·exact .inr c
   ·exact .inl (.inr ⟨h,c⟩)
variable{O O':E->Prop}
theorem CC.ow_iff(h: ∀b,O' b↔O b){cs:C Ch}{vs:C X}(e:CC w O ρ cs vs):CC w O' ρ cs vs:=e.mono (.refl _ _) (fun b _ c=>(h b).1 c) (fun _ _ h=>h)
theorem ConcV.ow_iff(h: ∀b,O' b↔O b){av:AV}{v:X}(e:ConcV w O ρ av v):ConcV w O' ρ av v:=e.mono (.refl _ _) (fun b _ c=>(h b).1 c) (fun _ _ h=>h)
theorem BlkOK.mono {L:E->A Loop}{w w':S}{ρ ρ':Env}(hk:KE O w w')(B: ∀b,b<w.heap.size->O' b->O b)(y: ∀k bd,ρ k=J bd->ρ' k=J bd){bd:WM}{b:Blk}
  (m:bd.isNil=U->Xt (J b)=Z->w'.heap[bd.zc]? =w.heap[bd.zc]?) (q:BlkOK L w O ρ bd b):BlkOK L w' O' ρ' bd b:=by
 cases b with
 | box t cs=>
  obtain⟨c,v,g,e⟩:=q;exact⟨c,v,(m c rfl).trans g,e.mono hk B y⟩
 | row t sz xs=>
  obtain⟨c,g,e | ⟨e,u,R,V,W,X⟩⟩:=q
  ·exact⟨c,g,.inl e⟩
  ·exact⟨c,g,.inr ⟨e,u,(m e rfl).trans R,V,W,fun i x hx=>(X i x hx).mono hk B (fun _ _ h=>h)⟩⟩
 | lp s=>obtain⟨c,r,g,e⟩:=q;exact⟨c,r,(m c rfl).trans g,e⟩
 | mp f=>obtain⟨c,I,C,g,e⟩:=q;exact⟨c,I,C,(m c rfl).trans g,e⟩
 | dead=>trivial
theorem HS.inside (c:HS w0 M ρ H w)(W: ∀d∈D,H d=z):HS w (Tq M ρ H F D) ρ (Y4 F D H) w:=by
  have m: ∀b,own ρ (Y4 F D H) b->b<w.heap.size/\(w0.heap.size<=b\/M.m b):=by
    rintro b ⟨k,bd,q,s,u,v⟩;have:=c.zh k bd q s (JO v).2;rw[u]at this;exact this
  refine⟨rfl,rfl,rfl,Zx _,⟨c.globw,?_,Zg c.zi.2.2.1 c.size,?_⟩,fun _ _ _=>rfl,?_,?_,?_,?_⟩
  · intro h;rcases(m _ h).2 with g | g
    · have:=c.zi.2.2.1;simp only[Tq]at g;omega
    · exact c.zi.2.1 g
  · rintro b (h | ⟨h,g⟩)
    · refine⟨Zg (c.zi.2.2.2 b h).1 c.size,fun X=> ?_⟩;rcases(m b X).2 with g | g
      · have:=(c.zi.2.2.2 b h).1;omega
      · exact(c.zi.2.2.2 b h).2 g
    · exact⟨bH c (.inr h),g⟩
  · intro k b f I;have y:k∈F/\H k=J b:=by
      have:=JO (F:=F) (D:=D) (H:=H) (k:=k) (by rw[f];exact I);exact⟨this.1,by rw[V6 this.1]at f;exact f⟩
    obtain⟨bd,e,ok⟩:=c.zc k b y.2 I;exact⟨bd,e,ok.mono (.refl _ _) (fun b _ h=>(vU b).1 h) (fun _ _ h=>h) (fun _ _=>rfl)⟩
  · intro k f;unfold Y4 at f;cases L:Xw k F
    · rw[L]at f;cases E:Xw k D
      · rw[E]at f;cases f
      · exact c.zq k (W k (XR.1 E))
    · rw[L]at f;exact c.zq k f
  · intro k bd A B C;exact⟨(c.zh k bd A B (JO C).2).1,.inr ⟨k,bd,A,B,rfl,C⟩⟩
  · intro k k' bd x q s u v R S V;exact c.ze k k' bd x q s u v (JO R).2 (JO S).2 V

theorem HS.back (B:HS w0 M ρ H w)(hD: ∀d∈D,H d=z){V:S}{q:Env}(h1:HS w (Tq M ρ H F D) q H1 V)(hx:Ext ρ (Y4 F D H) w q H1 V):
    HS w0 M q (mrg (F++D) H1 H) V/\Ext ρ H w q (mrg (F++D) H1 H) V/\ ∀av v,ConcV V (ow (Tq M ρ H F D) q H1) q av v->ConcV V (ow M q (mrg (F++D) H1 H)) q av v:=by
  have hm: ∀b,own ρ (Y4 F D H) b->w0.heap.size<=b\/M.m b:=by
    rintro b ⟨k,bd,u,x,y,A⟩;have:=(B.zh k bd u x (JO A).2).2;rw[y]at this;exact this
  have m: ∀k,k∉F++D->q k=ρ k:=fun k g=>by
    simp only[Zj,not_or]at g;exact(hx.ids k (by rw[QPm g.1 g.2];simp)).1
  have f: ∀k bd,k∉F++D->ρ k=J bd->bd.isNil=U->Xt (H k)=Z->bd.zc<w.heap.size/\own ρ H bd.zc/\ ¬own ρ (Y4 F D H) bd.zc:=by
    intro k bd g u x y;refine⟨(B.zh k bd u x y).1,⟨k,bd,u,x,rfl,y⟩,?_⟩;rintro⟨I,C,b1,b2,b3,b4⟩;have jk:=JO b4;have:=B.ze I k C bd b1 u b2 x jk.2 y b3;subst this;exact g (by simp[jk.1])
  have jm: ∀b,ow M q (mrg (F++D) H1 H) b->ow (Tq M ρ H F D) q H1 b:=by
    rintro b (h | ⟨k,bd,u,x,y,A⟩)
    · exact .inl (.inl h)
    · by_cases g:k∈F++D
      · rw[Kw g]at A;exact .inr ⟨k,bd,u,x,y,A⟩
      · rw[Jm g]at A;rw[m k g]at u;have:=f k bd g u x A;rw[y]at this;exact .inl (.inr this.2)
  have jn: ∀b,b<w.heap.size->own q (mrg (F++D) H1 H) b->own ρ H b:=by
    rintro b hb ⟨k,bd,u,x,y,A⟩;by_cases g:k∈F++D
    · rw[Kw g]at A;exact G7 (hx.own b hb ⟨k,bd,u,x,y,A⟩)
    · rw[Jm g]at A;rw[m k g]at u;exact⟨k,bd,u,x,y,A⟩
  have X:KE (own ρ H) w V:=⟨h1.size,fun b hb ho=>h1.zj b hb (fun h=>ho (G7 h))⟩;have hX:Ext ρ H w q (mrg (F++D) H1 H) V:=by
    refine⟨X,jn,hx.env,fun k g=> ?_⟩;by_cases L:k∈F
    · have:=hx.ids k (by rw[V6 L];exact g);exact⟨this.1,by rw[Kw (by simp[L])];exact this.2⟩
    · by_cases W:k∈D
      · exact je (hD k W) g
      · exact⟨m k (by simp[L,W]),by rw[Jm (by simp[L,W])];exact g⟩
  refine⟨⟨h1.os.trans B.os,h1.tape.trans B.tape,h1.output.trans B.output,E.le_trans B.size h1.size,B.zi,?_,?_,?_,?_,?_⟩,hX,fun av v hc=>hc.mono (.refl _ _) (fun b _ h=>jm b h) (fun _ _ h=>h)⟩
  · intro b hb jl;rw[h1.zj b (Zg hb B.size) (fun h=>(hm b h).elim (fun h'=>o3) jl)];exact B.zj b hb jl
  · intro k b g hl;by_cases c:k∈F++D
    · rw[Kw c]at g;obtain⟨bd,e,ok⟩:=h1.zc k b g hl;exact⟨bd,e,ok.mono (.refl _ _) (fun b _ h=>jm b h) (fun _ _ h=>h) (fun _ _=>rfl)⟩
    · rw[Jm c]at g;obtain⟨bd,e,ok⟩:=B.zc k b g hl
      exact⟨bd,by rw[m k c];exact e,ok.ext hX (fun hn hl=>by
        have:=f k bd c e hn (by rw[g];exact hl)
        exact h1.zj _ this.1 this.2.2)⟩
  · intro k g;by_cases c:k∈F++D
    · rw[Kw c]at g;exact h1.zq k g
    · rw[Jm c]at g;rw[m k c];exact B.zq k g
  · intro k bd u x y;by_cases c:k∈F++D
    · rw[Kw c]at y;have:=h1.zh k bd u x y;refine⟨this.1,?_⟩;rcases this.2 with h | h
      · exact .inl (E.le_trans B.size h)
      · exact hm _ h
    · rw[Jm c]at y;rw[m k c]at u;have:=B.zh k bd u x y;exact⟨Zg this.1 h1.size,this.2⟩
  · intro k I bd C u x y A a5 R a7;by_cases c:k∈F++D
    · rw[Kw c]at a5;by_cases s:I∈F++D
      · rw[Kw s]at R;exact h1.ze k I bd C u x y A a5 R a7
      · rw[Jm s]at R;rw[m I s]at x;have hf:=f I C s x A R;rcases(h1.zh k bd u y a5).2 with h | h
        · rw[a7]at h;omega
        · rw[a7]at h;exact je h hf.2.2
    · rw[Jm c]at a5;rw[m k c]at u;by_cases s:I∈F++D
      · rw[Kw s]at R;have hf:=f k bd c u y a5;rcases(h1.zh I C x A R).2 with h | h
        · rw[<-a7]at h;omega
        · rw[<-a7]at h;exact je h hf.2.2
      · rw[Jm s]at R;rw[m I s]at x;exact B.ze k I bd C u x y A a5 R a7

def eQ:Op->I
 | .alloc _ | .box .. | .buildSlice .. | .makeSlice .. | .makeMap .. =>Z
 | .slice _ _ _ _ (J _)=>Z
 | .call c=>match c.callee with
  | .builtin .append=>Z
  | .builtin _=>U
  | _=>Z
 | _=>U
def QY6:Op->I
 | .call c=>match c.callee with
  | .builtin _=>U
  | _=>Z
 | _=>U
def Jk (op:Op)(d:E):C E:=bif eQ op then(bif QY6 op then[d,d+1000,d+2000]else[d])else[]
def V7:C E->HP->Prop->Prop
  | [],_,p=>p
  | k::b,H,p=>match H k with
    | none=>V7 b H p
    | some _=>B
theorem WT {H:HP}{p:Prop}: ∀{l:C E},V7 l H p↔(∀k∈l,H k=z)/\p:=by
 intro l;induction l with
 | nil=>simp[V7]
 | cons k e c=>
  simp only[V7];cases h:H k with
  | none=>simp only[c];simp[h]
  | some b=>simp[h]
def opL (T:Qd)(ev:At->AV)(H:HP)(d:E)(K:KK)(op:Op):Prop:=
  V7 (Jk op d) H<| opS T ev (Y4 (fp ev op) (Jk op d) H) d (fun v H1=>K v (mrg (fp ev op++Jk op d) H1 H)) op

theorem Good.back (A:HS w0 M ρ H w)(y: ∀d∈D,H d=z){K:KK}{r:Result Next}(h:Good P w (Tq M ρ H F D) ρ (Y4 F D H) w (fun v H1=>K v (mrg (F++D) H1 H)) r):Good P w0 M ρ H w K r:=by
 cases r with
 | halt h w'=>cases h<;>(rename_i I;exact I.elim)
 | ok n w'=>
  cases n with
  | value v=>
   obtain⟨ρ',B,x,b,c,u,g⟩:=h;obtain⟨m,q,s⟩:=A.back y b c;exact⟨ρ',_,x,m,q,s _ _ u,g⟩
  | skip=>
   obtain⟨ρ',B,b,c,g⟩:=h;obtain⟨m,q,s⟩:=A.back y b c;exact⟨ρ',_,m,q,g⟩
  | enter f C=>
   obtain⟨e,E⟩:=h;refine⟨e,E.mono ?_⟩;rintro e L ⟨v,ρ',B,x,rfl,b,c,u,g⟩;obtain⟨m,q,s⟩:=A.back y b c;exact⟨v,ρ',_,x,rfl,m,q,s _ _ u,g⟩
  | _=>exact h.elim
theorem QPn {T:Qd}(g:XC P M.g M.zb T){a:jb}(f:HS w0 M ρ H w){ev:At->AV}{o:R}{d:E}{K:KK}(c: ∀x∈o.op.operands.toList,ConcV w (ow M ρ H) ρ (ev x) (a.eval x))(h:opL T ev H d K o.op):
  Good P w0 M ρ H w K ((L a.eval o).run P w):=by
 obtain⟨e,h⟩:=WT.1 h;refine Good.back f e (QPl (M:=Tq M ρ H (fp ev o.op) (Jk o.op d)) g (f.inside e) (fun x m=> ?_) h);exact(c x m).ow_iff (fun b=>vU b)
end Go.Eng
namespace Go.Eng
open Go Go.RowKit
def KZ (g:I)(v:AV)(K:AV->Prop):Prop:=
  bif g then(match v with
    | .x U [.v (.bool b)]=>bif b then K (JS (.bool Z))else K (JS (.bool U))
    | v=>K v)else K v

def isG (ops:C R)(i:E):I:=ops.any fun o=>match o.guard with | some (j,_)=>j.beq i | none=>U
def Wi (ops:C R)(o:R):A E:=
  match o.guard with
  | some (j,_)=>match ops[j]? with
    | some p=>p.dst
    | none=>z
  | none=>z

def VV (ops:C R)(T:TM)(o:R)(y e:Prop):Prop:=
 match o.guard with
 | none=>y
 | some (_,c)=>match Wi ops o with
  | some t=>match T t with
   | .x U [.v (.bool b)]=>cond (b==c) y e
   | .n=>e
   | _=>B
  | none=>B
def opA (T:Qd)(ops:C R)(c:E->C E->I)(i:E)(o:R)(σ:St)(K:St->Prop):Prop:=
 VV ops σ.T o
  (bif c i (fp (evA σ.T) o.op)then opL T (evA σ.T) σ.H (JN o.dst) (fun v b=>KZ (isG ops i) v fun e=>K ⟨JR σ.T o.dst e,b⟩) o.op else B)
  (K ⟨JR σ.T o.dst .n,σ.H⟩)
def WU (N:E)(o:R):I:=(match o.dst with | some d=>E.blt d N | none=>Z)&&vw o.op
variable {P:hZ}{w0:S}{M:Ctx}{N:E}{ρ:Env}{σ:St}{a:jb}{w:S}
theorem QPo {O:E->Prop}{g:I}{av:AV}{v:X}(e:ConcV w O ρ av v){K:AV->Prop}(h:KZ g av K): ∃c,ConcV w O ρ c v/\K c:=by
 unfold KZ at h;cases g with
 | false=>exact⟨av,e,h⟩
 | true=>
  simp only[R7]at h;split at h
  ·rename_i b;have:=(ConcX.one e).1;subst this;cases b with
   | true=>exact⟨_,Qg rfl,h⟩
   | false=>exact⟨_,Qg rfl,h⟩
  ·exact⟨_,e,h⟩
variable{o:R}
theorem VW(h:WU N o=Z): ∀t,o.dst=J t->t<N:=by
 intro t b;simp only[WU,b,Za]at h;exact Zp h.1
theorem vZ(h:WU N o=Z): ∀x∈o.op.operands.toList,fB x=Z:=by
 simp only[WU,Za,vw,Ze]at h;exact h.2
def FR (r:A E):Fence:={Fence.wide with round:=r}
variable{n:E}{r:A E}
theorem QY7{f:FuncId}{args:c X}{R:Ending->S->Prop}(h:Calls P f args w R):CallsIn (FR r) n P f args w R:=
 (callsIn_wide (n:=n)).2 h
def V8 (w0:S)(M:Ctx)(N:E)(ws:S)(K:St->Prop)(a:jb)(w:S):Prop:= ∃ρ σ,Sim w0 M N ρ σ a w/\K σ/\NC ws w

variable{T:Qd}
theorem QY8{ev:At->AV}{d:E}{K:KK}{op:Op}{H:HP}(h:opL T ev H d K op): ∀c,op≠ .defer c:=by
 rintro c rfl;exact(WT.1 h).2
variable{Q:Exit->jb->S->Prop}{ws:S}
theorem QKh (E:Sim w0 M N ρ σ a w)(hn:NC ws w)(hd: ∀t,o.dst=J t->t<N)(y: ∀c,o.op≠ .defer c){K:KK}{K':St->Prop}(X: ∀v b ρ' w' x,ConcV w' (ow M ρ' b) ρ' v x->K v b-> ∃A,ConcV w' (ow M ρ' b) ρ' A x/\K' ⟨JR σ.T o.dst A,b⟩)
 (h:Good P w0 M ρ σ.H w K ((L a.eval o).run P w)):o.wpIn (FR r) n P a w (V8 w0 M N ws K') Q:=by
 unfold Oper.wpIn;refine⟨fun _ _=>trivial,?_⟩;rw[Oper.semAt_eq _ _ _ y];generalize (L a.eval o).run P w=r at h;have g: ∀{w' ρ' b av v},HS w0 M ρ' b w'->Ext ρ σ.H w ρ' b w'->ConcV w' (ow M ρ' b) ρ' av v->K av b->V8 w0 M N ws K' (a.put o.dst v) w':=by
  intro w' ρ' b av v S C V W;obtain⟨A,I,R⟩:=X _ _ _ _ _ V W;exact⟨ρ',_,E.put S C hd I,R,hn.trans (C.nc E.hs)⟩
 cases r with
 | halt h w'=>cases h<;>(rename_i hh;exact hh.elim)
 | ok n w'=>
  cases n with
  | value v=>
   obtain⟨ρ',b,av,m,q,u,s⟩:=h;exact g m q u s
  | skip=>
   obtain⟨ρ',b,m,q,s⟩:=h;exact g (v:=Lm) (av:= .n) m q rfl s
  | enter f B=>
   obtain⟨rfl,hc⟩:=h;refine⟨fun h=>(by cases h),QY7 (hc.mono ?_)⟩;rintro e jk ⟨v,ρ',b,av,rfl,m,q,u,s⟩;exact g m q u s
  | _=>exact h.elim
variable{ops:C R}
theorem QCM{j:E}{e:I}(f:o.guard=J (j,e)){t:E}(h:Wi ops o=J t)(tmps:c X):
  yielded ops.toArray tmps j=match tmps[t]? with | some (.bool b)=>J b | _=>z:=by
 unfold Wi at h;rw[f]at h;simp only at h;split at h
 ·rename_i p g;simp only[yielded,Zr,g,A.bind_some,h];cases tmps[t]? with
  | none=>rfl
  | some x=>cases x<;>rfl
 ·cases h
theorem G8(hT:XC P M.g M.zb T)(s:Sim w0 M N ρ σ a w){m:E->C E->I}{i:E}(hi:ops[i]? =J o)(q:WU N o=Z){K:St->Prop}(h:opA T ops m i o σ K)(hn:NC ws w):
  wpOpIn (FR r) n P ops.toArray Q i (V8 w0 M N ws K) a w:=by
 have y:(bif m i (fp (evA σ.T) o.op)then opL T (evA σ.T) σ.H (JN o.dst) (fun v X=>KZ (isG ops i) v fun v'=>K ⟨JR σ.T o.dst v',X⟩) o.op else B)->o.wpIn (FR r) n P a w (V8 w0 M N ws K) Q:=by
  intro h;cases hc:m i (fp (evA σ.T) o.op)with
  | false=>rw[hc]at h;exact h.elim
  | true=>
   rw[hc]at h;simp only[R7]at h;exact QKh s hn (VW q) (QY8 h) (fun v X ρ' w' x h1 h2=>QPo h1 h2) (QPn hT s.hs (fun x hx=>fU s x (vZ q x hx)) h)
 have skip:K ⟨JR σ.T o.dst .n,σ.H⟩->(∀f,o.about P w a.eval=J f->(FR r).fn f)/\V8 w0 M N ws K (a.put o.dst Lm) w:=fun h=>⟨fun _ _=>trivial,ρ,_,s.put s.hs (.refl _ _ _) (VW q) (av:= .n) rfl,h,hn⟩;unfold wpOpIn;simp only[Zr,hi];unfold opA VV at h;split at h
 ·rename_i u;rw[if_pos (by simp[Region.wanted,u])];exact y h
 ·rename_i j A u;split at h
  ·rename_i t ht;have R:=QCM u ht a.tmps;have g:=s.tmps t;split at h
   ·rename_i b S;rw[S]at g;have c:=(ConcX.one g).1;have V:a.tmps[t]? =J (.bool b):=by
     rw[Zc]at c;cases L:a.tmps[t]? with
     | none=>rw[L]at c;simp[Lm]at c
     | some x=>rw[L]at c;simp at c;rw[c]
    rw[V]at R;simp only at R;simp only[Region.wanted,u,R];cases e:(b==A)with
    | true=>
     rw[e]at h;rw[if_pos ((j9 e))];exact y h
    | false=>
     rw[e]at h;rw[if_neg ((j9 e))];exact skip h
   ·rename_i S;rw[S]at g;have c:a.tmps.getD t Lm=Lm:=g;have W:yielded ops.toArray a.tmps j=z:=by
     rw[R];rw[Zc]at c;cases L:a.tmps[t]? with
     | none=>rfl
     | some x=>
      rw[L]at c;simp at c;subst c;rfl
    simp only[Region.wanted,u,W];rw[if_neg o6];exact skip h
   ·exact h.elim
  ·exact h.elim
def aT (T:Qd)(ops:C R)(c:E->C E->I):C E->St->(St->Prop)->Prop
 | [],σ,K=>K σ
 | i::b,σ,K=>match ops[i]? with
  | some o=>opA T ops c i o σ fun e=>aT T ops c b e K
  | none=>B
theorem QKi(y:XC P M.g M.zb T){c:E->C E->I}(b:ops.all (WU N)=Z){K:St->Prop}(x: ∀a w,V8 w0 M N ws K a w->Q .normal a w):
  ∀(l:C E) {ρ:Env} {σ:St} {a:jb} {w:S},NC ws w->Sim w0 M N ρ σ a w->aT T ops c l σ K->wpOpsIn (FR r) n P ops.toArray Q l a w:=by
 intro l;induction l with
 | nil=>intro ρ σ a w e m h;exact x _ _ ⟨ρ,σ,m,h,e⟩
 | cons i u A=>
  intro ρ σ a w e m h;rw[wpOpsIn_cons];simp only[aT]at h;split at h
  ·rename_i o s;have g:WU N o=Z:=by
    rw[Ze]at b;exact b o (Zt s)
   refine ji ?_ (G8 y m s g h e (Q:=Q))
   rintro L w' ⟨ρ',B,q,v,f⟩;exact A f q v
  ·exact h.elim
end Go.Eng
namespace Go.Eng
open Go Go.RowKit
structure SL where
 T:C (E×AV)
 H:C (E×Blk)
def Ql:C (E×AV)->E->AV
 | [],_=> .u
 | (k,v)::l,t=>bif t.beq k then v else Ql l t
def QO:C (E×Blk)->E->A Blk
 | [],_=>z
 | (k,v)::l,t=>bif t.beq k then J v else QO l t
def SL.st (s:SL):St:=⟨Ql s.T,QO s.H⟩
theorem QEo {l:C (E×AV)}{t:E}:Ql l t= .u\/(t,Ql l t)∈l:=by
  induction l with
  | nil=>exact .inl rfl
  | cons p l b=>
    obtain⟨k,v⟩:=p;simp only[Ql];cases h:t.beq k with
    | true=>have:=Zb h;subst this;exact .inr o6
    | false => rcases b with b | b
               · exact .inl b
               · exact .inr (by simp[b])
theorem G9 {l:C (E×Blk)}{k:E}{b:Blk}(h:QO l k=J b):(k,b)∈l:=by
 induction l with
 | nil=>cases h
 | cons p l e=>
  obtain⟨f,v⟩:=p;simp only[QO]at h;cases c:k.beq f with
  | true=>rw[c]at h;have:=Zb c;subst this;cases h;simp
  | false=>rw[c]at h;exact Zh _ (e h)
def Hz:AV->C E
  | .x _ cs=>Qm cs
  | .t l=>l.flatMap fun p=>Qm p.2
  | _=>[]

structure To (M:Ctx)(pl:C E):Prop where
  zg: ∀k,M.zg k≠z->k∈pl
  zk: ∀p∈M.zk,∀t,∀k∈Hz (p.1 t),M.zg k≠z

def Ent (pl:C E)(σ:St)(s:SL):Prop:=
  ∀w0 (M:Ctx) N ρ a w,To M pl->Sim w0 M N ρ σ a w-> ∃ρ',Sim w0 M N ρ' s.st a w

variable{ρ ρ':Env}{cs:C Ch}{O O':E->Prop}{w:S}
theorem CC.env(L: ∀b,O' b->O b){vs:C X}(h:CC w O ρ cs vs):(∀k∈Qm cs,∀bd,ρ k=J bd->ρ' k=J bd)->CC w O' ρ' cs vs:=by
  have g: ∀{cs:C Ch} {vs:C X},CC w O (fun _=>z) cs vs->CC w O' (fun _=>z) cs vs:=fun h=>h.mono (.refl _ _) (fun b _ h=>L b h) (fun _ _ h=>h);have m: ∀{b o S:E} {V:C (C Ch)} {f:E->C X},K8 w O b o S V f->K8 w O' b o S V f:=fun h=>h.mono (.refl _ _) (fun b _ h=>L b h);induction h with
  | nil=>exact fun _=> .nil
  | v a _ q=>exact fun h=> .v a (q (by simpa [Qm]using h))
  | r a _ q=>exact fun h=> .r a (q (by simpa [Qm]using h))
  | b a _ q=>exact fun h=> .b a (q (by simpa [Qm]using h))
  | s0 _ q=>exact fun h=> .s0 (q (by simpa [Qm]using h))
  | s00 _ q=>exact fun h=> .s00 (q (by simpa [Qm]using h))
  | s a b c _ _ q=>exact fun h=> .s (m a) (fun i x I=>g (b i x I)) c (q (by simpa [Qm]using h))
  | p a b _ q=>exact fun h=> .p (h _ (by simp[Qm]) _ a) b (q fun k A=>h k (by simp[Qm,A]))
  | w a b c d e _ q=>exact fun h=> .w (h _ (by simp[Qm]) _ a) b c d e (q fun k A=>h k (by simp[Qm,A]))
  | w0 a b _ q=>exact fun h=> .w0 (h _ (by simp[Qm]) _ a) b (q fun k A=>h k (by simp[Qm,A]))
  | w00 a _ q=>exact fun h=> .w00 (h _ (by simp[Qm]) _ a) (q fun k A=>h k (by simp[Qm,A]))
  | e a b _ q=>exact fun h=> .e (h _ (by simp[Qm]) _ a) b (q fun k A=>h k (by simp[Qm,A]))
  | y a b _ _ q=>exact fun h=> .y (m a) (fun i x I=>g (b i x I)) (q (by simpa [Qm]using h))
  | @f ρ W R cs vs A _ q=>
    intro h;have e:R.map (KD ρ)=R.map (KD ρ'):=Zu fun k B=>by
      obtain⟨bd,e,_⟩:=A k B;rw[Jq e,Jq (h k (by simp[Qm,B]) bd e)]
    rw[e];exact .f (fun k B=>let ⟨bd,e,hn⟩:=A k B;⟨bd,h k (by simp[Qm,B]) bd e,hn⟩) (q fun k A=>h k (by simp[Qm,A]))
  | i a b _ _ q=>exact fun h=> .i (g a) b (q (by simpa [Qm]using h))
  | m a b _ q=>exact fun h=> .m (h _ (by simp[Qm]) _ a) b (q fun k A=>h k (by simp[Qm,A]))
  | yl a b _ q=>exact fun h=> .yl (h _ (by simp[Qm]) _ a) b (q fun k A=>h k (by simp[Qm,A]))
  | u a _ q=>exact fun h=> .u a (q (by simpa [Qm]using h))

theorem ConcV.env(m: ∀b,O' b->O b){av:AV}{v:X}(h:ConcV w O ρ av v)(hk: ∀k∈Hz av,∀bd,ρ k=J bd->ρ' k=J bd):ConcV w O' ρ' av v:=by
 cases av with
 | x b cs=>obtain⟨c,g,f⟩:=h;exact⟨c,g.env m hk,f⟩
 | t l=>
  obtain⟨vs,g,f⟩:=h;refine⟨vs,?_,f⟩;clear f;simp only[Hz]at hk;induction g with
  | nil=>exact .nil
  | cons q _ s=>
   obtain⟨c,y,A⟩:=q;exact .cons ⟨c,y.env m (fun k e=>hk k (by simp[e])),A⟩ (s fun k e=>hk k (by simp only[Ye,Zj];exact .inr e))
 | n=>exact h
 | u=>trivial
inductive MC (g:E->A (A E)):C Ch->C Ch->Prop
  | nil:MC g [] []
  | v {x:Value} {cs ds:C Ch} (h:MC g cs ds):MC g (.v x::cs) (.v x::ds)
  | r {q:Rat} {n m:E} {cs ds:C Ch} (hn:n<=m) (h:MC g cs ds):MC g (.r q n::cs) (.r q m::ds)
  | b {q n m:E} {cs ds:C Ch} (hn:n<=m) (h:MC g cs ds):MC g (.b q n::cs) (.b q m::ds)
  | s {sz:E} {xs:C (C Ch)} {cs ds:C Ch} (h:MC g cs ds):MC g (.s sz xs::cs) (.s sz xs::ds)
  | p {k k' o:E} {cs ds:C Ch} (hk:g k=J (J k')) (h:MC g cs ds):MC g (.p k' o::cs) (.p k o::ds)
  | w {k k' o n:E} {cs ds:C Ch} (hk:g k=J (J k')) (h:MC g cs ds):MC g (.w k' o n::cs) (.w k o n::ds)
  | w0 {k:E} {cs ds:C Ch} (hk:g k=J z) (h:MC g cs ds):MC g (.v (.slice z 0 0)::cs) (.w k 0 0::ds)
  | e {k k' i o:E} {cs ds:C Ch} (hk:g k=J (J k')) (h:MC g cs ds):MC g (.e k' i o::cs) (.e k i o::ds)
  | y {sz:E} {xs:C (C Ch)} {i o:E} {cs ds:C Ch} (h:MC g cs ds):MC g (.y sz xs i o::cs) (.y sz xs i o::ds)
  | f {fid:E} {ks ks':C E} {cs ds:C Ch} (hl:ks'.length=Sj ks) (hk: ∀(i k k':E),ks[i]? =J k->ks'[i]? =J k'->g k=J (J k')) (h:MC g cs ds):MC g (.f fid ks'::cs) (.f fid ks::ds)
  | i {t:E} {ag:I} {ics cs ds:C Ch} (h:MC g cs ds):MC g (.i t ag ics::cs) (.i t ag ics::ds)
  | m {k k':E} {cs ds:C Ch} (hk:g k=J (J k')) (h:MC g cs ds):MC g (.m k'::cs) (.m k::ds)
  | yl {k k':E} {cs ds:C Ch} (hk:g k=J (J k')) (h:MC g cs ds):MC g (.yl k'::cs) (.yl k::ds)

theorem V9 {n m:E}(h:n<=m):2^n<=2^m:=E.pow_le_pow_right o3 h
theorem Bd.mono {n m:E}{q:Rat}(h:n<=m)(b:Bd n q):Bd m q:=⟨Zg b.1 (V9 h),Zg b.2 (V9 h)⟩
theorem vo: ∀{ks ks':C E},Sj ks'=Sj ks->(∀(i k f:E),ks[i]? =J k->ks'[i]? =J f-> ∀bd,ρ f=J bd->ρ' k=J bd)->
    (∀k∈ks',∃bd,ρ k=J bd/\bd.isNil=U)->ks'.map (KD ρ)=ks.map (KD ρ')/\ ∀k∈ks,∃bd,ρ' k=J bd/\bd.isNil=U:=by
  intro ks;induction ks with
  | nil=>intro ks' c _ _;have:ks'=[]:=Zn c;subst this;exact⟨rfl,o6⟩
  | cons k ks y=>
    intro ks' c h q;match ks',c with
    | f::ks',c=>
      obtain⟨bd,e,u⟩:=q f o6;have m:=h 0 k f rfl rfl bd e;obtain⟨v,x⟩:=y (ks':=ks') ((j9 c)) (fun i a b g s=>h (i+1) a b ((j9 g)) ((j9 s))) (fun a g=>q a (by simp[g]));exact⟨by rw[Zz,Zz,Jq e,Jq m,v],by simpa using⟨⟨bd,m,u⟩,x⟩⟩

theorem MC.sound {g:E->A (A E)}(I: ∀b,O' b->O b)(h1: ∀k S bd,g k=J (J S)->ρ S=J bd->ρ' k=J bd)(h2: ∀k,g k=J z-> ∃bd,ρ' k=J bd/\bd.isNil=Z)
{ds:C Ch} (h:MC g cs ds): ∀{vs:C X},CC w O ρ cs vs->CC w O' ρ' ds vs:=by
 induction h with
 | nil=>intro vs q;cases q;exact .nil
 | v _ u=>intro vs q;cases q with | v a q=>exact .v a (u q)
 | r hn _ u=>intro vs q;cases q with | r a q=>exact .r (a.mono hn) (u q)
 | b hn _ u=>intro vs q;cases q with | b a q=>exact .b (Zg a (V9 hn)) (u q)
 | s _ u=>
  intro vs q;cases q with
  | s0 q=>exact .s0 (u q)
  | s00 q=>exact .s00 (u q)
  | s hr hx L q=>exact .s (hr.mono (.refl _ _) (fun b _ h=>I b h)) (fun i x R=>(hx i x R).mono (.refl _ _) (fun b _ h=>I b h) (fun _ _ h=>h)) L (u q)
 | p B _ u=>intro vs q;cases q with | p a b q=>exact .p (h1 _ _ _ B a) b (u q)
 | w B _ u=>
  intro vs q;cases q with
  | w a b c d e q=>exact .w (h1 _ _ _ B a) b c d e (u q)
  | w0 a b q=>exact .w0 (h1 _ _ _ B a) b (u q)
  | w00 a q=>exact .w00 (h1 _ _ _ B a) (u q)
 | w0 B _ u=>
  intro vs q;cases q with
  | v a q=>
   obtain⟨bd,V,W⟩:=h2 _ B;exact .w0 V W (u q)
 | e B _ u=>intro vs q;cases q with | e a b q=>exact .e (h1 _ _ _ B a) b (u q)
 | f hl B _ u=>
  intro vs q;cases q with
  | f a q=>
   obtain⟨V,W⟩:=vo hl (fun i k S R jk bd hb=>h1 k S bd (B i k S R jk) hb) a;rw[V];exact .f W (u q)
 | i _ u=>intro vs q;cases q with | i a b q=>exact .i (a.mono (.refl _ _) (fun b _ h=>I b h) (fun _ _ h=>h)) b (u q)
 | m B _ u=>intro vs q;cases q with | m a b q=>exact .m (h1 _ _ _ B a) b (u q)
 | yl B _ u=>intro vs q;cases q with | yl a b q=>exact .yl (h1 _ _ _ B a) b (u q)
 | y _ u=>
  intro vs q;cases q with
  | y hr hx q=>exact .y (hr.mono (.refl _ _) (fun b _ h=>I b h)) (fun i x R=>(hx i x R).mono (.refl _ _) (fun b _ h=>I b h) (fun _ _ h=>h)) (u q)
inductive MA (g:E->A (A E)):AV->AV->Prop
 | x {b:I} {cs ds:C Ch} (h:MC g cs ds):MA g (.x b cs) (.x b ds)
 | n:MA g .n .n
 | u {a:AV}:MA g a .u
 | t0:MA g (.t []) (.t [])
 | t {b:I} {cs ds:C Ch} {l l':C (I×C Ch)} (h:MC g cs ds) (ht:MA g (.t l) (.t l')):MA g (.t ((b,cs)::l)) (.t ((b,ds)::l'))
theorem MA.sound {g:E->A (A E)}(q: ∀b,O' b->O b)(h1: ∀k s bd,g k=J (J s)->ρ s=J bd->ρ' k=J bd)(m: ∀k,g k=J z-> ∃bd,ρ' k=J bd/\bd.isNil=Z)
  {a b:AV} (h:MA g a b): ∀{v:X},ConcV w O ρ a v->ConcV w O' ρ' b v:=by
 induction h with
 | x h=>rintro v ⟨c,e,f⟩;exact⟨c,h.sound q h1 m e,f⟩
 | n=>exact fun h=>h
 | u=>exact fun _=>trivial
 | t0=>rintro v ⟨vs,e,f⟩;cases e;exact⟨[],.nil,f⟩
 | t h _ I=>
  rintro v ⟨vs,e,f⟩;cases e with
  | cons C B=>
   obtain⟨c,L,R⟩:=C;obtain⟨V,S,y⟩:=I (v:= .tuple _) ⟨_,B,rfl⟩;simp at y;subst y;exact⟨_,.cons ⟨c,h.sound q h1 m L,R⟩ S,f⟩
inductive MB (g:E->A (A E)):Blk->Blk->Prop
  | box {t:E} {cs ds:C Ch} (h:MC g cs ds):MB g (.box t cs) (.box t ds)
  | row {t sz:E} {xs ys:C (C Ch)} (hl:xs.length=Sj ys) (h: ∀(i:E) (x y:C Ch),xs[i]? =J x->ys[i]? =J y->MC (fun _=>z) x y/\Qm y=[]):MB g (.row t sz xs) (.row t sz ys)
  | same {t sz:E} {xs:C (C Ch)}:MB g (.row t sz xs) (.row t sz xs)
  | lp {s:E}:MB g (.lp s) (.lp s)
  | mp {f:Int->A Int}:MB g (.mp f) (.mp f)
  | dead {b:Blk}:MB g b .dead

theorem MC.sound0 {g:E->A (A E)}(B: ∀b,O' b->O b){L:C Ch}(h:MC g cs L)(q:Qm L=[]): ∀{vs:C X},CC w O (fun _=>z) cs vs->CC w O' (fun _=>z) L vs:=by
 induction h with
 | nil=>intro vs c;cases c;exact .nil
 | v _ u=>intro vs c;cases c with | v a c=>exact .v a (u (by simpa [Qm]using q) c)
 | r R _ u=>intro vs c;cases c with | r a c=>exact .r (a.mono R) (u (by simpa [Qm]using q) c)
 | b R _ u=>intro vs c;cases c with | b a c=>exact .b (Zg a (V9 R)) (u (by simpa [Qm]using q) c)
 | s _ u=>
  intro vs c;have u:= @u (by simpa [Qm]using q);cases c with
  | s0 c=>exact .s0 (u c)
  | s00 c=>exact .s00 (u c)
  | s S V I c=>exact .s (S.mono (.refl _ _) (fun b _ h=>B b h)) (fun i x q=>(V i x q).mono (.refl _ _) (fun b _ h=>B b h) (fun _ _ h=>h)) I (u c)
 | p=>simp[Qm]at q
 | w=>simp[Qm]at q
 | w0=>simp[Qm]at q
 | e=>simp[Qm]at q
 | @f jk ks W cs L hl hk _ u=>
  intro vs c;simp only[Qm,C.append_eq_nil_iff]at q;obtain⟨rfl,q⟩:=q;have:W=[]:=Zn hl;subst this;cases c with | f a c=>exact .f o6 (u q c)
 | i _ u=>intro vs c;cases c with | i a b c=>exact .i (a.mono (.refl _ _) (fun b _ h=>B b h) (fun _ _ h=>h)) b (u (by simpa [Qm]using q) c)
 | m=>simp[Qm]at q
 | yl=>simp[Qm]at q
 | y _ u=>
  intro vs c;cases c with
  | y S V c=>exact .y (S.mono (.refl _ _) (fun b _ h=>B b h)) (fun i x q=>(V i x q).mono (.refl _ _) (fun b _ h=>B b h) (fun _ _ h=>h)) (u (by simpa [Qm]using q) c)
def YW:C (E×A E)->E->A (A E)
 | [],_=>z
 | (k,v)::l,t=>bif t.beq k then J v else YW l t
theorem sK: ∀{G:C (E×A E)} {l:C (E×Blk)},G.map (·.1)=l.map (·.1)-> ∀k,YW G k=z↔QO l k=z:=by
 intro G;induction G with
 | nil=>intro l h k;cases l with
  | nil=>simp[YW,QO]
  | cons p l=>simp at h
 | cons p G e=>
  intro l h k;cases l with
  | nil=>simp at h
  | cons q l=>
   obtain⟨a,b⟩:=p;obtain⟨c,d⟩:=q;simp only[Zz,C.cons.injEq]at h;obtain⟨rfl,h⟩:=h;simp only[YW,QO];cases k.beq a with
   | true=>simp
   | false=>exact e h k
theorem QEp {G:C (E×A E)}{k:E}{v:A E}(h:YW G k=J v):(k,v)∈G:=by
 induction G with
 | nil=>cases h
 | cons p G e=>
  obtain⟨a,b⟩:=p;simp only[YW]at h;cases c:k.beq a with
  | true=>rw[c]at h;have:=Zb c;subst this;cases h;simp
  | false=>rw[c]at h;exact Zh _ (e h)
def vq:A E->A E->I
 | some a,J b=>a.beq b
 | _,_=>U
def cH (G:C (E×A E)):I:=G.all fun p=>G.all fun q=> !(vq p.2 q.2) || p.1.beq q.1
def eA (pl:C E)(G:C (E×A E)):I:=pl.all fun k=>match YW G k with | some (J j)=>j.beq k | _=>U
def Ty (l:C (E×Blk)):C (E×A E)->C (E×A E)
  | []=>[]
  | p::G=>bif Xt (QO l p.1)then p::Ty l G else Ty l G
theorem QEq {l:C (E×Blk)}{p:E×A E}(c:Xt (QO l p.1)=Z): ∀{G:C (E×A E)},p∈G->p∈Ty l G:=by
 intro G;induction G with
 | nil=>exact fun h=>h
 | cons q G b=>
  intro h;simp only[Ty];rcases Zl.1 h with rfl | h
  ·rw[c];exact Yc
  ·cases Xt (QO l q.1)with
   | true=>exact Zh _ (b h)
   | false=>exact b h
theorem Ent.mk {pl:C E}{σ:St}{s:SL}(G:C (E×A E))(ju:eA pl G=Z)(L:G.map (·.1)=s.H.map (·.1))(jm:cH (Ty s.H G)=Z)
    (hT: ∀p∈s.T,MA (YW G) (σ.T p.1) p.2) (hH: ∀p∈s.H,match YW G p.1 with
      | some (J k)=> ∃b,σ.H k=J b/\MB (YW G) b p.2
      | _=> ∃t S,p.2= .row t S []):Ent pl σ s:=by
  intro w0 M N ρ a w jn hs;let ρ':Env:=fun k=>match YW G k with
    | none=>z
    | some (J j)=>ρ j
    | some z=>match QO s.H k with
      | some (.row _ S _)=>J ⟨0,0,0,S,Z⟩
      | _=>z
  have r1: ∀k j,YW G k=J (J j)->ρ' k=ρ j:=by intro k j V;simp only[ρ',V]
  have r2: ∀k b,QO s.H k=J b->YW G k=J z-> ∃t S,b= .row t S []/\ρ' k=J ⟨0,0,0,S,Z⟩:=by
    intro k b v V;have:=hH (k,b) (G9 v);simp only[V]at this;obtain⟨t,S,e⟩:=this;subst e;exact⟨t,S,rfl,by simp only[ρ',v,V]⟩
  have V: ∀k b,QO s.H k=J b->(∃j W,YW G k=J (J j)/\σ.H j=J W/\MB (YW G) W b)\/YW G k=J z:=by
    intro k b v;have hm:=hH (k,b) (G9 v);cases u:YW G k with
    | none=>rw[(sK L k).1 u]at v;cases v
    | some o=>
      cases o with
      | none=>exact .inr rfl
      | some j=>
        rw[u]at hm;obtain⟨W,c,h2⟩:=hm;exact .inl ⟨j,W,rfl,c,h2⟩
  have m: ∀{b W:Blk},Xt (J b)=Z->MB (YW G) W b->Xt (J W)=Z:=fun hl h=>by cases h<;>first | rfl | cases hl
  have jt: ∀b,own ρ' (QO s.H) b->own ρ σ.H b:=by
    rintro b ⟨k,bd,R,a2,a3,a4⟩;cases f:QO s.H k with
    | none=>rw[f]at a4;cases a4
    | some bb=>
      rcases V k bb f with⟨j,W,c,h2,h3⟩ | c
      · rw[r1 k j c]at R;exact⟨j,bd,R,a2,a3,by rw[h2];rw[f]at a4;exact m a4 h3⟩
      · obtain⟨t,S,e,X⟩:=r2 k bb f c;rw[X]at R;cases R;cases a2
  have jk: ∀b,ow M ρ' (QO s.H) b->ow M ρ σ.H b:=fun b h=>h.imp id (jt b);have s1: ∀k q bd,YW G k=J (J q)->ρ q=J bd->ρ' k=J bd:=by
    intro k q bd V hr;rw[r1 k q V];exact hr
  have s2: ∀k,YW G k=J z-> ∃bd,ρ' k=J bd/\bd.isNil=Z:=by
    intro k u;cases f:QO s.H k with
    | none=>rw[(sK L k).2 f]at u;cases u
    | some b=>
      obtain⟨t,S,e,X⟩:=r2 k b f u;exact⟨_,X,rfl⟩
  have jw: ∀k q j,Xt (QO s.H k)=Z->Xt (QO s.H q)=Z->YW G k=J (J j)->YW G q=J (J j)->k=q:=by
    intro k q j l1 l2 c h2;simp only[cH,Ze]at jm;have:=jm _ (QEq l1 (QEp c)) _ (QEq l2 (QEp h2));simp only[vq,E.beq_refl,I.not_true,I.false_or]at this;exact Zb this
  have g:=hs.hs;have jl: ∀k bd,M.zg k=J bd->ρ' k=J bd:=by
    intro k bd v;have hp:=jn.zg k (by rw[v];simp);simp only[eA,Ze]at ju;have:=ju k hp;split at this
    · rename_i j hj;have e:=Zb this;subst e;rw[r1 j j hj];exact hs.zg j bd v
    · cases this
  refine⟨ρ',hs.size,hs.dfr,hs.dfn,jl,?_,fun p hp t=>(hs.zk p hp t).env jk fun k v bd f=> ?_,⟨g.os,g.tape,g.output,g.size,g.zi,g.zj,?_,?_,?_,?_⟩⟩
  · intro t;rcases QEo (l:=s.T) (t:=t)with h | h
    · show ConcV w _ ρ' (Ql s.T t) _
      rw[h];trivial
    · exact(hT _ h).sound jk s1 s2 (hs.tmps t)
  · obtain⟨jr,B⟩:=Zo.1 (jn.zk p hp t k v);rw[hs.zg k jr B]at f;cases f
    exact jl k _ B
  · intro k b v hl;rcases V k b v with⟨j,W,c,h2,h3⟩ | c
    · obtain⟨bd,e,ok⟩:=g.zc j W h2 (m hl h3);refine⟨bd,by rw[r1 k j c];exact e,?_⟩;cases h3 with
      | box hm=>
        obtain⟨c1,jv,c2,c3⟩:=ok;exact⟨c1,jv,c2,hm.sound jk s1 s2 c3⟩
      | @row _ _ jy _ jx hm=>
        obtain⟨c1,c2,c3 | ⟨c3,jq,c4,c5,c6,c7⟩⟩:=ok
        · refine⟨o3,c2,.inl ⟨c3.1,?_⟩⟩;obtain⟨_,e⟩:=c3;subst e;exact Zn ((j9 jx.symm))
        · refine⟨o3,c2,.inr ⟨c3,jq,c4,c5,o3,fun i y hy=> ?_⟩⟩;have jz:=(Zk.1 hy).1;obtain⟨x,hx⟩: ∃x,jy[i]? =J x:=⟨_,Zv o3⟩
          exact(hm i x y hx hy).1.sound0 jk (hm i x y hx hy).2 (c7 i x hx)
      | same=>
        obtain⟨c1,c2,c3 | ⟨c3,jq,c4,c5,c6,c7⟩⟩:=ok
        · exact⟨c1,c2,.inl c3⟩
        · exact⟨c1,c2,.inr ⟨c3,jq,c4,c5,c6,fun i x hx=>(c7 i x hx).mono (.refl _ _) (fun b _ h=>jk b h) (fun _ _ h=>h)⟩⟩
      | lp=>exact ok
      | mp=>exact ok
      | dead=>cases hl
    · obtain⟨t,S,e,X⟩:=r2 k b v c;subst e;exact⟨_,X,rfl,rfl,.inl ⟨rfl,rfl⟩⟩
  · intro k v;have u:=(sK L k).2 v;simp only[ρ',u]
  · intro k bd R a2 a3;cases f:QO s.H k with
    | none=>rw[show s.st.H k=QO s.H k from rfl,f]at a3;cases a3
    | some b=>
      rcases V k b f with⟨j,W,c,h2,h3⟩ | c
      · rw[r1 k j c]at R;exact g.zh j bd R a2 (by rw[h2];rw[show s.st.H k=QO s.H k from rfl,f]at a3;exact m a3 h3)
      · obtain⟨t,S,e,X⟩:=r2 k b f c;rw[X]at R;cases R;cases a2
  · intro k q bd jr R a2 a3 a4 a5 a6 a7;cases f:QO s.H k with
    | none=>rw[show s.st.H k=QO s.H k from rfl,f]at a5;cases a5
    | some b=>
      cases B:QO s.H q with
      | none=>rw[show s.st.H q=QO s.H q from rfl,B]at a6;cases a6
      | some b1=>
        rcases V k b f with⟨j,b2,c,h2,h3⟩ | c
        · rcases V q b1 B with⟨j',b3,g1,g2,g3⟩ | g1
          · rw[r1 k j c]at R;rw[r1 q j' g1]at a2;rw[show s.st.H k=QO s.H k from rfl]at a5;rw[show s.st.H q=QO s.H q from rfl]at a6;have:=g.ze j j' bd jr R a2 a3 a4 (by rw[h2];rw[f]at a5;exact m a5 h3) (by rw[g2];rw[B]at a6;exact m a6 g3) a7;subst this;exact jw k q j a5 a6 c g1
          · obtain⟨t,S,e,X⟩:=r2 q b1 B g1;rw[X]at a2;cases a2;cases a4
        · obtain⟨t,S,e,X⟩:=r2 k b f c;rw[X]at R;cases R;cases a3

end Go.Eng
namespace Go.Eng
open Go Go.RowKit
def eqV:X->X->Prop
  | .int k a,.int c b=>bif decide (k=c)then a=b else B
  | .bool a,.bool b=>a=b
  | .string a,.string b=>a=b
  | x,y=>x=y
theorem Qeg {x y:X}(h:eqV x y):x=y:=by
 unfold eqV at h;split at h
 ·rename_i k a e b;by_cases c:k=e
  ·simp only[c,decide_true,R7]at h;rw[c,h]
  ·simp[c]at h
 ·rw[h]
 ·rw[h]
 ·exact h
def QC (xs b:C (C Ch)):Prop:=Sj xs=Sj b/\ ∀(i:E) (x y:C Ch),xs[i]? =J x->b[i]? =J y->MC (fun _=>z) x y/\Qm y=[]

def gEq (o:A (A E))(k:E):I:=match o with | some (J j)=>j.beq k | _=>U
def dS (g:E->A (A E)):C E->C E->I
 | [],[]=>Z
 | c::b,k::e=>gEq (g k) c&&dS g b e
 | _,_=>U
def mcP (g:E->A (A E)):C Ch->C Ch->Prop->Prop
 | [],[],p=>p
 | .v x::cs,.v y::b,p=>eqV x y/\mcP g cs b p
 | .r q n::cs,.r R m::b,p=>q=R/\n<=m/\mcP g cs b p
 | .b q n::cs,.b R m::b,p=>q=R/\n<=m/\mcP g cs b p
 | .s S V::cs,.s s W::b,p=>S=s/\V=W/\mcP g cs b p
 | .p c o::cs,.p k o'::b,p=>bif gEq (g k) c then o=o'/\mcP g cs b p else B
 | .w c o n::cs,.w k o' n'::b,p=>bif gEq (g k) c then o=o'/\n=n'/\mcP g cs b p else B
 | .v x::cs,.w k o n::b,p=>match g k with
  | some z=>x= .slice z 0 0/\o=0/\n=0/\mcP g cs b p
  | _=>B
 | .e c i o::cs,.e k v o'::b,p=>bif gEq (g k) c then i=v/\o=o'/\mcP g cs b p else B
 | .y S V i o::cs,.y s W v o'::b,p=>S=s/\V=W/\i=v/\o=o'/\mcP g cs b p
 | .f u L::cs,.f f ks::b,p=>bif dS g L ks then u=f/\mcP g cs b p else B
 | .i t X I::cs,.i t' h e::b,p=>t=t'/\X=h/\I=e/\mcP g cs b p
 | .m c::cs,.m k::b,p=>bif gEq (g k) c then mcP g cs b p else B
 | .yl c::cs,.yl k::b,p=>bif gEq (g k) c then mcP g cs b p else B
 | _,_,_=>B
theorem aD {o:A (A E)}{k:E}(h:gEq o k=Z):o=J (J k):=by
 unfold gEq at h;split at h
 ·have:=Zb h;subst this;rfl
 ·cases h
theorem xI {g:E->A (A E)}: ∀{ks' ks:C E},dS g ks' ks=Z->Sj ks'=Sj ks/\ ∀(i k f:E),ks[i]? =J k->ks'[i]? =J f->g k=J (J f):=by
 intro ks';induction ks' with
 | nil=>intro ks h;cases ks with
  | nil=>exact⟨rfl,o6⟩
  | cons=>cases h
 | cons f ks' s=>
  intro ks h;cases ks with
  | nil=>cases h
  | cons k ks=>
   simp only[dS,Za]at h;obtain⟨m,q⟩:=s h.2;refine⟨by simp[m],fun i a b c e=> ?_⟩;cases i with
   | zero=>simp at c e;subst c e;exact aD h.1
   | succ i=>exact q i a b ((j9 c)) ((j9 e))
theorem dU {g:E->A (A E)}{cs e:C Ch}{p:Prop}(h:mcP g cs e p):MC g cs e/\p:=by
 fun_induction mcP g cs e p with
 | case1 p=>exact⟨.nil,h⟩
 | case2 p x cs y e b=>
  have:=Qeg h.1;subst this;exact⟨.v (b h.2).1,(b h.2).2⟩
 | case3 p q n cs q' m e b=>obtain⟨rfl,u,c⟩:=h;exact⟨.r u (b c).1,(b c).2⟩
 | case4 p q n cs q' m e b=>obtain⟨rfl,u,c⟩:=h;exact⟨.b u (b c).1,(b c).2⟩
 | case5 p sz xs cs v ys e b=>obtain⟨rfl,rfl,c⟩:=h;exact⟨.s (b c).1,(b c).2⟩
 | case6 s o cs k o' e p f b=>obtain⟨rfl,c⟩:=h;exact⟨.p (aD f) (b c).1,(b c).2⟩
 | case7=>exact h.elim
 | case8 s o n cs k o' n' e p f b=>obtain⟨rfl,rfl,c⟩:=h;exact⟨.w (aD f) (b c).1,(b c).2⟩
 | case9=>exact h.elim
 | case10 x cs k o n e p S b=>obtain⟨rfl,rfl,rfl,c⟩:=h;exact⟨.w0 S (b c).1,(b c).2⟩
 | case11=>exact h.elim
 | case12 s i o cs k V o' e p f b=>obtain⟨rfl,rfl,c⟩:=h;exact⟨.e (aD f) (b c).1,(b c).2⟩
 | case13=>exact h.elim
 | case14 sz xs i o cs v ys V o' e p b=>obtain⟨rfl,rfl,rfl,rfl,c⟩:=h;exact⟨.y (b c).1,(b c).2⟩
 | case15 R X cs B ks e p f b=>obtain⟨rfl,c⟩:=h;exact⟨.f (xI f).1 (xI f).2 (b c).1,(b c).2⟩
 | case16=>exact h.elim
 | case17 t ag W cs t' L I e p b=>obtain⟨rfl,rfl,rfl,c⟩:=h;exact⟨.i (b c).1,(b c).2⟩
 | case18 s cs k e p f b=>exact⟨.m (aD f) (b h).1,(b h).2⟩
 | case19=>exact h.elim
 | case20 s cs k e p f b=>exact⟨.yl (aD f) (b h).1,(b h).2⟩
 | case21=>exact h.elim
 | case22=>exact h.elim
def maP (g:E->A (A E))(a b:AV)(p:Prop):Prop:=
 match a,b with
 | _,.u=>p
 | .n,.n=>p
 | .x t cs,.x e c=>bif t==e then mcP g cs c p else B
 | _,_=>B
theorem Qeh {g:E->A (A E)}{a b:AV}{p:Prop}(h:maP g a b p):MA g a b/\p:=by
 unfold maP at h;split at h
 ·exact⟨.u,h⟩
 ·exact⟨.n,h⟩
 ·rename_i t cs e f;cases c:t==e with
  | false=>rw[c]at h;exact h.elim
  | true=>
   rw[c]at h;have:t=e:=(j9 c)
   subst this;exact⟨.x (dU h).1,(dU h).2⟩
 ·exact h.elim
def mbP (g:E->A (A E))(a b:Blk)(p:Prop):Prop:=
 match a,b with
 | .box t cs,.box e h=>t=e/\mcP g cs h p
 | .row t u x,.row e c y=>t=e/\u=c/\(x=y\/QC x y)/\p
 | .lp s,.lp q=>s=q/\p
 | .mp f,.mp m=>f=m/\p
 | _,.dead=>p
 | _,_=>B
theorem Qei {g:E->A (A E)}{a b:Blk}{p:Prop}(h:mbP g a b p):MB g a b/\p:=by
 unfold mbP at h;split at h
 ·obtain⟨rfl,h⟩:=h;exact⟨.box (dU h).1,(dU h).2⟩
 ·obtain⟨rfl,rfl,h | h,c⟩:=h
  ·subst h;exact⟨.same,c⟩
  ·exact⟨.row h.1 h.2,c⟩
 ·obtain⟨rfl,c⟩:=h;exact⟨.lp,c⟩
 ·obtain⟨rfl,c⟩:=h;exact⟨.mp,c⟩
 ·exact⟨.dead,h⟩
 ·exact h.elim
def WZ:C Ch->C Ch->C (E×A E)
 | .p c _::cs,.p k _::b=>(k,J c)::WZ cs b
 | .w c _ _::cs,.w k _ _::b=>(k,J c)::WZ cs b
 | .e c _ _::cs,.e k _ _::b=>(k,J c)::WZ cs b
 | .f _ e::cs,.f _ f::b=>(C.zipWith (fun k c=>(k,J c)) f e)++WZ cs b
 | .m c::cs,.m k::b=>(k,J c)::WZ cs b
 | .yl c::cs,.yl k::b=>(k,J c)::WZ cs b
 | .v _::cs,.w k _ _::b=>(k,z)::WZ cs b
 | _::cs,_::b=>WZ cs b
 | _,_=>[]
def iD (σ:St):C (E×AV)->C (E×A E)
 | []=>[]
 | (t,.x _ b)::l=>(match σ.T t with | .x _ cs=>WZ cs b | _=>[])++iD σ l
 | _::l=>iD σ l
def eG (σ:St)(G:C (E×A E)):C (E×Blk)->C (E×A E)
 | []=>[]
 | (k,.box _ b)::l=>(match YW G k with
  | some (J j)=>(match σ.H j with | some (.box _ cs)=>WZ cs b | _=>[])
  | _=>[])++eG σ G l
 | _::l=>eG σ G l
def Qko (pl:C E)(G:C (E×A E))(k:E):A E:=bif Xw k pl then J k else(YW G k).getD z
def ao (pl:C E)(σ:St)(s:SL):C (E×A E):=
 let b:=pl.map (fun k=>(k,J k))++iD σ s.T
 let c:=b++eG σ b s.H
 let e:=c++eG σ c s.H
 s.H.map fun p=>(p.1,Qko pl e p.1)
def tP (g:E->A (A E))(T:TM):C (E×AV)->Prop->Prop
 | [],p=>p
 | (t,b)::l,p=>maP g (T t) b (tP g T l p)
theorem QiY {g:E->A (A E)}{T:TM}: ∀{l:C (E×AV)} {p:Prop},tP g T l p->(∀q∈l,MA g (T q.1) q.2)/\p:=by
  intro l;induction l with
  | nil=>exact fun h=>⟨o6,h⟩
  | cons q l s=>
    intro p h;obtain⟨t,b⟩:=q;obtain⟨c,e⟩:=Qeh h;obtain⟨f,m⟩:=s e
    exact ⟨fun q hq => by rcases C.mem_cons.1 hq with rfl | hq
                          · exact c
                          · exact f q hq,m⟩

def hP1 (g:E->A (A E))(H:HP)(k:E)(b:Blk)(p:Prop):Prop:=
 match g k with
 | some (J j)=>match H j with
  | some c=>mbP g c b p
  | none=>B
 | _=>match b with
  | .row _ _ x=>x=[]/\p
  | _=>B
def hP (g:E->A (A E))(H:HP):C (E×Blk)->Prop->Prop
 | [],p=>p
 | (k,b)::l,p=>hP1 g H k b (hP g H l p)
theorem QiZ {g : E → A (A E)} {H : HP} : ∀ {l : C (E × Blk)} {p : Prop}, hP g H l p → (∀ q ∈ l, match g q.1 with
      | some (J k)=> ∃b,H k=J b/\MB g b q.2
      | _=> ∃t u,q.2= .row t u [])/\p:=by
  intro l;induction l with
  | nil=>exact fun h=>⟨o6,h⟩
  | cons q l B=>
    intro p h;obtain⟨k,b⟩:=q
    have e:(match g k with
      | some (J j)=> ∃f,H j=J f/\MB g f b
      | _=> ∃t u,b= .row t u [])/\hP g H l p:=by
      simp only[hP,hP1]at h;cases s:g k with
      | none=>
        rw[s]at h;simp only at h;split at h
        · obtain⟨rfl,c⟩:=h;exact⟨⟨_,_,rfl⟩,c⟩
        · exact h.elim
      | some o=>
        cases o with
        | none=>
          rw[s]at h;simp only at h;split at h
          · obtain⟨rfl,c⟩:=h;exact⟨⟨_,_,rfl⟩,c⟩
          · exact h.elim
        | some j=>
          rw[s]at h;simp only at h;split at h
          · rename_i f m;obtain⟨v,c⟩:=Qei h;exact⟨⟨f,m,v⟩,c⟩
          · exact h.elim
    obtain⟨x,y⟩:=B e.2;refine⟨fun q hq=> ?_,y⟩;rcases Zl.1 hq with rfl | hq
    · exact e.1
    · exact x q hq

def JP (pl:C E)(σ:St)(s:SL):Prop:=
 let G:=ao pl σ s
 bif eA pl G&&cH (Ty s.H G)then tP (YW G) σ.T s.T (hP (YW G) σ.H s.H True)else B
theorem Kg {pl:C E}{σ:St}{s:SL}(h:JP pl σ s):Ent pl σ s:=by
 unfold JP at h;simp only at h;cases b:eA pl (ao pl σ s)&&cH (Ty s.H (ao pl σ s))with
 | false=>rw[b]at h;exact h.elim
 | true=>
  rw[b]at h;simp only[R7]at h;simp only[Za]at b;obtain⟨c,e⟩:=QiY h;exact Ent.mk (ao pl σ s) b.1 (by simp[ao]) b.2 c (QiZ e).1
end Go.Eng
namespace Go.Eng
open Go Go.RowKit
inductive Ex where
 | n
 | x (id:E)
 | r
abbrev QQ:=Ex->St->Prop
structure Inv where
  X:Type
  S:X->SL
  φ:X->Prop
  m:X->E
  t:X->E

inductive UA:Type 1 where
  | inv (I:Inv)
  | inv2 (A B:Inv)
  | invf (K:C E) (I:Inv)
  | unroll (n:E)
  | cut (I:Inv)
  | cutf (K:C E) (I:Inv)
  | cutf2 (K:C E) (A B:Inv)
  | it (I:Inv) (K:C E) (k:E) (kt:C E) (L:I.X->E->UA)
  | no

def ZH (K:C E)(H:HP):C Ch->C Ch
 | []=>[]
 | .w k o n::cs=>(bif Xw k K then(match H k with | some (.row _ s x)=> .s s ((x.drop o).take n) | _=> .w k o n)else .w k o n)::ZH K H cs
 | c::cs=>c::ZH K H cs
def vW (K:C E)(H:HP):AV->AV
 | .x b cs=> .x b (ZH K H cs)
 | .t l=> .t (l.map fun p=>(p.1,ZH K H p.2))
 | a=>a
def HO (K:C E)(H:HP):HP:=fun k=>match H k with
 | some (.row t s x)=>bif Xw k K then J .dead else J (.row t s x)
 | some (.box t cs)=>J (.box t (ZH K H cs))
 | b=>b
def Sy:C E->St->St
 | [],σ=>σ
 | k::K,σ=>⟨fun t=>vW (k::K) σ.H (σ.T t),HO (k::K) σ.H⟩
section frz
variable {w0:S}{M:Ctx}{ρ:Env}{H:HP}{w:S}{K:C E}
theorem QSW {b:E}(h:own ρ (HO K H) b):own ρ H b:=by
 obtain⟨k,bd,f,g,m,c⟩:=h;refine⟨k,bd,f,g,m,?_⟩;unfold HO at c;split at c
 ·rename_i e;rw[e];rfl
 ·rename_i e;rw[e];rfl
 ·exact c
theorem dr {b:E}(h:ow M ρ (HO K H) b):ow M ρ H b:=h.imp id QSW
theorem CC.frz (A:HS w0 M ρ H w): ∀{cs:C Ch} {vs:C X},CC w (ow M ρ H) ρ cs vs->CC w (ow M ρ (HO K H)) ρ (ZH K H cs) vs:=by
 have f: ∀{cs:C Ch} {vs:C X},CC w (ow M ρ H) ρ cs vs->CC w (ow M ρ (HO K H)) ρ cs vs:=fun h=>h.mono (.refl _ _) (fun b _ h=>dr h) (fun _ _ h=>h);intro cs;induction cs with
 | nil=>intro vs h;cases h;exact .nil
 | cons c cs ih=>
  intro vs h;obtain⟨us,I,rfl,hl,u,V⟩:=h.cons;have g:=ih V;cases c with
  | w k o n=>
   simp only[ZH];cases hm:Xw k K with
   | false=>simp only[R8];exact(f u).append g
   | true=>
    simp only[R7];split
    ·rename_i t sz xs v;match us,hl with
     | [u0],_=>
      have W:=QNc A v u (O':=ow M ρ (HO K H)) (fun b q=>dr q) (fun bd s B q=> ?_)
      ·exact(W.mono (.refl _ _) (fun _ _ h=>h) (fun _ _ h=>by cases h):CC w _ ρ _ _).append g
      ·rcases q with q | ⟨E,x,L,R,S,m⟩
       ·exact A.nx s B (by rw[v];rfl) q
       ·have y:Xt (H E)=Z:=by
         unfold HO at m;split at m
         ·rename_i e;rw[e];rfl
         ·rename_i e;rw[e];rfl
         ·exact m
        have:=A.ze E k x bd L s R B y (by rw[v];rfl) S;subst this;unfold HO at m;rw[v,hm]at m;cases m
    ·exact(f u).append g
  | _=>exact(f u).append g
theorem ConcV.frz (g:HS w0 M ρ H w){av:AV}{v:X}(h:ConcV w (ow M ρ H) ρ av v):ConcV w (ow M ρ (HO K H)) ρ (vW K H av) v:=by
 cases av with
 | x b cs=>obtain⟨c,f,e⟩:=h;exact⟨c,f.frz g,e⟩
 | t l=>
  obtain⟨vs,f,e⟩:=h;refine⟨vs,?_,e⟩;clear e;induction f with
  | nil=>exact .nil
  | cons m _ q=>obtain⟨c,s,y⟩:=m;exact .cons ⟨c,s.frz g,y⟩ q
 | n=>exact h
 | u=>trivial
theorem HS.frz (q:HS w0 M ρ H w):HS w0 M ρ (HO K H) w:=by
 have u: ∀k,Xt (HO K H k)=Z->Xt (H k)=Z:=by
  intro k m;unfold HO at m;split at m
  ·rename_i e;rw[e];rfl
  ·rename_i e;rw[e];rfl
  ·exact m
 refine⟨q.os,q.tape,q.output,q.size,q.zi,q.zj,?_,?_,fun k bd a b c=>q.zh k bd a b (u k c),fun k k' bd R a b c d e f g=>q.ze k k' bd R a b c d (u k e) (u k' f) g⟩
 ·intro k b m S;unfold HO at m;split at m
  ·rename_i t X xs e;cases I:Xw k K with
   | true=>rw[I]at m;cases m;cases S
   | false=>
    rw[I]at m;cases m
    obtain⟨bd,A,v⟩:=q.zc k _ e rfl;refine⟨bd,A,?_⟩;obtain⟨C,E,y | ⟨y,L,c4,c5,c6,c7⟩⟩:=v
    ·exact⟨C,E,.inl y⟩
    ·exact⟨C,E,.inr ⟨y,L,c4,c5,c6,fun i x hx=>(c7 i x hx).mono (.refl _ _) (fun b _ h=>dr h) (fun _ _ h=>h)⟩⟩
  ·rename_i t cs e;cases m
   obtain⟨bd,A,v⟩:=q.zc k _ e rfl;obtain⟨C,B,E,y⟩:=v;exact⟨bd,A,C,B,E,y.frz q⟩
  ·rename_i V W;obtain⟨bd,A,v⟩:=q.zc k b m S;refine⟨bd,A,?_⟩;cases b with
   | box t cs=>exact je m (W t cs)
   | row t X xs=>exact je m (V t X xs)
   | lp s=>exact v
   | mp f=>exact v
   | dead=>cases S
 ·intro k m;unfold HO at m;split at m
  ·rename_i t X xs e;cases I:Xw k K<;>(rw[I]at m;cases m)
  ·cases m
  ·exact q.zq k m
theorem Sim.frz {N:E}{σ:St}{a:jb}(h:Sim w0 M N ρ σ a w)(K:C E):Sim w0 M N ρ (Sy K σ) a w:=by
 cases K with
 | nil=>exact h
 | cons k K=>exact⟨h.size,h.dfr,h.dfn,h.zg,fun t=>(h.tmps t).frz h.hs,fun p c t=>(h.zk p c t).mono (.refl _ _) (fun b _ h=>dr h) (fun _ _ h=>h),h.hs.frz⟩
end frz
def bo (pl:C E)(I:Inv)(b:E->St->QQ->Prop)(g:E)(σ:St)(Q:QQ):Prop:=
 (∃x,(I.φ x/\I.t x=g)/\JP pl σ (I.S x))/\
  ∀x,I.φ x->I.t x=g->b (I.m x) (I.S x).st fun e c=>match e with
   | .n=> ∃f,(I.φ f/\I.t f=g/\I.m f<I.m x)/\JP pl c (I.S f)
   | e=>Q e c
def fT (pl:C E)(K:C E)(I:Inv)(b:E->St->QQ->Prop)(g:E)(σ:St)(Q:QQ):Prop:=
 (∃x,(I.φ x/\I.t x=g)/\JP pl (Sy K σ) (I.S x))/\
  ∀x,I.φ x->I.t x=g->b (I.m x) (I.S x).st fun e c=>match e with
   | .n=> ∃f,(I.φ f/\I.t f=g/\I.m f<I.m x)/\JP pl (Sy K c) (I.S f)
   | e=>Q e c
def Tk (A B:Inv):Inv where
  X:=A.X ⊕ B.X
  S:=Sum.elim A.S B.S
  φ:=Sum.elim A.φ B.φ
  m:=Sum.elim A.m B.m
  t:=Sum.elim A.t B.t
def Qib:UA->UA
 | .inv2 A B=> .inv (Tk A B)
 | l=>l
def Um (b:St->QQ->Prop):E->St->QQ->Prop
 | 0,_,_=>B
 | n+1,σ,Q=>b σ fun e c=>match e with
  | .n=>Um b n c Q
  | e=>Q e c
def nC (pl:C E)(L:UA)(b:E->St->QQ->Prop)(c:E)(σ:St)(Q:QQ):Prop:=
 match Qib L with
 | .inv I=>bo pl I b c σ Q
 | .invf K I=>fT pl K I b c σ Q
 | .unroll n=>Um (b c) n σ Q
 | _=>B
def ba (pl:C E)(K:C E)(I:Inv)(a b:St->QQ->Prop)(f:E)(σ:St)(Q:QQ):Prop:=
  (a σ fun e c=>match e with
    | .n=> ∃x,(I.φ x/\I.t x=f)/\JP pl (Sy K c) (I.S x)
    | e=>Q e c)/\ ∀x,I.φ x->I.t x=f->b (I.S x).st Q

def Wp:jg->A E
  | .region e _ _=>J e
  | .seq a b=>match Wp a with
    | some i=>J i
    | none=>Wp b
  | .cond _ a b=>match Wp a with
    | some i=>J i
    | none=>Wp b
  | .block _ c=>Wp c
  | .loop c=>Wp c
  | _=>z

abbrev LI:=E->UA
def ia (L:LI)(b:jg):A (C E×Inv×A Inv):=match Wp b with
 | some i=>match L i with
  | .cut I=>J ([],I,z)
  | .cutf K I=>J (K,I,z)
  | .cutf2 K c B=>J (K,c,J B)
  | _=>z
 | none=>z
def cutI (L:LI)(b:jg):A (C E×Inv):=match ia L b with
 | some (K,I,z)=>J (K,I)
 | some (K,c,J B)=>J (K,Tk c B)
 | none=>z
abbrev WF:=C E->A E->E->St->QQ->Prop
abbrev RGT:=E->C R->I->St->(St->Prop)->Prop
abbrev RFT:=UA->At->C E->WF->WF->WF
def wpG (RG:RGT)(L:LI)(RF:RFT):jg->WF
  | .skip,_,_,_,σ,Q=>Q .n σ
  | .region _ ops s,_,_,g,σ,Q=>RG g ops.toList s σ (Q .n)
  | .seq a b,h,m,g,σ,Q=>match cutI L b with
    | some (K,I)=>ba h K I (wpG RG L RF a h m g) (wpG RG L RF b h m g) g σ Q
    | none=>wpG RG L RF a h m g σ fun e q=>match e with
      | .n=>wpG RG L RF b h m g q Q
      | e=>Q e q
  | .cond c a b,h,m,g,σ,Q=>match evA σ.T c with
    | .x U [.v (.bool t)]=>bif t then wpG RG L RF a h m g σ Q else wpG RG L RF b h m g σ Q
    | _=>B
  | .block u c,h,m,g,σ,Q=>wpG RG L RF c h m g σ fun e q=>match e with
    | .x i=>bif i.beq u then Q .n q else Q (.x i) q
    | e=>Q e q
  | .loop c,h,m,g,σ,Q=>nC h (match Wp c with | some i=>L i | none=> .no) (wpG RG L RF c h m) g σ Q
  | .rangeFunc f v a b,h,m,g,σ,Q=>RF (match Wp a with | some i=>L i | none=> .no) f v.toList (wpG RG L RF a) (wpG RG L RF b) h m g σ Q
  | .exit u,_,_,_,σ,Q=>Q (.x u) σ
  | .label _,_,_,_,σ,Q=>Q .n σ
  | .ret,_,_,_,σ,Q=>Q .r σ
  | _,_,_,_,_,_=>B

variable {P:hZ}{w0:S}{M:Ctx}{N:E}
def PQ (w0:S)(M:Ctx)(N:E)(ws:S)(Q:QQ)(Q':Exit->jb->S->Prop):Prop:=
  ∀a w,(V8 w0 M N ws (Q .n) a w->Q' .normal a w)/\(∀i,V8 w0 M N ws (Q (.x i)) a w->Q' (.exit i) a w)/\(V8 w0 M N ws (Q .r) a w->Q' .ret a w)

def eK (p:E):R:={dst:=J p,op:= .move (.tmp 0),type:=0,pos:= "",after:= #[],guard:=z}
def J0 (ok:C R->I->I):jg->I
  | .region _ ops e=>ok ops.toList e
  | .seq a b=>J0 ok a&&J0 ok b
  | .cond _ a b=>J0 ok a&&J0 ok b
  | .block _ c=>J0 ok c
  | .loop c=>J0 ok c
  | .rangeFunc _ f a b=>f.toList.all (fun p=>ok [eK p] U)&&(J0 ok a&&J0 ok b)
  | _=>Z

abbrev CX:=Ctx->A E->A E->Prop

def sL (P:hZ)(w0:S)(M:Ctx)(N:E)(r:A E)(ok:C R->I->I)(RG:RGT):Prop:=
 ∀(e:E) (ops:C R) (b:I),ok ops b=Z-> ∀f ρ σ a w ws K n c,NC ws w->Sim w0 M N ρ σ a w->RG f ops b σ K->(∀a w,V8 w0 M N ws K a w->c Exit.normal a w)->(Code.region e ops.toArray b).wpIn (FR r) n P c a w
def Snd (P:hZ)(w0:S)(N:E)(CM:CX)(c:jg)(W:WF):Prop:=
  ∀{M pl ro r n μ ρ σ a w ws Q Q'},CM M ro r->To M pl->NC ws w->Sim w0 M N ρ σ a w->W pl ro μ σ Q->PQ w0 M N ws Q Q'->c.wpIn (FR r) n P Q' a w

theorem VB (r:A E)(m:Machine):m.fenced P (FR r):=fenced_wide P m
theorem QEr {CM:CX}{ok:C R->I->I}{RG:RGT}{L:LI}{RF:RFT}(jJ: ∀M ro r,CM M ro r->sL P w0 M N r ok RG)
  (jI: ∀it f (ps:Array Tmp) a b wa wb,ps.toList.all (fun p=>ok [eK p] U)=Z->Snd P w0 N CM a wa->Snd P w0 N CM b wb->Snd P w0 N CM (.rangeFunc f ps a b) (RF it f ps.toList wa wb)): ∀(c:jg),J0 ok c=Z->Snd P w0 N CM c (wpG RG L RF c):=by
 intro c;induction c with
 | skip=>intro _ M pl ro r n μ ρ σ a w ws Q Q' _ _ hn hs h hq;exact wpIn_skip ((hq a w).1 ⟨ρ,σ,hs,h,hn⟩)
 | region id ops jH=>
  intro hk M pl ro r n μ ρ σ a w ws Q Q' jl _ hn hs h hq;have:=jJ M ro r jl id ops.toList jH hk μ ρ σ a w ws (Q .n) n Q' hn hs h (fun a w h=>(hq a w).1 h);simpa using this
 | seq x y jv jw=>
  intro hk M pl ro r n μ ρ σ a w ws Q Q' jl W hn hs h hq;have jD:=(Za _ _▸hk).1;have jE:=(Za _ _▸hk).2;simp only[wpG]at h;split at h
  ·obtain⟨h,hb⟩:=h;refine wpIn_seq (jv jD jl W hn hs h (Q':=Exit.then (y.wpIn (FR r) n P Q') Q') fun a w=>⟨?_,?_,?_⟩)
   ·rintro⟨ρ',B,s,⟨x,h1,h2⟩,u⟩;obtain⟨jF,jA⟩:=Kg h2 _ _ _ _ _ _ W (s.frz _);exact jw jE jl W u jA (hb x h1.1 h1.2) hq
   ·rintro i ⟨ρ',B,s,h',u⟩;exact(hq a w).2.1 i ⟨ρ',B,s,h',u⟩
   ·rintro⟨ρ',B,s,h',u⟩;exact(hq a w).2.2 ⟨ρ',B,s,h',u⟩
  ·refine wpIn_seq (jv jD jl W hn hs h (Q':=Exit.then (y.wpIn (FR r) n P Q') Q') fun a w=>⟨?_,?_,?_⟩)
   ·rintro⟨ρ',B,s,h',u⟩;exact jw jE jl W u s h' hq
   ·rintro i ⟨ρ',B,s,h',u⟩;exact(hq a w).2.1 i ⟨ρ',B,s,h',u⟩
   ·rintro⟨ρ',B,s,h',u⟩;exact(hq a w).2.2 ⟨ρ',B,s,h',u⟩
 | cond c x y jv jw=>
  intro hk M pl ro r n μ ρ σ a w ws Q Q' jl W hn hs h hq;have jD:=(Za _ _▸hk).1;have jE:=(Za _ _▸hk).2;simp only[wpG]at h;split at h
  ·rename_i t he;have jK:a.eval c= .bool t:=by
    cases c with
    | tmp k=>have:=hs.tmps k;rw[show σ.T k=_ from he]at this;exact(ConcX.one this).1
    | const v=>cases v<;>simp[evA]at he<;>first | exact congrArg Value.bool he | skip
    | func f=>simp[evA]at he
    | global g=>simp[evA]at he
   exact wpIn_cond_split jK (fun ht=>jv jD jl W hn hs (by rw[ht]at h;exact h) hq) (fun ht=>jw jE jl W hn hs (by rw[ht]at h;exact h) hq)
  ·exact h.elim
 | block id c ih=>
  intro hk M pl ro r n μ ρ σ a w ws Q Q' jl W hn hs h hq;refine wpIn_block (ih hk jl W hn hs h (Q':=Exit.inBlock id Q') fun a w=>⟨?_,?_,?_⟩)
  ·rintro⟨ρ',B,s,h',u⟩;exact(hq a w).1 ⟨ρ',B,s,h',u⟩
  ·rintro i ⟨ρ',B,s,h',u⟩;simp only[Exit.inBlock];cases hb:i.beq id with
   | true=>
    have:=Zb hb;rw[if_pos this];simp only[hb,R7]at h';exact(hq a w).1 ⟨ρ',B,s,h',u⟩
   | false=>
    rw[if_neg (fun e=>by subst e;simp at hb)];simp only[hb,R8]at h';exact(hq a w).2.1 i ⟨ρ',B,s,h',u⟩
  ·rintro⟨ρ',B,s,h',u⟩;exact(hq a w).2.2 ⟨ρ',B,s,h',u⟩
 | loop c ih=>
  intro hk M pl ro r n μ ρ σ a w ws Q Q' jl W hn hs h hq;simp only[wpG,nC]at h;split at h
  ·-- by what is known at its head
   rename_i q _;obtain⟨⟨x0,h0,jG⟩,hr⟩:=h;intro b k cs jz jx jq;have jC: ∀j x,q.m x=j->(q.φ x/\q.t x=μ)-> ∀ρ a w,NC ws w->Sim w0 M N ρ (q.S x).st a w-> ∃e a' w',Q' e a' w'/\ArrivesIn (Machine.fenced P (FR r)) P (lone (b.atR a (.code c:: .inLoop c::k)) cs w) b k cs e a' w':=by
    intro j;induction j using E.strongRecOn with
    | _ j jB=>
     intro x hm hx ρ a w hn hs
     have jm:=ih hk jl W hn hs (hr x hx.1 hx.2) (n:=n) (Q':=Exit.then (fun a' w'=> ∃x',(q.φ x'/\q.t x'=μ)/\q.m x'<q.m x/\ ∃ρ',Sim w0 M N ρ' (q.S x').st a' w'/\NC ws w') Q') (fun a w=>⟨by
       rintro⟨ρ',B,s,⟨x',h1,h3⟩,u⟩;obtain⟨jF,jA⟩:=Kg h3 _ _ _ _ _ _ W s;exact⟨x',⟨h1.1,h1.2.1⟩,h1.2.2,jF,jA,u⟩,by
       rintro i ⟨ρ',B,s,h',u⟩;exact(hq a w).2.1 i ⟨ρ',B,s,h',u⟩,by
       rintro⟨ρ',B,s,h',u⟩;exact(hq a w).2.2 ⟨ρ',B,s,h',u⟩⟩) b (.inLoop c::k) cs jz jx jq
     obtain⟨e,S,V,X,A⟩:=jm;cases e with
     | normal=>
      obtain⟨x',h1,h2,ρ',s,u⟩:=X;obtain⟨jt,jr,ju,jn,jk⟩:=jB (q.m x') o3 x' rfl h1 ρ' S V u s;exact⟨jt,jr,ju,jn,.of_steps (StepsIn.trans A (.one (VB r _) stepR_inLoop)) jk⟩
     | exit id=>exact⟨_,S,V,X,.pass (x:= .inLoop c) rfl (fun _ _=> .inl o6) A⟩
     | goto l=>exact⟨_,S,V,X,.pass (x:= .inLoop c) rfl (fun _ _=> .inl o6) A⟩
     | ret=>exact⟨_,S,V,X,.pass (x:= .inLoop c) rfl (fun _ _=> .inl o6) A⟩
     | panic ch=>exact⟨_,S,V,X,.pass (x:= .inLoop c) rfl (fun _ _=> .inl o6) A⟩
     | outgrown=>exact⟨_,S,V,X,.pass (x:= .inLoop c) rfl (fun _ _=> .inl o6) A⟩
   obtain⟨ρ',s⟩:=Kg jG _ _ _ _ _ _ W hs;obtain⟨e,a',w',jy,A⟩:=jC _ x0 rfl h0 ρ' a w hn s;exact⟨e,a',w',jy,.of_steps (.one (VB r _) stepR_loop) A⟩
  ·-- the same, rows read alone from there on
   rename_i K q _;obtain⟨⟨x0,h0,jG⟩,hr⟩:=h;intro b k cs jz jx jq;have jC: ∀j x,q.m x=j->(q.φ x/\q.t x=μ)-> ∀ρ a w,NC ws w->Sim w0 M N ρ (q.S x).st a w-> ∃e a' w',Q' e a' w'/\ArrivesIn (Machine.fenced P (FR r)) P (lone (b.atR a (.code c:: .inLoop c::k)) cs w) b k cs e a' w':=by
    intro j;induction j using E.strongRecOn with
    | _ j jB=>
     intro x hm hx ρ a w hn hs
     have jm:=ih hk jl W hn hs (hr x hx.1 hx.2) (n:=n) (Q':=Exit.then (fun a' w'=> ∃x',(q.φ x'/\q.t x'=μ)/\q.m x'<q.m x/\ ∃ρ',Sim w0 M N ρ' (q.S x').st a' w'/\NC ws w') Q') (fun a w=>⟨by
       rintro⟨ρ',B,s,⟨x',h1,h3⟩,u⟩;obtain⟨jF,jA⟩:=Kg h3 _ _ _ _ _ _ W (s.frz _);exact⟨x',⟨h1.1,h1.2.1⟩,h1.2.2,jF,jA,u⟩,by
       rintro i ⟨ρ',B,s,h',u⟩;exact(hq a w).2.1 i ⟨ρ',B,s,h',u⟩,by
       rintro⟨ρ',B,s,h',u⟩;exact(hq a w).2.2 ⟨ρ',B,s,h',u⟩⟩) b (.inLoop c::k) cs jz jx jq
     obtain⟨e,S,V,X,A⟩:=jm;cases e with
     | normal=>
      obtain⟨x',h1,h2,ρ',s,u⟩:=X;obtain⟨jt,jr,ju,jn,jk⟩:=jB (q.m x') o3 x' rfl h1 ρ' S V u s;exact⟨jt,jr,ju,jn,.of_steps (StepsIn.trans A (.one (VB r _) stepR_inLoop)) jk⟩
     | exit id=>exact⟨_,S,V,X,.pass (x:= .inLoop c) rfl (fun _ _=> .inl o6) A⟩
     | goto l=>exact⟨_,S,V,X,.pass (x:= .inLoop c) rfl (fun _ _=> .inl o6) A⟩
     | ret=>exact⟨_,S,V,X,.pass (x:= .inLoop c) rfl (fun _ _=> .inl o6) A⟩
     | panic ch=>exact⟨_,S,V,X,.pass (x:= .inLoop c) rfl (fun _ _=> .inl o6) A⟩
     | outgrown=>exact⟨_,S,V,X,.pass (x:= .inLoop c) rfl (fun _ _=> .inl o6) A⟩
   obtain⟨ρ',s⟩:=Kg jG _ _ _ _ _ _ W (hs.frz _);obtain⟨e,a',w',jy,A⟩:=jC _ x0 rfl h0 ρ' a w hn s;exact⟨e,a',w',jy,.of_steps (.one (VB r _) stepR_loop) A⟩
  ·-- round by round
   rename_i m _;intro b k cs jz jx jq;have jC: ∀m ρ σ a w,NC ws w->Sim w0 M N ρ σ a w->Um (wpG RG L RF c pl ro μ) m σ Q-> ∃e a' w',Q' e a' w'/\ArrivesIn (Machine.fenced P (FR r)) P (lone (b.atR a (.code c:: .inLoop c::k)) cs w) b k cs e a' w':=by
    intro m;induction m with
    | zero=>intro ρ σ a w _ _ h;exact h.elim
    | succ m jB=>
     intro ρ σ a w hn hs h
     have jm:=ih hk jl W hn hs h (n:=n) (Q':=Exit.then (fun a' w'=> ∃ρ' B,Sim w0 M N ρ' B a' w'/\Um (wpG RG L RF c pl ro μ) m B Q/\NC ws w') Q') (fun a w=>⟨by
       rintro⟨ρ',B,s,h3,u⟩;exact⟨ρ',B,s,h3,u⟩,by
       rintro i ⟨ρ',B,s,h',u⟩;exact(hq a w).2.1 i ⟨ρ',B,s,h',u⟩,by
       rintro⟨ρ',B,s,h',u⟩;exact(hq a w).2.2 ⟨ρ',B,s,h',u⟩⟩) b (.inLoop c::k) cs jz jx jq
     obtain⟨e,S,V,X,A⟩:=jm;cases e with
     | normal=>
      obtain⟨ρ',B,s,h',u⟩:=X;obtain⟨jt,jr,ju,jn,jk⟩:=jB ρ' B S V u s h';exact⟨jt,jr,ju,jn,.of_steps (StepsIn.trans A (.one (VB r _) stepR_inLoop)) jk⟩
     | exit id=>exact⟨_,S,V,X,.pass (x:= .inLoop c) rfl (fun _ _=> .inl o6) A⟩
     | goto l=>exact⟨_,S,V,X,.pass (x:= .inLoop c) rfl (fun _ _=> .inl o6) A⟩
     | ret=>exact⟨_,S,V,X,.pass (x:= .inLoop c) rfl (fun _ _=> .inl o6) A⟩
     | panic ch=>exact⟨_,S,V,X,.pass (x:= .inLoop c) rfl (fun _ _=> .inl o6) A⟩
     | outgrown=>exact⟨_,S,V,X,.pass (x:= .inLoop c) rfl (fun _ _=> .inl o6) A⟩
   obtain⟨e,a',w',jy,A⟩:=jC m ρ σ a w hn hs h;exact⟨e,a',w',jy,.of_steps (.one (VB r _) stepR_loop) A⟩
  ·exact h.elim
 | rangeFunc f ps x y jv jw=>
  intro hk M pl ro r n μ ρ σ a w ws Q Q' jl W hn hs h hq;simp only[J0,Za]at hk;exact jI _ f ps x y _ _ hk.1 (jv hk.2.1) (jw hk.2.2) jl W hn hs h hq
 | exit id=>intro _ M pl ro r n μ ρ σ a w ws Q Q' _ _ hn hs h hq;exact wpIn_exit ((hq a w).2.1 id ⟨ρ,σ,hs,h,hn⟩)
 | label l=>intro _ M pl ro r n μ ρ σ a w ws Q Q' _ _ hn hs h hq;exact wpIn_label ((hq a w).1 ⟨ρ,σ,hs,h,hn⟩)
 | ret=>intro _ M pl ro r n μ ρ σ a w ws Q Q' _ _ hn hs h hq;exact wpIn_ret ((hq a w).2.2 ⟨ρ,σ,hs,h,hn⟩)
 | _=>intro _ M pl ro r n μ ρ σ a w ws Q Q' _ _ _ _ h _;exact h.elim
end Go.Eng
namespace Go.Eng
open Go Go.RowKit
def Q5:Op->I
  | .move _ | .assign _ | .load .. | .fieldAddr .. | .field .. | .indexAddr .. | .index .. | .extract .. | .binOp .. | .unOp .. | .convert .. | .pick .. | .lookup .. | .nilCheck _=>Z
  | .slice _ _ _ _ z=>Z
  | .call c=>match c.callee with
    | .builtin .len=>Z
    | .builtin .min=>Z
    | _=>U
  | _=>U

variable{op:Op}
theorem Wq(h:Q5 op=Z):eQ op=U:=by
 cases op<;>simp[Q5]at h<;>first | rfl | skip
 case slice t x lo hi mx=>cases mx with
  | none=>rfl
  | some m=>simp at h
 rename_i c;obtain⟨e,f,g⟩:=c;cases e with
 | builtin b=>cases b<;>simp at h<;>rfl
 | _=>simp at h
def UB:Op->I
  | .alloc _=>Z
  | .makeMap _ z=>Z
  | .buildSlice .. =>Z
  | .nilCheck _=>Z
  | .build .. =>Z
  | o=>Q5 o

variable{H:HP}{d:E}{ev:At->AV}
theorem QPq (T:Qd){e:At->AV}{K:KK}(h: ∀x∈op.operands.toList,ev x=e x):opS T ev H d K op=opS T e H d K op:=by
 have u: ∀v:Array (E×At),(∀x∈v.toList.map (·.2),ev x=e x)->(v.toList.map fun p=>(p.1,ev p.2))=(v.toList.map fun p=>(p.1,e p.2)):=fun v S=>
  Zu fun p R=>by rw[S p.2 (C.mem_map.2 ⟨p,R,rfl⟩)]
 cases op<;>simp only[Op.operands]at h<;>simp only[opS]
 case build t v=>rw[u v fun x B=>h x ((j9 B))]
 case buildSlice t n v=>rw[u v fun x B=>h x ((j9 B))]
 case slice t x lo hi mx=>cases lo<;>cases hi<;>cases mx<;>simp_all
 case makeFunc fn first cap=>
  have I:cap.toList.map ev=cap.toList.map e:=Zu fun y W=>h y (by simp;exact .inr ((j9 W)));rw[I]
 case makeInterface t x=>rw[h x o6]
 case makeMap t r=>cases r<;>simp_all
 case call c=>
  obtain⟨g,q,A⟩:=c;have s:q.toList.map ev=q.toList.map e:=Zu fun x B=>h x (by simp only[Call.operands];cases g<;>simp_all);cases g with
  | value f=>
   have L:ev f=e f:=h f (by simp[Call.operands]);simp only[L,s]
  | invoke r m=>
   have V:ev r=e r:=h r (by simp[Call.operands]);simp only[V,s]
  | builtin b=>
   have X: ∀x∈q.toList,ev x=e x:=fun x B=>h x (by simp only[Call.operands];simp_all);simp only;split<;>simp_all
 all_goals (first | rfl | (simp_all;done))
theorem HQ (T:Qd){K:KK}(h:Q5 op=Z):opS T ev H d K op=opS T ev H d (fun v _=>K v H) op:=by
 cases op<;>simp[Q5]at h<;>first | rfl | skip
 case slice t x lo hi mx=>cases mx with
  | none=>rfl
  | some m=>simp at h
 rename_i c;obtain⟨e,f,s⟩:=c;cases e with
 | builtin b=>
  cases b<;>simp at h
  all_goals
   simp only[opS]
   split<;>first | rfl | (rename_i g q;cases g) | skip
   all_goals (first | rfl | contradiction)
 | _=>simp at h
def Det {c:Type}(f:(c->Prop)->Prop):Prop:= ∀b,f b-> ∃v,∀K,f K↔K v
theorem Det.orF (o:A AV):Det (orF o):=fun b h=>by
 cases o with
 | none=>exact h.elim
 | some v=>exact⟨v,fun K=>Zq⟩
theorem YO {T:Qd}{t:E}{g:Type}{f:TyI->(g->Prop)->Prop}(h: ∀i,Det (f i)):Det fun K=>Xf T t fun i=>f i K:=fun e b=>by
 unfold Xf at b|-;cases c:T.tb t with
 | none=>rw[c]at b;exact b.elim
 | some i=>rw[c]at b;simp only;exact h i e b
theorem J1 {m:Type}{p:Prop}{f:(m->Prop)->Prop}(g:Det f):Det fun K=>p/\f K:=fun e h=>by
 obtain⟨v,c⟩:=g e h.2;exact⟨v,fun K=>⟨fun b=>(c K).1 b.2,fun b=>⟨h.1,(c K).2 b⟩⟩⟩
theorem Qy {b:Type}(v:b):Det fun K=>K v:=fun _ _=>⟨v,fun _=>Zq⟩
theorem QX {b:Type}:Det fun(_:b->Prop)=>B:=fun _ h=>h.elim
theorem Wa {e:Type}{b:I}{f g:(e->Prop)->Prop}(h:Det f)(c:Det g):Det fun K=>bif b then f K else g K:=by
 cases b
 ·exact c
 ·exact h
theorem QNh (s:C Sh)(xs:C (C Ch))(j o n:E)(b:I):Det (ldP s xs j o n b):=fun u h=>by
 obtain⟨cs,m,e,v⟩:=Hu.1 h;refine⟨.x b cs,fun K=>⟨fun c=> ?_,fun c=>Hu.2 ⟨cs,m,e,c⟩⟩⟩;obtain⟨g,_,f,q⟩:=Hu.1 c;rw[e]at f;cases f
 exact q
theorem QPr (i:TyI)(s:C Sh)(a:AV)(H:HP):Det (aR i s a H):=by
 unfold aR;split
 ·split
  ·exact Det.orF _
  ·exact QX
 ·exact QNh _ _ _ _ _ _
 ·split
  ·exact QNh _ _ _ _ _ _
  ·exact QX
 ·exact QX
theorem QCO (i:TyI)(a:AV)(f:E)(tb:TB):Det (WR i a f tb):=by
 unfold WR;split
 ·split
  ·split
   ·refine Wa QX ?_
    split
    ·exact Qy _
    ·exact Qy _
    ·exact Qy _
    ·exact QX
   ·exact QX
  ·exact QX
 ·exact QX
theorem QKl (i:TyI)(a:AV)(f:E)(tb:TB):Det (Gs i a f tb):=by
 unfold Gs;split
 ·split
  ·split
   ·split
    ·exact Det.orF _
    ·exact QX
   ·exact QX
  ·exact QX
 ·exact QX
theorem QCP (i:TyI)(a b:AV)(H:HP)(tb:TB):Det (WS i a b H tb):=by
 unfold WS;split
 ·split
  ·split
   ·exact Wa (J1 (Qy _)) QX
   ·split
    ·exact Wa (J1 (Qy _)) QX
    ·exact QX
   ·exact QX
  ·exact QX
 ·split
  ·split
   ·split
    ·exact Wa (J1 (Qy _)) QX
    ·exact QX
   ·exact QX
  ·exact QX
 ·exact QX
theorem QKm (i:TyI)(a v:AV):Det (Gu i a v):=by
 unfold Gu;split
 ·intro m h;obtain⟨b,c,s⟩:=h;exact⟨_,fun K=>⟨fun⟨q,e,g⟩=>by rw[c.2]at e;cases e.2;exact g,fun f=>⟨b,c,f⟩⟩⟩
 ·intro m h;obtain⟨b,c,s⟩:=h;exact⟨_,fun K=>⟨fun⟨q,e,g⟩=>by rw[c.2]at e;cases e.2;exact g,fun f=>⟨b,c,f⟩⟩⟩
 ·exact QX
theorem Qel (r:BR):Det (r.run):=by
 cases r with
 | ok v=>exact Qy _
 | need p v=>exact J1 (Qy _)
 | bad=>exact QX
theorem Det.map {b c:Type}{f:(b->Prop)->Prop}(h:Det f)(g:b->c):Det fun K:c->Prop=>f fun v=>K (g v):=fun q e=>by
 obtain⟨v,m⟩:=h _ e;exact⟨g v,fun K=>m _⟩
theorem QSb (op:BinOp)(x y:AV):Det (bf op x y):=by
 unfold bf;split
 ·exact(Qel _).map JS
 ·split
  ·exact Qy _
  ·exact Qy _
  ·exact QX
 ·split
  ·exact Qy _
  ·exact Qy _
  ·exact QX
 ·split
  ·exact J1 (Qy _)
  ·exact Qy _
  ·exact Qy _
  ·exact QX
 ·exact QX
theorem QSc (tb:TB)(t:E)(op:BinOp)(x y:AV):Det (aW tb t op x y):=by
 unfold aW;split
 ·unfold eqA;split
  ·exact QX
  ·refine Wa ?_ QX
   split
   ·exact QX
   ·refine Wa ?_ QX
    split
    ·exact QX
    ·split
     ·exact Qy _
     ·exact Qy _
     ·exact QX
 ·split
  ·split
   ·exact J1 (Qy _)
   ·exact J1 (Qy _)
   ·exact QX
  ·exact QSb _ _ _
theorem QZC (op:UnOp)(x:AV):Det (unA op x):=by
 unfold unA;split
 ·exact Qy _
 ·exact Qy _
 ·exact QX
theorem QKn {a b:UInt8}(h:QW a=QW b):a=b:=by
 unfold QW at h;simp at h;exact UInt8.toNat_inj.1 o3
theorem QCQ {a b:C UInt8}(h:a.map QW=b.map QW):a=b:=by
 induction a generalizing b with
 | nil=>cases b with
  | nil=>rfl
  | cons y b=>simp at h
 | cons x a c=>cases b with
  | nil=>simp at h
  | cons y b=>
   simp only[Zz,C.cons.injEq]at h;rw[QKn h.1,c h.2]
theorem QPs (i j:TyI)(a:AV)(H:HP):Det (bD i j a H):=by
 unfold bD;split
 ·exact Qy _
 ·exact Qy _
 ·exact Qy _
 ·split
  ·intro q h;obtain⟨e,b,s⟩:=h;exact⟨_,fun K=>⟨fun⟨f,c,m⟩=>by rw[b]at c;rw[QCQ c];exact m,fun g=>⟨e,b,g⟩⟩⟩
  ·exact QX
 ·exact QX
theorem Kh {b:Type}{x:A AV}{d:Int}{f:Int->(b->Prop)->Prop}(h: ∀j,Det (f j)):Det fun K=>zm x d fun j=>f j K:=by
 unfold zm;split
 ·exact h _
 ·exact h _
 ·exact QX
theorem QKo (i:TyI)(a:AV)(c b:A AV)(H:HP)(tb:TB):Det (G0 i a c b z H tb):=by
 unfold G0;simp only;split
 ·exact Kh fun l=>Kh fun h=>J1 (Qy _)
 ·split
  ·exact Wa (Kh fun l=>Kh fun h=>J1 (Qy _)) QX
  ·exact QX
 ·split
  ·exact Wa (Kh fun l=>Kh fun h=>J1 (Qy _)) QX
  ·exact QX
 ·split
  ·exact Wa (Kh fun l=>Kh fun h=>J1 (Qy _)) QX
  ·exact QX
 ·exact QX
theorem QIR (tb:TB)(i:TyI)(m x:AV)(ok:I)(H:HP):Det (Ul tb i m x ok H):=by
 unfold Ul;split
 ·split
  ·split
   ·split
    ·exact Qy _
    ·exact QX
   ·exact Qy _
   ·exact QX
  ·exact QX
 ·exact QX
theorem QIS (m:I)(a b:AV):Det (VU m a b):=by
 unfold VU;split<;>first | exact Qy _ | exact QX
theorem QSd (i:TyI)(a:AV):Det (Z9 i a):=by
 unfold Z9;split<;>first | exact Qy _ | exact QX
theorem QKp (i:TyI)(parts:C (E×AV))(tb:TB):Det (Gv i parts tb):=by
 unfold Gv;split
 ·split
  ·rename_i f _ c _;intro e h;cases b:aQ (fun j=>c[j]?) (i.zero.map Ch.v) parts with
   | none=>rw[b]at h;exact h.elim
   | some cs=>exact⟨.x Z cs,fun K=>Zq⟩
  ·exact QX
 ·exact QX
theorem QPt (i j:TyI)(a:AV)(H:HP):Det (Z4 i j a H):=by
 unfold Z4;split
 ·exact Qy _
 ·exact QPs _ _ _ _
theorem Det.two {f:(AV->Prop)->Prop}(h:Det f)(H:HP): ∀b:KK,f (fun v=>b v H)-> ∃v,∀K:KK,f (fun v=>K v H)↔K v H:=fun b c=>by
 obtain⟨v,e⟩:=h _ c;exact⟨v,fun K=>e _⟩
theorem QZD (T:Qd)(h:UB op=true): ∀K0,opS T ev H d K0 op-> ∃v H1,(Q5 op=true->H1=H)/\ ∀K,opS T ev H d K op↔K v H1:=by
 intro K0 h0;have rd: ∀{f:(AV->Prop)->Prop},Det f->f (fun v=>K0 v H)->(∃v H1,(Q5 op=true->H1=H)/\ ∀K:KK,f (fun v=>K v H)↔K v H1):=fun hf h0=>by
  obtain⟨v,hv⟩:=hf.two H K0 h0;exact⟨v,H,fun _=>rfl,hv⟩
 cases op<;>simp[UB,Q5]at h
 case move x=>exact⟨_,H,fun _=>rfl,fun K=>Zq⟩
 case assign x=>exact⟨_,H,fun _=>rfl,fun K=>Zq⟩
 case load t x=>exact rd (f:=fun K=>Xf T t fun i=>aR i (shT T t i) (ev x) H K) (YO fun i=>QPr _ _ _ _) h0
 case fieldAddr t x f=>exact rd (f:=fun K=>Xf T t fun i=>WR i (ev x) f T.tb K) (YO fun i=>QCO _ _ _ _) h0
 case build t ps=>exact rd (f:=fun K=>Xf T t fun i=>Gv i (ps.toList.map fun p:Nat×Operand=>(p.1,ev p.2)) T.tb K) (YO fun i=>QKp _ _ _) h0
 case field t x f=>exact rd (f:=fun K=>Xf T t fun i=>Gs i (ev x) f T.tb K) (YO fun i=>QKl _ _ _ _) h0
 case indexAddr t x ix=>exact rd (f:=fun K=>Xf T t fun i=>WS i (ev x) (ev ix) H T.tb K) (YO fun i=>QCP _ _ _ _ _) h0
 case index t x ix=>exact rd (f:=fun K=>Xf T t fun i=>Gu i (ev x) (ev ix) K) (YO fun i=>QKm _ _ _) h0
 case binOp op xt x y yt=>exact rd (f:=aW T.tb xt op (ev x) (ev y)) (QSc _ _ _ _ _) h0
 case lookup t m x ok=>exact rd (f:=fun K=>Xf T t fun i=>Ul T.tb i (ev m) (ev x) ok H K) (YO fun i=>QIR _ _ _ _ _ _) h0
 case unOp op xt x=>exact rd (f:=unA op (ev x)) (QZC _ _) h0
 case convert s t x=>exact rd (f:=fun K=>Xf T s fun i=>Xf T t fun j=>bif V5 T i&&V5 T j then Z4 i j (ev x) H K else False) (YO fun i=>YO fun j=>Wa (QPt _ _ _ _) QX) h0
 case slice t x lo hi mx=>
  cases mx with
  | none=>exact rd (f:=fun K=>Xf T t fun i=>G0 i (ev x) (lo.map ev) (hi.map ev) none H T.tb K) (YO fun i=>QKo _ _ _ _ _ _) h0
  | some m=>simp at h
 case pick c x y=>
  simp only[opS]at h0⊢;split at h0
  ·rename_i b hb;cases b
   ·exact⟨_,H,fun _=>rfl,fun K=>Zq⟩
   ·exact⟨_,H,fun _=>rfl,fun K=>Zq⟩
  ·exact h0.elim
 case call c=>
  obtain⟨callee,args,ts⟩:=c;cases callee with
  | builtin b=>
   cases b<;>simp at h
   case min=>
    have key: ∀K:KK,opS T ev H d K (.call ⟨.builtin .min,args,ts⟩)↔(match args.toList with
     | [x,y]=>VU false (ev x) (ev y) fun v=>K v H
     | _=>False):=fun K=>by
     simp only[opS];split
     ·rename_i hb _ _;exact absurd hb o6
     ·rename_i hb _ _;exact absurd hb o6
     ·rename_i h1;simp only[h1]
     ·rename_i hb _;exact absurd hb o6
     ·rename_i hne1 hne2 hne3 hne4;split
      ·rename_i h1;first | exact(hne1 _ _ rfl h1).elim | exact(hne2 _ _ rfl h1).elim | exact(hne3 _ _ rfl h1).elim | exact(hne4 _ _ rfl h1).elim | (have:=hne3 _ _;simp_all)
      ·exact Zq
    have h1:=(key K0).1 h0;split at h1
    ·rename_i x y e1;obtain⟨v,hv⟩:=(QIS false (ev x) (ev y)).two H K0 h1;exact⟨v,H,fun _=>rfl,fun K=>by rw[key];simp only[e1];exact hv K⟩
    ·exact h1.elim
   have key: ∀K:KK,opS T ev H d K (.call ⟨.builtin .len,args,ts⟩)↔(match args.toList,ts.toList with
    | [a],[t]=>Xf T t fun i=>Z9 i (ev a) fun v=>K v H
    | _,_=>False):=fun K=>by
    simp only[opS];split
    ·rename_i h1 h2;simp only[h1,h2]
    ·rename_i hb _ _;exact absurd hb o6
    ·rename_i hb _;exact absurd hb o6
    ·rename_i hb _;exact absurd hb o6
    ·rename_i hne1 hne2 hne3 hne4;split
     ·rename_i h1 h2;first | exact(hne1 _ _ rfl h1 h2).elim | exact(hne2 _ _ rfl h1 h2).elim | exact(hne3 _ _ rfl h1 h2).elim | exact(hne4 _ _ rfl h1 h2).elim | (have:=hne1 _ _;simp_all)
     ·exact Zq
   have h1:=(key K0).1 h0;split at h1
   ·rename_i a t e1 e2;obtain⟨v,hv⟩:=(YO (T:=T) (t:=t) fun i=>QSd i (ev a)).two H K0 h1;exact⟨v,H,fun _=>rfl,fun K=>by rw[key];simp only[e1,e2];exact hv K⟩
   ·exact h1.elim
  | _=>simp at h
 case extract x n=>
  simp only[opS]at h0⊢;split at h0
  ·split at h0
   ·exact⟨_,H,fun _=>rfl,fun K=>Zq⟩
   ·exact h0.elim
  ·exact h0.elim
 case alloc t=>
  simp only[opS]at h0⊢;unfold Xf at h0|-;cases hi:T.tb t with
  | none=>rw[hi]at h0;exact h0.elim
  | some i=>
   rw[hi]at h0;simp only at h0|-;unfold eR at h0|-;split at h0
   ·exact h0.elim
   ·split at h0
    ·split at h0
     ·rename_i n e _ _ ei hte;cases hb:(i.cells.beq (n*ei.cells)&&Nat.blt 0 ei.cells)with
      | false=>rw[hb]at h0;exact h0.elim
      | true=>
       rw[hb]at h0;simp only[R7]at h0⊢;exact⟨.x false [.p d 0],upd H d (some (.row t ei.cells (List.replicate n (ei.zero.map Ch.v)))),(fun h=>absurd h (by simp[Q5])),fun K=>Iff.intro (fun hk=>hk.1 _ rfl h0.2) (fun hk=>And.intro (fun _ _ _=>hk) h0.2)⟩
     ·exact h0.elim
    ·exact⟨_,_,(fun h=>absurd h (by simp[Q5])),fun K=>Zq⟩
 case makeMap t r=>
  cases r with
  | some x=>simp at h
  | none=>
   simp only[opS]at h0⊢;unfold Xf at h0|-;cases hi:T.tb t with
   | none=>rw[hi]at h0;exact h0.elim
   | some i=>
    rw[hi]at h0;simp only at h0|-;unfold V3 at h0|-;split at h0
    ·exact⟨_,_,(fun h=>absurd h (by simp[Q5])),fun K=>Zq⟩
    ·exact h0.elim
 case buildSlice t n ps=>
  simp only[opS]at h0⊢;unfold Xf at h0|-;cases hi:T.tb t with
  | none=>rw[hi]at h0;exact h0.elim
  | some i=>
   rw[hi]at h0;simp only at h0|-;split at h0
   ·rename_i e hu;cases he:T.tb e with
    | none=>rw[he]at h0;exact h0.elim
    | some ei=>
     rw[he]at h0;simp only at h0|-;unfold Ke at h0|-;cases hb:((n*ei.cells).ble 1000000&&(ps.toList.map fun p=>(p.1,ev p.2)).length.beq n&&Nat.blt 0 ei.cells)with
     | false=>rw[hb]at h0;exact h0.elim
     | true=>
      rw[hb]at h0;simp only[R7]at h0⊢;unfold orH at h0|-;split at h0
      ·split at h0
       ·exact⟨_,_,(fun h=>absurd h (by simp[Q5])),fun K=>Zq⟩
       ·exact h0.elim
      ·exact h0.elim
   ·exact h0.elim
 case nilCheck x=>
  simp only[opS]at h0⊢;split at h0
  ·exact⟨_,H,(fun _=>rfl),fun K=>Zq⟩
  ·exact⟨_,H,(fun _=>rfl),fun K=>Zq⟩
  ·exact⟨_,H,(fun _=>rfl),fun K=>Zq⟩
  ·exact h0.elim
theorem QSe (g:I)(v:AV):Det (KZ g v):=by
 unfold KZ;cases g with
 | false=>exact Qy _
 | true=>
  simp only[R7];split
  ·rename_i b;intro c h;cases b with
   | true=>exact⟨_,fun K=>Zq⟩
   | false=>exact⟨_,fun K=>Zq⟩
  ·exact Qy _
end Go.Eng
namespace Go.Eng
open Go Go.RowKit
def gOf (o:R)(T:TM):C E:=fp (evA T) o.op++Jk o.op (JN o.dst)
def aC (ops:C R)(o:R):C E:=
  (o.op.operands.toList.filterMap fun x=>match x with | .tmp t=>J t | _=>z)++(match Wi ops o with | some t=>[t] | none=>[])

structure ZV (ops:C Oper)(o:Oper)(σ σ2:St):Prop where
 ev: ∀x∈o.op.operands.toList,evA σ.T x=evA σ2.T x
 gd: ∀t,Wi ops o=J t->σ.T t=σ2.T t
 hp: ∀k∈gOf o σ.T,σ.H k=σ2.H k
theorem H3 {ev e:At->AV}{op:Op}(h: ∀x∈op.operands.toList,ev x=e x):fp ev op=fp e op:=by
 have b:fC ev op=fC e op:= ?_
 ·unfold fp;split
  ·rfl
  ·rfl
  ·rfl
  ·rfl
  ·exact b
 unfold fC;generalize op.operands.toList=l at h;induction l with
 | nil=>rfl
 | cons x g f=>simp only[Ye];rw[h x o6,f fun y c=>h y (by simp[c])]
theorem ZV.g {ops:C R}{o:R}{σ σ2:St}(h:ZV ops o σ σ2):gOf o σ.T=gOf o σ2.T:=by
 unfold gOf;rw[H3 h.ev]
variable{H:HP}{F:C E}
theorem QIT{D:C E}{b:HP}(h: ∀k∈F++D,H k=b k):Y4 F D H=Y4 F D b:=by
 funext k;unfold Y4;cases c:Xw k F
 ·rfl
 ·simp only[R7];exact h k (by simp[XR.1 c])
def Wr:E->C E->I:=fun _ _=>Z
def app (o:R)(G:C E)(v:AV)(H1:HP)(σ:St):St:=⟨JR σ.T o.dst v,mrg G H1 σ.H⟩

variable{G:C E}
theorem QIU:mrg G H H=H:=by funext k;unfold mrg;cases Xw k G<;>rfl
variable{H1:HP}
theorem Ws(h: ∀k∈G,H1 k=H k):mrg G H1 H=H:=by
 funext k;unfold mrg;cases b:Xw k G
 ·rfl
 ·exact h k (XR.1 b)
variable {T:Qd}{ops:C R}{i j:E}{o p:R}{σ σ2:St}
variable{K:St->Prop}
theorem aH{K':St->Prop}(f:ZV ops o σ σ2)
    (u: ∀v H1,(Q5 o.op=Z-> ∀k∈gOf o σ.T,H1 k=σ.H k)->K (app o (gOf o σ.T) v H1 σ)=K' (app o (gOf o σ.T) v H1 σ2)):
    opA T ops Wr i o σ K=opA T ops Wr i o σ2 K':=by
  have c:K ⟨JR σ.T o.dst .n,σ.H⟩=K' ⟨JR σ2.T o.dst .n,σ2.H⟩:=by
    have:=u .n σ.H (fun _ _ _=>rfl);unfold app at this;rw[QIU,Ws f.hp]at this;exact this
  have m:opL T (evA σ.T) σ.H (JN o.dst) (fun v s=>KZ (isG ops i) v fun e=>K ⟨JR σ.T o.dst e,s⟩) o.op=
      opL T (evA σ2.T) σ2.H (JN o.dst) (fun v s=>KZ (isG ops i) v fun e=>K' ⟨JR σ2.T o.dst e,s⟩) o.op:=by
    have A:=H3 f.ev;have x: ∀k∈fp (evA σ.T) o.op++Jk o.op (JN o.dst),σ.H k=σ2.H k:=f.hp;unfold opL;rw[propext WT,propext WT];rw[<-A,<-QPq T f.ev,<-QIT x];have E:(∀k∈Jk o.op (JN o.dst),σ.H k=z)=(∀k∈Jk o.op (JN o.dst),σ2.H k=z):=by
      apply propext;exact⟨fun h k b=>by rw[<-x k (by simp[b])];exact h k b,fun h k b=>by rw[x k (by simp[b])];exact h k b⟩
    rw[E];congr 1;cases q:Q5 o.op with
    | true=>
      have y:mrg (fp (evA σ.T) o.op++Jk o.op (JN o.dst)) (Y4 (fp (evA σ.T) o.op) (Jk o.op (JN o.dst)) σ.H) σ.H=σ.H:=Ws fun k b=>by
        have g:Jk o.op (JN o.dst)=[]:=by
          have:eQ o.op=U:=Wq q;simp[Jk,this]
        rw[g,C.append_nil]at b;exact V6 b
      rw[HQ T q];conv=>rhs;rw[HQ T q]
      congr 1;funext v _;show KZ _ _ _=KZ _ _ _
      congr 1;funext e
      exact u e _ (fun _ k b=>by
        have:=congrFun y k;unfold mrg at this;rw[XR.2 (show k∈fp (evA σ.T) o.op++Jk o.op (JN o.dst)from b)]at this
        exact this)
    | false=>
      congr 1;funext v H1;show KZ _ _ _=KZ _ _ _
      congr 1;funext e;exact u e H1 (fun h=>by rw[q]at h;cases h)
  unfold opA VV;simp only[Wr,R7];rw[m,c];cases o.guard with
  | none=>rfl
  | some I=>
    simp only;cases B:Wi ops o with
    | none=>rfl
    | some t=>simp only[f.gd t B]

theorem dV (S:UB o.op=Z){q:St->Prop}(h:opA T ops Wr i o σ q):
    ∃v H1,(Q5 o.op=Z-> ∀k∈gOf o σ.T,H1 k=σ.H k)/\ ∀K,opA T ops Wr i o σ K↔K (app o (gOf o σ.T) v H1 σ):=by
  have skip: ∃v H1,(Q5 o.op=Z-> ∀k∈gOf o σ.T,H1 k=σ.H k)/\ ∀K:St->Prop,K ⟨JR σ.T o.dst .n,σ.H⟩↔K (app o (gOf o σ.T) v H1 σ):=
    ⟨.n,σ.H,fun _ _ _=>rfl,fun K=>by unfold app;rw[QIU]⟩
  have g: ∀{q:St->Prop},opL T (evA σ.T) σ.H (JN o.dst) (fun v s=>KZ (isG ops i) v fun m=>q ⟨JR σ.T o.dst m,s⟩) o.op->
      ∃v H1,(Q5 o.op=Z-> ∀k∈gOf o σ.T,H1 k=σ.H k)/\ ∀K:St->Prop,opL T (evA σ.T) σ.H (JN o.dst) (fun v s=>KZ (isG ops i) v fun m=>K ⟨JR σ.T o.dst m,s⟩) o.op↔K (app o (gOf o σ.T) v H1 σ):=by
    intro q h;obtain⟨L,A⟩:=WT.1 h;obtain⟨v,H1,V,E⟩:=QZD T S _ A;have R:=(E _).1 A;obtain⟨m,y⟩:=QSe _ _ _ R;refine⟨m,H1,fun f k x=> ?_,fun K=> ?_⟩
    · have e:Jk o.op (JN o.dst)=[]:=by
        have:eQ o.op=U:=Wq f;simp[Jk,this]
      rw[V f];unfold gOf at x;rw[e,C.append_nil]at x;exact V6 x
    · unfold opL;rw[WT,E];show _/\KZ _ _ _↔_
      rw[y];exact⟨fun h=>h.2,fun h=>⟨L,h⟩⟩
  unfold opA VV at h|-;simp only[Wr,R7]at h⊢;cases B:o.guard with
  | none=>rw[B]at h;exact g h
  | some I=>
    rw[B]at h;simp only at h|-;cases c:Wi ops o with
    | none=>rw[c]at h;exact h.elim
    | some t=>
      rw[c]at h;simp only at h|-;split at h
      · rename_i b W;cases u:(b==I.2)with
        | true=>rw[u]at h;exact g h
        | false=>exact skip
      · exact skip
      · exact h.elim

def TL (a b:C E):I:=a.all fun k=> !Xw k b
theorem UC {a b:C E}:TL a b=Z↔ ∀k∈a,k∉b:=by
 simp[TL,Ze,Jn]
def rdr (ops:C R)(i:E):I:=match ops[i]? with | some o=>Q5 o.op | none=>U
def bJ (ops:C R)(x y:R):I:=
  (match x.dst with | some d=> !Xw d (aC ops y)&&(match y.dst with | some e=> !d.beq e | none=>Z) | none=>Z)&&
  (match y.dst with | some d=> !Xw d (aC ops x) | none=>Z)

theorem sY {x y:R}(h:bJ ops x y=Z):(∀d,x.dst=J d->d∉aC ops y)/\(∀d,x.dst=J d->y.dst≠J d)/\(∀d,y.dst=J d->d∉aC ops x):=by
 unfold bJ at h;simp only[Za]at h;refine⟨fun d b=> ?_,fun d b c=> ?_,fun d b=> ?_⟩
 ·rw[b]at h;simp only[Za,Zs,Jn]at h;exact h.1.1
 ·rw[b,c]at h;simp at h
 ·rw[b]at h;simp only[Zs,Jn]at h;exact h.2
theorem VC {o:R}{d:A E}{v:AV}{T0:TM}(h: ∀t,d=J t->t∉aC ops o):(∀x∈o.op.operands.toList,evA T0 x=evA (JR T0 d v) x)/\ ∀t,Wi ops o=J t->T0 t=JR T0 d v t:=by
 cases d with
 | none=>exact⟨fun _ _=>rfl,fun _ _=>rfl⟩
 | some t=>
  have b:=h t rfl;simp only[aC,Zj,not_or]at b;refine⟨fun x f=> ?_,fun s c=> ?_⟩
  ·cases x with
   | tmp s=>
    have:s≠t:=fun e=>b.1 (Yb.2 ⟨.tmp s,f,by rw[e]⟩);exact(Qc _ _ this).symm
   | const v=>cases v<;>rfl
   | _=>rfl
  ·have:s≠t:=fun e=>b.2 (by rw[c];simp[e]);exact(Qc _ _ this).symm
theorem vF {d e:A E}{x y:AV}{T0:TM}(h: ∀t,d=J t->e≠J t):JR (JR T0 d x) e y=JR (JR T0 e y) d x:=by
 cases d with
 | none=>rfl
 | some d=>
  cases e with
  | none=>rfl
  | some e=>exact QSK _ _ _ fun b=>h d rfl (by rw[b])
theorem QIV{b:HP}(h: ∀k∈F,k∉G):mrg F H1 (mrg G b H)=mrg G b (mrg F H1 H):=by
 funext k;unfold mrg;cases c:Xw k F
 ·cases Xw k G<;>rfl
 ·have:=Jn.2 (h k (XR.1 c));rw[this];rfl
theorem QSf (X:UB o.op=Z)(y:bJ ops o p=Z)(hc:(Q5 o.op=Z/\Q5 p.op=Z)\/TL (gOf o σ.T) (gOf p σ.T)=Z)
    (h:opA T ops Wr j o σ fun c=>opA T ops Wr i p c K):opA T ops Wr i p σ fun c=>opA T ops Wr j o c K:=by
  obtain⟨L,R,S⟩:=sY y;obtain⟨v,H1,hr,I⟩:=dV X h;have W:=(I _).1 h;have B:=VC (ops:=ops) (o:=p) (T0:=σ.T) (v:=v) L;have e:TL (gOf o σ.T) (gOf p σ.T)=Z-> ∀k∈gOf p σ.T,k∉gOf o σ.T:=fun h k g A=>UC.1 h k A g
  have u:ZV ops p σ (app o (gOf o σ.T) v H1 σ):=⟨B.1,B.2,fun k g=>by
    rcases hc with hc | hc
    · show σ.H k=mrg _ _ _ k
      rw[Ws (hr hc.1)]
    · exact(Jm (e hc k g)).symm⟩
  rw[aH (i:=i) u (K':=K) (K:=fun c=>opA T ops Wr j o c K) ?_]
  · exact W
  · intro s f q;-- the first one once more, behind the second
    have C:=VC (ops:=ops) (o:=o) (T0:=σ.T) (v:=s) S
    have m:ZV ops o σ (app p (gOf p σ.T) s f σ):=⟨C.1,C.2,fun k g=>by
      rcases hc with hc | hc
      · show σ.H k=mrg _ _ _ k
        rw[Ws (q hc.2)]
      · exact(Jm (UC.1 hc k g)).symm⟩
    have V:opA T ops Wr j o σ (fun c=>K (app p (gOf p σ.T) s f c))=opA T ops Wr j o (app p (gOf p σ.T) s f σ) K:=by
      refine aH (i:=j) m ?_
      intro x b E;congr 1;unfold app;simp only;congr 1
      · exact vF R
      · rcases hc with hc | hc
        · rw[Ws (E hc.1)];rw[Ws (q hc.2)];rw[Ws (E hc.1)]
        · exact QIV fun k g=>e hc k g
    rw[<-V];apply propext;rw[I]

def TK (T:Qd)(op:Op):I:=match op with
  | .call c=>(match c.callee with
    | .value (.func f)=>(match imL T.im (1000000+f)with
      | some _=>Z
      | none=>U)
    | .value (.tmp _)=>(match imL T.im 999999 with
      | some _=>Z
      | none=>U)
    | _=>U)
  | _=>U
theorem QIW {op:Op}(h:UB op=Z):TK T op=U:=by
 cases op<;>first | rfl | skip
 rename_i c;obtain⟨b,e,f⟩:=c;cases b<;>first | rfl | (simp[UB,Q5]at h)
def HD:C E->HP->HP->Prop->Prop
  | [],_,_,p=>p
  | k::F,H1,H,p=>(match H1 k,H k with
    | none,z=>HD F H1 H p
    | some a,J b=>a=b/\HD F H1 H p
    | _,_=>B)
theorem rQ{p:Prop}: ∀{F:C E},HD F H1 H p↔(∀k∈F,H1 k=H k)/\p:=by
 intro F;induction F with
 | nil=>simp[HD]
 | cons k F e=>
  simp only[HD];cases c:H1 k with
  | none=>
   cases h:H k with
   | none=>simp only[e];simp[c,h]
   | some b=>simp[c,h]
  | some a=>
   cases h:H k with
   | none=>simp[c,h]
   | some b=>simp only[e];simp[c,h,and_assoc]
def TO (T:Qd)(o:R)(σ:St)(K:St->Prop):St->Prop:=bif TK T o.op then fun b=>HD (gOf o σ.T) b.H σ.H (K b)else K
theorem QSg{b:St}(h:TO T o σ K b):K b:=by
 unfold TO at h;cases c:TK T o.op with
 | false=>rw[c]at h;exact h
 | true=>rw[c]at h;exact(rQ.1 h).2
theorem vN {A B:St->Prop}{b:St}(h:A b=B b):TO T o σ A b=TO T o σ B b:=by
 unfold TO;cases TK T o.op with
 | false=>exact h
 | true=>simp only[R7];rw[h]
def opX (T:Qd)(ops:C R)(i:E)(o:R)(σ:St)(K:St->Prop):Prop:=opA T ops Wr i o σ (TO T o σ K)
theorem H4 (h:UB o.op=Z):opX T ops j o σ K=opA T ops Wr j o σ K:=by
 unfold opX TO;rw[QIW h];rfl
theorem QSh (L:UB o.op=Z)(E:bJ ops o p=Z)(hc:(Q5 o.op=Z/\(Q5 p.op=Z\/TK T p.op=Z))\/TL (gOf o σ.T) (gOf p σ.T)=Z)
  (h:opX T ops j o σ fun m=>opX T ops i p m K):opX T ops i p σ fun m=>opX T ops j o m K:=by
 cases A:TK T p.op with
 | false=>
  have e: ∀(σ:St) (K:St->Prop),opX T ops i p σ K=opA T ops Wr i p σ K:=fun σ K=>by unfold opX TO;rw[A];rfl
  simp only[e,H4 L]at h⊢;refine QSf L E ?_ h
  rcases hc with hc | hc
  ·rcases hc.2 with I | I
   ·exact .inl ⟨hc.1,I⟩
   ·rw[A]at I;cases I
  ·exact .inr hc
 | true=>
  have e: ∀(σ:St) (K:St->Prop),opX T ops i p σ K=opA T ops Wr i p σ (fun f=>HD (gOf p σ.T) f.H σ.H (K f)):=fun σ K=>by unfold opX TO;rw[A];rfl
  simp only[e,H4 L]at h⊢;obtain⟨a1,a2,a3⟩:=sY E;obtain⟨v,H1,hr,hv⟩:=dV L h;have h2:=(hv _).1 h;have V:=VC (ops:=ops) (o:=p) (T0:=σ.T) (v:=v) a1;have s:TL (gOf o σ.T) (gOf p σ.T)=Z-> ∀k∈gOf p σ.T,k∉gOf o σ.T:=fun h k g R=>UC.1 h k R g
  have u:ZV ops p σ (app o (gOf o σ.T) v H1 σ):=⟨V.1,V.2,fun k g=>by
   rcases hc with hc | hc
   ·show σ.H k=mrg _ _ _ k
    rw[Ws (hr hc.1)]
   ·exact(Jm (s hc k g)).symm⟩
  have hg:=u.g;rw[aH (i:=i) u (K':=fun f=>HD (gOf p (app o (gOf o σ.T) v H1 σ).T) f.H (app o (gOf o σ.T) v H1 σ).H (K f)) (K:=fun f=>HD (gOf p σ.T) f.H σ.H (opA T ops Wr j o f K)) ?_]
  ·exact h2
  ·intro B c _;simp only[<-hg];apply propext;rw[rQ,rQ];have y: ∀(H:HP) k,k∈gOf p σ.T->mrg (gOf p σ.T) c H k=c k:=fun H k g=>Kw g;have q:(∀k∈gOf p σ.T,(app p (gOf p σ.T) B c σ).H k=σ.H k)↔(∀k∈gOf p σ.T,(app p (gOf p σ.T) B c (app o (gOf o σ.T) v H1 σ)).H k=(app o (gOf o σ.T) v H1 σ).H k):=by
    refine forall_congr' fun k=>imp_congr_right fun g=> ?_
    show mrg _ _ _ k=_↔mrg _ _ _ k=_
    rw[y _ k g,y _ k g,u.hp k g]
   rw[q];refine and_congr_right fun S=> ?_
   have S:=q.2 S;have X:mrg (gOf p σ.T) c σ.H=σ.H:=Ws fun k g=>by rw[<-y σ.H k g];exact S k g
   -- the first one once more, behind the second
   have W:=VC (ops:=ops) (o:=o) (T0:=σ.T) (v:=B) a3
   have C:ZV ops o σ (app p (gOf p σ.T) B c σ):=⟨W.1,W.2,fun k g=>by
    show σ.H k=mrg _ _ _ k
    rw[X]⟩
   have e3:opA T ops Wr j o σ (fun m=>K (app p (gOf p σ.T) B c m))=opA T ops Wr j o (app p (gOf p σ.T) B c σ) K:=by
    refine aH (i:=j) C ?_
    intro x b hu;congr 1;unfold app;simp only;congr 1
    ·exact vF a2
    ·rcases hc with hc | hc
     ·rw[Ws (hu hc.1),X,Ws (hu hc.1)]
     ·exact QIV fun k g=>s hc k g
   rw[<-e3,hv]
def Jc (o:R):C E:=o.after.toList.filterMap fun e=>bif Region.binds .any e then J e.on else z
def dt:C R->C (C E)->C (C E)
  | [],b=>b
  | o::c,b=>dt c (b++[((Jc o).flatMap fun p=>p::b.getD p []).eraseDups])

def UD (ops:C R):C (C E):=dt ops []
def sB (ops:C R):E->C E->C E
  | 0,_=>[]
  | n+1,done=>
    let b:=(Yi ops.length).filter fun i=> !Xw i done&&(match ops[i]? with | some o=>(Jc o).all fun p=>Xw p done | none=>U)
    match b.find? fun i=>match ops[i]? with | some o=>UB o.op | none=>U with
    | some i=>i::sB ops n (i::done)
    | none=>match b with
      | i::_=>i::sB ops n (i::done)
      | []=>[]

def ord (ops:C R):C E:=sB ops ops.length []
def HE (ops:C R)(anc:C (C E))(x y:E):I:=
  match ops[x]?,ops[y]? with
  | some o,J p=> !Xw y (Jc o)&&(Xw x (anc.getD y []) || (UB o.op&&bJ ops o p&& !Xw y (anc.getD x [])))
  | _,_=>U

def eH (ops:C R)(anc:C (C E)):C E->I
 | []=>Z
 | x::b=>b.all (fun y=> !x.beq y&&HE ops anc x y)&&eH ops anc b
def ra (ops:C R):I:=
 let n:=ops.length
 let l:=ord ops
 l.length.beq n&&(Yi n).all (fun i=>Xw i l)&&l.all (fun i=>E.blt i n)&&eH ops (UD ops) l&&
  (Yi n).all fun i=>match ops[i]? with | some o=>(Jc o).all (fun p=>E.blt p i) | none=>U
def rdX (T:Qd)(ops:C R)(i:E):I:=match ops[i]? with | some o=>TK T o.op | none=>U
def J2 (T:Qd)(ops:C R)(anc:C (C E))(i j:E)(F G:C E):I:=
 (rdr ops i&&rdr ops j) || (rdr ops i&&rdX T ops j) || (rdX T ops i&&rdr ops j) || Xw j (anc.getD i []) || Xw i (anc.getD j []) || TL G F
def VX (T:Qd)(ops:C R)(anc:C (C E)):C E->C (E×C E)->St->(St->Prop)->Prop
 | [],_,σ,K=>K σ
 | i::c,b,σ,K=>match ops[i]? with
  | some o=>bif b.all (fun p=>J2 T ops anc i p.1 (gOf o σ.T) p.2)then opX T ops i o σ fun e=>VX T ops anc c ((i,gOf o σ.T)::b) e K else B
  | none=>B
theorem QPu {a b:C E}:TL a b=TL b a:=by
 rw[I.eq_iff_iff,UC,UC];exact⟨fun h k e c=>h k c e,fun h k e c=>h k c e⟩
variable{anc:C (C E)}
theorem QIX{i j:E}:J2 T ops anc i j F G=J2 T ops anc j i G F:=by
 unfold J2;rw[QPu (a:=G)];cases Xw j (anc.getD i [])<;>cases Xw i (anc.getD j [])<;>cases rdr ops i<;>cases rdr ops j<;>cases rdX T ops i<;>cases rdX T ops j<;>simp
theorem QZE {e:Type}{l c:C e}{p:e->I}(h: ∀x,x∈l↔x∈c):l.all p=c.all p:=by
 rw[I.eq_iff_iff,Ze,Ze];exact⟨fun k x b=>k x ((h x).2 b),fun k x b=>k x ((h x).1 b)⟩
theorem QSi: ∀(l:C E) {c b:C (E×C E)} {σ:St},(∀x,x∈c↔x∈b)->VX T ops anc l c σ K=VX T ops anc l b σ K:=by
 intro l;induction l with
 | nil=>intros;rfl
 | cons i e f=>
  intro c b σ h;simp only[VX];cases ops[i]? with
  | none=>rfl
  | some o=>
   simp only;rw[QZE h];congr 2;funext g;exact f fun x=>by simp[h]
theorem QPv{b:C E}{e:C (E×C E)}(g:HE ops anc j i=Z)(hn:Xw j (anc.getD i [])=U)
  (h:VX T ops anc (j::i::b) e σ K):VX T ops anc (i::j::b) e σ K:=by
 unfold HE at g;split at g
 ·rename_i o p ho y;rw[hn]at g;simp only[I.false_or,Za,Zs]at g;obtain⟨_,⟨s,m⟩,S⟩:=g;simp only[VX,ho,y]at h⊢;cases R:e.all (fun q=>J2 T ops anc j q.1 (gOf o σ.T) q.2)with
  | false=>rw[R]at h;exact h.elim
  | true=>
   rw[R]at h;simp only[R7]at h;rw[H4 s]at h;obtain⟨v,H1,hr,hv⟩:=dV s h;have c:=(hv _).1 h;obtain⟨a1,a2,a3⟩:=sY m;have e1:=VC (ops:=ops) (o:=p) (T0:=σ.T) (v:=v) a1;have hg:gOf p (JR σ.T o.dst v)=gOf p σ.T:=by unfold gOf;rw[<-H3 e1.1]
   rw[show gOf p (app o (gOf o σ.T) v H1 σ).T=gOf p σ.T from hg]at c;simp only[C.all_cons]at c;cases hc:J2 T ops anc i j (gOf p σ.T) (gOf o σ.T)with
   | false=>rw[hc]at c;exact c.elim
   | true=>
    rw[hc]at c;simp only[I.true_and]at c;cases u:e.all (fun q=>J2 T ops anc i q.1 (gOf p σ.T) q.2)with
    | false=>rw[u]at c;exact c.elim
    | true=>
     rw[u]at c;simp only[R7]at c;have B:(Q5 o.op=Z/\(Q5 p.op=Z\/TK T p.op=Z))\/TL (gOf o σ.T) (gOf p σ.T)=Z:=by
      unfold J2 at hc;rw[hn,S]at hc;simp only[I.or_false,I.or_eq_true,Za,rdr,rdX,ho,y]at hc;rcases hc with((hc | hc) | hc) | hc
      ·exact .inl ⟨hc.2,.inl hc.1⟩
      ·rw[QIW s]at hc;cases hc.2
      ·exact .inl ⟨hc.2,.inr hc.1⟩
      ·exact .inr hc
     -- the two steps alone
     have f:opX T ops j o σ fun X=>opX T ops i p X fun σ2=>VX T ops anc b ((i,gOf p σ.T)::(j,gOf o σ.T)::e) σ2 K:=by rw[H4 s];exact(hv _).2 c
     have V:=QSh s m B f;-- what is asked of it
     simp only[R7];refine Eq.mp ?_ V
     unfold opX;refine aH (i:=i) ⟨fun _ _=>rfl,fun _ _=>rfl,fun _ _=>rfl⟩ ?_
     intro W A jk;refine vN ?_
     have e2:=VC (ops:=ops) (o:=o) (T0:=σ.T) (v:=W) a3;have L:gOf o (JR σ.T p.dst W)=gOf o σ.T:=by unfold gOf;rw[<-H3 e2.1]
     rw[show gOf o (app p (gOf p σ.T) W A σ).T=gOf o σ.T from L];simp only[C.all_cons];rw[QIX,hc,R];simp only[I.true_and,R7];refine aH (i:=j) ⟨fun _ _=>rfl,fun _ _=>rfl,fun _ _=>rfl⟩ ?_
     intro v2 H2 _;refine vN ?_
     exact QSi b fun x=>by simp only[Zl];constructor<;>(rintro(h | h | h)<;>simp[h])
 ·cases g
theorem QKr: ∀(f:C E) {s:C E} {b:C (E×C E)} {σ:St},(∀j∈f,HE ops anc j i=Z/\Xw j (anc.getD i [])=U)->
  VX T ops anc (f++i::s) b σ K->VX T ops anc (i::(f++s)) b σ K:=by
 intro f;induction f with
 | nil=>intro s b σ _ h;exact h
 | cons j f L=>
  intro s b σ y h;have c:=y j o6;refine QPv c.1 c.2 ?_
  have m: ∃o,ops[j]? =J o/\UB o.op=Z:=by
   have e:=c.1;unfold HE at e;split at e
   ·rename_i o p u B;rw[c.2]at e;simp only[I.false_or,Za]at e;exact⟨o,u,e.2.1.1⟩
   ·cases e
  obtain⟨o,u,x⟩:=m;rw[C.cons_append]at h;rw[VX]at h⊢;simp only[u]at h⊢;cases g:b.all (fun q=>J2 T ops anc j q.1 (gOf o σ.T) q.2)with
  | false=>rw[g]at h;exact h.elim
  | true=>
   rw[g]at h;simp only[R7]at h⊢;rw[H4 x]at h⊢;obtain⟨v,H1,_,A⟩:=dV x h;exact(A _).2 (L (fun j c=>y j (by simp[c])) ((A _).1 h))
theorem QSj {D:E->Prop}(I: ∀i o,D i->ops[i]? =J o-> ∀p∈Jc o,D p):
    ∀(os:C R) (b:C (C E)),(∀k o,os[k]? =J o->ops[Sj b+k]? =J o)->(∀k o,k<Sj b->ops[k]? =J o->(∀p∈Jc o,D p)-> ∀q∈b.getD k [],D q)->
    (∀k o,k<Sj b->ops[k]? =J o-> ∀p∈Jc o,p<k)->(∀k o,ops[k]? =J o-> ∀p∈Jc o,p<k)->
    ∀k o,k<Sj b+Sj os->ops[k]? =J o->(∀p∈Jc o,D p)-> ∀q∈(dt os b).getD k [],D q:=by
  intro os;induction os with
  | nil=>intro b _ h _ _ k o s;exact h k o ((j9 s))
  | cons o os L=>
    intro b B h W y;rw[dt];intro S V v;refine L (b++[_]) (fun k o' s=> ?_) (fun k o' s c g=> ?_) (fun k o' _ c=>y k o' c) y S V (by simp at v|-;omega)
    · have:=B (k+1) o' ((j9 s));simp only[C.length_append,C.length_singleton];rw[E.add_assoc,E.add_comm 1 k];exact this
    · by_cases e:k<b.length
      · rw[Zm,C.getElem?_append_left e,<-Zm];exact h k o' e c g
      · have x:k=Sj b:=by simp at s;omega
        subst x;have:o'=o:=by have:=B 0 o rfl;rw[E.add_zero]at this;rw[c]at this;cases this;rfl
        subst this;intro q u;rw[Zm,C.getElem?_append_right (Zx _),E.sub_self]at u;simp only[C.getElem?_cons_zero,A.getD_some,C.mem_eraseDups,Yg,Zl]at u;obtain⟨p,m,rfl | u⟩:=u
        · exact g _ m
        · have e:=y _ _ c p m;have f: ∃op,ops[p]? =J op:=by
            have:b.length<Sj ops:=(Zk.1 c).1;exact⟨_,Zv o3⟩
          obtain⟨op,f⟩:=f;exact h p op e f (I p op (g _ m) f) q u

end Go.Eng
namespace Go.Eng
open Go Go.RowKit
variable {P:hZ}{w0:S}{M:Ctx}{N:E}{T:Qd}{ops:C R}
theorem QKs {anc:C (C E)}: ∀{l:C E},eH ops anc l=Z->l.Pairwise fun x y=>x≠y/\HE ops anc x y=Z:=by
 intro l;induction l with
 | nil=>exact fun _=> .nil
 | cons x c f=>
  intro h;simp only[eH,Za,Ze,Zs]at h;refine .cons (fun y b=>⟨fun e=> ?_,(h.1 y b).2⟩) (f h.2);have:=(h.1 y b).1;subst e;simp at this
structure QSk (ops:C Oper):Prop where
 len:(ord ops).length=ops.length
 all: ∀i,i<Sj ops->i∈ord ops
 zm: ∀i∈ord ops,i<ops.length
 pairs:(ord ops).Pairwise fun x y=>x≠y/\HE ops (UD ops) x y=Z
 lt: ∀k o,ops[k]? =J o-> ∀p∈Jc o,p<k
theorem QPw (h:ra ops=Z):QSk ops:=by
 simp only[ra,Za,Ze,C.mem_range]at h;obtain⟨⟨⟨⟨f,g⟩,s⟩,m⟩,q⟩:=h;refine⟨Zb f,fun i b=>XR.1 (g i b),fun i b=>Zp (s i b),QKs m,fun k o e p u=> ?_⟩;have c:k<Sj ops:=(Zk.1 e).1;have:=q k c;rw[e]at this;simp only[Ze]at this;exact Zp (this p u)
theorem QPx {o:R}{e:Edge}(b:e∈o.after)(h:Region.binds .any e=Z):e.on∈Jc o:=by
 unfold Jc;exact Yb.2 ⟨e,(j9 b),by simp[h]⟩
theorem QPy {o:R}{p:E}(h:p∈Jc o): ∃e∈o.after,Region.binds .any e=Z/\e.on=p:=by
 unfold Jc at h;obtain⟨e,c,h⟩:=Yb.1 h;cases b:Region.binds .any e with
 | false=>simp[b]at h
 | true=>simp[b]at h;exact⟨e,(j9 c),b,h⟩
theorem QPz (hT:XC P M.g M.zb T)(jy:ops.all (WU N)=Z)(hd:QSk ops){K:St->Prop}{Q:Exit->jb->S->Prop}{ws:S}{r:A E}{n:E}(hQ: ∀a w,V8 w0 M N ws K a w->Q .normal a w):
  ∀(fuel:E) (L:C E) (m:C (E×C E)) (f:c I) {ρ:Env} {σ:St} {a:jb} {w:S},Sj L<=fuel->f.size=Sj ops->
   (L.Pairwise fun x y=>x≠y/\HE ops (UD ops) x y=Z)->(∀k∈L,k<Sj ops/\f.getD k Z=U)->(∀k,k<Sj ops->k∉L->f.getD k U=Z)->
   (∀i o,f.getD i U=Z->ops[i]? =J o-> ∀p∈Jc o,f.getD p U=Z)->
   NC ws w->Sim w0 M N ρ σ a w->VX T ops (UD ops) L m σ K->wpAnyIn (FR r) n P .any ops.toArray Q fuel f a w:=by
 have V: ∀{f:c I} {k:E},f.getD k Z=U->f.getD k U=Z->B:=fun {f k} h1 h2=>by
  rw[Zc]at h1 h2;cases he:f[k]? with
  | none=>rw[he]at h1;cases h1
  | some b=>rw[he]at h1 h2;simp at h1 h2;rw[h1]at h2;cases h2
 have jl: ∀{f:c I} {L:C E},(∀k,k<Sj ops->k∉L->f.getD k U=Z)-> ∀i∈Region.ready .any ops.toArray f,i∈L/\ ∃o,ops[i]? =J o/\ ∀p∈Jc o,f.getD p U=Z:=by
  intro f L g i hi;obtain⟨h0,o,u,jt⟩:=mem_ready.1 hi;rw[Zr]at u;refine⟨Classical.byContradiction fun X=>V h0 (g i (Zk.1 u).1 X),o,u,fun p v=> ?_⟩;obtain⟨e,he,hb,rfl⟩:=QPy v;exact jt e he hb
 have done: ∀{f:c I} {L:C E} {m:C (E×C E)} {ρ:Env} {σ:St} {a:jb} {w:S},(L.Pairwise fun x y=>x≠y/\HE ops (UD ops) x y=Z)->(∀k∈L,k<Sj ops/\f.getD k Z=U)->(∀k,k<Sj ops->k∉L->f.getD k U=Z)->
   NC ws w->Sim w0 M N ρ σ a w->VX T ops (UD ops) L m σ K->Region.ready .any ops.toArray f=[]->Q .normal a w:=by
  intro f L m ρ σ a w v s g X hs h hr;cases L with
  | nil=>exact hQ _ _ ⟨ρ,σ,hs,h,X⟩
  | cons x jJ=>
   exfalso;have hx:=s x o6;have:x∈Region.ready .any ops.toArray f:=by
    refine mem_ready.2 ⟨hx.2,ops[x],by simp[hx.1],fun e he hb=> ?_⟩;have jz:ops[x]? =J ops[x]:=Zv hx.1
    have jB:=QPx he hb;have jK:=hd.lt x _ jz _ jB;refine g _ o3 fun jw=> ?_
    rcases Zl.1 jw with h' | h'
    ·omega
    ·have:=((C.pairwise_cons.1 v).1 _ h').2;unfold HE at this;split at this
     ·rename_i o p u _;rw[jz]at u;cases u
      rw[XR.2 jB]at this;simp at this
     ·cases this
   rw[hr]at this;cases this
 intro fuel;induction fuel with
 | zero=>
  intro L m f ρ σ a w hl jr v s g jm X hs h;have hr:Region.ready .any ops.toArray f=[]:=by
   cases jH:Region.ready .any ops.toArray f with
   | nil=>rfl
   | cons i t=>
    have:=(jl g i (by rw[jH];simp)).1;have hL:L=[]:=Zn o3;rw[hL]at this;cases this
  exact⟨hr,done v s g X hs h hr⟩
 | succ fuel ih=>
  intro L m f ρ σ a w hl jr v s g jm X hs h;refine⟨done v s g X hs h,fun i hi=> ?_⟩;obtain⟨jD,o,u,jk⟩:=jl g i hi;obtain⟨l1,l2,rfl⟩:=C.append_of_mem jD;have q:VX T ops (UD ops) (i::(l1++l2)) m σ K:=by
   refine QKr l1 (fun j hj=>⟨?_,?_⟩) h
   ·rw[C.pairwise_append]at v;exact(v.2.2 j hj i o6).2
   ·cases hm:Xw j ((UD ops).getD i [])with
    | false=>rfl
    | true=>
     have jC:=QSj (ops:=ops) (D:=fun k=>f.getD k U=Z) jm ops [] o6 o6 o6 hd.lt i o (by simpa using(Zk.1 u).1) u jk j (XR.1 hm);exact(V (s j (by simp[hj])).2 jC).elim
  rw[VX]at q;simp only[u]at q;cases ju:m.all (fun p=>J2 T ops (UD ops) i p.1 (gOf o σ.T) p.2)with
  | false=>rw[ju]at q;exact q.elim
  | true=>
   rw[ju]at q;simp only[R7]at q;have jG:WU N o=Z:=by
    rw[Ze]at jy;exact jy o (Zt u)
   refine ji ?_ (G8 hT hs u jG q X (Q:=Q))
   rintro a' w' ⟨ρ',jL,jI,h',jE⟩;have jx:i∉l1++l2:=by
    rw[C.pairwise_append,C.pairwise_cons]at v;intro hm;rcases Zj.1 hm with h | h
    ·exact(v.2.2 i h i o6).1 rfl
    ·exact(v.2.1.1 i h).1 rfl
   have jv:i<f.size:=by rw[jr];exact(Zk.1 u).1
   have jq:(f.setIfInBounds i Z).getD i U=Z:=by simp[jv]
   refine ih (l1++l2) _ _ (by simp at hl|-;omega) ((j9 jr)) (v.sublist o6) (fun k W=> ?_) (fun k W jn=> ?_) (fun k ok W R p jA=> ?_) jE jI (QSg h')
   ·have jF:i≠k:=fun e=>jx (e▸W);have:=s k (by simp at W|-;rcases W with h | h<;>simp[h]);exact⟨this.1,by rw[getD_set_ne Z jF];exact this.2⟩
   ·by_cases e:i=k
    ·subst e;exact jq
    ·exact jj (g k W (by simp at jn|-;exact⟨jn.1,fun h=>e h.symm,jn.2⟩))
   ·by_cases e:i=k
    ·subst e;rw[u]at R;cases R
     exact jj (jk p jA)
    ·rw[getD_set_ne U e]at W;exact jj (jm k ok W R p jA)
def aL (T:Qd)(ops:C R)(b:I)(σ:St)(K:St->Prop):Prop:=
  bif b then VX T ops (UD ops) (ord ops) [] σ K else aT T ops Wr (Yi ops.length) σ K

def UE (N:E)(ops:C R)(b:I):I:=ops.all (WU N)&&(bif b then ra ops else Z)
theorem vb {r:A E}(y:XC P M.g M.zb T)(L:P.follows .mixedOrders=Z):sL P w0 M N r (UE N) (fun _=>aL T):=by
 intro W ops e b X ρ σ a w ws K n V B c h x;simp only[UE,Za]at b;cases e with
 | false=>
  simp only[aL,R8]at h;refine wpIn_region ?_
  simpa using QKi y b.1 x _ B c h
 | true=>
  simp only[aL,R7]at h b;have f:=QPw b.2;refine wpIn_region_any L ?_
  obtain⟨S,I⟩:=c.hs.same (w':={w with drawn:=w.drawn+1}) rfl rfl rfl rfl;have v:Sim w0 M N ρ σ a {w with drawn:=w.drawn+1}:=⟨c.size,c.dfr,c.dfn,c.zg,fun t=>I.conc (c.tmps t),fun p R t=>I.conc (c.zk p R t),S⟩;have g: ∀k,k<Sj ops->(Ya ops.length U).getD k Z=U:=fun k m=>by simp[m]
  refine QPz y b.1 f x _ (ord ops) [] _ (by simp[f.len]) o6 f.pairs (fun k m=> ?_) (fun k m u=>je (f.all k m) u) (fun i o s=> ?_) B v h
  ·have q:k<Sj ops:=f.zm k m;exact⟨q,by simpa using g k q⟩
  ·exfalso;rw[Zc]at s;simp only[C.size_toArray,Zw]at s;split at s<;>simp at s
end Go.Eng
namespace Go.Eng
open Go Go.RowKit
variable {P:hZ}{w0:S}{M:Ctx}{N:E}{ρ:Env}{H:HP}{σ:St}{a:jb}{w:S}
def VY:Obj->I
 | .cells .. =>Z
 | _=>U
variable{r:E}{o o':Obj}
theorem UF {w:S}(h:w.heap[r]? =J o)(g:VY o=U)(f:VY o'=U)(b i:E):(w.putObj r o').cell? ⟨b,i,z⟩=w.cell? ⟨b,i,z⟩:=by
 by_cases e:b=r
 ·subst e;have c:=(Zf.1 h).1;simp only[S.cell?,World.putObj_heap_same c,h];cases o<;>cases o'<;>first | rfl | (simp[VY]at g f)
 ·simp only[S.cell?,World.putObj_heap_other e]
variable{O:E->Prop}{w':S}
theorem K8.cells{b o sz:E}{xs:C (C Ch)}{f:E->C X}(e: ∀b i,w'.cell? ⟨b,i,z⟩=w.cell? ⟨b,i,z⟩)(m:w.heap.size<=w'.heap.size)(h:K8 w O b o sz xs f):K8 w' O b o sz xs f:=
 ⟨Zg h.lt m,h.free,fun i x c=>⟨(h.cell i x c).1,fun j g=>by rw[e];exact(h.cell i x c).2 j g⟩⟩
theorem CC.cells'{ρ:Env}(x: ∀b i,w'.cell? ⟨b,i,z⟩=w.cell? ⟨b,i,z⟩)(A:w.heap.size<=w'.heap.size){cs:C Ch}{vs:C X}(h:CC w O ρ cs vs):CC w' O ρ cs vs:=by
 induction h with
 | nil=>exact .nil
 | v a _ g=>exact .v a g
 | r a _ g=>exact .r a g
 | b a _ g=>exact .b a g
 | s0 _ g=>exact .s0 g
 | s00 _ g=>exact .s00 g
 | s a _ c _ q g=>exact .s (a.cells x A) q c g
 | p a b _ g=>exact .p a b g
 | w a b c d e _ g=>exact .w a b c d e g
 | w0 a b _ g=>exact .w0 a b g
 | w00 a _ g=>exact .w00 a g
 | e a b _ g=>exact .e a b g
 | y a _ _ q g=>exact .y (a.cells x A) q g
 | f a _ g=>exact .f a g
 | i _ b _ q g=>exact .i q b g
 | m a b _ g=>exact .m a b g
 | yl a b _ g=>exact .yl a b g
 | u a _ g=>exact .u a g
theorem ConcV.cells'(g: ∀b i,w'.cell? ⟨b,i,z⟩=w.cell? ⟨b,i,z⟩)(m:w.heap.size<=w'.heap.size){av:AV}{v:X}(h:ConcV w O ρ av v):ConcV w' O ρ av v:=by
 cases av with
 | x b cs=>obtain⟨c,f,e⟩:=h;exact⟨c,f.cells' g m,e⟩
 | t l=>
  obtain⟨vs,f,e⟩:=h;refine⟨vs,?_,e⟩;clear e;induction f with
  | nil=>exact .nil
  | cons q _ s=>obtain⟨c,y,A⟩:=q;exact .cons ⟨c,y.cells' g m,A⟩ s
 | n=>exact h
 | u=>trivial
theorem HS.putNC (q:HS w0 M ρ H w)(h:w.heap[r]? =J o)(ho:VY o=U)(E:VY o'=U)(y: ¬own ρ H r)(hw:w0.heap.size<=r):HS w0 M ρ H (w.putObj r o'):=by
  have I:=UF h ho E;have S:w.heap.size<=(w.putObj r o').heap.size:=by rw[World.putObj_size];exact Zx _
  refine⟨q.os,q.tape,q.output,by rw[World.putObj_size];exact q.size,q.zi,fun b hb hm=> ?_,fun k b L R=> ?_,q.zq,fun k bd a b c=>by rw[World.putObj_size];exact q.zh k bd a b c,q.ze⟩
  · rw[World.putObj_heap_other o3];exact q.zj b hb hm
  · obtain⟨bd,e,B⟩:=q.zc k b L R;refine⟨bd,e,?_⟩;have u:bd.isNil=U->bd.zc≠r:=fun hn he=>y (he▸⟨k,bd,e,hn,rfl,by rw[L];exact R⟩);cases b with
    | box t cs=>
      obtain⟨g,A,v,m⟩:=B;exact⟨g,A,by rw[World.putObj_heap_other (u g)];exact v,m.cells' I S⟩
    | row t sz xs=>
      obtain⟨g,v,m | ⟨m,C,X,h5,h6,h7⟩⟩:=B
      · exact⟨g,v,.inl m⟩
      · exact⟨g,v,.inr ⟨m,C,by rw[World.putObj_heap_other (u m)];exact X,h5,h6,fun i x hx=>(h7 i x hx).cells' I S⟩⟩
    | lp s=>obtain⟨g,r',v,m⟩:=B;exact⟨g,r',by rw[World.putObj_heap_other (u g)];exact v,m⟩
    | mp f=>obtain⟨g,W,V,v,m⟩:=B;exact⟨g,W,V,by rw[World.putObj_heap_other (u g)];exact v,m⟩
    | dead=>trivial

theorem Sim.putNC (h:Sim w0 M N ρ σ a w)(q:w.heap[r]? =J o)(m:VY o=U)(b:VY o'=U)(c: ¬own ρ σ.H r)(x:w0.heap.size<=r){e:C jc}(u:Marks w0 (w.putObj r o') e)(f:M.nd=Z->e=[]):Sim w0 M N ρ σ {a with defers:=e} (w.putObj r o'):=by
  have g:=UF q m b;have s:w.heap.size<=(w.putObj r o').heap.size:=by rw[World.putObj_size];exact Zx _
  exact⟨h.size,u,f,h.zg,fun t=>(h.tmps t).cells' g s,fun p v t=>(h.zk p v t).cells' g s,h.hs.putNC q m b c x⟩

theorem HS.relp (h:HS w0 M ρ H w){L':E->A Loop}{p:Env}{s:C (TM×c X)}{nd:I}(m: ∀k t bd,H k=J (.lp t)->ρ k=J bd->L' bd.zc=M.zp bd.zc):HS w0 {M with zp:=L',zg:=p,zk:=s,nd:=nd} ρ H w:=by
  refine⟨h.os,h.tape,h.output,h.size,h.zi,h.zj,fun k b q B=> ?_,h.zq,h.zh,h.ze⟩;obtain⟨bd,e,g⟩:=h.zc k b q B;refine⟨bd,e,?_⟩;cases b with
  | box t cs=>exact g
  | row t L R=>exact g
  | lp t=>obtain⟨u,r,v,x,y⟩:=g;exact⟨u,r,v,x,(m k t bd q e).trans y⟩
  | mp f=>exact g
  | dead=>trivial

theorem QIY {F:Fence}{n:E}{fn:Func}{R:Ending->S->Prop}: ∀(b:C E) {a:jb} {w:S},a.defers=b.map (fun r=>({target:= .collected r,args:= #[]}:jc))->Sim w0 M N ρ σ a w->
    (∀q w',Sim w0 M N ρ σ q w'->q.tmps=a.tmps->q.defers=[]-> ∃v,(results fn a.tmps).run P w'= .ok v w'/\R (.returned v) w')->LeavesInM F n P fn a.tmps R a.defers .returning w:=by
  intro b;induction b with
  | nil=>
    intro a w c f h;rw[c];exact h a w f rfl (by rw[c];rfl)
  | cons r b ih=>
    intro a w c f h;obtain⟨m,X,e2,V⟩:=f.dfr;have B:m=r::b:=by
      have:m.map (fun r=>({target:= .collected r,args:= #[]}:jc))=(r::b).map (fun r=>({target:= .collected r,args:= #[]}:jc)):=X.symm.trans c;refine(C.map_inj_right (fun x y L=> ?_)).1 this;injection L with h1 _
      injection h1
    subst B;obtain⟨A,hw⟩:=V r o6;have g:=C.nodup_cons.1 e2;have s:Marks w0 (w.putObj r (.deferred z)) (b.map (fun r=>({target:= .collected r,args:= #[]}:jc))):=
      ⟨b,rfl,g.2,fun j W=>by
        have:=V j (by simp[W]);have u:j≠r:=fun e=>g.1 (by rw[<-e];exact W)
        exact⟨by rw[World.putObj_heap_other u];exact this.1,this.2⟩⟩
    have I:=f.putNC (o':= .deferred z) A rfl rfl (fun ho=>by have:=f.hs.own_rf ho A;cases this) hw s (fun h=>by have:=f.dfn h;rw[c]at this;cases this);rw[c];refine⟨o6,.inl ⟨r,_,rfl,run_takeDeferred A,?_⟩⟩;exact ih (a:={a with defers:=b.map (fun r=>({target:= .collected r,args:= #[]}:jc))}) rfl I h

theorem Sim.leave (c:Sim w0 M N ρ σ a w){F:Fence}{n:E}{fn:Func}{R:Ending->S->Prop}
  (h: ∀b w',Sim w0 M N ρ σ b w'->b.tmps=a.tmps->b.defers=[]-> ∃v,(results fn a.tmps).run P w'= .ok v w'/\R (.returned v) w'):LeavesInM F n P fn a.tmps R a.defers .returning w:=by
 obtain⟨f,e,_⟩:=c.dfr;exact QIY f e c h
theorem QGC (hs:Sim w0 M N ρ σ a w){ops:C R}{i:E}{o:R}(W:ops[i]? =J o){y L:Prop}(h:VV ops σ.T o y L){r:A E}{n:E}{X:jb->S->Prop}{Q:Exit->jb->S->Prop}
  (V:y->o.wpIn (FR r) n P a w X Q) (hn:L->X (a.put o.dst Lm) w):wpOpIn (FR r) n P ops.toArray Q i X a w:=by
 have skip:L->(∀f,o.about P w a.eval=J f->(FR r).fn f)/\X (a.put o.dst Lm) w:=fun h=>⟨fun _ _=>trivial,hn h⟩;unfold wpOpIn;simp only[Zr,W];unfold VV at h;split at h
 ·rename_i q;rw[if_pos (by simp[Region.wanted,q])];exact V h
 ·rename_i j s q;split at h
  ·rename_i t ht;have m:=QCM q ht a.tmps;have g:=hs.tmps t;split at h
   ·rename_i b v;rw[v]at g;have c:=(ConcX.one g).1;have B:a.tmps[t]? =J (.bool b):=by
     rw[Zc]at c;cases u:a.tmps[t]? with
     | none=>rw[u]at c;simp[Lm]at c
     | some x=>rw[u]at c;simp at c;rw[c]
    rw[B]at m;simp only at m;simp only[Region.wanted,q,m];cases e:(b==s)with
    | true=>
     rw[e]at h;rw[if_pos ((j9 e))];exact V h
    | false=>
     rw[e]at h;rw[if_neg ((j9 e))];exact skip h
   ·rename_i v;rw[v]at g;have c:a.tmps.getD t Lm=Lm:=g;have I:yielded ops.toArray a.tmps j=z:=by
     rw[m];rw[Zc]at c;cases u:a.tmps[t]? with
     | none=>rfl
     | some x=>
      rw[u]at c;simp at c;subst c;rfl
    simp only[Region.wanted,q,I];rw[if_neg o6];exact skip h
   ·exact h.elim
  ·exact h.elim
theorem CC.ids_some{cs:C Ch}{vs:C X}(h:CC w O ρ cs vs): ∀k∈Qm cs,ρ k≠z:=by
 induction h with
 | nil=>intro k hk;simp[Qm]at hk
 | p a _ _ b | w a _ _ _ _ _ b | w0 a _ _ b | w00 a _ b | e a _ _ b | m a _ _ b | yl a _ _ b=>
  intro k hk;simp only[Qm,Zl]at hk;rcases hk with rfl | hk
  ·rw[a];simp
  ·exact b k hk
 | f a _ b=>
  intro k hk;simp only[Qm,Zj]at hk;rcases hk with hk | hk
  ·obtain⟨bd,e,_⟩:=a k hk;rw[e];simp
  ·exact b k hk
 | _=>rename_i b;intro k hk;exact b k (by simpa [Qm]using hk)
theorem ConcV.ids_some{av:AV}{v:X}(h:ConcV w O ρ av v): ∀k∈Hz av,ρ k≠z:=by
 cases av with
 | x b cs=>obtain⟨c,e,_⟩:=h;exact e.ids_some
 | t l=>
  obtain⟨vs,e,f⟩:=h;clear f;induction e with
  | nil=>intro k hk;simp[Hz]at hk
  | cons g _ m=>
   obtain⟨c,q,_⟩:=g;intro k hk;simp only[Hz,Ye,Zj]at hk;rcases hk with hk | hk
   ·exact q.ids_some k hk
   ·exact m k hk
 | n=>intro k hk;simp[Hz]at hk
 | u=>intro k hk;simp[Hz]at hk
end Go.Eng
namespace Go.Eng
open Go Go.RowKit
variable {P:hZ}{w0:S}{M:Ctx}{N:E}{ρ:Env}{σ:St}{a:jb}{w:S}{T:Qd}
def ZX (k:E)(ev:At->AV)(op:Op):A (C AV):=match op with
 | .call c=>match c.callee with
  | .value f=>match ev f with
   | .x U [.yl b]=>bif b.beq k then J (c.args.toList.map ev)else z
   | _=>z
  | _=>z
 | _=>z
abbrev YD:=C E->E->C AV->HP->(HP->Prop)->(E->HP->Prop)->Prop

def KH (kt:C E)(T:TM):TM:=fun t=>bif Xw t kt then T t else .u
def bq (kt:C E)(T:TM):C E:=kt.flatMap fun t=>Hz (T t)
def aj (k:E)(kt:C E)(Y:YD)(c:E)(dst:A E)(args:C AV)(σ:St)(K:St->Prop):Prop:=
 match σ.H k with
 | some (.lp 0)=>Y (bq kt σ.T) c args σ.H
   (fun b=>K ⟨JR (KH kt σ.T) dst (JS (.bool Z)),upd b k (J (.lp 0))⟩)
   (fun s b=>K ⟨JR (KH kt σ.T) dst (JS (.bool U)),upd b k (J (.lp s))⟩)
 | _=>B
def opI (T:Qd)(k:E)(kt:C E)(Y:YD)(c:E)(ops:C R)(i:E)(o:R)(σ:St)(K:St->Prop):Prop:=
 match ZX k (evA σ.T) o.op with
 | some b=>VV ops σ.T o (aj k kt Y c o.dst b σ K) (K ⟨JR σ.T o.dst .n,σ.H⟩)
 | none=>opA T ops Wr i o σ K
def ZP (T:Qd)(k:E)(kt:C E)(Y:YD)(e:E)(ops:C R):C E->St->(St->Prop)->Prop
 | [],σ,K=>K σ
 | i::b,σ,K=>match ops[i]? with
  | some o=>opI T k kt Y e ops i o σ fun c=>ZP T k kt Y e ops b c K
  | none=>B
def ar (T:Qd)(k:E)(kt:C E)(Y:YD):RGT:=fun c ops b σ K=>
 bif b then aL T ops Z σ K else ZP T k kt Y c ops (Yi ops.length) σ K
def dT (P:hZ)(w0:S)(Mi:Ctx)(k l:E)(st:Loop)(Y:YD):Prop:=
  ∀(plI:C E) (y:E) (g:C AV) (H:HP) (x:HP->Prop) (u:E->HP->Prop),Y plI y g H x u->
    ∀(q:TM) (f v:c X) (ρ:Env) (w:S) (m:E),HS w0 Mi ρ H w->(∀j bd,Mi.zg j=J bd->ρ j=J bd)->(∀p∈Mi.zk,∀t,ConcV w (ow Mi ρ H) ρ (p.1 t) (p.2.getD t Lm))->
      (∀t,ConcV w (ow Mi ρ H) ρ (q t) (f.getD t Lm))->(∀t,∀j∈Hz (q t),j∈plI)->Qu w (ow Mi ρ H) ρ g v.toList->H k=J (.lp 0)->
      v.size=st.params.size/\RoundIn (FR z) m P l st.fn ((st.params.zip v).foldl (fun f (t,a)=>f.setIfInBounds t a) st.tmps) st.assign st.body w fun e w'=>
        ∃(ρ':Env) (h:HP) (b:I) (s:E),e= .returned (.bool b)/\HS w0 Mi ρ' (upd h k (J (.lp s))) w'/\(∀j bd,Mi.zg j=J bd->ρ' j=J bd)/\
          (∀p∈Mi.zk,∀t,ConcV w' (ow Mi ρ' (upd h k (J (.lp s)))) ρ' (p.1 t) (p.2.getD t Lm))/\(∀t,ConcV w' (ow Mi ρ' (upd h k (J (.lp s)))) ρ' (q t) (f.getD t Lm))/\NC w w'/\
          ((b=Z/\s=0/\x h)\/(b=U/\u s h))

variable{Mi:Ctx}{kt:C E}{k l:E}{bd:WM}{Y:YD}
theorem QIZ{st:Loop}(hY:dT P w0 Mi k l st Y)(W:Mi.zg k=J bd)(jn:bd.zc=l)(_hnil:bd.isNil=U)(jy:Mi.zp l=J st)
  (v:Sim w0 Mi N ρ σ a w) {ws:S} (hn:NC ws w) {μ:E} {o:R} (hd: ∀t,o.dst=J t->t<N) (ju: ∀x∈o.op.operands.toList,fB x=Z) {args:C AV} (y:ZX k (evA σ.T) o.op=J args) {K:St->Prop}
  (h:aj k kt Y μ o.dst args σ K) {n:E} {Q:Exit->jb->S->Prop}:o.wpIn (FR z) n P a w (V8 w0 Mi N ws K) Q:=by
 obtain⟨dst,op,ty,jC,jk,jd⟩:=o;cases op<;>simp only[ZX]at y
 case call g=>
  obtain⟨B,m,q⟩:=g;cases B<;>simp only at y
  case value f=>
   split at y
   ·rename_i k' hf;cases hb:k'.beq k with
    | false=>rw[hb]at y;cases y
    | true=>
     rw[hb]at y;cases y
     have:=Zb hb;subst this;have jr:ConcV w (ow Mi ρ σ.H) ρ (evA σ.T f) (a.eval f):=fU v f (ju f (by simp[Op.operands,Call.operands]));rw[hf]at jr;obtain⟨us,jq,hv⟩:=jr;simp at hv;subst hv;generalize jB:a.eval f=vf at jq;cases jq with
     | @yl _ _ jD _ _ V jF _=>
     rw[v.zg _ _ W]at V;cases V
     unfold aj at h;split at h
     ·rename_i hH;have jl:Qu w (ow Mi ρ σ.H) ρ (m.toList.map (evA σ.T)) (m.map a.eval).toList:=by
       rw[Yh];exact W7 m.toList (fun x hx=>fU v x (ju x (by simp[Op.operands,Call.operands];exact .inr ((j9 hx)))))
      have jm: ∀t,ConcV w (ow Mi ρ σ.H) ρ (KH kt σ.T t) (a.tmps.getD t Lm):=by
       intro t;unfold KH;cases Xw t kt
       ·trivial
       ·exact v.tmps t
      have jt: ∀t,∀j∈Hz (KH kt σ.T t),j∈bq kt σ.T:=by
       intro t j hj;unfold KH at hj;cases hm:Xw t kt with
       | false=>rw[hm]at hj;simp[Hz]at hj
       | true=>rw[hm]at hj;exact Yg.2 ⟨t,XR.1 hm,hj⟩
      obtain⟨jA,I⟩:=hY _ _ _ _ _ _ h (KH kt σ.T) a.tmps (m.map a.eval) ρ w (n-1) v.hs v.zg v.zk jm jt jl hH;obtain⟨jE,e2,hB⟩:=v.hs.zc _ _ hH rfl;rw[v.zg _ _ W]at e2;cases e2
      obtain⟨_,jG,X,_,u⟩:=hB;rw[jn]at X u;rw[jy]at u;have u:=A.some.inj u;have jv:(L a.eval ⟨dst,.call ⟨.value f,m,q⟩,ty,jC,jk,jd⟩).run P w= .ok (.round l st.fn ((st.params.zip (m.map a.eval)).foldl (fun jx (t,a)=>jx.setIfInBounds t a) st.tmps) st.assign st.body) w:=by
       have jz:=run_yield (P:=P) (args:=m.map a.eval) X (by rw[jA,u];rfl);rw[u];simp only[L,ja,jB,jn,Deferred.ofValue,jf,Sem.run_bind,Sem.run_pure,Zd,c.empty_append];exact jz
      unfold Oper.wpIn;refine⟨fun _ _=>trivial,?_⟩;rw[Oper.semAt_eq _ _ _ (by intro g hc;cases hc),jv];refine⟨fun h=>(by cases h),I.mono ?_⟩;rintro e w' ⟨ρ',H',b,s,rfl,k1,k2,k3,k4,k5,k6⟩;have done: ∀b,K ⟨JR (KH kt σ.T) dst (JS (.bool b)),upd H' k' (J (.lp s))⟩->V8 w0 Mi N ws K (a.put dst (.bool b)) w':=fun b V=>by
       have jw:Sim w0 Mi N ρ' ⟨KH kt σ.T,upd H' k' (J (.lp s))⟩ a w':=⟨v.size,v.dfr.nc k5,v.dfn,k2,k4,k3,k1⟩;exact⟨ρ',_,jw.put jw.hs (.refl _ _ _) hd (Qg rfl),V,hn.trans k5⟩
      rcases k6 with⟨rfl,rfl,V⟩ | ⟨rfl,V⟩
      ·exact done Z V
      ·exact done U V
     ·exact h.elim
   ·cases y
  all_goals cases y
 all_goals cases y
theorem QKu(hT:XC P Mi.g Mi.zb T){st:Loop}(hY:dT P w0 Mi k l st Y)(u:Mi.zg k=J bd)(y:bd.zc=l)(q:bd.isNil=U)(A:Mi.zp l=J st)
  {ops:C R} (s:ops.all (WU N)=Z) {V:E} {K:St->Prop} {Q:Exit->jb->S->Prop} {ws:S} {n:E} (hQ: ∀a w,V8 w0 Mi N ws K a w->Q .normal a w):
  ∀(l:C E) {ρ:Env} {σ:St} {a:jb} {w:S},NC ws w->Sim w0 Mi N ρ σ a w->ZP T k kt Y V ops l σ K->wpOpsIn (FR z) n P ops.toArray Q l a w:=by
 intro l;induction l with
 | nil=>intro ρ σ a w m e h;exact hQ _ _ ⟨ρ,σ,e,h,m⟩
 | cons i v L=>
  intro ρ σ a w m e h;rw[wpOpsIn_cons];simp only[ZP]at h;split at h
  ·rename_i o B;have b:WU N o=Z:=by
    rw[Ze]at s;exact s o (Zt B)
   unfold opI at h;split at h
   ·rename_i I hy;refine ji ?_ (QGC (Q:=Q) (X:=V8 w0 Mi N ws (fun g=>ZP T k kt Y V ops v g K)) e B h (fun h=>QIZ hY u y q A e m (VW b) (vZ b) hy h) (fun h=>⟨ρ,_,e.put e.hs (.refl _ _ _) (VW b) (av:= .n) rfl,h,m⟩))
    rintro W w' ⟨ρ',g,f,x,c⟩;exact L c f x
   ·refine ji ?_ (G8 hT e B b h m (Q:=Q))
    rintro W w' ⟨ρ',g,f,x,c⟩;exact L c f x
  ·exact h.elim
theorem QKv(s:XC P Mi.g Mi.zb T)(y:P.follows .mixedOrders=Z){st:Loop}(hY:dT P w0 Mi k l st Y)(f:Mi.zg k=J bd)(g:bd.zc=l)(e:bd.isNil=U)(m:Mi.zp l=J st):
  sL P w0 Mi N z (UE N) (ar T k kt Y):=by
 intro A ops c b B ρ σ a w ws K n x u v h q;cases c with
 | true=>exact vb s y A ops Z b B ρ σ a w ws K n x u v h q
 | false=>
  simp only[UE,Za]at b;simp only[ar,R8]at h;refine wpIn_region ?_
  simpa using QKu s hY f g e m b.1 q _ u v h
end Go.Eng
namespace Go.Eng
open Go Go.RowKit
variable {P:hZ}{w0:S}{M:Ctx}{N:E}{ρ:Env}{H:HP}{σ:St}{a:jb}{w:S}{T:Qd}
def cS (b:C AV):TM:=fun t=>b.getD t .n
variable{O:E->Prop}
theorem Qu.len {w:S}{ρ:Env}{b:C AV}{vs:C X}(h:Qu w O ρ b vs):b.length=Sj vs:=by
 induction h with
 | nil=>rfl
 | cons _ _ c=>simp[c]
theorem Un {w:S}{ρ:Env}{e:C AV}{vs:C X}(h:Qu w O ρ e vs)(n t:E):ConcV w O ρ (cS e t) ((vs.toArray++Ya n Lm).getD t Lm):=by
  have f:(vs.toArray++Ya n Lm).getD t Lm=vs.getD t Lm:=by
    simp only[Zc,Zm];rw[c.getElem?_append];split
    · simp
    · rename_i b;have:vs[t]? =z:=by simp at b|-;omega
      rw[this,Zw];split<;>rfl
  rw[f];unfold cS;induction h generalizing t with
  | nil=>cases t<;>exact rfl
  | cons g _ m=>
    cases t with
    | zero=>exact g
    | succ t=>simpa using m t (by
        simp only[Zc,Zm];rw[c.getElem?_append];split
        · simp
        · rename_i v _ b;have:v[t]? =z:=by simp at b|-;omega
          rw[this,Zw]
          split<;>rfl)


def Xq (fn:Func):jg:=match fn.body with | some c=>c | none=> .skip
def U8 (fn:Func):I:= !(fn.name== "runtime.NumGoroutine")&&fn.body.isSome&&J0 (UE fn.ntmps) (Xq fn)
variable{fn:Func}
theorem Qf {f:E}(g:P.funcs[f]? =J fn)(h:U8 fn=Z):G5 P f:=by
 intro b w;simp only[U8,Za,Zs,beq_eq_false_iff_ne]at h;obtain⟨c,e⟩:=Yf.1 h.1.2;simp[callFunc,g,e,h.1.1]
def UG:E->C AV->C (E×AV)
 | _,[]=>[]
 | n,a::b=>(n,a)::UG (n+1) b
theorem VZ (b:C AV): ∀n t,Ql (UG n b) t= .u\/(n<=t/\Ql (UG n b) t=b.getD (t-n) .n):=by
 induction b with
 | nil=>intro n t;exact .inl rfl
 | cons a b f=>
  intro n t;simp only[UG,Ql];cases e:t.beq n with
  | true=>have:=Zb e;subst this;exact .inr ⟨Zx _,o6⟩
  | false=>
   rcases f (n+1) t with h | ⟨g,c⟩
   ·exact .inl h
   ·refine .inr ⟨o3,?_⟩;show Ql (UG (n+1) b) t=_
    rw[c,(o3:t-n=(t-(n+1))+1)];rfl
abbrev OT:=E->C E×C (C E)

def Ka (O:OT):jg->I
 | .region f ops e=>bif e then decide (O f=(ord ops.toList,UD ops.toList))else Z
 | .seq a b=>Ka O a&&Ka O b
 | .cond _ a b=>Ka O a&&Ka O b
 | .block _ c=>Ka O c
 | .loop c=>Ka O c
 | .rangeFunc _ _ a b=>Ka O a&&Ka O b
 | _=>Z
def ZN (T:TM):C E->C AV->TM
  | p::c,a::b=>ZN (upd T p a) c b
  | _,_=>T
def Qkp (l:C (E×AV)):C E:=l.flatMap fun p=>Hz p.2
def aA (wa wb:WF)(pl:C E)(ps:C E)(Tc:TM)(k:E):YD:=fun plI g b H h f=>
 bif b.length.beq ps.length then
  wa (plI++pl) (J k) g ⟨ZN Tc ps b,H⟩ fun e c=>match e with
   | .n=>(match c.H k with
    | some (.lp 0)=>wb (plI++pl) (J k) g ⟨c.T,upd c.H k (J (.lp 1))⟩ fun e σ2=>(match σ2.H k with
     | some (.lp 1)=>(match e with
      | .n=>h σ2.H
      | .r=>f 2 σ2.H
      | .x i=>f (i+3) σ2.H)
     | _=>B)
    | _=>B)
   | _=>B
 else B
def rfN:RFT:=fun _ _ _ _ _ _ _ _ _ _=>B
def ab (fn:Func):I:=U8 fn&&fn.results.toList.isEmpty
def roA (c:A E)(H:HP)(p:Prop):Prop:=match c with
 | none=>p
 | some b=>match H b with
  | some (.lp 1)=>p
  | _=>B
def bz (k:E)(s:SL)(Q:QQ):QQ:=fun e b=>match e with
 | .x _=>B
 | _=>match b.H k with
  | some (.lp 0)=>Q .n ⟨Ql s.T,upd b.H k (J .dead)⟩
  | some (.lp 2)=>Q .r ⟨Ql s.T,upd b.H k (J .dead)⟩
  | some (.lp (i+3))=>Q (.x i) ⟨Ql s.T,upd b.H k (J .dead)⟩
  | _=>B
def plI (k:E)(pl:C E)(s:SL):C E:=k::(pl++Qkp s.T)
def UH (k:E)(ks:C E):C AV:= .x U [.yl k]::ks.map fun j=> .x U [.p j 0]
def rfC (T:Qd)(k:E)(kt:C E)(L:LI)(ps:C E)(wa wb:WF)(pl:C E)(b:E)(s:SL)(Q:QQ)(f:E)(ks:C E):Prop:=
 match T.it f,QO s.H k with
 | some (fn,O),z=>bif(ab fn&&E.ble (Sj ks+1) fn.ntmps)&&Ka O (Xq fn)then
   wpG (ar T k kt (aA wa wb (plI k pl s) ps (Ql s.T) k)) L rfN (Xq fn) (plI k pl s) z b
    ⟨Ql (UG 0 (UH k ks)),upd (QO s.H) k (J (.lp 0))⟩ (bz k s Q)
  else B
 | _,_=>B
def rfB (T:Qd)(k:E)(kt:C E)(L:LI)(f:At)(ps:C E)(wa wb:WF)(pl:C E)(e:A E)(g:E)(s:SL)(Q:QQ):Prop:=
 roA e (QO s.H)<| match f with
  | .tmp t=>(match Ql s.T t with
   | .x U [.f b c]=>rfC T k kt L ps wa wb pl g s Q b c
   | _=>B)
  | _=>B
def rfA (T:Qd):RFT:=fun e f g m q b h c σ Q=>match e with
 | .it I K k kt L=>(∃x,(I.φ x/\I.t x=c)/\JP b (Sy K σ) (I.S x))/\ ∀x,I.φ x->I.t x=c->rfB T k kt (L x) f g m q b h (I.m x) (I.S x) Q
 | _=>B
def CMc (g:E)(zb:C X):CX:=fun M c r=>(M.g=g/\M.zb=zb/\M.nd=U)/\match c with
 | none=>r=z
 | some b=> ∃bd,M.zg b=J bd/\r=J bd.zc
theorem QKw: ∀(ps:C E) (b:C AV) (vs:C X) (T:TM) (tmps:c X),Qu w O ρ b vs->(∀t,ConcV w O ρ (T t) (tmps.getD t Lm))->(∀p∈ps,p<tmps.size)->Sj b=Sj ps->
  ((ps.zip vs).foldl (fun tmps (t,a)=>tmps.setIfInBounds t a) tmps).size=tmps.size/\ ∀t,ConcV w O ρ (ZN T ps b t) (((ps.zip vs).foldl (fun tmps (t,a)=>tmps.setIfInBounds t a) tmps).getD t Lm):=by
 intro ps;induction ps with
 | nil=>
  intro b vs T tmps h g _ f;cases h with
  | nil=>exact⟨rfl,g⟩
  | cons=>simp at f
 | cons p ps L=>
  intro b vs T tmps h g s f;cases h with
  | nil=>simp at f
  | @cons a b v vs I B=>
   have m:=s p o6
   obtain⟨u,x⟩:=L b vs (upd T p a) (tmps.setIfInBounds p v) B (fun t=>by
    by_cases e:t=p
    ·subst e;rw[QT];have:(tmps.setIfInBounds t v).getD t Lm=v:=by simp[m]
     rw[this];exact I
    ·rw[Qc _ _ e];have:(tmps.setIfInBounds p v).getD t Lm=tmps.getD t Lm:=by
      simp only[Zc];rw[c.getElem?_setIfInBounds_ne (fun y=>e y.symm)]
     rw[this];exact g t) (fun q A=>by simp only[c.size_setIfInBounds];exact s q (by simp[A])) ((j9 f))
   refine⟨by rw[C.zip_cons_cons,C.foldl_cons,u];simp,fun t=> ?_⟩;rw[C.zip_cons_cons,C.foldl_cons];exact x t
theorem QP2 (ps:c E)(v tmps:c X):(ps.zip v).foldl (fun tmps (t,a)=>tmps.setIfInBounds t a) tmps=(ps.toList.zip v.toList).foldl (fun tmps (t,a)=>tmps.setIfInBounds t a) tmps:=by
 rw[<-c.foldl_toList,c.toList_zip]
variable{k:E}{bd:WM}
theorem bO (f:HS w0 M ρ H w){s:E}(hk:H k=J (.lp s))(b:ρ k=J bd):bd.isNil=U/\ ∃r,w.heap[bd.zc]? =J (.loop r)/\cr s r/\M.zp bd.zc=J (bc r):=by
  obtain⟨c,e,h⟩:=f.zc k _ hk rfl;rw[b]at e;cases e
  exact h

theorem QSo (q:HS w0 M ρ H w){s s':E}(hk:H k=J (.lp s))(h:ρ k=J bd){r r':Loop}(m:w.heap[bd.zc]? =J (.loop r))(e:bc r'=bc r)(c:cr s' r'):
    HS w0 M ρ (upd H k (J (.lp s'))) (w.putObj bd.zc (.loop r'))/\Ext ρ H w ρ (upd H k (J (.lp s'))) (w.putObj bd.zc (.loop r')):=by
  obtain⟨g,y,f,x,u⟩:=bO q hk h;rw[m]at f;cases f
  have b:=(Zf.1 m).1;exact q.write hk rfl rfl h g (fun j v=>World.putObj_heap_other v) World.putObj_size rfl rfl rfl (fun _=>⟨g,r',World.putObj_heap_same b,c,by rw[u,e]⟩)

variable{zb:C X}
theorem Qen {g:E}{x y:jg}{wa wb:WF}(ha:Snd P w0 N (CMc g zb) x wa)(hb:Snd P w0 N (CMc g zb) y wb){Mi:Ctx}{l:E}{st:Loop}{ps:C E}{Tc:TM}{tmps:c X}{pl:C E}{S0:C (TM×c X)}
  (hg:Mi.g=g/\Mi.zb=zb) (jm:Mi.zg k=J bd) (jW:bd.zc=l) (_hnil:bd.isNil=U) (oi:Mi.zp l=J st) (hx:st.assign=x) (hy:st.body=y) (ob:st.params.toList=ps) (od:st.tmps=tmps) (hN:tmps.size=N)
  (jB:To Mi pl) (jQ:Mi.zk=(Tc,tmps)::S0) (_hpk:k∈pl) (jX: ∀p∈ps,p<N):dT P w0 Mi k l st (aA wa wb pl ps Tc k):=by
 subst hx hy ob od jW;intro ju μ jk H Kt Kj h Ts jD jq ρ w m hs jK jP jE jG jl hH;unfold aA at h;cases q:jk.length.beq st.params.toList.length with
 | false=>rw[q]at h;exact h.elim
 | true=>
  rw[q]at h;simp only[R7]at h;have q:=Zb q;have oe:jq.size=st.params.size:=by have:=jl.len;simp at this q;omega
  refine⟨oe,?_⟩;have jV: ∀t,ConcV w (ow Mi ρ H) ρ (Tc t) (st.tmps.getD t Lm):=fun t=>jP (Tc,st.tmps) (by rw[jQ];simp) t;obtain⟨p1,p2⟩:=QKw st.params.toList jk jq.toList Tc st.tmps jl jV (fun p hp=>by rw[hN];exact jX p hp) q;rw[QP2];-- the context of the round
  obtain⟨Mb,hMb⟩: ∃Mb:Ctx,Mb={Mi with zg:=fun j=>bif Xw j (ju++pl)then ρ j else z,zk:=(Ts,jD)::Mi.zk,nd:=U}:=⟨_,rfl⟩;have u: ∀j bd,Mi.zg j=J bd->Mb.zg j=J bd:=fun j bd L=>by
   have:j∈pl:=jB.zg j (by rw[L];simp);subst hMb;simp only;rw[XR.2 (by simp[this])];exact jK j bd L
  have jT:HS w0 Mb ρ H w:=by subst hMb;exact hs.relp (L':=Mi.zp) (fun _ _ _ _ _=>rfl)
  have jU: ∀{ρ' W w'},HS w0 Mb ρ' W w'->HS w0 Mi ρ' W w':=fun h=>by
   subst hMb;exact(h.relp (L':=Mi.zp) (p:=Mi.zg) (s:=Mi.zk) (nd:=Mi.nd) (fun _ _ _ _ _=>rfl))
  have jr: ∀ρ' W,ow Mb ρ' W=ow Mi ρ' W:=fun ρ' W=>by subst hMb;rfl
  have jO:Sim w0 Mb N ρ ⟨ZN Tc st.params.toList jk,H⟩ {tmps:=(st.params.toList.zip jq.toList).foldl (fun tmps (t,a)=>tmps.setIfInBounds t a) st.tmps,defers:=[]} w:=by
   refine⟨by rw[p1,hN],.nil,fun _=>rfl,fun j bd L=> ?_,fun t=> ?_,fun p hp t=> ?_,jT⟩
   ·subst hMb;simp only at L;cases hm:Xw j (ju++pl)with
    | false=>rw[hm]at L;cases L
    | true=>rw[hm]at L;exact L
   ·rw[jr];exact p2 t
   ·rw[jr];subst hMb;rcases Zl.1 hp with rfl | hp
    ·exact jE t
    ·exact jP p hp t
  have jn:To Mb (ju++pl):=by
   refine⟨fun j L=> ?_,fun p hp t j L=> ?_⟩
   ·subst hMb;simp only at L;cases hm:Xw j (ju++pl)with
    | false=>rw[hm]at L;exact je rfl L
    | true=>exact XR.1 hm
   ·subst hMb;simp only;rcases Zl.1 hp with rfl | hp
    ·rw[XR.2 (Zj.2 (.inl (jG t j L)))];exact(jE t).ids_some j L
    ·have h1:=jB.zk p hp t j L;rw[XR.2 (Zj.2 (.inr (jB.zg j h1)))];obtain⟨jS,e⟩:=Zo.1 h1;simp only[R7];rw[jK j jS e];simp
  have jF:CMc g zb Mb (J k) (J bd.zc):=⟨by subst hMb;exact⟨hg.1,hg.2,rfl⟩,bd,u k bd jm,rfl⟩;refine roundIn_of_wpIn trivial ?_
  refine ha (r:=J bd.zc) jF jn (NC.refl w) jO h fun a1 w1=>⟨?_,fun i=> ?_,?_⟩
  ·rintro⟨jv,jw,f,R,jA⟩;simp only at R;split at R
   ·rename_i jH;have jx:jv k=J bd:=f.zg k bd (u k bd jm);obtain⟨_,r1,jL,jJ,og⟩:=bO f.hs jH jx;obtain⟨g1,g2⟩:=QSo (s':=1) (r':={r1 with state:= .busy}) f.hs jH jx jL rfl rfl;refine⟨_,run_beginRound jL jJ.1,?_⟩;have jN:Sim w0 Mb N jv ⟨jw.T,upd jw.H k (J (.lp 1))⟩ a1 (w1.putObj bd.zc (.loop {r1 with state:= .busy})):=
     ⟨f.size,f.dfr.nc (g2.nc f.hs),f.dfn,f.zg,fun t=>g2.conc (f.tmps t),fun p hp t=>g2.conc (f.zk p hp t),g1⟩
    -- what is left behind the round
    have jz: ∀{jump:A jg} {s:E} {b:I} {KK:HP->Prop} {a2:jb} {w2:S},jump.isNone=b->(∀r:Loop,cr s {r with state:=if jump.isNone then .ready else .done,pending:=jump})->
      V8 w0 Mb N w (fun σ2=>match σ2.H k with
       | some (.lp 1)=>KK σ2.H
       | _=>B) a2 w2->(∀H,KK H->(b=Z/\s=0/\Kt H)\/(b=U/\Kj s H))->
      ∃v w',(Instr.endRound bd.zc jump).run P w2= .ok v w'/\ ∃(ρ':Env) (W:HP) (b:I) (s:E),(Ending.returned v:Ending)= .returned (.bool b)/\HS w0 Mi ρ' (upd W k (J (.lp s))) w'/\(∀j bd,Mi.zg j=J bd->ρ' j=J bd)/\
       (∀p∈Mi.zk,∀t,ConcV w' (ow Mi ρ' (upd W k (J (.lp s)))) ρ' (p.1 t) (p.2.getD t Lm))/\(∀t,ConcV w' (ow Mi ρ' (upd W k (J (.lp s)))) ρ' (Ts t) (jD.getD t Lm))/\NC w w'/\((b=Z/\s=0/\Kt W)\/(b=U/\Kj s W)):=by
     rintro jump s b KK a2 w2 jY jZ ⟨jR,σ2,V,jC,oa⟩ jt;split at jC
     ·rename_i jI;have jy:jR k=J bd:=V.zg k bd (u k bd jm);obtain⟨_,r2,jM,_,oh⟩:=bO V.hs jI jy;obtain⟨f1,f2⟩:=QSo (s':=s) (r':={r2 with state:=if jump.isNone then .ready else .done,pending:=jump}) V.hs jI jy jM rfl (jZ r2);refine⟨_,_,run_endRound jump jM,jR,σ2.H,b,s,by rw[jY],jU f1,fun j bd L=>V.zg j bd (u j bd L),fun p hp t=> ?_,fun t=> ?_,oa.trans (f2.nc V.hs),jt _ jC⟩
      ·have:=f2.conc (V.zk p (by subst hMb;exact Zh _ hp) t);rw[jr]at this;exact this
      ·have:=f2.conc (V.zk (Ts,jD) (by subst hMb;simp) t);rw[jr]at this;exact this
     ·exact jC.elim
    refine hb (r:=J bd.zc) jF jn (jA.trans (g2.nc f.hs)) jN R fun a2 w2=>⟨?_,fun i=> ?_,?_⟩
    ·intro hp;exact jz (jump:=z) (s:=0) rfl (fun r=>⟨rfl,rfl⟩) hp (fun H h=> .inl ⟨rfl,rfl,h⟩)
    ·intro hp;exact jz (jump:=J (.exit i)) (s:=i+3) rfl (fun r=>⟨rfl,rfl⟩) hp (fun H h=> .inr ⟨rfl,h⟩)
    ·intro hp;exact jz (jump:=J .ret) (s:=2) rfl (fun r=>⟨rfl,rfl⟩) hp (fun H h=> .inr ⟨rfl,h⟩)
   ·exact R.elim
  ·rintro⟨jv,jw,f,R,jA⟩;exact R
  ·rintro⟨jv,jw,f,R,jA⟩;exact R
theorem QZG(h:ab fn=Z): ∃c,fn.body=J c/\Xq fn=c/\J0 (UE fn.ntmps) c=Z/\fn.results.toList=[]/\U8 fn=Z:=by
 simp only[ab,Za]at h;have b:=h.1;simp only[U8,Za]at b;obtain⟨c,f⟩:=Yf.1 b.1.2;have e:Xq fn=c:=by unfold Xq;rw[f]
 exact⟨c,f,e,e▸b.2,(j9 h.2),h.1⟩
theorem QAF(h:fn.results.toList=[])(tmps:c X)(w:S):(results fn tmps).run P w= .ok (.tuple #[]) w:=by
 have:fn.results= #[]:=by rw[<-Zi (xs:=fn.results),h]
 simp[results,this]
theorem Qeo {c:A E}{H:HP}{p:Prop}(h:roA c H p):p/\ ∀b,c=J b->H b=J (.lp 1):=by
 unfold roA at h;split at h
 ·exact⟨h,fun _ h=>by cases h⟩
 ·split at h
  ·rename_i e;exact⟨h,fun k h=>by cases h;exact e⟩
  ·exact h.elim
theorem QP3 {g:E}(hT:XC P g zb T)(hm:P.follows .mixedOrders=Z){x y:jg}{wa wb:WF}(ha:Snd P w0 N (CMc g zb) x wa)(hb:Snd P w0 N (CMc g zb) y wb){f:At}{ps:c Tmp}(oK: ∀p∈ps.toList,p<N){kt:C E}{L:LI}
  {pl:C E} {ro r:A E} {n μ:E} {s:SL} {ws:S} {Q:QQ} {Q':Exit->jb->S->Prop} (jl:CMc g zb M ro r) (jQ:To M pl) (hn:NC ws w) (hs:Sim w0 M N ρ s.st a w) (h:rfB T k kt L f ps.toList wa wb pl ro μ s Q) (hq:PQ w0 M N ws Q Q'):
  (Code.rangeFunc f ps x y).wpIn (FR r) n P Q' a w:=by
 unfold rfB at h;obtain⟨h,oM⟩:=Qeo h;cases f with
 | tmp t=>
  simp only at h;split at h
  ·rename_i jF ks hf;unfold rfC at h;split at h
   ·rename_i fn O hit oG;cases jw:(ab fn&&E.ble (Sj ks+1) fn.ntmps)&&Ka O (Xq fn)with
    | false=>rw[jw]at h;exact h.elim
    | true=>
     rw[jw]at h;simp only[R7]at h;simp only[Za]at jw;obtain⟨m,jI,ov,jL,oh,oD⟩:=QZG jw.1.1;have jY:=hT.it _ _ hit;have oC:=Qf jY oD;-- the iterator's value
     have jK:ConcV w (ow M ρ s.st.H) ρ (s.st.T t) (a.eval (.tmp t)):=hs.tmps t;rw[show s.st.T t=_ from hf]at jK;generalize oO:a.eval (.tmp t)=vf at jK;obtain⟨us,oz,hv⟩:=jK;simp at hv;subst hv;cases oz with
     | @f _ _ _ _ _ oH _=>
     refine wpIn_rangeFunc (fun jt _=> ?_);-- the statement is entered
     obtain⟨l,R,wA,q,hrun,hbel,hl,hrt,hmarks⟩: ∃(l:E) (R:C jc) (wA:S) (q:Loop),(Instr.enterLoop jt a.tmps ps x y (FR r).round).run P w= .ok (l,R) (wA.alloc (.loop q))/\Below w.heap.size w wA/\l=wA.heap.size/\
       (q.state= .ready/\q.pending=z/\q.tmps=a.tmps/\q.params=ps/\q.assign=x/\q.body=y)/\Marks w0 (wA.alloc (.loop q)) (R++a.defers):=by
      have oN:=hs.hs.size;cases ro with
      | none=>
       have hr:r=z:=jl.2;subst hr;refine⟨_,_,w.alloc (.deferred (J [])),_,run_enterLoop_outer _ _ _ _ _,(Below.refl _ w).alloc (Zx _) _,o6,⟨rfl,rfl,rfl,rfl,rfl,rfl⟩,?_⟩;obtain⟨rs,e1,e2,e3⟩:=hs.dfr;have oa: ∀j∈rs,j<w.heap.size:=fun j hj=>(Zf.1 (e3 j hj).1).1;refine⟨w.heap.size::rs,by rw[e1];rfl,C.nodup_cons.2 ⟨fun hm=>E.lt_irrefl _ (oa _ hm),e2⟩,fun j hj=> ?_⟩;rcases Zl.1 hj with rfl | hj
       ·refine⟨?_,oN⟩;rw[Below.heap_alloc _ _ _ o6];exact World.alloc_heap_new w _
       ·have:=oa j hj;refine⟨?_,(e3 j hj).2⟩;rw[Below.heap_alloc _ _ _ o9,Below.heap_alloc _ _ _ this];exact(e3 j hj).1
      | some k0=>
       obtain⟨jT,oJ,hr⟩:=jl.2;subst hr;obtain⟨_,r0,oL,_,_⟩:=bO hs.hs (oM k0 rfl) (hs.zg k0 jT oJ);refine⟨_,[],w,{state:= .ready,pending:=z,fn:=jt,tmps:=a.tmps,params:=ps,assign:=x,body:=y,defers:=r0.defers},?_,Below.refl _ w,rfl,⟨rfl,rfl,rfl,rfl,rfl,rfl⟩,?_⟩
       ·show(Instr.enterLoop jt a.tmps ps x y (J jT.zc)).run P w=_
        unfold Instr.enterLoop;simp only[Sem.run_bind,run_getLoop oL,Result.andThen,Sem.run_pure,run_newObj_alloc]
       ·obtain⟨rs,e1,e2,e3⟩:=hs.dfr;refine⟨rs,e1,e2,fun j hj=>⟨?_,(e3 j hj).2⟩⟩;rw[Below.heap_alloc _ _ _ (Zf.1 (e3 j hj).1).1];exact(e3 j hj).1
     obtain⟨r1,r2,r3,r4,r5,r6⟩:=hrt;-- the record as an own block
     obtain⟨jG,oo⟩:=hs.hs.below hbel;have jy: ∀j bd,ρ j=J bd->bd.isNil=U->Xt (QO s.H j)=Z->bd.zc≠l:=fun j bd e1 e2 e3 e4=>by
      have:=(jG.zh j bd e1 e2 e3).1;omega
     obtain⟨B,hρ1⟩: ∃B:Env,B=upd ρ k (J ⟨l,0,0,0,U⟩):=⟨_,rfl⟩;obtain⟨Mi,hMi⟩: ∃Mi:Ctx,Mi={M with zp:=upd M.zp l (J q),zg:=fun j=>bif Xw j (plI k pl s)then B j else z,zk:=(Ql s.T,a.tmps)::M.zk,nd:=Z}:=⟨_,rfl⟩;have og: ∀ρ' H',ow Mi ρ' H'=ow M ρ' H':=fun ρ' H'=>by subst hMi;rfl
     have hB:HS w0 Mi ρ (QO s.H) wA:=by
      subst hMi
      exact jG.relp (fun j t bd e1 e2=>Qc _ _ (by
       obtain⟨jq,e,ok⟩:=jG.zc j _ e1 rfl;rw[e2]at e;cases e
       exact jy j bd e2 ok.1 (by show Xt (s.st.H j)=Z;rw[show s.st.H j=_ from e1];rfl)))
     have jS:bc q=q:=by
      cases q
      simp only at r1 r2;subst r1 r2;rfl
     obtain⟨jV,jW⟩:=hB.alloc (w':=wA.alloc (.loop q)) oG (o:= .loop q) (bd:=⟨l,0,0,0,U⟩) (b:= .lp 0) hl rfl rfl rfl rfl (fun _=>⟨rfl,q,by rw[hl];exact World.alloc_heap_new wA _,⟨r1,r2⟩,by rw[jS];subst hMi;exact QT _ _ _⟩);rw[<-hρ1]at jV jW;have hX:=oo.trans jW;have od:NC w (wA.alloc (.loop q)):=hX.nc hs.hs;have jZ:B k=J ⟨l,0,0,0,U⟩:=by rw[hρ1];exact QT _ _ _
     have oi: ∀p∈Mi.zk,∀t,ConcV (wA.alloc (.loop q)) (ow Mi B (upd (QO s.H) k (J (.lp 0)))) B (p.1 t) (p.2.getD t Lm):=by
      intro p hp t;rw[og];subst hMi;rcases Zl.1 hp with rfl | hp
      ·exact hX.conc (hs.tmps t)
      ·exact hX.conc (hs.zk p hp t)
     have jA:=Gp oH hX.env;have jH:Qu (wA.alloc (.loop q)) (ow Mi B (upd (QO s.H) k (J (.lp 0)))) B (UH k ks) (.func (.yield l) #[] #[]::ks.map (KD ρ)):=by
      refine .cons ⟨_,.yl jZ rfl .nil,rfl⟩ ?_
      rw[jA.1];exact vS jA.2
     have jx:To Mi (plI k pl s):=by
      refine⟨fun j hj=> ?_,fun p hp t j hj=> ?_⟩
      ·subst hMi;simp only at hj;cases jv:Xw j (plI k pl s)with
       | false=>rw[jv]at hj;exact je rfl hj
       | true=>exact XR.1 jv
      ·subst hMi;simp only;rcases Zl.1 hp with rfl | hp
       ·have oE:j∈plI k pl s:=by
         unfold plI;refine Zh _ (Zj.2 (.inr ?_));rcases QEo (l:=s.T) (t:=t)with he | he
         ·simp only at hj;rw[he]at hj;simp[Hz]at hj
         ·exact Yg.2 ⟨_,he,hj⟩
        rw[XR.2 oE];have:=(hs.tmps t).ids_some j hj;obtain⟨jq,e⟩:=Zo.1 this;simp only[R7];rw[hX.env j jq e];simp
       ·have h1:=jQ.zk p hp t j hj;rw[XR.2 (show j∈plI k pl s from Zh _ (Zj.2 (.inl (jQ.zg j h1))))];obtain⟨jq,e⟩:=Zo.1 h1;simp only[R7];rw[hX.env j jq (hs.zg j jq e)];simp
     have jP:Mi.zg k=J ⟨l,0,0,0,U⟩:=by
      subst hMi;simp only;rw[XR.2 (show k∈plI k pl s from Yc ..)];exact jZ
     have jO: ∀j bd,M.zg j=J bd->Mi.zg j=J bd:=fun j bd hj=>by
      subst hMi;simp only;rw[XR.2 (show j∈plI k pl s from Zh _ (Zj.2 (.inl (jQ.zg j (by rw[hj];simp)))))];exact hX.env j bd (hs.zg j bd hj)
     have jB:Mi.zp l=J q:=by subst hMi;exact QT _ _ _
     have ot:XC P Mi.g Mi.zb T:=by
      have:Mi.g=g/\Mi.zb=zb:=by subst hMi;exact⟨jl.1.1,jl.1.2.1⟩
      rw[this.1,this.2];exact hT
     have oj:=Qen (P:=P) (w0:=w0) (pl:=plI k pl s) (S0:=M.zk) (Tc:=Ql s.T) (tmps:=a.tmps) (ps:=ps.toList) (wa:=wa) (wb:=wb) ha hb (Mi:=Mi) (k:=k) (l:=l) (bd:=⟨l,0,0,0,U⟩) (st:=q) (by subst hMi;exact⟨jl.1.1,jl.1.2.1⟩) jP rfl rfl jB r5 r6 (by rw[r4]) r3 hs.size jx (by subst hMi;rfl) (Yc ..) oK;refine⟨l,R,_,{target:= .fn (.func jF) (ks.map (KD ρ)).toArray,args:= #[.func (.yield l) #[] #[]]},wA.alloc (.loop q),jF, #[.func (.yield l) #[] #[]]++(ks.map (KD ρ)).toArray,wA.alloc (.loop q),hrun,?_,fun _ _=>trivial,?_,fun h=>(by cases h),?_⟩
     ·have e:(#[]:c X)++c.map a.eval #[Operand.const (.func (.yield l) #[] #[])]= #[.func (.yield l) #[] #[]]:=by simp[Act.eval]
      simp only[ja,oO,Deferred.ofValue,e];rfl
     ·exact oC _ _
     ·-- the call
      refine(callsIn_of_wp (F:=FR z) jY jI trivial ?_ rfl:CallsIn (FR z) (n-1) P jF _ _ _);have oR:ks.length+1<=fn.ntmps:=Zp jw.1.2;have ou:(#[Value.func (.yield l) #[] #[]]++(ks.map (KD ρ)).toArray)=(Value.func (.yield l) #[] #[]::ks.map (KD ρ)).toArray:=by apply Yd;simp
      have jR:Sim w0 Mi fn.ntmps B ⟨Ql (UG 0 (UH k ks)),upd (QO s.H) k (J (.lp 0))⟩ {tmps:=(#[Value.func (.yield l) #[] #[]]++(ks.map (KD ρ)).toArray)++Ya (fn.ntmps-(#[Value.func (.yield l) #[] #[]]++(ks.map (KD ρ)).toArray).size) Lm,defers:=[]} (wA.alloc (.loop q)):=by
       refine⟨o9,.nil,fun _=>rfl,fun j bd hj=> ?_,fun t=> ?_,oi,jV⟩
       ·subst hMi;simp only at hj;cases jv:Xw j (plI k pl s)with
        | false=>rw[jv]at hj;cases hj
        | true=>rw[jv]at hj;exact hj
       ·show ConcV _ _ B (Ql (UG 0 (UH k ks)) t) _
        rcases VZ (UH k ks) 0 t with he | ⟨_,he⟩
        ·rw[he];trivial
        ·rw[he,E.sub_zero,ou];exact Un jH _ t
      refine QEr (w0:=w0) (N:=fn.ntmps) (CM:=fun M' oP r'=>M'=Mi/\r'=z) (ok:=UE fn.ntmps) (RG:=ar T k kt (aA wa wb (plI k pl s) ps.toList (Ql s.T) k)) (L:=L) (RF:=rfN)
       (fun M' oP r' oq=>by obtain⟨rfl,rfl⟩:=oq;exact QKv ot hm oj jP rfl rfl jB) (fun _ _ _ _ _ _ _ _ _ _=>fun _ _ _ _ h _=>h.elim) m jL ⟨rfl,rfl⟩ jx (NC.refl _) jR (ov▸h) ?_
      -- the end of it
      have jU: ∀{e:Ex} {b:jb} {w':S},(e= .n\/e= .r)->V8 w0 Mi fn.ntmps (wA.alloc (.loop q)) (bz k s Q e) b w'->b.defers=[]/\ ∃v,(results fn b.tmps).run P w'= .ok v w'/\rangePost (FR r) n P l Q' {a with defers:=R++a.defers} (.returned v) w':=by
       rintro e b w' he ⟨ρ',jk,jm,jr,ob⟩;refine⟨jm.dfn (by subst hMi;rfl),_,QAF oh _ _,?_⟩;have jX: ∃j,jk.H k=J (.lp j)/\((j=0/\Q .n ⟨Ql s.T,upd jk.H k (J .dead)⟩)\/(j=2/\Q .r ⟨Ql s.T,upd jk.H k (J .dead)⟩)\/ ∃i,j=i+3/\Q (.x i) ⟨Ql s.T,upd jk.H k (J .dead)⟩):=by
        rcases he with rfl | rfl
        all_goals
         simp only[bz]at jr
         split at jr
         ·rename_i hk;exact⟨0,hk,.inl ⟨rfl,jr⟩⟩
         ·rename_i hk;exact⟨2,hk,.inr (.inl ⟨rfl,jr⟩)⟩
         ·rename_i i hk;exact⟨i+3,hk,.inr (.inr ⟨i,rfl,jr⟩)⟩
         ·exact jr.elim
       obtain⟨j,jM,hj⟩:=jX;have jE:=jm.zg k _ jP;obtain⟨_,u,V,I,oQ⟩:=bO jm.hs jM jE;have jJ:u.state≠ .busy:=by
        rcases hj with⟨rfl,_⟩ | ⟨rfl,_⟩ | ⟨i,rfl,_⟩
        ·rw[I.1];simp
        ·rw[I.1];simp
        ·rw[I.1];simp
       -- back to the caller
       obtain⟨d1,d2⟩:=jm.hs.kill jM;have jn: ∀i bd,ρ' i=J bd->bd.isNil=U->Xt (upd jk.H k (J .dead) i)=Z->bd.zc≠l:=by
        intro i bd e1 e2 e3 e4;have oe:i≠k:=fun e=>by subst e;rw[QT]at e3;cases e3
        rw[Qc _ _ oe]at e3;exact oe (jm.hs.ze i k bd _ e1 jE e2 rfl e3 (by rw[jM];rfl) e4)
       have e1:HS w0 M ρ' (upd jk.H k (J .dead)) w':=by
        have:=d1.relp (L':=M.zp) (p:=M.zg) (s:=M.zk) (nd:=M.nd) (fun i t bd e1 e2=>by
         obtain⟨jq,e,ok⟩:=d1.zc i _ e1 rfl;rw[e2]at e;cases e
         have:=jn i bd e2 ok.1 (by rw[e1];rfl);subst hMi
         exact(Qc _ _ this).symm)
        subst hMi;exact this
       have jN: ¬own ρ' (upd jk.H k (J .dead)) l:=by
        rintro⟨i,bd,e1,e2,e3,e4⟩;exact jn i bd e1 e2 e4 e3
       have oI:w0.heap.size<=l:=by rw[hl];exact E.le_trans hs.hs.size hbel.size
       have oB:=UF V (o':= .loop {u with state:= .exhausted}) rfl rfl;have hz:w'.heap.size<=(w'.putObj l (.loop {u with state:= .exhausted})).heap.size:=by rw[World.putObj_size];exact Zx _
       have jC:NC w' (w'.putObj l (.loop {u with state:= .exhausted})):=by
        intro b o hb ho;by_cases e:b=l
        ·subst e;rw[V]at hb;cases hb;cases ho
        ·rw[World.putObj_heap_other e];exact hb
       have W:Sim w0 M N ρ' ⟨Ql s.T,upd jk.H k (J .dead)⟩ {a with defers:=R++a.defers} (w'.putObj l (.loop {u with state:= .exhausted})):=by
        have jD: ∀p∈Mi.zk,∀t,ConcV (w'.putObj l (.loop {u with state:= .exhausted})) (ow M ρ' (upd jk.H k (J .dead))) ρ' (p.1 t) (p.2.getD t Lm):=fun p hp t=>by
         have:=(d2.conc (jm.zk p hp t)).cells' oB hz;rw[og]at this;exact this
        refine⟨hs.size,(hmarks.nc ob).nc jC,fun hd=> ?_,fun i bd hi=>jm.zg i bd (jO i bd hi),fun t=>jD (Ql s.T,a.tmps) (by subst hMi;simp) t,fun p hp t=>jD p (by subst hMi;exact Zh _ hp) t,e1.putNC V rfl rfl jN oI⟩;rw[jl.1.2.2]at hd;cases hd
       have jz:NC ws (w'.putObj l (.loop {u with state:= .exhausted})):=hn.trans (od.trans (ob.trans jC));have ju:=run_endLoop (P:=P) V jJ;generalize w'.putObj l (.loop {u with state:= .exhausted})=w4 at W jz ju;refine⟨_,_,ju,?_⟩;rcases hj with⟨rfl,hQ⟩ | ⟨rfl,hQ⟩ | ⟨i,rfl,hQ⟩
       ·rw[I.2];exact(hq _ _).1 ⟨ρ',_,W,hQ,jz⟩
       ·rw[I.2];exact wpIn_ret ((hq _ _).2.2 ⟨ρ',_,W,hQ,jz⟩)
       ·rw[I.2];exact wpIn_exit ((hq _ _).2.1 i ⟨ρ',_,W,hQ,jz⟩)
      exact fun b w'=>⟨fun h=>jU (.inl rfl) h,fun i h=>by obtain⟨_,_,_,h,_⟩:=h;exact h.elim,fun h=>jU (.inr rfl) h⟩
   ·exact h.elim
  ·exact h.elim
 | _=>exact h.elim
theorem QP4 {g:E}(B:XC P g zb T)(W:P.follows .mixedOrders=Z)(it:UA)(f:At)(ps:c Tmp)(x y:jg)(wa wb:WF)(u:ps.toList.all (fun p=>UE N [eK p] U)=Z)(R:Snd P w0 N (CMc g zb) x wa)(S:Snd P w0 N (CMc g zb) y wb):
  Snd P w0 N (CMc g zb) (.rangeFunc f ps x y) (rfA T it f ps.toList wa wb):=by
 intro M pl ro r n μ ρ σ a w ws Q Q' s m X hs h hq;unfold rfA at h;split at h
 ·rename_i b K k kt L;obtain⟨⟨x0,A,V⟩,e⟩:=h;obtain⟨jk,v⟩:=Kg V _ _ _ _ _ _ m (hs.frz K);have q: ∀p∈ps.toList,p<N:=fun p hp=>by
   have:=Ze.1 u p hp;simp only[UE,WU,eK,C.all_cons,C.all_nil,I.and_true,Za]at this;exact Zp this.1.1
  exact QP3 B W (wa:=wa) (wb:=wb) R S q s m X v (e x0 A.1 A.2) hq
 ·exact h.elim
end Go.Eng
