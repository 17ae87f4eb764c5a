/- The engine, part G: all operations. -/
import Derived.Test.YtfmgjnnkogpmmaaDoorE1
import Derived.Laws.Strings
import Derived.Laws.StructEq
import Derived.Great.FillDense
import Derived.Laws.BytesString
import Derived.Laws.Slices
import Derived.Laws.IdiomStrings
open Nat renaming eq_of_beq_eq_true → Za, lt_of_lt_of_le → Zk, add_mul → Zm, pow_le_pow_right → Zw, mul_le_mul_right → Zx, add_assoc → Yb
open List renaming getElem?_eq_some_iff → Zb, getElem?_take → Zd, getElem?_drop → Ze, getElem?_append_left → Zi, getElem?_eq_getElem → Zj, getElem?_append_right → Zl, mem_of_getElem? → Zn, replicate → Zo, ext_getElem? → Zp, eq_of_mem_replicate → Zr, size_toArray → Zt, getElem?_map → Zu, getElem?_eq_none → Zv, eq_nil_of_length_eq_zero → Zy, mem_append → Zz, getD_eq_getElem?_getD → Ya, map_cons → Yc, length_cons → Yd, drop_drop → Ye
open Go.Result renaming andThen_ok → Zc
open Option renaming map_eq_some_iff → Zf
open Bool renaming and_eq_true → Zg, eq_iff_iff → Zs
open Go.ByteArray renaming toList_eq → Zh
open Int renaming le_refl → Zq
namespace Go.Eng
open Go
variable {P:Program}{w0:World}{M:Ctx}{ρ:Env}{H:HP}{w:World}
abbrev KK:=AV->HP->Prop
def Good (P:Program)(w0:World)(M:Ctx)(ρ:Env)(H:HP)(w:World)(K:KK):Result Next->Prop
  | .ok (.value v) w'=> ∃ρ' H' av,HS w0 M ρ' H' w'/\Ext ρ H w ρ' H' w'/\ConcV w' (ow M ρ' H') ρ' av v/\K av H'
  | .ok .skip w'=> ∃ρ' H',HS w0 M ρ' H' w'/\Ext ρ H w ρ' H' w'/\K .n H'
  | .ok (.enter f args) w'=>w'=w/\Calls P f args w fun e w''=> ∃v ρ' H' av,e= .returned v/\HS w0 M ρ' H' w''/\Ext ρ H w ρ' H' w''/\ConcV w'' (ow M ρ' H') ρ' av v/\K av H'
  | _=>False

theorem Good.val {K:KK}{r:Result Next}{v:Value}{av:AV}(hs:HS w0 M ρ H w)(hr:r= .ok (.value v) w)(hc:ConcV w (ow M ρ H) ρ av v)(hk:K av H):Good P w0 M ρ H w K r:=by
 subst hr;exact⟨ρ,H,av,hs,.refl _ _ _,hc,hk⟩
def YF (v:Value):AV:= .x false [.v v]
theorem QZ {O:Nat->Prop}{v:Value}(h:v.oneCell'=true):ConcV w O ρ (YF v) v:=ConcX.mk1 h
theorem QGo {O:Nat->Prop}{x v:Value}(h:ConcV w O ρ (.x false [.v x]) v):v=x:=(ConcX.one h).1
theorem Jl {O:Nat->Prop}{m n:Nat}{v:Value}(h:ConcV w O ρ (.x false [.b m n]) v):v=YV (QA m)/\m<2^n:=by
 obtain⟨vals,h1,h2⟩:=h;simp at h2;subst h2;cases h1 with
 | b hb _=>exact⟨rfl,hb⟩
theorem XK {O:Nat->Prop}{c:Ch}{v:Value}(h:CC w O ρ [c] [v]):ConcV w O ρ (.x false [c]) v:=⟨[v],h,rfl⟩
theorem QQI {O:Nat->Prop}{k o:Nat}{bd:Xk}(hk:ρ k=some bd)(hn:bd.isNil=false):ConcV w O ρ (.x false [.p k o]) (.pointer (some ⟨bd.blk,o,none⟩)):=XK (.p hk hn .nil)
theorem QLS {O:Nat->Prop}{k i o a:Nat}{bd:Xk}(hk:ρ k=some bd)(hn:bd.isNil=false)(ha:a=i*bd.sz+o):ConcV w O ρ (.x false [.e k i o]) (.pointer (some ⟨bd.blk,a,none⟩)):=by
 subst ha;exact XK (.e hk hn .nil)
theorem QQJ {O:Nat->Prop}{sz b o i j a:Nat}{xs:List (List Ch)}{f:Nat->List Value}(hr:WX w O b o sz xs f)(hx: ∀i x,xs[i]? =some x->CC w O (fun _=>none) x (f i))(ha:a=o+i*sz+j):
  ConcV w O ρ (.x false [.y sz xs i j]) (.pointer (some ⟨b,a,none⟩)):=by
 subst ha;exact XK (.y hr hx .nil)
theorem QIT: ∀{f g m:Nat},m<=f->m<=g->nbF f m=nbF g m:=by
 intro f;induction f with
 | zero=>
  intro g m h1 h2;have:m=0:=by omega
  subst this;cases g<;>rfl
 | succ f ih=>
  intro g m h1 h2;cases m with
  | zero=>cases g<;>rfl
  | succ n=>
   cases g with
   | zero=>omega
   | succ g=>
    simp only[nbF];rw[ih (g:=g) (by omega) (by omega)]
theorem Qy:QA 0=[]:=rfl
theorem Xf (n:Nat)(h:n≠0):QA n=QA (n/256)++[UInt8.ofNat (n % 256)]:=by
 cases n with
 | zero=>exact absurd rfl h
 | succ n=>
  show nbF (n+1) (n+1)=_
  simp only[nbF,QA];rw[QIT (f:=n) (g:=(n+1)/256) (by omega) (by omega)]
def QB (l:List UInt8):Nat:=l.foldl (fun a b=>256*a+b.toNat) 0
theorem Xs (l:List UInt8)(b:UInt8):QB (l++[b])=256*QB l+b.toNat:=by simp[QB]
theorem XL (n:Nat):QB (QA n)=n:=by
 induction n using Nat.strongRecOn with
 | _ n ih=>
  by_cases h:n=0
  ·subst h;simp[Qy,QB]
  ·rw[Xf n h,Xs,ih _ (by omega)];have:(UInt8.ofNat (n % 256)).toNat=n % 256:=by simp[UInt8.toNat_ofNat']
   rw[this];omega
theorem Wk {m n:Nat}(h:QA m=QA n):m=n:=by rw[<-XL m,h,XL]
theorem YG (l:List UInt8):(⟨l.toArray⟩:ByteArray).toList=l:=by rw[Zh]
theorem QDy {op:BinOp}{k:IntKind}{a b:Int}{K:Value->Prop}(h:(QOW op k a b).run K): ∃v,K v/\v.oneCell'=true/\
  (∀t w,(binOp op t (.int k a) (.int k b)).run P w= .ok v w):=by
 cases op<;>simp only[QOW,BR.run]at h<;>first
  | exact⟨_,h,rfl,fun t w=>by simp[binOp,Op.intArith,Op.intBits,Op.intCmp,QQG,orI,QQH,QNj]⟩
  | exact⟨_,h.2,rfl,fun t w=>by simp[binOp,Op.intDiv,h.1]⟩
theorem QDz {op:BinOp}{x y:Value}{K:Value->Prop}(h:(QLQ op x y).run K): ∃v,K v/\v.oneCell'=true/\(∀t w,(binOp op t x y).run P w= .ok v w):=by
 unfold QLQ at h;split at h
 ·rename_i k a k' b;split at h
  ·obtain⟨h0,h1⟩:=h;have: ¬b<0:=by omega
   exact⟨_,h1,rfl,fun t w=>by simp[binOp,Op.shift,this,Xh]⟩
  ·obtain⟨h0,h1⟩:=h;have: ¬b<0:=by omega
   exact⟨_,h1,rfl,fun t w=>by simp[binOp,Op.shift,this,Q0]⟩
  ·rename_i hne1 hne2;split at h
   ·rename_i e;subst e;exact QDy h
   ·exact h.elim
 ·split at h
  ·exact⟨_,h,rfl,fun t w=>by simp[binOp,Op.stringOp]⟩
  ·exact⟨_,h,rfl,fun t w=>by simp[binOp,Op.stringOp]⟩
  ·exact⟨_,h,rfl,fun t w=>by simp[binOp,Op.stringOp]⟩
  ·obtain⟨h0,h1⟩:=h;exact⟨_,h1,rfl,fun t w=>by simp[binOp,Op.stringOp];omega⟩
  ·exact h.elim
 ·exact h.elim
def QIU (op:BinOp)(x y:AV)(K:AV->Prop):Prop:=
 match x,y with
 | .x false [.v a],.x false [.v b]=>(QLQ op a b).run fun v=>K (YF v)
 | .x false [.b m _],.x false [.v (.string s)]=>(match op with
  | .eql=>K (YF (.bool (decide (QA m=s.data.toList))))
  | .neq=>K (YF (.bool (!decide (QA m=s.data.toList))))
  | _=>False)
 | .x false [.v (.string s)],.x false [.b m _]=>(match op with
  | .eql=>K (YF (.bool (decide (s.data.toList=QA m))))
  | .neq=>K (YF (.bool (!decide (s.data.toList=QA m))))
  | _=>False)
 | .x false [.b m b1],.x false [.b n b2]=>(match op with
  | .add=>((m=0∨n=0)/\b1+b2<=1152921504606846976)/\K (.x false [.b (m+n) (b1+b2)])
  | .eql=>K (YF (.bool (decide (m=n))))
  | .neq=>K (YF (.bool (!decide (m=n))))
  | _=>False)
 | _,_=>False
theorem XB: ∀{m n:Nat},m<2^n->(QA m).length<=n:=by
 intro m;induction m using Nat.strongRecOn with
 | _ m ih=>
  intro n h;by_cases h0:m=0
  ·subst h0;simp[Qy]
  ·rw[Xf m h0,List.length_append,List.length_singleton];by_cases h8:8<=n
   ·have h1:m/256<2^(n-8):=by
     apply Nat.div_lt_of_lt_mul;rw[show(256:Nat)=2^8 from rfl,<-Nat.pow_add,show 8+(n-8)=n by omega];exact h
    have:=ih (m/256) (by omega) h1;omega
   ·have h2:2^n<=2^7:=Zw (by omega) (by omega);have h3:m/256=0:=by omega
    rw[h3,Qy];have:n≠0:=fun e=>by subst e;omega
    simp;omega
theorem Xw (op:BinOp)(t:TypeId)(x y:Operand)(a b:Value)(h:a.oneCell'=true)(hn:a≠ .nilIface)(w:World):(eqGuard op t x y a b).run P w= .ok () w:=by
 unfold eqGuard;cases op<;>first
  | (simp;done)
  | (cases a<;>first | (simp[Value.oneCell']at h;done) | (exact absurd rfl hn) | (cases b<;>simp))
theorem W9 (t t':TypeId)(x y:Operand)(a b:ByteArray)(w:World):(do eqGuard .eql t x y (.string a) (.string b);binOp .eql t' (.string a) (.string b):Sem Value).run P w= .ok (.bool (a.toList==b.toList)) w:=by
 have:=Xw (P:=P) .eql t x y (.string a) (.string b) rfl (by simp) w;simp only[Sem.run_bind,this,Zc];simp[binOp,Op.stringOp]
theorem KA (t t':TypeId)(x y:Operand)(a b:ByteArray)(w:World):(do eqGuard .neq t x y (.string a) (.string b);binOp .neq t' (.string a) (.string b):Sem Value).run P w= .ok (.bool (!(a.toList==b.toList))) w:=by
 have:=Xw (P:=P) .neq t x y (.string a) (.string b) rfl (by simp) w;simp only[Sem.run_bind,this,Zc];simp[binOp,Op.stringOp]
theorem QAE (m:Nat)(l:List UInt8):(QA m==l)=decide (QA m=l):=by rw[Zs];simp
theorem QFr (m n:Nat):(QA m==QA n)=decide (m=n):=by
 rw[Zs];simp;exact⟨Wk,fun e=>by rw[e]⟩
theorem QD0 {op:BinOp}{t t':TypeId}{x y:Operand}{O:Nat->Prop}{ax ay:AV}{vx vy:Value}(hx:ConcV w O ρ ax vx)(hy:ConcV w O ρ ay vy){K:AV->Prop}(h:QIU op ax ay K):
  ∃v av,(do eqGuard op t x y vx vy;binOp op t' vx vy:Sem Value).run P w= .ok v w/\ConcV w O ρ av v/\K av:=by
 unfold QIU at h;split at h
 ·obtain⟨v,hk,h1,hr⟩:=QDz (P:=P) h;obtain⟨rfl,ox⟩:=ConcX.one hx;obtain⟨rfl,oy⟩:=ConcX.one hy;refine⟨v,_,?_,QZ h1,hk⟩;by_cases hn:vx= .nilIface
  ·subst hn;simp[QLQ,BR.run]at h
  ·simp[Xw op t x y vx vy ox hn,hr]
 ·obtain⟨rfl,_⟩:=Jl hx;obtain⟨rfl,_⟩:=ConcX.one hy;split at h
  ·exact⟨_,_,W9 _ _ _ _ _ _ w,QZ rfl,by rw[YG,QAE,Zh];exact h⟩
  ·exact⟨_,_,KA _ _ _ _ _ _ w,QZ rfl,by rw[YG,QAE,Zh];exact h⟩
  ·exact h.elim
 ·obtain⟨rfl,_⟩:=ConcX.one hx;obtain⟨rfl,_⟩:=Jl hy;have e: ∀(l:List UInt8) (m:Nat),(l==QA m)=decide (l=QA m):=fun l m=>by rw[Zs];simp
  split at h
  ·exact⟨_,_,W9 _ _ _ _ _ _ w,QZ rfl,by rw[Zh,Zh,e];exact h⟩
  ·exact⟨_,_,KA _ _ _ _ _ _ w,QZ rfl,by rw[Zh,Zh,e];exact h⟩
  ·exact h.elim
 ·rename_i m b1 n b2;obtain⟨rfl,l1⟩:=Jl hx;obtain⟨rfl,l2⟩:=Jl hy;split at h
  ·obtain⟨⟨h0,hb⟩,hk⟩:=h;have k1:=XB l1;have k2:=XB l2;have hs:QA m++QA n=QA (m+n):=by
    rcases h0 with h0 | h0<;>subst h0<;>simp[Qy]
   have hlt:m+n<2^(b1+b2):=by
    rcases h0 with h0 | h0<;>subst h0
    ·simpa using Zk l2 (Zw (by omega) (by omega))
    ·simpa using Zk l1 (Zw (by omega) (by omega))
   refine⟨YV (QA (m+n)),_,?_,XK (.b hlt .nil),hk⟩;have hr:=Xw (P:=P) .add t x y (YV (QA m)) (YV (QA n)) rfl (by simp[YV]) w;have hz: ∀l:List UInt8,(⟨l.toArray⟩:ByteArray).size=l.length:=fun l=>by show l.toArray.size=_;simp
   have hcat:(⟨(QA m).toArray⟩:ByteArray)++⟨(QA n).toArray⟩=⟨(QA (m+n)).toArray⟩:=by
    rw[<-hs];apply ByteArray.ext;simp
   have hle:((QA m).length:Int)+(QA n).length<=9223372036854775807:=by omega
   simp only[Sem.run_bind,hr,Zc];simp[binOp,YV,Op.stringOp,hz,hcat,hle]
  ·exact⟨_,_,W9 _ _ _ _ _ _ w,QZ rfl,by rw[YG,YG,QFr];exact h⟩
  ·exact⟨_,_,KA _ _ _ _ _ _ w,QZ rfl,by rw[YG,YG,QFr];exact h⟩
  ·exact h.elim
 ·exact h.elim
def unA (op:UnOp)(x:AV)(K:AV->Prop):Prop:=
 match op,x with
 | .not,.x false [.v (.bool b)]=>K (YF (.bool (!b)))
 | .neg,.x false [.v (.int k n)]=>K (YF (.int k (k.wrap (0-n))))
 | _,_=>False
theorem QGp {op:UnOp}{O:Nat->Prop}{ax:AV}{vx:Value}(hx:ConcV w O ρ ax vx){K:AV->Prop}(h:unA op ax K):
  ∃v av,(Op.unary op vx).run P w= .ok v w/\ConcV w O ρ av v/\K av:=by
 unfold unA at h;split at h
 ·obtain⟨rfl,_⟩:=ConcX.one hx;exact⟨_,_,rfl,QZ rfl,h⟩
 ·obtain⟨rfl,_⟩:=ConcX.one hx;exact⟨_,_,rfl,QZ rfl,h⟩
 ·exact h.elim
def JN (i:TyI)(a:AV)(f:Nat)(tb:TB)(K:AV->Prop):Prop:=
 match i.und with
 | .struct fs=>match fs[f]? with
  | some fd=>match tb fd.type with
   | some fi=>bif fi.cells.beq 0 then False else match a with
    | .x false [.p k o]=>K (.x false [.p k (o+fd.offset)])
    | .x false [.e k j o]=>K (.x false [.e k j (o+fd.offset)])
    | .x false [.y sz xs j o]=>K (.x false [.y sz xs j (o+fd.offset)])
    | _=>False
   | none=>False
  | none=>False
 | _=>False
theorem Vx {tb:TB}(htb:JZ P tb){t:Nat}{i:TyI}(ht:Xr P t i){O:Nat->Prop}{a:AV}{va:Value}(ha:ConcV w O ρ a va){f:Nat}{K:AV->Prop}(h:JN i a f tb K):
  ∃v av,(Instr.fieldAt t va f).run P w= .ok v w/\ConcV w O ρ av v/\K av:=by
 unfold JN at h;split at h
 ·rename_i fs hfs;split at h
  ·rename_i fd hfd;split at h
   ·rename_i fi hfi;cases hz:fi.cells.beq 0 with
    | true=>rw[hz]at h;exact h.elim
    | false=>
     rw[hz]at h;simp only[R8]at h;have hne:fi.cells≠0:=fun e=>by rw[e]at hz;cases hz
     have hu:P.underlying t=some (.struct fs):=by rw[ht.und,hfs]
     have run: ∀{b o:Nat},va= .pointer (some ⟨b,o,none⟩)->(Instr.fieldAt t va f).run P w= .ok (.pointer (some ⟨b,o+fd.offset,none⟩)) w:=by
      intro b o e;subst e;simp[Instr.fieldAt,run_underlying hu,hfd,Instr.sureAddr,fieldPlace,Q6 (htb _ _ hfi),hne,Xl]
     split at h
     ·obtain⟨vals,hcc,hv⟩:=ha;simp at hv;subst hv;cases hcc with
      | p hk hn _=>exact⟨_,_,run rfl,QQI hk hn,h⟩
     ·obtain⟨vals,hcc,hv⟩:=ha;simp at hv;subst hv;cases hcc with
      | e hk hn _=>exact⟨_,_,run rfl,QLS hk hn (by omega),h⟩
     ·obtain⟨vals,hcc,hv⟩:=ha;simp at hv;subst hv;cases hcc with
      | y hr hx _=>exact⟨_,_,run rfl,QQJ hr hx (by omega),h⟩
     ·exact h.elim
   ·exact h.elim
  ·exact h.elim
 ·exact h.elim
def Vy (i:TyI)(a:AV)(f:Nat)(tb:TB)(K:AV->Prop):Prop:=
  match i.und with
  | .struct fs=>match fs[f]? with
    | some fd=>match tb fd.type with
      | some fi=>match a with
        | .x true cs=>orF (ldS cs fd.offset fi.cells fi.agg) K
        | _=>False
      | none=>False
    | none=>False
  | _=>False

theorem HJ {t:Nat}{i:TyI}(ht:Xr P t i){cs:List Value}{off:Nat}{us:List Value}(hu:us=(cs.drop off).take i.cells)(hl:us.length=i.cells)(w:World):
  ∃v,(part t cs.toArray off).run P w= .ok v w/\(if i.agg then v= .agg us.toArray else us=[v]):=by
 cases ha:i.agg with
 | true=>
  refine⟨.agg us.toArray,?_,by simp⟩;simp[part,Kg ht,ha,Q6 ht];rw[hu]
 | false=>
  have h1:=ht.one ha;match us,(by omega:us.length=1)with
  | [v],_=>
   refine⟨v,?_,by simp⟩;have:cs[off]? =some v:=by
    have h0:[v][0]? =((cs.drop off).take i.cells)[0]? :=by rw[hu]
    rw[Zd,if_pos (by omega),Ze]at h0;simpa using h0.symm
   simp[part,Kg ht,ha,this]
theorem QAv {tb:TB}(htb:JZ P tb){t:Nat}{i:TyI}(ht:Xr P t i){O:Nat->Prop}{a:AV}{va:Value}(ha:ConcV w O ρ a va){f:Nat}{K:AV->Prop}(h:Vy i a f tb K):
  ∃v av,(Instr.field t va f).run P w= .ok v w/\ConcV w O ρ av v/\K av:=by
 unfold Vy at h;split at h
 ·rename_i fs hfs;split at h
  ·rename_i fd hfd;split at h
   ·rename_i fi hfi;split at h
    ·obtain⟨vals,hcc,hv⟩:=ha;simp at hv;subst hv;obtain⟨es,us,h1,h2,h3,h4⟩:=JM hcc h;have hu:P.underlying t=some (.struct fs):=by rw[ht.und,hfs]
     obtain⟨v,hr,hv⟩:=HJ (P:=P) (htb _ _ hfi) h3 h4 w;exact⟨v,.x _ _,by simp[Instr.field,run_underlying hu,hfd,asAgg,hr],⟨us,h2,hv⟩,h1⟩
    ·exact h.elim
   ·exact h.elim
  ·exact h.elim
 ·exact h.elim
def JO (i:TyI)(a ix:AV)(H:HP)(tb:TB)(K:AV->Prop):Prop:=
  match i.und,ix with
  | .slice e,.x false [.v (.int _ j)]=>match tb e with
    | some ei=>match a with
      | .x false [.s sz xs]=>bif sz.beq ei.cells then(0<=j/\j<(xs.length:Int))/\K (.x false [.y sz xs j.toNat 0])else False
      | .x false [.w k o n]=>match H k with
        | some (.row _ sz _)=>bif sz.beq ei.cells then(0<=j/\j<(n:Int))/\K (.x false [.e k (o+j.toNat) 0])else False
        | some (.nst _ sz _ _ _ _)=>bif sz.beq ei.cells then(0<=j/\j<(n:Int))/\K (.x false [.e k (o+j.toNat) 0])else False
        | _=>False
      | .x false [.q k i n]=>match H k with
        | some (.nst _ _ _ _ sz2 _)=>bif sz2.beq ei.cells then(0<=j/\j<(n:Int))/\K (.x false [.z k i sz2 j.toNat 0])else False
        | _=>False
      | _=>False
    | none=>False
  | .array n e,.x false [.v (.int _ j)]=>match tb e with
    | some ei=>match a with
      | .x false [.p k 0]=>match H k with
        | some (.row _ sz _)=>bif sz.beq ei.cells then(0<=j/\j<(n:Int))/\K (.x false [.e k j.toNat 0])else False
        | _=>False
      | _=>False
    | none=>False
  | _,_=>False

theorem X6 {t e:Nat}{ei:TyI}(ht:P.underlying t=some (.slice e))(he:Xr P e ei){k:IntKind}{j:Int}{b o n cap:Nat}(h0:0<=j)(h1:j<n)(w:World):
  (Instr.indexAt t (.slice (some ⟨b,o,none⟩) n cap) (.int k j)).run P w= .ok (.pointer (some ⟨b,o+j.toNat*ei.cells,none⟩)) w:=by
 simp[Instr.indexAt,asIntOf,run_underlying ht,h0,h1,Q6 he,Xl]
theorem Vz {tb:TB}(htb:JZ P tb){t:Nat}{i:TyI}(ht:Xr P t i)(hs:HS w0 M ρ H w){a ix:AV}{va vi:Value}(ha:ConcV w (ow M ρ H) ρ a va)(hi:ConcV w (ow M ρ H) ρ ix vi){K:AV->Prop}(h:JO i a ix H tb K):
  ∃v av,(Instr.indexAt t va vi).run P w= .ok v w/\ConcV w (ow M ρ H) ρ av v/\K av:=by
 unfold JO at h;split at h
 ·rename_i e kk j hu;obtain⟨rfl,_⟩:=ConcX.one hi;have hund:P.underlying t=some (.slice e):=by rw[ht.und,hu]
  split at h
  ·rename_i ei hei;split at h
   ·rename_i sz xs;cases hz:sz.beq ei.cells with
    | false=>rw[hz]at h;exact h.elim
    | true=>
     rw[hz]at h;obtain⟨⟨h0,h1⟩,hk⟩:=h;have hsz:=Za hz;obtain⟨vals,hcc,hv⟩:=ha;simp at hv;subst hv;cases hcc with
     | s0 _=>simp at h1;omega
     | s00 _=>simp at h1;omega
     | s hr hx _ _=>
      exact⟨_,_,X6 hund (htb _ _ hei) h0 h1 w,QQJ hr hx (by rw[<-hsz];omega),hk⟩
   ·rename_i k o n;split at h
    ·rename_i tt sz xs hk;cases hz:sz.beq ei.cells with
     | false=>rw[hz]at h;exact h.elim
     | true=>
      rw[hz]at h;obtain⟨⟨h0,h1⟩,hkk⟩:=h;have hsz:=Za hz;obtain⟨vals,hcc,hv⟩:=ha;simp at hv;subst hv;obtain⟨bd,hρ,hlen,hbsz,ok⟩:=hs.blk k _ hk rfl;cases hcc with
      | w hk' hn hl _ _ _=>
       rw[hρ]at hk';cases hk'
       exact⟨_,_,X6 hund (htb _ _ hei) h0 h1 w,QLS hρ hn (by rw[<-hsz,<-hbsz,Zm];omega),hkk⟩
      | w0 _ _ _=>simp at h1;omega
      | w00 _ _=>simp at h1;omega
    ·rename_i tt sz oo t2 sz2 xs hk;cases hz:sz.beq ei.cells with
     | false=>rw[hz]at h;exact h.elim
     | true=>
      rw[hz]at h;obtain⟨⟨h0,h1⟩,hkk⟩:=h;have hsz:=Za hz;obtain⟨vals,hcc,hv⟩:=ha;simp at hv;subst hv;obtain⟨bd,hρ,_,hlen,hbsz,ok⟩:=hs.blk k _ hk rfl;cases hcc with
      | w hk' hn hl _ _ _=>
       rw[hρ]at hk';cases hk'
       exact⟨_,_,X6 hund (htb _ _ hei) h0 h1 w,QLS hρ hn (by rw[<-hsz,<-hbsz,Zm];omega),hkk⟩
      | w0 _ _ _=>simp at h1;omega
      | w00 _ _=>simp at h1;omega
    ·exact h.elim
   ·rename_i k i n;split at h
    ·rename_i tt sz oo t2 sz2 xs hk;cases hz:sz2.beq ei.cells with
     | false=>rw[hz]at h;exact h.elim
     | true=>
      rw[hz]at h;obtain⟨⟨h0,h1⟩,hkk⟩:=h;have hsz:=Za hz;obtain⟨vals,hcc,hv⟩:=ha;simp at hv;subst hv;cases hcc with
      | q hk' hn hβ _ _=>
       exact⟨_,_,X6 hund (htb _ _ hei) h0 h1 w,XK (by rw[<-hsz];have:=CC.z (w:=w) (O:=ow M ρ H) (sz:=sz2) (j:=j.toNat) (o:=0) hk' hn hβ .nil;rw[Nat.add_zero]at this;rw[Nat.zero_add];exact this),hkk⟩
    ·exact h.elim
   ·exact h.elim
  ·exact h.elim
 ·rename_i n e kk j hu;obtain⟨rfl,_⟩:=ConcX.one hi;have hund:P.underlying t=some (.array n e):=by rw[ht.und,hu]
  split at h
  ·rename_i ei hei;split at h
   ·rename_i k;split at h
    ·rename_i tt sz xs hk;cases hz:sz.beq ei.cells with
     | false=>rw[hz]at h;exact h.elim
     | true=>
      rw[hz]at h;obtain⟨⟨h0,h1⟩,hkk⟩:=h;have hsz:=Za hz;obtain⟨vals,hcc,hv⟩:=ha;simp at hv;subst hv;obtain⟨bd,hρ,hlen,hbsz,ok⟩:=hs.blk k _ hk rfl;cases hcc with
      | p hk' hn _=>
       rw[hρ]at hk';cases hk'
       refine⟨_,_,?_,QLS (i:=j.toNat) (o:=0) hρ hn rfl,hkk⟩;simp[Instr.indexAt,asIntOf,run_underlying hund,Instr.sureAddr,h0,h1,Q6 (htb _ _ hei),Xl,hbsz,hsz]
    ·exact h.elim
   ·exact h.elim
  ·exact h.elim
 ·exact h.elim
def V0 (i:TyI)(a ix:AV)(K:AV->Prop):Prop:=
  match i.und,a,ix with
  | .string,.x false [.v (.string s)],.x false [.v (.int _ j)]=> ∃b,(0<=j/\s.data.toList[j.toNat]? =some b)/\K (YF (.int .u8 b.toNat))
  | .string,.x false [.b m _],.x false [.v (.int _ j)]=> ∃b,(0<=j/\(QA m)[j.toNat]? =some b)/\K (YF (.int .u8 b.toNat))
  | _,_,_=>False

theorem QAw {t:Nat}{i:TyI}(ht:Xr P t i){O:Nat->Prop}{a ix:AV}{va vi:Value}(ha:ConcV w O ρ a va)(hi:ConcV w O ρ ix vi){K:AV->Prop}(h:V0 i a ix K):
  ∃v av,(Instr.index t va vi).run P w= .ok v w/\ConcV w O ρ av v/\K av:=by
 unfold V0 at h;split at h
 ·rename_i s kk j hu;obtain⟨rfl,_⟩:=ConcX.one ha;obtain⟨rfl,_⟩:=ConcX.one hi;obtain⟨b,⟨h0,hb⟩,hk⟩:=h;have hund:P.underlying t=some .string:=by rw[ht.und,hu]
  refine⟨_,_,?_,QZ rfl,hk⟩;have hg:s[j.toNat]? =some b:=by
   have hlt:j.toNat<s.data.toList.length:=(Zb.1 hb).1;have hlt':j.toNat<s.size:=by simpa using hlt
   rw[getElem?_pos s j.toNat hlt'];have:=(Zb.1 hb).2;simp at this;simp[<-this];rfl
  simp[Instr.index,asIntOf,run_underlying hund,h0,hg]
 ·rename_i m n kk j hu;obtain⟨rfl,_⟩:=Jl ha;obtain⟨rfl,_⟩:=ConcX.one hi;obtain⟨b,⟨h0,hb⟩,hk⟩:=h;have hund:P.underlying t=some .string:=by rw[ht.und,hu]
  refine⟨_,_,?_,QZ rfl,hk⟩;have hg:(⟨(QA m).toArray⟩:ByteArray)[j.toNat]? =some b:=by
   have hlt:j.toNat<(QA m).length:=(Zb.1 hb).1;have hlt':j.toNat<(⟨(QA m).toArray⟩:ByteArray).size:=by show _<(QA m).toArray.size;simpa using hlt
   rw[getElem?_pos _ j.toNat hlt'];have:=(Zb.1 hb).2;show some ((QA m).toArray[j.toNat])=some b
   simp[this]
  simp[Instr.index,asIntOf,run_underlying hund,h0,hg,YV]
 ·exact h.elim
end Go.Eng
namespace Go.Eng
open Go
variable {P:Program}{w0:World}{M:Ctx}{ρ:Env}{H:HP}{w:World}
theorem QGq (vs:List Value): ∀(k off:Nat) (cells:Array Value),off+k+vs.length<=cells.size->
  ((vs.zipIdx k).foldl (fun cs (x:Value×Nat)=>cs.setIfInBounds (off+x.2) x.1) cells)=(cells.toList.take (off+k)++vs++cells.toList.drop (off+k+vs.length)).toArray:=by
 induction vs with
 | nil=>intro k off cells _;simp
 | cons v vs ih=>
  intro k off cells h;simp only[Yd]at h;simp only[List.zipIdx_cons,List.foldl_cons];rw[ih (k+1) off _ (by simp;omega)];apply congrArg;apply Zp;intro m;simp only[Array.toList_setIfInBounds];have hlen:(List.take (off+k) cells.toList).length=off+k:=by simp;omega
  have hlen':(List.take (off+(k+1)) (cells.toList.set (off+k) v)).length=off+(k+1):=by simp;omega
  rw[List.append_assoc,List.append_assoc];by_cases h1:m<off+k
  ·rw[Zi (by omega),Zi (by omega)];rw[Zd,if_pos (by omega),Zd,if_pos h1,List.getElem?_set_ne (by omega)]
  ·rw[Zl (by omega:(List.take (off+k) cells.toList).length<=m),hlen];by_cases h2:m=off+k
   ·subst h2;rw[Zi (by omega),Zd,if_pos (by omega)];simp;have:off+k<cells.size:=by omega
    simp[this]
   ·rw[Zl (by omega),hlen'];have e:m-(off+k)=(m-(off+(k+1)))+1:=by omega
    rw[e];simp only[List.cons_append,List.getElem?_cons_succ];by_cases h3:m-(off+(k+1))<vs.length
    ·rw[Zi h3,Zi h3]
    ·rw[Zl (by omega),Zl (by omega),Ze,Ze,List.getElem?_set_ne (by omega)];congr 1;simp only[Yd];omega
def QAF (place:Nat->Option (Nat×Nat))(cs:List Ch):List (Nat×AV)->Option (List Ch)
  | []=>some cs
  | (i,a)::rest=>
    match place i,a with
    | some (off,n),.x _ ds=>bif(QV ds).beq n then(match Wy cs off ds with
      | some cs'=>QAF place cs' rest
      | none=>none)else none
    | _,_=>none

theorem QCG {O:Nat->Prop}{place:Nat->Option (Nat×Nat)}: ∀{parts:List (Nat×AV)} {vparts:List (Nat×Value)} {cs ds:List Ch} {vals:List Value},CC w O ρ cs vals->
  parts.length=vparts.length->(∀(j:Nat) (i:Nat) (a:AV) (i':Nat) (v:Value),parts[j]? =some (i,a)->vparts[j]? =some (i',v)->i=i'/\ConcV w O ρ a v)->QAF place cs parts=some ds->
  ∃us:List Value,Instr.fill place vals.toArray vparts=some us.toArray/\CC w O ρ ds us:=by
 intro parts;induction parts with
 | nil=>
  intro vparts cs ds vals hc hl _ h;have:vparts=[]:=Zy (by simpa using hl.symm);subst this;simp[QAF]at h;subst h;exact⟨vals,rfl,hc⟩
 | cons pa parts ih=>
  intro vparts cs ds vals hc hl hp h;obtain⟨i,a⟩:=pa;match vparts,hl with
  | (i',v)::vparts,hl=>
   obtain⟨rfl,hcv⟩:=hp 0 i a i' v rfl rfl;simp only[QAF]at h;split at h
   ·rename_i off n ag es hpl _;cases hb:(QV es).beq n with
    | false=>rw[hb]at h;cases h
    | true=>
     rw[hb]at h;simp only[R7]at h;split at h
     ·rename_i cs' hset;obtain⟨us,hcu,hcells,_⟩:=ConcX.cells hcv;have hn:=Za hb;have hle:=HF hset;rw[<-hcu.length,<-hc.length]at hle;have hc':=Kh hset hc hcu;obtain⟨r,hr,hcr⟩:=ih (vparts:=vparts) hc' (by simpa using hl) (fun j i a i' v h1 h2=>hp (j+1) i a i' v (by simpa using h1) (by simpa using h2)) h;refine⟨r,?_,hcr⟩;have hsz:v.cells.size=n:=by rw[hcells];simp[hcu.length,hn]
      have hf:=QGq us 0 off vals.toArray (by simpa using hle);simp only[Nat.add_zero]at hf;have hg: ¬(v.cells.size≠n∨vals.toArray.size<off+v.cells.size):=by
       rw[hcells];simp only[Zt];rw[hcu.length,hn];rw[hcu.length,hn]at hle;omega
      simp only[Instr.fill,hpl];have hg':(decide (v.cells.size≠n) || decide (off+v.cells.size>vals.toArray.size))=false:=by
       simp only[Bool.or_eq_false_iff,decide_eq_false_iff_not];constructor
       ·intro h;exact hg (.inl h)
       ·intro h;exact hg (.inr h)
      rw[hg'];simp only[Bool.false_eq_true,if_false];have:(v.cells.zipIdx.foldl (fun cs (x:Value×Nat)=>cs.setIfInBounds (off+x.2) x.1) vals.toArray)=(vals.take off++us++vals.drop (off+us.length)).toArray:=by
       rw[<-Array.foldl_toList];have:v.cells.zipIdx.toList=us.zipIdx:=by rw[hcells];simp
       rw[this];exact hf
      exact(congrArg (Instr.fill place · vparts) this).trans hr
     ·cases h
   ·cases h
def QLT (tb:TB)(fs:Array Field):Option (List (Nat×Nat)):=
 fs.toList.mapM fun f=>(tb f.type).map fun i=>(f.offset,i.cells)
def V1 (i:TyI)(parts:List (Nat×AV))(tb:TB)(K:AV->Prop):Prop:=
  match i.und with
  | .struct fs=>match QLT tb fs with
    | some pl=>orH (QAF (fun j=>pl[j]?) (i.zero.map Ch.v) parts) fun cs=>K (.x true cs)
    | none=>False
  | _=>False

theorem QD1 {tb:TB}(htb:JZ P tb): ∀{fs:List Field} {pl:List (Nat×Nat)},(fs.mapM fun f=>(tb f.type).map fun i=>(f.offset,i.cells))=some pl-> ∀w,(fs.mapM fun f=>do pure (f.offset,<-sizeOf f.type):Sem (List (Nat×Nat))).run P w= .ok pl w:=by
 intro fs;induction fs with
 | nil=>intro pl h w;simp at h;subst h;rfl
 | cons f fs ih=>
  intro pl h w;simp only[List.mapM_cons]at h;cases hf:tb f.type with
  | none=>rw[hf]at h;simp at h
  | some i=>
   rw[hf]at h;cases hr:(fs.mapM fun f=>(tb f.type).map fun i=>(f.offset,i.cells))with
   | none=>rw[hr]at h;simp at h
   | some pl'=>
    rw[hr]at h;simp at h;subst h;have:=ih hr w;simp only[List.mapM_cons,Sem.run_bind,Q6 (htb _ _ hf),Zc,Sem.run_pure,this]
theorem QAx {tb:TB}(htb:JZ P tb){t:Nat}{i:TyI}(ht:Xr P t i){O:Nat->Prop}{parts:List (Nat×AV)}{vparts:Array (Nat×Value)}(hl:parts.length=vparts.size)
  (hp: ∀(j:Nat) (i:Nat) (a:AV) (i':Nat) (v:Value),parts[j]? =some (i,a)->vparts.toList[j]? =some (i',v)->i=i'/\ConcV w O ρ a v) {K:AV->Prop} (h:V1 i parts tb K):
  ∃v av,(Instr.build t vparts).run P w= .ok v w/\ConcV w O ρ av v/\K av:=by
 unfold V1 at h;split at h
 ·rename_i fs hfs;split at h
  ·rename_i pl hpl;unfold orH at h;split at h
   ·rename_i cs hfill;have hu:P.underlying t=some (.struct fs):=by rw[ht.und,hfs]
    obtain⟨z,hz,hzc⟩:=JV ht w;obtain⟨us,h1,h2⟩:=QCG (w:=w) (O:=O) (ρ:=ρ) (CC.vals ht.zone) (vparts:=vparts.toList) (by simpa using hl) hp hfill;have hpr:=QD1 htb hpl w;have hpr':(fs.mapM fun f=>do pure (f.offset,<-sizeOf f.type):Sem (Array (Nat×Nat))).run P w= .ok pl.toArray w:=by
     rw[<-Array.toArray_toList (xs:=fs)] ;rw[List.mapM_toArray];simp only[Sem.run_map,hpr,Zc]
    refine⟨.agg us.toArray,.x true cs,?_,⟨us,h2,by simp⟩,h⟩;simp only[Instr.build,Sem.run_bind,hz,Zc,run_underlying hu];simp only[hpr',Zc,hzc];have e:(fun(j:Nat)=>pl.toArray[j]?)=fun(j:Nat)=>pl[j]? :=by funext j;simp
    rw[e,h1];rfl
   ·exact h.elim
  ·exact h.elim
 ·exact h.elim
end Go.Eng
namespace Go.Eng
open Go
inductive Lf where
  | int (k:IntKind)
  | bool
  | str
  deriving DecidableEq

def Y8:Value->Option Lf
 | .int k _=>some (.int k)
 | .bool _=>some .bool
 | .string _=>some .str
 | _=>none
def KB (rec:TyI->Option (List Lf))(tb:TB):Nat->List Field->Option (List Lf)
 | _,[]=>some []
 | o,f::fs=>match tb f.type with
  | some fi=>bif f.offset.beq o then(match rec fi,KB rec tb (o+fi.cells) fs with
   | some a,some b=>bif a.length.beq fi.cells then some (a++b)else none
   | _,_=>none)else none
  | none=>none
def Ki (tb:TB):Nat->TyI->Option (List Lf)
  | 0,_=>none
  | d+1,i=>match i.und with
    | .int k=>some [.int k]
    | .bool=>some [.bool]
    | .string=>some [.str]
    | .struct fs=>bif i.eq then KB (Ki tb d) tb 0 fs.toList else none
    | _=>none

def V2:Value->Value->Bool
 | .int _ a,.int _ b=>a==b
 | .bool a,.bool b=>a==b
 | .string a,.string b=>a.toList==b.toList
 | _,_=>false
def J5:List Value->List Value->Bool
 | x::xs,y::ys=>V2 x y&&J5 xs ys
 | _,_=>true
theorem QCH: ∀{a b c d:List Value},a.length=b.length->J5 (a++c) (b++d)=(J5 a b&&J5 c d):=by
 intro a;induction a with
 | nil=>intro b c d h;cases b with
  | nil=>simp[J5]
  | cons=>cases h
 | cons x a ih=>
  intro b c d h;cases b with
  | nil=>cases h
  | cons y b=>simp only[List.cons_append,J5,ih (by simpa using h),Bool.and_assoc]
variable {P:Program}{w:World}
theorem HK {tb : TB} (htb : JZ P tb) {d n : Nat} (ih : ∀ (i : TyI) (t : Nat) (ls : List Lf), Xr P t i → Ki tb d i = some ls → ∀ (x y : Value) (us vs : List Value), (if i.agg then x = .agg us.toArray else us = [x]) → (if i.agg then y = .agg vs.toArray else vs = [y]) →
      us.map Y8=ls.map some->vs.map Y8=ls.map some->(Op.equalIn (n+d) t x y).run P w= .ok (J5 us vs) w) (us vs:List Value):
    ∀(fs:List Field) (o:Nat) (ls:List Lf),(∀f∈fs,f.name≠ "_")->KB (Ki tb d) tb o fs=some ls->(us.drop o).map Y8=ls.map some->(vs.drop o).map Y8=ls.map some->
      (Op.eqFields (n+d) us.toArray vs.toArray fs).run P w= .ok (J5 (us.drop o) (vs.drop o)) w:=by
  intro fs;induction fs with
  | nil=>
    intro o ls _ h hu hv;simp only[KB,Option.some.injEq]at h;subst h;have e1:us.drop o=[]:=by simpa using hu
    rw[e1];simp[Op.eqFields,J5]
  | cons f fs ihf=>
    intro o ls hne h hu hv;simp only[KB]at h;split at h
    · rename_i fi hfi;cases hb:f.offset.beq o with
      | false=>rw[hb]at h;cases h
      | true=>
        rw[hb]at h;have ho:=Za hb;simp only[R7]at h;split at h
        · rename_i a b ha hbb;cases hl:a.length.beq fi.cells with
          | false=>rw[hl]at h;cases h
          | true=>
            rw[hl]at h;have hlen:=Za hl;simp only[R7,Option.some.injEq]at h;subst h;have split: ∀{us:List Value},(us.drop o).map Y8=(a++b).map some->((us.drop o).take fi.cells).map Y8=a.map some/\(us.drop (o+fi.cells)).map Y8=b.map some/\((us.drop o).take fi.cells).length=fi.cells:=by
              intro us h;have hlu:(us.drop o).length=a.length+b.length:=by
                have:=congrArg List.length h;simpa using this
              refine⟨?_,?_,?_⟩
              · rw[List.map_take,h,List.map_append,List.take_append_of_le_length (by simp;omega),List.take_of_length_le (by simp;omega)]
              · rw[<-Ye,List.map_drop,h,List.map_append,List.drop_append_of_le_length (by simp;omega),List.drop_of_length_le (by simp;omega),List.nil_append]
              · rw[List.length_take];omega
            obtain⟨u1,u2,u3⟩:=split hu;obtain⟨v1,v2,v3⟩:=split hv;have hfi':=htb _ _ hfi;obtain⟨x,hx,hxv⟩:=HJ (P:=P) hfi' (cs:=us) (off:=o) rfl u3 w;obtain⟨y,hy,hyv⟩:=HJ (P:=P) hfi' (cs:=vs) (off:=o) rfl v3 w;have heq:=ih fi f.type a hfi' ha x y _ _ hxv hyv u1 v1;have hrest:=ihf (o+fi.cells) b (fun g hg=>hne g (by simp[hg])) hbb u2 v2;have e1:us.drop o=(us.drop o).take fi.cells++us.drop (o+fi.cells):=by rw[<-Ye,List.take_append_drop]
            have e2:vs.drop o=(vs.drop o).take fi.cells++vs.drop (o+fi.cells):=by rw[<-Ye,List.take_append_drop]
            have e3:J5 (us.drop o) (vs.drop o)=(J5 ((us.drop o).take fi.cells) ((vs.drop o).take fi.cells)&&J5 (us.drop (o+fi.cells)) (vs.drop (o+fi.cells))):=by
              conv=>lhs;rw[e1,e2]
              exact QCH (by rw[u3,v3])
            rw[e3];simp only[Op.eqFields,if_pos (hne f (by simp)),ho,Sem.run_bind,hx,hy,Zc,heq];cases hq:J5 ((us.drop o).take fi.cells) ((vs.drop o).take fi.cells)with
            | false=>simp
            | true=>simpa using hrest
        · cases h
    · cases h

theorem Gu {tb : TB} (htb : JZ P tb) (n : Nat) : ∀ (d : Nat) (i : TyI) (t : Nat) (ls : List Lf), Xr P t i → Ki tb d i = some ls → ∀ (x y : Value) (us vs : List Value), (if i.agg then x = .agg us.toArray else us = [x]) → (if i.agg then y = .agg vs.toArray else vs = [y]) →
      us.map Y8=ls.map some->vs.map Y8=ls.map some->(Op.equalIn (n+d) t x y).run P w= .ok (J5 us vs) w:=by
  intro d;induction d with
  | zero=>intro i t ls _ h;cases h
  | succ d ih=>
    intro i t ls ht h x y us vs hx hy hu hv;simp only[Ki]at h;have hag:=ht.agg;split at h
    · rename_i k hk;cases h
      rw[hk]at hag;simp only at hag;simp[hag]at hx hy;subst hx hy;simp at hu hv;have hund:P.underlying t=some (.int k):=by rw[ht.und,hk]
      cases x<;>simp[Y8]at hu
      cases y<;>simp[Y8]at hv
      subst hu hv;rw[<-Yb,run_equalIn_int w (n+d) t _ _ _ _ hund];simp[J5,V2]
    · rename_i hk;cases h
      rw[hk]at hag;simp only at hag;simp[hag]at hx hy;subst hx hy;simp at hu hv;have hund:P.underlying t=some .bool:=by rw[ht.und,hk]
      cases x<;>simp[Y8]at hu
      cases y<;>simp[Y8]at hv
      rw[<-Yb,run_equalIn_bool' w (n+d) t _ _ hund];simp[J5,V2]
    · rename_i hk;cases h
      rw[hk]at hag;simp only at hag;simp[hag]at hx hy;subst hx hy;simp at hu hv;have hund:P.underlying t=some .string:=by rw[ht.und,hk]
      cases x<;>simp[Y8]at hu
      cases y<;>simp[Y8]at hv
      rw[<-Yb,run_equalIn_string w (n+d) t _ _ hund];simp[J5,V2]
    · rename_i fs hk;cases hb:i.eq with
      | false=>rw[hb]at h;cases h
      | true=>
        rw[hb]at h;simp only[R7]at h;rw[hk]at hag;simp only at hag;simp[hag]at hx hy;subst hx hy;obtain⟨g1,g2,g3⟩:=ht.eqok hb;have hund:P.underlying t=some (.struct fs):=by rw[ht.und,hk]
        have hf:P.fieldsOf t=fs:=by simp[Program.fieldsOf,hund]
        rw[<-Yb,run_equalIn_struct w (n+d) t _ _ (by rw[hf];exact hund) g1,hf];have:=HK htb (n:=n) (d:=d) (fun i t ls h1 h2 x y us vs h3 h4 h5 h6=>ih i t ls h1 h2 x y us vs h3 h4 h5 h6) us vs fs.toList 0 ls (g3 fs hk) h (by simpa using hu) (by simpa using hv);simpa using this
    · cases h

def HL:List Ch->Option (List Lf)
 | []=>some []
 | c::cs=>match HL cs with
  | none=>none
  | some ls=>match c with
   | .v x=>match Y8 x with
    | some l=>some (l::ls)
    | none=>none
   | .r _ _=>some (.bool:: .str:: .str::ls)
   | .b _ _=>some (.str::ls)
   | _=>none
def eqC:List Ch->List Ch->Option Bool
 | [],[]=>some true
 | .v (.int _ a)::cs,.v (.int _ b)::ds=>(eqC cs ds).map fun r=>(a==b)&&r
 | .v (.bool a)::cs,.v (.bool b)::ds=>(eqC cs ds).map fun r=>(a==b)&&r
 | .v (.string a)::cs,.v (.string b)::ds=>(eqC cs ds).map fun r=>(a.toList==b.toList)&&r
 | .r q _::cs,.r p _::ds=>(eqC cs ds).map fun r=>decide (q=p)&&r
 | .b m _::cs,.b n _::ds=>(eqC cs ds).map fun r=>decide (m=n)&&r
 | _,_=>none
theorem Ue {O:Nat->Prop}{ρ:Env}: ∀{cs:List Ch} {us:List Value} {ls:List Lf},CC w O ρ cs us->HL cs=some ls->us.map Y8=ls.map some:=by
 intro cs;induction cs with
 | nil=>intro us ls hc h;cases h;cases hc;rfl
 | cons c cs ih=>
  intro us ls hc h;unfold HL at h;split at h
  ·cases h
  ·rename_i ls' h';cases c with
   | v x=>
    simp only at h;split at h
    ·rename_i l hl;cases h
     cases hc with
     | v _ hc=>simp[hl,ih hc h']
    ·cases h
   | r q n=>
    cases h
    cases hc with
    | r _ hc=>simp[Y8,QCC,QGi,QGj,YV,ih hc h']
   | b m n=>
    cases h
    cases hc with
    | b _ hc=>simp[Y8,YV,ih hc h']
   | _=>cases h
theorem QAy (l:List UInt8):(⟨l.toArray⟩:ByteArray).toList=l:=by rw[Zh]
theorem QCI (m n:Nat):V2 (YV (QA m)) (YV (QA n))=decide (m=n):=by
 simp only[V2,YV,QAy];rw[Zs];simp only[beq_iff_eq,decide_eq_true_eq];exact⟨Wk,fun e=>by rw[e]⟩
theorem QGr: ∀{cs ds:List Ch} {r:Bool},eqC cs ds=some r-> ∀{O:Nat->Prop} {ρ:Env} {us vs:List Value},CC w O ρ cs us->CC w O ρ ds vs->J5 us vs=r:=by
 intro cs ds;fun_induction eqC cs ds with
 | case1=>intro r h O ρ us vs h1 h2;cases h;cases h1;cases h2;rfl
 | case2 k a cs k' b ds ih=>
  intro r h O ρ us vs h1 h2;simp only[Zf]at h;obtain⟨r',hr,rfl⟩:=h;cases h1 with
  | v _ h1=>cases h2 with
   | v _ h2=>simp only[J5,V2,ih hr h1 h2]
 | case3 a cs b ds ih=>
  intro r h O ρ us vs h1 h2;simp only[Zf]at h;obtain⟨r',hr,rfl⟩:=h;cases h1 with
  | v _ h1=>cases h2 with
   | v _ h2=>simp only[J5,V2,ih hr h1 h2]
 | case4 a cs b ds ih=>
  intro r h O ρ us vs h1 h2;simp only[Zf]at h;obtain⟨r',hr,rfl⟩:=h;cases h1 with
  | v _ h1=>cases h2 with
   | v _ h2=>simp only[J5,V2,ih hr h1 h2]
 | case5 q n cs p m ds ih=>
  intro r h O ρ us vs h1 h2;simp only[Zf]at h;obtain⟨r',hr,rfl⟩:=h;cases h1 with
  | r _ h1=>cases h2 with
   | r _ h2=>
    have e:(V2 (QCC q) (QCC p)&&(V2 (QGi q) (QGi p)&&V2 (QGj q) (QGj p)))=decide (q=p):=by
     simp only[QGi,QGj,QCI];simp only[QCC,V2];rw[Zs];simp only[Zg,beq_iff_eq,decide_eq_true_eq];constructor
     ·rintro⟨h1,h2,h3⟩;have h1:(q.num<0)↔(p.num<0):=by simpa using h1
      refine Rat.ext ?_ h3
      by_cases h:q.num<0
      ·have:=h1.1 h;omega
      ·have: ¬p.num<0:=fun h'=>h (h1.2 h');omega
     ·rintro rfl;simp
    simp only[J5,ih hr h1 h2];rw[<-e];simp only[Bool.and_assoc]
 | case6 m k cs n k' ds ih=>
  intro r h O ρ us vs h1 h2;simp only[Zf]at h;obtain⟨r',hr,rfl⟩:=h;cases h1 with
  | b _ h1=>cases h2 with
   | b _ h2=>simp only[J5,QCI,ih hr h1 h2]
 | case7=>intro r h;cases h
def eqA (tb:TB)(t:Nat)(op:BinOp)(cs ds:List Ch)(K:AV->Prop):Prop:=
  match tb t with
  | none=>False
  | some i=>bif i.eq&&i.agg then(match Ki tb 16 i with
    | none=>False
    | some ls=>bif decide (HL cs=some ls)&&decide (HL ds=some ls)then(match eqC cs ds with
      | none=>False
      | some r=>match op with
        | .eql=>K (.x false [.v (.bool r)])
        | .neq=>K (.x false [.v (.bool !r)])
        | _=>False)else False)else False

theorem QGs {tb:TB}(htb:JZ P tb){t:Nat}{op:BinOp}{O:Nat->Prop}{ρ:Env}{cs ds:List Ch}{vx vy:Value}{x y:Operand}(hx:ConcV w O ρ (.x true cs) vx)(hy:ConcV w O ρ (.x true ds) vy){K:AV->Prop}(h:eqA tb t op cs ds K):
  ∃v av,(do eqGuard op t x y vx vy;binOp op t vx vy:Sem Value).run P w= .ok v w/\ConcV w O ρ av v/\K av:=by
 obtain⟨us,c1,e1⟩:=hx;obtain⟨vs,c2,e2⟩:=hy;simp at e1 e2;subst e1 e2;unfold eqA at h;split at h
 ·exact h.elim
 ·rename_i i hi;have ht:=htb _ _ hi;cases hb:i.eq&&i.agg with
  | false=>rw[hb]at h;exact h.elim
  | true=>
   rw[hb]at h;simp only[R7]at h;simp only[Zg]at hb;split at h
   ·exact h.elim
   ·rename_i ls hls;cases hl:decide (HL cs=some ls)&&decide (HL ds=some ls)with
    | false=>rw[hl]at h;exact h.elim
    | true=>
     rw[hl]at h;simp only[Zg,decide_eq_true_eq]at hl;simp only[R7]at h;split at h
     ·exact h.elim
     ·rename_i r hr;have hrun:=Gu (w:=w) htb 9984 16 i t ls ht hls (.agg us.toArray) (.agg vs.toArray) us vs (by simp[hb.2]) (by simp[hb.2]) (Ue c1 hl.1) (Ue c2 hl.2);rw[QGr hr c1 c2]at hrun;have hg:=run_eqGuard_agg (P:=P) w op t x y us.toArray vs.toArray (ht.eqok hb.1).2.1;split at h
      ·refine⟨.bool r,_,?_,QZ rfl,h⟩;simp only[Sem.run_bind,hg,Zc];rw[run_eql_struct,hrun];rfl
      ·refine⟨.bool !r,_,?_,QZ rfl,h⟩;simp only[Sem.run_bind,hg,Zc];rw[run_neq_struct,hrun];rfl
      ·exact h.elim
def eqT (tb:TB)(t:Nat)(a b:AV):Option (Prop×Bool):=
  match tb t with
  | none=>none
  | some i=>match i.und,a,b with
    | .bool,.x false [.v (.bool p)],.x false [.v (.bool q)]=>some (True,p==q)
    | .slice _,.x false [.s _ xs],.x false [.v (.slice none _ _)]=>some (xs≠[],false)
    | .slice _,.x false [.w _ _ n],.x false [.v (.slice none _ _)]=>some (n≠0,false)
    | .slice _,.x false [.v (.slice x _ _)],.x false [.v (.slice none _ _)]=>some (True,x.isNone)
    | _,_,_=>none

def QGt (tb:TB)(t:Nat)(op:BinOp)(a b:AV)(K:AV->Prop):Prop:=
  match a,b with
  | .x true cs,.x true ds=>eqA tb t op cs ds K
  | a,b=>match eqT tb t a b with
    | some (p,r)=>(match op with
      | .eql=>p/\K (.x false [.v (.bool r)])
      | .neq=>p/\K (.x false [.v (.bool !r)])
      | _=>False)
    | none=>QIU op a b K

theorem QAz {d:Nat}{t:TypeId}{p q:Bool}(h:(underlying t).run P w= .ok .bool w):(Op.equalIn (d+1) t (.bool p) (.bool q)).run P w= .ok (p==q) w:=by simp[Op.equalIn,h]
theorem QCJ {d:Nat}{t e:TypeId}{x:Option Addr}{n c n' c':Nat}(h:(underlying t).run P w= .ok (.slice e) w):(Op.equalIn (d+1) t (.slice x n c) (.slice none n' c')).run P w= .ok x.isNone w:=by
 cases x<;>simp[Op.equalIn,h]
theorem QD2 {t:TypeId}{p q:Bool}(h:(underlying t).run P w= .ok .bool w):(Op.equal t (.bool p) (.bool q)).run P w= .ok (p==q) w:=QAz (d:=9999) h
theorem V3 {t e:TypeId}{x:Option Addr}{n c n' c':Nat}(h:(underlying t).run P w= .ok (.slice e) w):(Op.equal t (.slice x n c) (.slice none n' c')).run P w= .ok x.isNone w:=QCJ (d:=9999) h
theorem QAG {tb:TB}(htb:JZ P tb){t:Nat}{O:Nat->Prop}{ρ:Env}{ax ay:AV}{vx vy:Value}(hx:ConcV w O ρ ax vx)(hy:ConcV w O ρ ay vy){p:Prop}{r:Bool}(h:eqT tb t ax ay=some (p,r))(hp:p):
  (∀x y:Operand,∀op,(eqGuard op t x y vx vy).run P w= .ok () w)/\(binOp .eql t vx vy).run P w= .ok (.bool r) w/\(binOp .neq t vx vy).run P w= .ok (.bool !r) w:=by
 unfold eqT at h;split at h
 ·cases h
 ·rename_i i hi;have ht:=htb _ _ hi;have one: ∀{a:Value} {r:Bool},a.oneCell'=true->a≠ .nilIface->(Op.equal t a vy).run P w= .ok r w->binOp .eql t a vy=(do pure (.bool (<-Op.equal t a vy)))->binOp .neq t a vy=(do pure (.bool (!(<-Op.equal t a vy))))->
    (∀x y:Operand,∀op,(eqGuard op t x y a vy).run P w= .ok () w)/\(binOp .eql t a vy).run P w= .ok (.bool r) w/\(binOp .neq t a vy).run P w= .ok (.bool !r) w:=by
   intro a r h1 h2 h3 h4 h5;exact⟨fun x y op=>Xw op t x y a vy h1 h2 w,by rw[h4];simp[h3],by rw[h5];simp[h3]⟩
  split at h
  ·rename_i p q hu;cases h
   obtain⟨rfl,_⟩:=ConcX.one hx;obtain⟨rfl,_⟩:=ConcX.one hy;have e:=run_underlying ht.und w;rw[hu]at e;exact one rfl (by simp) (QD2 e) rfl rfl
  ·rename_i e' sz xs n c hu;cases h
   obtain⟨rfl,_⟩:=ConcX.one hy;have e:=run_underlying ht.und w;rw[hu]at e;obtain⟨vals,hcc,hv⟩:=hx;simp at hv;subst hv;cases hcc with
   | s0 _=>exact absurd rfl hp
   | s00 _=>exact absurd rfl hp
   | s hr hx hcap _=>exact one rfl (by simp) (V3 e) rfl rfl
  ·rename_i e' k o n n' c hu;cases h
   obtain⟨rfl,_⟩:=ConcX.one hy;have e:=run_underlying ht.und w;rw[hu]at e;obtain⟨vals,hcc,hv⟩:=hx;simp at hv;subst hv;cases hcc with
   | w _ _ _ _ _ _=>exact one rfl (by simp) (V3 e) rfl rfl
   | w0 _ _ _=>exact absurd rfl hp
   | w00 _ _=>exact absurd rfl hp
  ·rename_i e' x n c n' c' hu;cases h
   obtain⟨rfl,_⟩:=ConcX.one hx;obtain⟨rfl,_⟩:=ConcX.one hy;have e:=run_underlying ht.und w;rw[hu]at e;exact one rfl (by simp) (V3 e) rfl rfl
  ·cases h
theorem QD3 {tb:TB}(htb:JZ P tb){t:Nat}{op:BinOp}{O:Nat->Prop}{ρ:Env}{ax ay:AV}{vx vy:Value}{x y:Operand}(hx:ConcV w O ρ ax vx)(hy:ConcV w O ρ ay vy){K:AV->Prop}(h:QGt tb t op ax ay K):
  ∃v av,(do eqGuard op t x y vx vy;binOp op t vx vy:Sem Value).run P w= .ok v w/\ConcV w O ρ av v/\K av:=by
 unfold QGt at h;split at h
 ·exact QGs htb hx hy h
 ·split at h
  ·rename_i p r he;split at h
   ·obtain⟨h1,h2,_⟩:=QAG htb hx hy he h.1;exact⟨_,_,by simp only[Sem.run_bind,h1 x y,Zc,h2],QZ rfl,h.2⟩
   ·obtain⟨h1,_,h2⟩:=QAG htb hx hy he h.1;exact⟨_,_,by simp only[Sem.run_bind,h1 x y,Zc,h2],QZ rfl,h.2⟩
   ·exact h.elim
  ·exact QD0 hx hy h
end Go.Eng
namespace Go.Eng
open Go
variable {P:Program}{w0:World}{M:Ctx}{ρ:Env}{H:HP}{w:World}
def V4 (H:HP)(n:Nat):Nat->List (Nat×AV)->Option (List (List Ch))
  | _,[]=>some []
  | k,(i,.x _ cs)::rest=>bif i.beq k&&(QV cs).beq n then(match W7 H cs,V4 H n (k+1) rest with
    | some ds,some r=>some (ds::r)
    | _,_=>none)else none
  | _,_=>none

def killParts (H:HP):List (Nat×AV)->HP
 | []=>H
 | (_,.x _ cs)::rest=>killParts (killL H cs) rest
 | _::rest=>killParts H rest
def Q3:List (Nat×AV)->List Nat
 | []=>[]
 | (_,.x _ cs)::rest=>Y7 cs++Q3 rest
 | _::rest=>Q3 rest
theorem Y9: ∀(ps:List (Nat×AV)) (H:HP) (k:Nat),killParts H ps k=if k∈Q3 ps then some .dead else H k:=by
 intro ps;induction ps with
 | nil=>intro H k;simp[killParts,Q3]
 | cons p ps ih=>
  intro H k;obtain⟨i,a⟩:=p;cases a with
  | x b cs=>
   simp only[killParts,Q3,Zz];rw[ih,WZ];by_cases h1:k∈Q3 ps<;>by_cases h2:k∈Y7 cs<;>simp[h1,h2]
  | _=>simp only[killParts,Q3];exact ih H k
def V5 (w:World)(O:Nat->Prop)(ρ:Env)(parts:List (Nat×AV))(vparts:List (Nat×Value)):Prop:=
 parts.length=vparts.length/\ ∀(j:Nat) (i:Nat) (a:AV) (i':Nat) (v:Value),parts[j]? =some (i,a)->vparts[j]? =some (i',v)->i=i'/\ConcV w O ρ a v
theorem QCK {n:Nat}: ∀{k:Nat} {parts:List (Nat×AV)} {xs:List (List Ch)},V4 H n k parts=some xs->xs.length=parts.length/\
  ∀j i a,parts[j]? =some (i,a)->i=k+j/\ ∃b cs ds,a= .x b cs/\QV cs=n/\W7 H cs=some ds/\xs[j]? =some ds:=by
 intro k parts;induction parts generalizing k with
 | nil=>intro xs h;simp[V4]at h;subst h;simp
 | cons p parts ih=>
  intro xs h;obtain⟨i,a⟩:=p;cases a with
  | x b cs=>
   simp only[V4]at h;cases hb:(i.beq k&&(QV cs).beq n)with
   | false=>rw[hb]at h;cases h
   | true=>
    rw[hb]at h;simp only[R7]at h;simp only[Zg]at hb;split at h
    ·rename_i ds r h1 h2;simp at h;subst h;obtain⟨l1,l2⟩:=ih h2;refine⟨by simp[l1],fun j i' a' hj=> ?_⟩;cases j with
     | zero=>simp at hj;obtain⟨rfl,rfl⟩:=hj;exact⟨Za hb.1,b,cs,ds,rfl,Za hb.2,h1,rfl⟩
     | succ j=>
      have:=l2 j i' a' (by simpa using hj);exact⟨by omega,by simpa using this.2⟩
    ·cases h
  | _=>simp[V4]at h
def KC (H:HP):List (Nat×AV)->Option (Value×Nat×Nat×Nat×Nat×List (List Ch))
  | [(0,.x _ [.v tv,.w k 0 m])]=>match H k with
    | some (.row t2 sz2 ys)=>some (tv,k,m,t2,sz2,ys)
    | _=>none
  | _=>none

def WM (ei:TyI)(e len d:Nat)(parts:List (Nat×AV))(H:HP)(K:KK):Prop:=
 match KC H parts with
 | some (tv,k,m,t2,sz2,ys)=>bif len.beq 1&&ei.cells.beq 2 then(match H d with
  | none=>(m=ys.length/\0<m)/\K (.x false [.w d 0 1]) (upd (upd H k (some .dead)) d (some (.nst e ei.cells 1 t2 sz2 [[.v tv,.s sz2 ys]])))
  | some _=>False)else False
 | none=>
 bif(len*ei.cells).ble 1000000&&parts.length.beq len&&Nat.blt 0 ei.cells then orH (V4 H ei.cells 0 parts) fun xs=>match H d with
  | none=>K (.x false [.w d 0 len]) (upd (killParts H parts) d (some (.row e ei.cells xs)))
  | some _=>False
 else False
theorem QIV (hs:HS w0 M ρ H w){parts:List (Nat×AV)}{b:Bool}{cs ds:List Ch}{us:List Value}(hin: ∀k∈Y7 cs,k∈Q3 parts)(hc:CC w (ow M ρ H) ρ cs us)(hi:W7 H cs=some ds)
  (hrow: ∀k∈Q3 parts,∃t sz xs,H k=some (.row t sz xs)):CC w (ow M ρ (killParts H parts)) (fun _=>none) ds us:=by
 have _:=b;have hown: ∀b,ow M ρ (killParts H parts) b->ow M ρ H b:=by
  rintro b (hb | ⟨k,bd,a1,a2,a3,a4⟩)
  ·exact .inl hb
  ·rw[Y9]at a4;split at a4
   ·cases a4
   ·rename_i hne;rw[Y9,if_neg hne]at a3;exact .inr ⟨k,bd,a1,a2,a3,a4⟩
 refine HG hs hown hc hi fun k hk bd hρ hn hb=> ?_
 obtain⟨t,sz,xs,e⟩:=hrow k (hin k hk);rcases hb with hb | ⟨k',bd',a1,a2,a3,a4⟩
 ·exact hs.nx hρ hn (by rw[e];rfl) hb
 ·rw[Y9]at a4;split at a4
  ·cases a4
  ·rename_i hne;rw[Y9,if_neg hne]at a3;have:=hs.dist k' k bd' bd a1 hρ a2 hn a4 (by rw[e];rfl) _ a3 Qs;subst this;exact hne (hin _ hk)
theorem HS.killParts (hs:HS w0 M ρ H w): ∀{parts:List (Nat×AV)},(∀k∈Q3 parts,∃b,H k=some b)->HS w0 M ρ (Eng.killParts H parts) w/\Ext ρ H w ρ (Eng.killParts H parts) w:=by
 intro parts;induction parts generalizing H with
 | nil=>exact fun _=>⟨hs,.refl _ _ _⟩
 | cons p parts ih=>
  intro hk;obtain⟨i,a⟩:=p;cases a with
  | x b cs=>
   obtain⟨h1,h2⟩:=hs.killL (cs:=cs) (fun k hk'=>hk k (by simp[Q3,hk']))
   have:=ih h1 (fun k hk'=>by
    rw[WZ];split
    ·exact⟨_,rfl⟩
    ·exact hk k (by simp[Q3,hk']))
   exact⟨this.1,h2.trans this.2⟩
  | _=>exact ih hs (fun k hk'=>hk k (by simpa [Q3]using hk'))
theorem QAH {sz:Nat}: ∀{vs:List (List Value)},(∀v∈vs,v.length=sz)-> ∀i u,vs[i]? =some u->QX vs.flatten.toArray sz i=u:=by
 intro vs;induction vs with
 | nil=>intro _ i u h;simp at h
 | cons v vs ih=>
  intro h i u hi;have hv:v.length=sz:=h v (by simp);cases i with
  | zero=>simp at hi;subst hi;simp[QX,<-hv]
  | succ i=>
   rw[List.flatten_cons,Nat.add_comm i 1,J4 1 (by simpa using hv)];exact ih (fun x hx=>h x (by simp[hx])) i u (by simpa using hi)
theorem KD {t e len:Nat}{ei:TyI}(ht:P.underlying t=some (.slice e))(he:Xr P e ei){vparts:Array (Nat×Value)}{vs:List Value}(hlen:vs.length=len)(hcellsz: ∀v∈vs,v.cells.size=ei.cells)(hpos:0<ei.cells)(hb1:len*ei.cells<=1000000)
  (hdense:vparts.toList=(vs.zipIdx 0).map fun x=>(x.2,x.1)):(Instr.buildSlice t len vparts).run P w= .ok (.slice (some ⟨w.heap.size,0,none⟩) len len) (w.alloc (.cells ((vs.map fun v=>v.cells.toList).flatten.toArray) e)):=by
 obtain⟨z,hz,hzc⟩:=JV he w;have hfill: ∀(zz:Array Value),Instr.fill (fun i=>some (i*ei.cells,ei.cells)) ((Array.range (len*ei.cells)).map (zz[· % zz.size]!)) vparts.toList=some ((vs.map fun v=>v.cells.toList).flatten.toArray):=by
  intro zz;have:=Great.fill_whole hpos vs ((Array.range (len*ei.cells)).map (zz[· % zz.size]!)) hcellsz (by rw[hlen];simp);rw[<-hdense]at this;rw[this];simp[List.flatMap]
 have hne: ¬(len*ei.cells>2^24):=by omega
 simp only[Instr.buildSlice,Sem.run_bind,run_underlying ht,Zc,Q6 he];by_cases h0:len*ei.cells=0
 ·have hf:=hfill #[];simp[h0]at hf;simp[h0,hf,newRow,World.alloc_eq]
 ·have hf:=hfill z.cells;simp only[if_neg hne,Sem.run_bind,Sem.run_pure,Zc,h0,if_false,hz,hf];simp[newRow,World.alloc_eq]
theorem HM {t e len:Nat}{ei:TyI}(ht:P.underlying t=some (.slice e))(he:Xr P e ei)(hs:HS w0 M ρ H w){d:Nat}{parts:List (Nat×AV)}{vparts:Array (Nat×Value)}(hp:V5 w (ow M ρ H) ρ parts vparts.toList){tv:Value}{k m t2 sz2:Nat}{ys:List (List Ch)}
  (hn:KC H parts=some (tv,k,m,t2,sz2,ys)) (h1:len=1) (h2:ei.cells=2) (hd:H d=none) (hm:m=ys.length) (h0:0<m):
  ∃v w' ρ',(Instr.buildSlice t len vparts).run P w= .ok v w'/\HS w0 M ρ' (upd (upd H k (some .dead)) d (some (.nst e ei.cells 1 t2 sz2 [[.v tv,.s sz2 ys]]))) w'/\Ext ρ H w ρ' (upd (upd H k (some .dead)) d (some (.nst e ei.cells 1 t2 sz2 [[.v tv,.s sz2 ys]]))) w'/\
   ConcV w' (ow M ρ' (upd (upd H k (some .dead)) d (some (.nst e ei.cells 1 t2 sz2 [[.v tv,.s sz2 ys]])))) ρ' (.x false [.w d 0 1]) v:=by
 subst h1;unfold KC at hn;split at hn
 ·rename_i b tv' k' m';split at hn
  ·rename_i t2' sz2' ys' hk;cases hn
   obtain⟨pl,pc⟩:=hp;match hvp:vparts.toList,pl with
   | [(i',v)],_=>
    rw[hvp]at pc;obtain⟨rfl,hcv⟩:=pc 0 0 _ i' v rfl rfl;obtain⟨us,hcu,hcells,_⟩:=ConcX.cells hcv;have hul:us.length=2:=by rw[hcu.length];rfl
    have hrun:=KD (w:=w) (len:=1) (vparts:=vparts) (vs:=[v]) ht he rfl (by intro v' hv';simp at hv';subst hv';rw[hcells];simp[hul,h2]) (by omega) (by omega) (by rw[hvp];rfl);have hflat:(([v].map fun v=>v.cells.toList).flatten.toArray)=us.toArray:=by simp[hcells]
    rw[hflat]at hrun;obtain⟨bd,hρ,hlen,hbsz,ok⟩:=hs.blk k _ hk rfl;cases hcu with
    | v hone hcu=>
     cases hcu with
     | @w _ _ _ _ cap _ _ _ hk' hn hl hcn hcv hend=>
      cases hend
      rw[hρ]at hk';cases hk'
      rcases ok with⟨hnil,_⟩ | ⟨_,arr,hb,hsize,hle,hx⟩
      ·rw[hn]at hnil;cases hnil
      have hbl:bd.blk<w.heap.size:=(Array.getElem?_eq_some_iff.1 hb).1;have l1:XI (H k)=true:=by rw[hk];rfl
      have hnew: ∀a:Array Value,(w.alloc (.cells a e)).heap[w.heap.size]? =some (.cells a e (0,0)):=fun a=>heap_alloc_new w _
      have hold: ∀(a:Array Value) j,j<w.heap.size->(w.alloc (.cells a e)).heap[j]? =w.heap[j]? :=fun a j hj=>by
       show(w.heap.push _)[j]? =_
       rw[Array.getElem?_push,if_neg (by omega)]
      have hsz1: ∀a:Array Value,(w.alloc (.cells a e)).heap.size=w.heap.size+1:=fun a=>by show(w.heap.push _).size=_;simp
      have hmv:=hs.absorb (ks:=[k]) (d:=d) (w':=w.alloc (.cells #[tv,.slice (some ⟨bd.blk,0*bd.sz,none⟩) m cap] e)) (bd':=⟨w.heap.size,1,1,ei.cells,false,[bd.blk]⟩) (b':= .nst e ei.cells 1 t2 sz2 [[.v tv,.s sz2 ys]])
       (fun j hj=>by simp at hj;subst hj;rw[hk];simp) hd
       (fun j hj=>by
        rcases hj with rfl | hj
        ·exact .inl ⟨Nat.le_refl _,by rw[hsz1];exact Nat.lt_succ_self _⟩
        ·simp at hj;subst hj
         exact .inr ⟨k,by simp,bd,hρ,hn,l1,Qs⟩) (fun j hj _=>hold _ j hj) (by rw[hsz1];omega) rfl rfl rfl
       (fun hx'=>⟨rfl,rfl,rfl,⟨rfl,by simp,by simp;omega⟩,_,hnew _,by simp[h2],by simp,fun i x β hi hβ=>by
        have hi0:i=0:=by have:=(Zb.1 hi).1;simp at this;exact this
        subst hi0;simp at hi hβ;subst hi hβ;refine⟨[.v tv],ys,[],[tv],[],cap,rfl,rfl,?_,.v hone .nil,.nil,arr,by rw[hold _ _ hbl];exact hb,⟨bd.cap,hsize,by omega⟩,by omega,fun j y hy=>hx'.cc0 (hx j y hy)⟩
        rw[h2,hm];simp[QX]⟩)
      rw[QGm]at hmv;refine⟨_,_,_,hrun,hmv.1,hmv.2,[_],?_,rfl⟩;have:=CC.w (w:=w.alloc (.cells #[tv,.slice (some ⟨bd.blk,0*bd.sz,none⟩) m cap] e)) (O:=ow M (upd ρ d (some ⟨w.heap.size,1,1,ei.cells,false,[bd.blk]⟩)) (upd (upd H k (some .dead)) d (some (.nst e ei.cells 1 t2 sz2 [[.v tv,.s sz2 ys]])))) (k:=d) (o:=0) (n:=1) (cap:=1) (QI ρ d (some ⟨w.heap.size,1,1,ei.cells,false,[bd.blk]⟩)) rfl (by simp) (by simp) (by simp) .nil;simpa using this
     | w0=>omega
     | w00=>omega
  ·cases hn
 ·cases hn
theorem VU {t e len:Nat}{ei:TyI}(ht:P.underlying t=some (.slice e))(he:Xr P e ei)(hs:HS w0 M ρ H w){d:Nat}{parts:List (Nat×AV)}{vparts:Array (Nat×Value)}(hp:V5 w (ow M ρ H) ρ parts vparts.toList){K:KK}
  (h:WM ei e len d parts H K):
  ∃v w' ρ' H' av,(Instr.buildSlice t len vparts).run P w= .ok v w'/\HS w0 M ρ' H' w'/\Ext ρ H w ρ' H' w'/\ConcV w' (ow M ρ' H') ρ' av v/\K av H':=by
 unfold WM at h;rcases hnp:KC H parts with _ | ⟨tv,k,m,t2,sz2,ys⟩
 rotate_left
 ·rw[hnp]at h;simp only at h;cases hb:(len.beq 1&&ei.cells.beq 2)with
  | false=>rw[hb]at h;exact h.elim
  | true=>
   rw[hb]at h;simp only[Zg]at hb;have hb1:=Za hb.1;have hb2:=Za hb.2;simp only[R7]at h;split at h
   ·rename_i hd;obtain⟨v,w',ρ',c1,c2,c3,c4⟩:=HM ht he hs hp hnp hb1 hb2 hd h.1.1 h.1.2;exact⟨v,w',ρ',_,_,c1,c2,c3,c4,h.2⟩
   ·exact h.elim
 rw[hnp]at h;simp only at h;cases hb:((len*ei.cells).ble 1000000&&parts.length.beq len&&Nat.blt 0 ei.cells)with
 | false=>rw[hb]at h;exact h.elim
 | true=>
  rw[hb]at h;simp only[Zg]at hb;obtain⟨⟨hb1,hb2⟩,hb3⟩:=hb;have hb1:=Nat.le_of_ble_eq_true hb1;have hb2:=Za hb2;have hpos:0<ei.cells:=by
   have:Nat.ble 1 ei.cells=true:=hb3;exact Nat.le_of_ble_eq_true this
  simp only[R7]at h;unfold orH at h;split at h
  ·rename_i xs hxs;split at h
   ·rename_i hd;obtain⟨l1,l2⟩:=QCK hxs;obtain⟨pl,pc⟩:=hp;-- the values
    have hvl:vparts.toList.length=parts.length:=pl.symm;have hval: ∀(j i:Nat) (v:Value),vparts.toList[j]? =some (i,v)->i=j/\ ∃cs ds,QV cs=ei.cells/\W7 H cs=some ds/\xs[j]? =some ds/\(∀k∈Y7 cs,k∈Q3 parts)/\ ∃us,CC w (ow M ρ H) ρ cs us/\v.cells=us.toArray:=by
     intro j i v hj;have hlt:j<parts.length:=by rw[<-hvl];exact(Zb.1 hj).1
     obtain⟨⟨i',a⟩,hpj'⟩: ∃p,parts[j]? =some p:=⟨_,Zj hlt⟩
     obtain⟨e1,hcv⟩:=pc j i' a i v hpj' hj;obtain⟨e2,b,cs,ds,rfl,q1,q2,q3⟩:=l2 j i' a hpj';obtain⟨us,hcu,hcells,_⟩:=ConcX.cells hcv;refine⟨by omega,cs,ds,q1,q2,q3,?_,us,hcu,hcells⟩;intro k hk;have: ∀{ps:List (Nat×AV)} {j:Nat},ps[j]? =some (i',.x b cs)->k∈Q3 ps:=by
      intro ps;induction ps with
      | nil=>intro j h;simp at h
      | cons p ps ih=>
       intro j h;cases j with
       | zero=>simp at h;subst h;simp[Q3,hk]
       | succ j=>
        have:=ih (by simpa using h);obtain⟨a1,a2⟩:=p;cases a2<;>simp[Q3,this]
     exact this hpj'
    have hrow: ∀k∈Q3 parts,∃t sz xs,H k=some (.row t sz xs):=by
     intro k hk;have: ∀{ps:List (Nat×AV)},k∈Q3 ps-> ∃(j i:Nat) (b:Bool) (cs:List Ch),ps[j]? =some (i,AV.x b cs)/\k∈Y7 cs:=by
      intro ps;induction ps with
      | nil=>intro h;simp[Q3]at h
      | cons p ps ih=>
       intro h;obtain⟨a1,a2⟩:=p;cases a2 with
       | x b cs=>
        simp only[Q3,Zz]at h;rcases h with h | h
        ·exact⟨0,a1,b,cs,rfl,h⟩
        ·obtain⟨j,i,b',cs',h1,h2⟩:=ih h;exact⟨j+1,i,b',cs',by simpa using h1,h2⟩
       | _=>obtain⟨j,i,b',cs',h1,h2⟩:=ih (by simpa [Q3]using h);exact⟨j+1,i,b',cs',by simpa using h1,h2⟩
     obtain⟨j,i,b,cs,h1,h2⟩:=this hk;obtain⟨_,b',cs',ds,e,_,q2,_⟩:=l2 j i _ h1;cases e
     exact Jy q2 k h2
    -- the parts are dense
    have hdense:vparts.toList=((vparts.toList.map (·.2)).zipIdx 0).map fun x=>(x.2,x.1):=by
     apply Zp;intro j;simp only[Zu,List.getElem?_zipIdx];cases hj:vparts.toList[j]? with
     | none=>simp
     | some p=>
      obtain⟨i,v⟩:=p;have:=(hval j i v hj).1;subst this;simp
    have hcellsz: ∀v∈vparts.toList.map (·.2),v.cells.size=ei.cells:=by
     intro v hv;obtain⟨⟨i,v'⟩,hm,rfl⟩:=List.mem_map.1 hv;obtain⟨j,hj⟩:=List.getElem?_of_mem hm
     obtain⟨_,cs,ds,q1,_,_,_,us,hcu,hce⟩:=hval j i v' hj;simp[hce,hcu.length,q1]
    have hlen:(vparts.toList.map (·.2)).length=len:=by rw[List.length_map,hvl,hb2]
    obtain⟨z,hz,hzc⟩:=JV he w;let arr:=((vparts.toList.map (·.2)).map fun v=>v.cells.toList).flatten.toArray
    have hfill: ∀(zz:Array Value),Instr.fill (fun i=>some (i*ei.cells,ei.cells)) ((Array.range (len*ei.cells)).map (zz[· % zz.size]!)) vparts.toList=some arr:=by
     intro zz;have:=Great.fill_whole hpos (vparts.toList.map (·.2)) ((Array.range (len*ei.cells)).map (zz[· % zz.size]!)) hcellsz (by rw[hlen];simp);rw[<-hdense]at this;rw[this];simp[arr,List.flatMap]
    have harrsz:arr.size=len*ei.cells:=by
     have: ∀(l:List Value),(∀v∈l,v.cells.size=ei.cells)->((l.map fun v=>v.cells.toList).flatten).length=l.length*ei.cells:=by
      intro l;induction l with
      | nil=>intro _;simp
      | cons v l ih=>intro h;simp only[Yc,List.flatten_cons,List.length_append,Array.length_toList,Yd,h v (by simp),ih (fun x hx=>h x (by simp[hx])),Zm];omega
     simp only[arr,Zt];rw[this _ hcellsz,hlen]
    obtain⟨hk1,hk2⟩:=hs.killParts (parts:=parts) (fun k hk=>let ⟨t,sz,xs,e⟩:=hrow k hk;⟨_,e⟩);have hd':Eng.killParts H parts d=none:=by
     rw[Y9,if_neg (fun hm=>by obtain⟨_,_,_,e⟩:=hrow d hm;rw[hd]at e;cases e)];exact hd
    have hxl:xs.length=len:=by rw[l1,hb2]
    obtain⟨ρ',a1,a2,a3⟩:=hk1.row (w':=w.alloc (.cells arr e)) hd' (t:=e) (sz:=ei.cells) (cap:=len) (xs:=xs) harrsz (by omega) rfl rfl rfl rfl (fun i x hi=>by
     have hlt:i<vparts.toList.length:=by rw[hvl,<-l1];exact(Zb.1 hi).1
     obtain⟨⟨i',v⟩,hv⟩: ∃p,vparts.toList[i]? =some p:=⟨_,Zj hlt⟩
     obtain⟨_,cs,ds,q1,q2,q3,q4,us,hcu,hce⟩:=hval i i' v hv;rw[hi]at q3;cases q3
     have:QX arr ei.cells i=us:=by
      refine QAH (vs:=(vparts.toList.map (·.2)).map fun v=>v.cells.toList) ?_ i us ?_
      ·intro l hl;obtain⟨v',hv',rfl⟩:=List.mem_map.1 hl;simpa using hcellsz v' hv'
      ·simp only[Zu,hv];simp[hce]
     rw[this]
     exact QIV hs (b:=true) q4 hcu q2 hrow)
    have hne: ¬(len*ei.cells>2^24):=by omega
    refine⟨.slice (some ⟨w.heap.size,0,none⟩) len len,_,ρ',_,_,?_,a1,hk2.trans a2,a3 len (by omega),h⟩;simp only[Instr.buildSlice,Sem.run_bind,run_underlying ht,Zc,Q6 he];by_cases h0:len*ei.cells=0
    ·have hf:=hfill #[];simp[h0]at hf;simp[h0,hf,newRow,World.alloc_eq]
    ·have hf:=hfill z.cells;simp only[if_neg hne,Sem.run_bind,Sem.run_pure,Zc,h0,if_false,hz,hf];simp[newRow,World.alloc_eq]
   ·exact h.elim
  ·exact h.elim
end Go.Eng
namespace Go.Eng
open Go
variable {P:Program}{w0:World}{M:Ctx}{ρ:Env}{H:HP}{w:World}
def QA0 (i:TyI)(t d:Nat)(tb:TB)(H:HP)(K:KK):Prop:=
 match H d with
 | some _=>False
 | none=>match i.und with
  | .array n e=>match tb e with
   | some ei=>bif i.cells.beq (n*ei.cells)&&Nat.blt 0 ei.cells then
     (∀vals,i.zero=vals->(Zo n ei.zero).flatten=vals->K (.x false [.p d 0]) (upd H d (some (.row t ei.cells (Zo n (ei.zero.map Ch.v))))))/\(Zo n ei.zero).flatten=i.zero else False
   | none=>False
  | _=>K (.x false [.p d 0]) (upd H d (some (.box t (i.zero.map Ch.v))))
theorem QA1 {tb:TB}(htb:JZ P tb){t d:Nat}{i:TyI}(ht:Xr P t i)(hs:HS w0 M ρ H w){K:KK}(h:QA0 i t d tb H K):
  ∃v w' ρ' H' av,(Instr.alloc t true (.tuple #[])).run P w= .ok v w'/\HS w0 M ρ' H' w'/\Ext ρ H w ρ' H' w'/\ConcV w' (ow M ρ' H') ρ' av v/\K av H':=by
 obtain⟨z,hz,hzc⟩:=JV ht w;have hrun:(Instr.alloc t true (.tuple #[])).run P w= .ok (.pointer (some ⟨w.heap.size,0,none⟩)) (w.alloc (.cells i.zero.toArray t)):=by
  simp[Instr.alloc,hz,newVar,newRow,hzc,World.alloc_eq]
 unfold QA0 at h;split at h
 ·exact h.elim
 ·rename_i hd;split at h
  ·rename_i n e hu;split at h
   ·rename_i ei hei;cases hb:(i.cells.beq (n*ei.cells)&&Nat.blt 0 ei.cells)with
    | false=>rw[hb]at h;exact h.elim
    | true=>
     rw[hb]at h;obtain⟨h1,h2⟩:=h;have hk:=h1 _ rfl h2;simp only[Zg]at hb;have hc:=Za hb.1;have he:=htb _ _ hei;have hrow:=hs.alloc hd (o:= .cells i.zero.toArray t) (bd:=⟨w.heap.size,n,n,ei.cells,false,[]⟩) (b:= .row t ei.cells (Zo n (ei.zero.map Ch.v))) (w':=w.alloc (.cells i.zero.toArray t)) rfl rfl rfl rfl rfl
      (fun hx=>⟨by simp,rfl,.inr ⟨rfl,i.zero.toArray,heap_alloc_new w _,by rw[<-hc];simpa using ht.zlen,by simp,fun j x hj=>by
       have hx':x=ei.zero.map Ch.v:=by
        have:=Zn hj;exact Zr this
       have hjn:j<n:=by have:=(Zb.1 hj).1;simpa using this
       subst hx';have:QX i.zero.toArray ei.cells j=ei.zero:=by
        rw[<-h2];refine QAH (vs:=Zo n ei.zero) (fun v hv=> ?_) j _ ?_
        ·rw[Zr hv,he.zlen]
        ·simp[hjn]
       rw[this]
       exact CC.vals he.zone⟩⟩)
     exact⟨_,_,_,_,.x false [.p d 0],hrun,hrow.1,hrow.2,QQI (QI _ _ _) rfl,hk⟩
   ·exact h.elim
  ·obtain⟨ρ',a1,a2,a3⟩:=hs.box hd (t:=t) (CC.vals (w:=w) (O:=ow M ρ H) (ρ:=ρ) ht.zone);exact⟨_,_,ρ',_,_,hrun,a1,a2,a3,h⟩
def QOZ (i:TyI)(t d:Nat)(a:AV)(H:HP)(K:KK):Prop:=
 match H d,a with
 | none,.x _ cs=>bif(QV cs).beq i.cells then K (.x false [.p d 0]) (upd H d (some (.box t cs)))else False
 | _,_=>False
theorem QD4 {t d:Nat}{i:TyI}(hs:HS w0 M ρ H w){a:AV}{v:Value}(ha:ConcV w (ow M ρ H) ρ a v){K:KK}(h:QOZ i t d a H K):
  ∃u w' ρ' H' av,(Instr.box t v).run P w= .ok u w'/\HS w0 M ρ' H' w'/\Ext ρ H w ρ' H' w'/\ConcV w' (ow M ρ' H') ρ' av u/\K av H':=by
 unfold QOZ at h;split at h
 ·rename_i b cs hd;cases hb:(QV cs).beq i.cells with
  | false=>rw[hb]at h;exact h.elim
  | true=>
   rw[hb]at h;obtain⟨us,hcu,hcells,_⟩:=ConcX.cells ha;obtain⟨ρ',a1,a2,a3⟩:=hs.box hd (t:=t) hcu;refine⟨_,_,ρ',_,_,?_,a1,a2,a3,h⟩;simp[Instr.box,newVar,newRow,hcells,World.alloc_eq]
 ·exact h.elim
def VD (ei:TyI)(e d:Nat)(l c:AV)(H:HP)(K:KK):Prop:=
 match l,c,H d with
 | .x false [.v (.int _ l)],.x false [.v (.int _ c)],none=>(0<=l/\l<=c/\(ei.bytes:Int)*c<=281474976710656/\c<=9223372036854775807)/\
   K (.x false [.w d 0 l.toNat]) (upd H d (some (.row e ei.cells (Zo l.toNat (ei.zero.map Ch.v)))))
 | _,_,_=>False
theorem HN {z:List Value}{n sz i:Nat}(hz:z.length=sz)(hi:i<n):QX (madeCells z.toArray (n*sz)) sz i=z:=by
 have h1:(i+1)*sz<=n*sz:=Zx _ hi;rw[Zm,Nat.one_mul]at h1;apply Zp;intro m;simp only[QX,madeCells];rw[Zd];split
 ·rename_i hm;rw[Ze];simp only[Array.toList_map,Array.toList_range,Zu];rw[List.getElem?_range (by omega)];simp only[Option.map_some,Zt,hz];have:(i*sz+m) % sz=m:=by rw[Nat.add_comm,Nat.add_mul_mod_self_right,Nat.mod_eq_of_lt hm]
  rw[this];simp[hz,hm]
 ·rename_i hm;rw[Zv (by omega)]
theorem V6 {t e d:Nat}{ei:TyI}(ht:P.underlying t=some (.slice e))(he:Xr P e ei)(hs:HS w0 M ρ H w){l c:AV}{vl vc:Value}(hl:ConcV w (ow M ρ H) ρ l vl)(hc:ConcV w (ow M ρ H) ρ c vc){K:KK}(h:VD ei e d l c H K):
  ∃u w' ρ' H' av,(Instr.makeSlice t vl vc).run P w= .ok u w'/\HS w0 M ρ' H' w'/\Ext ρ H w ρ' H' w'/\ConcV w' (ow M ρ' H') ρ' av u/\K av H':=by
 unfold VD at h;split at h
 ·rename_i k1 l k2 c hd;obtain⟨rfl,_⟩:=ConcX.one hl;obtain⟨rfl,_⟩:=ConcX.one hc;obtain⟨⟨h0,h1,h2,h3⟩,hk⟩:=h;obtain⟨ti,z,hi,hsz,hby,hz,hzc⟩:=he.info;have hr:=run_make (P:=P) w t e ti z ht hi hz k1 k2 l c h0 h1 (by rw[hby];exact h2) h3;rw[hzc,hsz]at hr;obtain⟨ρ',a1,a2,a3⟩:=hs.row (w':=w.alloc (.cells (madeCells ei.zero.toArray (c.toNat*ei.cells)) e)) hd (t:=e) (sz:=ei.cells) (cap:=c.toNat) (xs:=Zo l.toNat (ei.zero.map Ch.v))
   (size_madeCells _ _) (by simp;omega) rfl rfl rfl rfl (fun i x hi=>by
    have hx':x=ei.zero.map Ch.v:=Zr (Zn hi);have hin:i<l.toNat:=by have:=(Zb.1 hi).1;simpa using this
    subst hx';rw[HN he.zlen (by omega)]
    exact CC.vals he.zone)
  exact⟨_,_,ρ',_,_,hr,a1,a2,a3 _ (by simp),hk⟩
 ·exact h.elim
def bnd (x:Option AV)(dflt:Int)(K:Int->Prop):Prop:=
 match x with
 | none=>K dflt
 | some (.x false [.v (.int _ j)])=>K j
 | _=>False
def V7 (i:TyI)(a:AV)(lo hi mx:Option AV)(H:HP)(tb:TB)(K:AV->Prop):Prop:=
 match mx with
 | some _=>False
 | none=>match i.und,a with
  | .string,.x false [.v (.string s)]=>bnd lo 0 fun l=>bnd hi s.size fun h=>(0<=l/\l<=h/\h<=(s.size:Int))/\K (YF (.string (s.extract l.toNat h.toNat)))
  | .slice e,.x false [.s sz xs]=>(match tb e with
   | some ei=>bif sz.beq ei.cells then bnd lo 0 fun l=>bnd hi xs.length fun h=>(0<=l/\l<=h/\h<=(xs.length:Int))/\K (.x false [.s sz ((xs.drop l.toNat).take (h.toNat-l.toNat))])else False
   | none=>False)
  | .slice e,.x false [.w k o n]=>(match tb e,H k with
   | some ei,some (.row _ sz _)=>bif sz.beq ei.cells then bnd lo 0 fun l=>bnd hi n fun h=>(0<=l/\l<=h/\h<=(n:Int))/\K (.x false [.w k (o+l.toNat) (h.toNat-l.toNat)])else False
   | _,_=>False)
  | .array m e,.x false [.p k 0]=>(match tb e,H k with
   | some ei,some (.row _ sz xs)=>bif sz.beq ei.cells then bnd lo 0 fun l=>bnd hi m fun h=>(0<=l/\l<=h/\h<=(m:Int)/\m<=xs.length)/\K (.x false [.w k l.toNat (h.toNat-l.toNat)])else False
   | _,_=>False)
  | _,_=>False
theorem Xm {O:Nat->Prop}{x:Option AV}{vx:Option Value}(hx: ∀a,x=some a-> ∃v,vx=some v/\ConcV w O ρ a v)(hn:x=none->vx=none){dflt:Int}{K:Int->Prop}(h:bnd x dflt K):
  ∃j,K j/\(vx=none/\j=dflt∨ ∃k,vx=some (.int k j)):=by
 unfold bnd at h;split at h
 ·exact⟨dflt,h,.inl ⟨hn rfl,rfl⟩⟩
 ·rename_i k j;obtain⟨v,e,hc⟩:=hx _ rfl;obtain⟨rfl,_⟩:=ConcX.one hc;exact⟨j,h,.inr ⟨k,e⟩⟩
 ·exact h.elim
theorem YB {isSlice:Bool}{len cap:Nat}{lo hi:Option Value}{l h:Int}(hlo:lo=none/\l=0∨ ∃k,lo=some (.int k l))(hhi:hi=none/\h=(len:Int)∨ ∃k,hi=some (.int k h))(h0:0<=l)(h1:l<=h)(h2:h<=(cap:Int)):
  (Instr.sliceBounds isSlice len cap lo hi none).run P w= .ok (l.toNat,h.toNat,cap) w:=by
 have e:(h.toNat:Int)=h:=Int.toNat_of_nonneg (by omega);rcases hlo with⟨rfl,rfl⟩ | ⟨k1,rfl⟩<;>rcases hhi with⟨rfl,rfl⟩ | ⟨k2,rfl⟩
 ·simp[Instr.sliceBounds]
 ·simp[Instr.sliceBounds,Instr.sliceBound,asIntOf,h2,(by omega:0<=h)]
 ·simp[Instr.sliceBounds,Instr.sliceBound,asIntOf,h0,h1]
 ·simp[Instr.sliceBounds,Instr.sliceBound,asIntOf,h0,h1,h2,e,(by omega:0<=h)]
theorem QA2 {tb:TB}(htb:JZ P tb){t:Nat}{i:TyI}(ht:Xr P t i)(hs:HS w0 M ρ H w){a:AV}{va:Value}(ha:ConcV w (ow M ρ H) ρ a va){lo hi mx:Option AV}{vlo vhi vmx:Option Value}
  (hlo: ∀a,lo=some a-> ∃v,vlo=some v/\ConcV w (ow M ρ H) ρ a v) (hlo':lo=none->vlo=none) (hhi: ∀a,hi=some a-> ∃v,vhi=some v/\ConcV w (ow M ρ H) ρ a v) (hhi':hi=none->vhi=none) (hmx:mx=none->vmx=none)
  {K:AV->Prop} (h:V7 i a lo hi mx H tb K):
  ∃v av,(Instr.sliceAt t va vlo vhi vmx).run P w= .ok v w/\ConcV w (ow M ρ H) ρ av v/\K av:=by
 unfold V7 at h;split at h
 ·exact h.elim
 ·have:=hmx rfl;subst this;split at h
  ·rename_i s hu;obtain⟨rfl,_⟩:=ConcX.one ha;have hund:P.underlying t=some .string:=by rw[ht.und,hu]
   obtain⟨l,h,bl⟩:=Xm hlo hlo' h;obtain⟨hh,⟨⟨h0,h1,h2⟩,hk⟩,bh⟩:=Xm hhi hhi' h;refine⟨_,_,?_,QZ rfl,hk⟩;simp[Instr.sliceAt,Instr.slice,run_underlying hund,YB bl bh h0 h1 h2]
  ·rename_i e sz xs hu;have hund:P.underlying t=some (.slice e):=by rw[ht.und,hu]
   split at h
   ·rename_i ei hei;cases hb:sz.beq ei.cells with
    | false=>rw[hb]at h;exact h.elim
    | true=>
     rw[hb]at h;simp only[R7]at h;have hsz:=Za hb;obtain⟨l,h,bl⟩:=Xm hlo hlo' h;obtain⟨hh,⟨⟨h0,h1,h2⟩,hk⟩,bh⟩:=Xm hhi hhi' h;obtain⟨vals,hcc,hv⟩:=ha;simp at hv;subst hv;cases hcc with
     | s0 _=>
      simp at h2;have e1:l=0:=by omega
      have e2:hh=0:=by omega
      subst e1 e2;refine⟨.slice none 0 0,_,?_,XK (by simpa using CC.s0 .nil),hk⟩;have:=YB (P:=P) (w:=w) (isSlice:=true) (len:=0) (cap:=0) bl (by simpa using bh) (Zq 0) (Zq 0) (by simp);simp[Instr.sliceAt,Instr.slice,run_underlying hund,this,Q6 (htb _ _ hei)]
     | @s00 _ _ b o cap _ _ _=>
      simp at h2;have e1:l=0:=by omega
      have e2:hh=0:=by omega
      subst e1 e2;have:=YB (P:=P) (w:=w) (isSlice:=true) (len:=0) (cap:=cap) bl (by simpa using bh) (Zq 0) (Zq 0) (by simp);refine⟨.slice (some ⟨b,o,none⟩) 0 cap,_,?_,XK (by simpa using CC.s00 .nil),hk⟩;simp[Instr.sliceAt,Instr.slice,run_underlying hund,this,Q6 (htb _ _ hei),Addr.add]
     | @s _ _ b o cap _ f _ _ hr hx hcap _=>
      have hrun:=YB (P:=P) (w:=w) (isSlice:=true) (len:=xs.length) (cap:=cap) bl bh h0 h1 (by omega);have hres:(Instr.sliceAt t (.slice (some ⟨b,o,none⟩) xs.length cap) vlo vhi none).run P w= .ok (.slice (if cap=l.toNat then some ⟨b,o,none⟩else some ⟨b,o+l.toNat*sz,none⟩) (hh.toNat-l.toNat) (cap-l.toNat)) w:=by
       simp[Instr.sliceAt,Instr.slice,run_underlying hund,hrun,Q6 (htb _ _ hei),Xl,hsz]
      by_cases hc:cap=l.toNat
      ·have e0:hh.toNat-l.toNat=0:=by omega
       rw[if_pos hc,e0]at hres;rw[e0,List.take_zero]at hk;exact⟨_,_,hres,XK (.s00 .nil),hk⟩
      ·rw[if_neg hc]at hres;refine⟨_,_,hres,XK ?_,hk⟩;have hln:((xs.drop l.toNat).take (hh.toNat-l.toNat)).length=hh.toNat-l.toNat:=by simp;omega
       have hget: ∀i x,((xs.drop l.toNat).take (hh.toNat-l.toNat))[i]? =some x->xs[l.toNat+i]? =some x:=by
        intro i x hi;rw[Zd]at hi;split at hi
        ·rwa [Ze]at hi
        ·cases hi
       have key:=CC.s (ρ:=ρ) (w:=w) (O:=ow M ρ H) (sz:=sz) (b:=b) (o:=o+l.toNat*sz) (cap:=cap-l.toNat) (xs:=(xs.drop l.toNat).take (hh.toNat-l.toNat)) (f:=fun i=>f (l.toNat+i)) (cs:=[]) (vs:=[])
        ⟨hr.lt,hr.free,fun i x hi=>by
         have:=hr.cell (l.toNat+i) x (hget i x hi);refine⟨this.1,fun j hj=> ?_⟩
         rw[<-this.2 j hj];congr 2;rw[Zm];omega⟩ (fun i x hi=>hx _ x (hget i x hi)) (by omega) .nil
       rwa [hln]at key
   ·exact h.elim
  ·rename_i e k o n hu;have hund:P.underlying t=some (.slice e):=by rw[ht.und,hu]
   split at h
   ·rename_i ei tt sz xs hei hk;cases hb:sz.beq ei.cells with
    | false=>rw[hb]at h;exact h.elim
    | true=>
     rw[hb]at h;simp only[R7]at h;have hsz:=Za hb;obtain⟨l,h,bl⟩:=Xm hlo hlo' h;obtain⟨hh,⟨⟨h0,h1,h2⟩,hkk⟩,bh⟩:=Xm hhi hhi' h;obtain⟨vals,hcc,hv⟩:=ha;simp at hv;subst hv;obtain⟨bd,hρ,hlen,hbsz,ok⟩:=hs.blk k _ hk rfl;cases hcc with
     | @w _ _ _ _ cap _ _ _ hk' hn hl hcn hcv _=>
      rw[hρ]at hk';cases hk'
      rcases ok with⟨hnil,_⟩ | ⟨_,arr,hbk,hsize,hle,hxs⟩
      ·rw[hn]at hnil;cases hnil
      have hrun:=YB (P:=P) (w:=w) (isSlice:=true) (len:=n) (cap:=cap) bl bh h0 h1 (by omega);have hres:(Instr.sliceAt t (.slice (some ⟨bd.blk,o*bd.sz,none⟩) n (cap)) vlo vhi none).run P w= .ok (.slice (if cap=l.toNat then some ⟨bd.blk,o*bd.sz,none⟩else some ⟨bd.blk,o*bd.sz+l.toNat*sz,none⟩) (hh.toNat-l.toNat) (cap-l.toNat)) w:=by
       simp[Instr.sliceAt,Instr.slice,run_underlying hund,hrun,Q6 (htb _ _ hei),Xl,hsz]
      by_cases hc:cap=l.toNat
      ·have e0:hh.toNat-l.toNat=0:=by omega
       have e1:cap-l.toNat=0:=by omega
       rw[if_pos hc,e0,e1]at hres;rw[e0]at hkk;exact⟨_,_,hres,XK (.w00 hρ .nil),hkk⟩
      ·rw[if_neg hc]at hres;refine⟨_,_,hres,XK ?_,hkk⟩;have key:=CC.w (w:=w) (O:=ow M ρ H) (k:=k) (o:=o+l.toNat) (n:=hh.toNat-l.toNat) (cap:=cap-l.toNat) hρ hn (by omega) (by omega) (by omega) .nil;rw[hbsz]at key⊢;rwa [Zm]at key
     | w0 hk' hn _=>
      simp at h2;have e1:l=0:=by omega
      have e2:hh=0:=by omega
      subst e1 e2;refine⟨.slice none 0 0,_,?_,XK (by simpa using CC.w0 hk' hn .nil),hkk⟩;have:=YB (P:=P) (w:=w) (isSlice:=true) (len:=0) (cap:=0) bl (by simpa using bh) (Zq 0) (Zq 0) (by simp);simp[Instr.sliceAt,Instr.slice,run_underlying hund,this,Q6 (htb _ _ hei)]
     | @w00 _ _ _ b o' _ _ _ hk' _=>
      simp at h2;have e1:l=0:=by omega
      have e2:hh=0:=by omega
      subst e1 e2;have:=YB (P:=P) (w:=w) (isSlice:=true) (len:=0) (cap:=0) bl (by simpa using bh) (Zq 0) (Zq 0) (by simp);refine⟨.slice (some ⟨b,o',none⟩) 0 0,_,?_,XK (by simpa using CC.w00 hk' .nil),hkk⟩;simp[Instr.sliceAt,Instr.slice,run_underlying hund,this,Q6 (htb _ _ hei)]
   ·exact h.elim
  ·rename_i m e k hu;have hund:P.underlying t=some (.array m e):=by rw[ht.und,hu]
   split at h
   ·rename_i ei tt sz xs hei hk;cases hb:sz.beq ei.cells with
    | false=>rw[hb]at h;exact h.elim
    | true=>
     rw[hb]at h;simp only[R7]at h;have hsz:=Za hb;obtain⟨l,h,bl⟩:=Xm hlo hlo' h;obtain⟨hh,⟨⟨h0,h1,h2,h3⟩,hkk⟩,bh⟩:=Xm hhi hhi' h;obtain⟨vals,hcc,hv⟩:=ha;simp at hv;subst hv;obtain⟨bd,hρ,hlen,hbsz,ok⟩:=hs.blk k _ hk rfl;cases hcc with
     | p hk' hn _=>
      rw[hρ]at hk';cases hk'
      rcases ok with⟨hnil,_⟩ | ⟨_,arr,hbk,hsize,hle,hxs⟩
      ·rw[hn]at hnil;cases hnil
      have hrun:=YB (P:=P) (w:=w) (isSlice:=false) (len:=m) (cap:=m) bl bh h0 h1 (by omega);have hres:(Instr.sliceAt t (.pointer (some ⟨bd.blk,0,none⟩)) vlo vhi none).run P w= .ok (.slice (some (if m=l.toNat then⟨bd.blk,0,none⟩else⟨bd.blk,l.toNat*sz,none⟩)) (hh.toNat-l.toNat) (m-l.toNat)) w:=by
       simp[Instr.sliceAt,Instr.sureAddr,run_underlying hund,hrun,Q6 (htb _ _ hei),Xl,hsz]
      by_cases hc:m=l.toNat
      ·have e0:hh.toNat-l.toNat=0:=by omega
       have e1:m-l.toNat=0:=by omega
       rw[if_pos hc,e0,e1]at hres;rw[e0]at hkk;exact⟨_,_,hres,XK (.w00 hρ .nil),hkk⟩
      ·rw[if_neg hc]at hres;refine⟨_,_,hres,XK ?_,hkk⟩;have key:=CC.w (w:=w) (O:=ow M ρ H) (k:=k) (o:=l.toNat) (n:=hh.toNat-l.toNat) (cap:=m-l.toNat) hρ hn (by omega) (by omega) (by omega) .nil;rwa [hbsz]at key
   ·exact h.elim
  ·exact h.elim
def QA3 (i:TyI)(a:AV)(lo hi mx:Option AV)(d:Nat)(H:HP)(tb:TB)(K:KK):Prop:=
  match i.und,a,H d,mx with
  | .slice e,.x false [.s sz xs],none,some m=>(match tb e with
    | some ei=>bif sz.beq ei.cells then bnd lo 0 fun l=>bnd hi xs.length fun h=>bnd (some m) 0 fun m=>(l=0/\h=0/\m=0)/\K (.x false [.w d 0 0]) (upd H d (some (.row e sz [])))else False
    | none=>False)
  | _,_,_,_=>False

theorem Gv {tb:TB}(htb:JZ P tb){t d:Nat}{i:TyI}(ht:Xr P t i)(hs:HS w0 M ρ H w){a:AV}{va:Value}(ha:ConcV w (ow M ρ H) ρ a va){lo hi mx:Option AV}{vlo vhi vmx:Option Value}
  (hlo: ∀a,lo=some a-> ∃v,vlo=some v/\ConcV w (ow M ρ H) ρ a v) (hlo':lo=none->vlo=none) (hhi: ∀a,hi=some a-> ∃v,vhi=some v/\ConcV w (ow M ρ H) ρ a v) (hhi':hi=none->vhi=none) (hmx: ∀a,mx=some a-> ∃v,vmx=some v/\ConcV w (ow M ρ H) ρ a v)
  {K:KK} (hh0:hi=none->False) (h:QA3 i a lo hi mx d H tb K):
  ∃v w' ρ' H' av,(Instr.sliceAt t va vlo vhi vmx).run P w= .ok v w'/\HS w0 M ρ' H' w'/\Ext ρ H w ρ' H' w'/\ConcV w' (ow M ρ' H') ρ' av v/\K av H':=by
 unfold QA3 at h;split at h
 ·rename_i e sz xs m hu hd;have hund:P.underlying t=some (.slice e):=by rw[ht.und,hu]
  split at h
  ·rename_i ei hei;cases hb:sz.beq ei.cells with
   | false=>rw[hb]at h;exact h.elim
   | true=>
    rw[hb]at h;simp only[R7]at h;obtain⟨l,h,bl⟩:=Xm hlo hlo' h;obtain⟨hh,h,bh⟩:=Xm hhi hhi' h;obtain⟨mm,⟨⟨rfl,rfl,rfl⟩,hk⟩,bm⟩:=Xm hmx (fun h=>by cases h) h;obtain⟨vals,hcc,hv⟩:=ha;simp at hv;subst hv;have hal:=hs.allocNil (d:=d) hd e sz;have hvm: ∃k,vmx=some (.int k 0):=by
     rcases bm with⟨e1,_⟩ | h
     ·obtain⟨v,e2,_⟩:=hmx _ rfl;rw[e1]at e2;cases e2
     ·exact h
    have hvh: ∃k,vhi=some (.int k 0):=by
     rcases bh with⟨e1,_⟩ | h
     ·cases hi with
      | none=>exact(hh0 rfl).elim
      | some x=>
       obtain⟨v,e2,_⟩:=hhi _ rfl;rw[e1]at e2;cases e2
     ·exact h
    obtain⟨km,rfl⟩:=hvm;obtain⟨kh,rfl⟩:=hvh;have hb: ∀len cap:Nat,(Instr.sliceBounds true len cap vlo (some (.int kh 0)) (some (.int km 0))).run P w= .ok (0,0,0) w:=by
     intro len cap;rcases bl with⟨rfl,_⟩ | ⟨k,rfl⟩<;>simp[Instr.sliceBounds,Instr.sliceBound,asIntOf]
    have hrun: ∀p len cap,(Instr.sliceAt t (.slice p len cap) vlo (some (.int kh 0)) (some (.int km 0))).run P w= .ok (.slice p 0 0) w:=by
     intro p len cap;simp[Instr.sliceAt,Instr.slice,run_underlying hund,hb,Q6 (htb _ _ hei)]
    cases hcc with
    | s0 _=>exact⟨_,_,_,_,_,hrun _ _ _,hal.1,hal.2,XK (.w0 (QI _ _ _) rfl .nil),hk⟩
    | s00 _=>exact⟨_,_,_,_,_,hrun _ _ _,hal.1,hal.2,XK (.w00 (QI _ _ _) .nil),hk⟩
    | s _ _ _ _=>exact⟨_,_,_,_,_,hrun _ _ _,hal.1,hal.2,XK (.w00 (QI _ _ _) .nil),hk⟩
  ·exact h.elim
 ·exact h.elim
end Go.Eng
namespace Go.Eng
open Go
variable {P:Program}{w0:World}{M:Ctx}{ρ:Env}{H:HP}{w:World}
theorem QCL (hs:HS w0 M ρ H w){k o n t sz:Nat}{xs:List (List Ch)}(hk:H k=some (.row t sz xs)){v:Value}(hc:CC w (ow M ρ H) ρ [.w k o n] [v]):
  ∃news,Wj w v sz ((xs.drop o).take n) (ow M ρ H) news:=by
 obtain⟨bd,hρ,hlen,hsz,ok⟩:=hs.blk k _ hk rfl;cases hc with
 | @w _ _ _ _ cap _ _ _ hk' hn hl hcn hcap _=>
  rw[hρ]at hk';cases hk'
  rcases ok with⟨hnil,_⟩ | ⟨_,arr,hb,hsize,hle,hx⟩
  ·rw[hn]at hnil;cases hnil
  have hln:((xs.drop o).take n).length=n:=by simp;omega
  have hb1:(o+n)*sz<=bd.cap*sz:=Zx _ (by omega);rw[Zm]at hb1;have hnl:((arr.toList.drop (o*sz)).take (n*sz)).length=n*sz:=by simp;omega
  have hel: ∀i,i<n->QX ((arr.toList.drop (o*sz)).take (n*sz)).toArray sz i=QX arr sz (o+i):=by
   intro i hi;have h1:(i+1)*sz<=n*sz:=Zx _ hi;rw[Zm,Nat.one_mul]at h1;apply Zp;intro m;simp only[QX];rw[Zd,Zd];split
   ·rw[Ze,Ze,Zd,if_pos (by omega),Ze];congr 1;rw[Zm];omega
   ·rfl
  have helx: ∀i x,((xs.drop o).take n)[i]? =some x->i<n/\CC w (ow M ρ H) (fun _=>none) x (QX arr sz (o+i)):=by
   intro i x hi;rw[Zd]at hi;split at hi
   ·rename_i hin;rw[Ze]at hi;exact⟨hin,hx _ x hi⟩
   ·cases hi
  refine⟨(arr.toList.drop (o*sz)).take (n*sz),by rw[hln];exact hnl,?_,fun i x hi=>by rw[hel i (helx i x hi).1];exact(helx i x hi).2,.inr ⟨bd.blk,o*sz,cap,by rw[hln,hsz],Ja hb _ _⟩⟩;intro u hu;obtain⟨j,hj⟩:=List.getElem?_of_mem hu
  have hjl:j<n*sz:=by rw[<-hnl];exact(Zb.1 hj).1
  have hsz0:0<sz:=by
   rcases Nat.eq_zero_or_pos sz with e | e
   ·rw[e]at hjl;simp at hjl
   ·exact e
  have hin:j/sz<n:=by rw[Nat.div_lt_iff_lt_mul hsz0];exact hjl
  obtain⟨x,hxx⟩: ∃x,((xs.drop o).take n)[j/sz]? =some x:=⟨_,Zj (by omega)⟩
  have hc:=(helx _ x hxx).2;rw[<-hel _ hin]at hc;refine hc.one u ?_
  refine Zn (i:=j % sz) ?_
  simp only[QX];rw[Zd,if_pos (Nat.mod_lt _ hsz0),Ze];simp only[Nat.div_add_mod'];exact hj
 | w0=>exact⟨[],by simp,by simp,by simp,.inl ⟨rfl,by simp⟩⟩
 | @w00 _ _ _ b o' _ _ _ _ _=>exact⟨[],by simp,by simp,by simp,.inr ⟨b,o',0,by simp,fun j v h=>by simp at h⟩⟩
def QA4 (H:HP)(a:AV):Option (Nat×List (List Ch)):=
  match a with
  | .x false [.s sz xs]=>some (sz,xs)
  | .x false [.w k o n]=>match H k with
    | some (.row _ sz xs)=>some (sz,(xs.drop o).take n)
    | _=>none
  | _=>none

theorem VV (hs:HS w0 M ρ H w){a:AV}{v:Value}(ha:ConcV w (ow M ρ H) ρ a v){sz:Nat}{ys:List (List Ch)}(h:QA4 H a=some (sz,ys)): ∃news,Wj w v sz ys (ow M ρ H) news:=by
 unfold QA4 at h;split at h
 ·cases h
  obtain⟨vals,hcc,hv⟩:=ha;simp at hv;subst hv;exact QFq hcc
 ·split at h
  ·rename_i hk;cases h
   obtain⟨vals,hcc,hv⟩:=ha;simp at hv;subst hv;exact QCL hs hk hcc
  ·cases h
 ·cases h
def QK (b:UInt8):List Ch:=[.v (.int .u8 b.toNat)]
def QCM (i j:TyI)(a:AV)(H:HP)(K:AV->Prop):Prop:=
 match i.und,j.und,a with
 | _,.int k,.x false [.v (.int _ n)]=>K (YF (.int k (k.wrap n)))
 | .string,.string,.x false [.v (.string s)]=>K (YF (.string s))
 | .string,.string,.x false [.b m n]=>K (.x false [.b m n])
 | .slice _,.string,a=>match QA4 H a with
  | some (1,ys)=> ∃bs:List UInt8,ys=bs.map QK/\K (YF (.string ⟨bs.toArray⟩))
  | _=>False
 | _,_,_=>False
theorem QD5 {O:Nat->Prop}{v:Value}{bs:List UInt8}{news:List Value}(h:Wj w v 1 (bs.map QK) O news):news=bs.map fun b=>Value.int .u8 b.toNat:=by
 apply Zp;intro i;have hl:=h.len;simp at hl;by_cases hi:i<bs.length
 ·have:=h.el i (QK bs[i]) (by simp[hi]);unfold QK at this;have hc:QX news.toArray 1 i=[Value.int .u8 bs[i].toNat]:=by
   generalize he:QX news.toArray 1 i=es at this;cases this with
   | v _ h=>cases h;rfl
  simp only[QX,Nat.mul_one]at hc;have:news[i]? =(List.take 1 (List.drop i news))[0]? :=by rw[Zd,if_pos (by omega),Ze];simp
  rw[this,hc];simp[hi]
 ·rw[Zv (by omega),Zv (by simp;omega)]
theorem QD6 (bs:List UInt8): ∀(s:ByteArray),((bs.map fun b=>(b.toNat:Int)).foldl (fun(r:ByteArray) n=>r.push (UInt8.ofNat n.toNat)) s)=⟨(s.data.toList++bs).toArray⟩:=by
 induction bs with
 | nil=>intro s;simp
 | cons b bs ih=>
  intro s;simp only[Yc,List.foldl_cons];rw[ih];have:UInt8.ofNat (b.toNat:Int).toNat=b:=by simp
  rw[this];simp[ByteArray.push]
theorem QCN {s d:Nat}{i j:TyI}(hi:Xr P s i)(hj:Xr P d j)(he: ∀e,i.und= .slice e->P.underlying e=some (.int .u8))(hs:HS w0 M ρ H w){a:AV}{v:Value}(ha:ConcV w (ow M ρ H) ρ a v){K:AV->Prop}(h:QCM i j a H K):
  ∃u av,(convert s d v).run P w= .ok u w/\ConcV w (ow M ρ H) ρ av u/\K av:=by
 unfold QCM at h;split at h
 ·rename_i k n hu;obtain⟨rfl,_⟩:=ConcX.one ha;refine⟨_,_,?_,QZ rfl,h⟩;have e1:=run_underlying hi.und w;have e2:=run_underlying hj.und w;rw[hu]at e2;simp only[convert,Sem.run_bind,e1,e2,Zc];rfl
 ·rename_i s' hu1 hu2;obtain⟨rfl,_⟩:=ConcX.one ha;refine⟨_,_,?_,QZ rfl,h⟩;have e1:=run_underlying hi.und w;have e2:=run_underlying hj.und w;rw[hu1]at e1;rw[hu2]at e2;simp[convert,e1,e2]
 ·rename_i m n hu1 hu2;obtain⟨rfl,hb⟩:=Jl ha;refine⟨_,_,?_,XK (.b hb .nil),h⟩;have e1:=run_underlying hi.und w;have e2:=run_underlying hj.und w;rw[hu1]at e1;rw[hu2]at e2;simp[convert,e1,e2,YV]
 ·rename_i e hu1 hu2;split at h
  ·rename_i ys hel;obtain⟨bs,rfl,hk⟩:=h;obtain⟨news,hsl⟩:=VV hs ha hel;have e1:=run_underlying hi.und w;have e2:=run_underlying hj.und w;rw[hu1]at e1;rw[hu2]at e2;have e3:=run_underlying (he e hu1) w;have hn:=QD5 hsl;have hrun:(Conv.bytesToString v).run P w= .ok (.string ⟨bs.toArray⟩) w:=by
    rcases hsl.cell with⟨rfl,hnil⟩ | ⟨b,o,cap,rfl,hcell⟩
    ·have:bs=[]:=by simpa using hnil
     subst this;rfl
    ·have hlc:=WY (P:=P) hcell;have hl:news.length=(bs.map QK).length:=by simpa using hsl.len
     rw[hl]at hlc;have:=run_bytesToString (P:=P) w ⟨b,o,none⟩ (bs.map QK).length cap (bs.map fun b=>(b.toNat:Int)) (by rw[hlc,hn];simp[Function.comp_def]);rw[this,QD6];simp
   refine⟨_,_,?_,QZ rfl,hk⟩;have hvs: ∃a n c,v= .slice a n c:=by
    rcases hsl.cell with⟨rfl,_⟩ | ⟨b,o,cap,rfl,_⟩
    ·exact⟨_,_,_,rfl⟩
    ·exact⟨_,_,_,rfl⟩
   obtain⟨a',n',c',rfl⟩:=hvs;simp[convert,e1,e2,e3,hrun]
  ·exact h.elim
 ·exact h.elim
end Go.Eng
namespace Go.Eng
open Go Go.RowKit
variable {P:Program}{w0:World}{M:Ctx}{ρ:Env}{H:HP}{w:World}
def QGu (i:TyI)(a:AV)(K:AV->Prop):Prop:=
 match i.und,a with
 | .string,.x false [.v (.string s)]=>K (YF (.int .i64 s.size))
 | .string,.x false [.b m _]=>K (YF (.int .i64 (QA m).length))
 | .slice _,.x false [.s _ xs]=>K (YF (.int .i64 xs.length))
 | .slice _,.x false [.w _ _ n]=>K (YF (.int .i64 n))
 | .slice _,.x false [.v (.slice none 0 0)]=>K (YF (.int .i64 0))
 | _,_=>False
theorem QD7 {t:Nat}{tt:TypeId}{i:TyI}(hi:Xr P t i){O:Nat->Prop}{a:AV}{v:Value}(ha:ConcV w O ρ a v){K:AV->Prop}(h:QGu i a K):
  ∃u av,(Builtin.len_ #[t] tt #[v]).run P w= .ok u w/\ConcV w O ρ av u/\K av:=by
 have e1:=run_underlying hi.und w;unfold QGu at h;split at h
 ·rename_i s hu;obtain⟨rfl,_⟩:=ConcX.one ha;rw[hu]at e1;exact⟨_,_,by simp[Builtin.len_,e1,goInt],QZ rfl,h⟩
 ·rename_i m _ hu;obtain⟨rfl,_⟩:=Jl ha;rw[hu]at e1;refine⟨_,_,?_,QZ rfl,h⟩;have hz:(⟨(QA m).toArray⟩:ByteArray).size=(QA m).length:=by show(QA m).toArray.size=_;simp
  simp[Builtin.len_,e1,goInt,YV,hz]
 ·rename_i e sz xs hu;obtain⟨vals,hcc,hv⟩:=ha;simp at hv;subst hv;rw[hu]at e1;refine⟨.int .i64 xs.length,_,?_,QZ rfl,h⟩;cases hcc<;>simp[Builtin.len_,e1,goInt]
 ·rename_i e k o n hu;obtain⟨vals,hcc,hv⟩:=ha;simp at hv;subst hv;rw[hu]at e1;refine⟨.int .i64 n,_,?_,QZ rfl,h⟩;cases hcc<;>simp[Builtin.len_,e1,goInt]
 ·rename_i e hu;obtain⟨rfl,_⟩:=ConcX.one ha;rw[hu]at e1;exact⟨_,_,by simp[Builtin.len_,e1,goInt],QZ rfl,h⟩
 ·exact h.elim
def Wl (mx:Bool)(a b:AV)(K:AV->Prop):Prop:=
 match a,b with
 | .x false [.v (.int k x)],.x false [.v (.int _ y)]=>K (YF (.int k (bif mx then(if y>x then y else x)else(if y<x then y else x))))
 | _,_=>False
theorem V8 {t e:Nat}{ie:TyI}(ht:P.underlying t=some (.slice e))(he:Xr P e ie)(hs:HS w0 M ρ H w){d:Nat}{tt:TypeId}(hd:H d=none){ys:List (List Ch)}{x:Value}
    {news:List Value} (hx:Wj w x ie.cells ys (ow M ρ H) news) (hbytes:ys.length*ie.bytes<=140737488355328) (h63:ys.length<=9223372036854775807):
    ∃u w' ρ',(Builtin.append_ #[t,t] tt #[.slice none 0 0,x]).run P w= .ok u w'/\HS w0 M ρ' (upd H d (some (.row e ie.cells ys))) w'/\
      Ext ρ H w ρ' (upd H d (some (.row e ie.cells ys))) w'/\ConcV w' (ow M ρ' (upd H d (some (.row e ie.cells ys)))) ρ' (.x false [.w d 0 ys.length]) u:=by
  obtain⟨ti,z,hi,hsz,hby,hz,hzc⟩:=he.info;have hzs:z.cells.size=ie.cells:=by rw[hzc];simpa using he.zlen
  have nothing:ys=[]->(∃b o cap,x= .slice (some ⟨b,o,none⟩) 0 cap)∨x= .slice none 0 0->_:=fun hy hxx=>by
    subst hy;have:=hs.allocNil (d:=d) hd e ie.cells
    refine(⟨.slice none 0 0,w,_,?_,this.1,this.2,XK (.w0 (QI _ _ _) rfl .nil)⟩: ∃u w' ρ',(Builtin.append_ #[t,t] tt #[.slice none 0 0,x]).run P w= .ok u w'/\HS w0 M ρ' (upd H d (some (.row e ie.cells []))) w'/\
      Ext ρ H w ρ' (upd H d (some (.row e ie.cells []))) w'/\ConcV w' (ow M ρ' (upd H d (some (.row e ie.cells [])))) ρ' (.x false [.w d 0 0]) u)
    rcases hxx with⟨b,o,cap,rfl⟩ | rfl
    · simp[Builtin.append_,run_underlying ht,sizeOf,typeInfo,hi,Builtin.lenOf,Builtin.firstCells,loadCells,loadCellsFrom]
    · simp[Builtin.append_,run_underlying ht,sizeOf,typeInfo,hi,Builtin.lenOf,Builtin.firstCells]
  rcases hx.cell with⟨rfl,rfl⟩ | ⟨b,o,cap,rfl,hcell⟩
  · exact nothing rfl (.inr rfl)
  · by_cases hy0:ys.length=0
    · have hyn:ys=[]:=Zy hy0;subst hyn;exact nothing rfl (.inl ⟨_,_,_,rfl⟩)
    · have hr:=run_append_nil (P:=P) w t tt e ti z ht hi hz ⟨b,o,none⟩ ys.length cap news (by rw[hx.len,hsz]) (fun j u hu=>by rw[Xl];exact hcell j u hu) (by omega) (by omega) (by rw[hby];omega);have hge:=grownCap_ge w ys.length 0 e;have hsame:=hs.same (w':=w.drew) rfl rfl rfl rfl;have e1:ys.length+(grownCap w ys.length 0 e-ys.length)=grownCap w ys.length 0 e:=by omega
      have hS:(news.toArray++Builtin.zeroCells z.cells (grownCap w ys.length 0 e-ys.length)).size=grownCap w ys.length 0 e*ie.cells:=by
        simp only[Array.size_append,Zt,size_zeroCells,hzs,hx.len,<-Zm,e1]
      obtain⟨ρ',a1,a2,a3⟩:=hsame.1.row (w':=w.drew.alloc (.cells (news.toArray++Builtin.zeroCells z.cells (grownCap w ys.length 0 e-ys.length)) e)) hd hS hge rfl rfl rfl rfl (fun i y hy=>by
        have harr:(news.toArray++Builtin.zeroCells z.cells (grownCap w ys.length 0 e-ys.length))=(news++(Builtin.zeroCells z.cells (grownCap w ys.length 0 e-ys.length)).toList).toArray:=by
          apply Array.ext';simp
        rw[harr,Xq ys.length hx.len (Zb.1 hy).1]
        exact hsame.2.cc0 (hx.el i y hy))
      exact⟨_,_,ρ',hr,a1,hsame.2.trans a2,by simpa using a3 ys.length (Nat.le_refl _)⟩

def QD8 (sz:Nat)(H:HP)(a:AV):Option (Nat×List (List Ch)):=
  match a with
  | .x false [.v (.slice (some ⟨_,_,none⟩) 0 _)]=>some (sz,[])
  | a=>QA4 H a
theorem QA5 (hs:HS w0 M ρ H w){a:AV}{v:Value}(ha:ConcV w (ow M ρ H) ρ a v){s sz:Nat}{ys:List (List Ch)}(h:QD8 s H a=some (sz,ys)): ∃news,Wj w v sz ys (ow M ρ H) news:=by
 unfold QD8 at h;split at h
 ·rename_i b o c;cases h
  obtain⟨rfl,_⟩:=ConcX.one ha;exact⟨[],by simp,by simp,by simp,.inr ⟨b,o,c,rfl,fun j v h=>by simp at h⟩⟩
 ·exact VV hs ha h
def QA6 (e sz:Nat)(H:HP)(a x:AV):Option (Nat×Nat×Nat×Nat×Nat×Nat×Nat×List (List Ch)×List (List Ch)):=
  match a,x with
  | .x false [.w k 0 n],.x false [.w k2 0 n2]=>match H k,H k2 with
    | some (.nst e1 s1 o t2 sz2 xs),some (.nst e2 s2 o' t2' sz2' ys)=>bif e1.beq e&&s1.beq sz&&e2.beq e&&s2.beq sz&&o.beq o'&&t2.beq t2'&&sz2.beq sz2'&& !(k.beq k2)then some (k,k2,n,n2,o,t2,sz2,xs,ys)else none
    | _,_=>none
  | _,_=>none

theorem QCO {e sz:Nat}{a x:AV}{k k2 n n2 o t2 sz2:Nat}{xs ys:List (List Ch)}(h:QA6 e sz H a x=some (k,k2,n,n2,o,t2,sz2,xs,ys)):a= .x false [.w k 0 n]/\x= .x false [.w k2 0 n2]/\H k=some (.nst e sz o t2 sz2 xs)/\H k2=some (.nst e sz o t2 sz2 ys)/\k≠k2:=by
 unfold QA6 at h;split at h
 ·rename_i k n k2 n2;split at h
  ·rename_i e1 s1 o t2 sz2 xs e2 s2 o' t2' sz2' ys h1 h2;cases hb:(e1.beq e&&s1.beq sz&&e2.beq e&&s2.beq sz&&o.beq o'&&t2.beq t2'&&sz2.beq sz2'&& !(k.beq k2))with
   | false=>rw[hb]at h;cases h
   | true=>
    rw[hb]at h;cases h
    simp only[Zg,Bool.not_eq_true']at hb;obtain⟨⟨⟨⟨⟨⟨⟨b1,b2⟩,b3⟩,b4⟩,b5⟩,b6⟩,b7⟩,b8⟩:=hb;have b1:=Za b1;have b2:=Za b2;have b3:=Za b3;have b4:=Za b4;have b5:=Za b5;have b6:=Za b6;have b7:=Za b7;subst b1 b2 b5 b6 b7;subst b3 b4;exact⟨rfl,rfl,h1,h2,fun e=>by rw[e,Nat.beq_refl]at b8;cases b8⟩
  ·cases h
 ·cases h
def QA7 (ei:TyI)(e d:Nat)(a x:AV)(H:HP)(K:KK):Prop:=
 match QA6 e ei.cells H a x with
 | some (k,k2,n,n2,o,t2,sz2,xs,ys)=>(match H d with
  | none=>(n=xs.length/\n2=ys.length/\0<n/\0<n2/\(n+n2)*ei.bytes<=140737488355328/\n+n2<=9223372036854775807)/\
    K (.x false [.w d 0 (n+n2)]) (upd (upd (upd H k (some .dead)) k2 (some .dead)) d (some (.nst e ei.cells o t2 sz2 (xs++ys))))
  | some _=>False)
 | none=>
 match QD8 ei.cells H x,H d with
 | some (sz',ys),none=>bif sz'.beq ei.cells then(match a with
  | .x false [.v (.slice none 0 0)]=>(ys.length*ei.bytes<=140737488355328/\ys.length<=9223372036854775807)/\K (.x false [.w d 0 ys.length]) (upd H d (some (.row e ei.cells ys)))
  | .x false [.w k 0 n]=>(match H k with
   | some (.row e' sz xs)=>bif e'.beq e&&sz.beq ei.cells then((n+ys.length)*ei.bytes<=140737488355328/\n+ys.length<=9223372036854775807)/\
     K (.x false [.w d 0 (n+ys.length)]) (upd (upd H k (some .dead)) d (some (.row e ei.cells (xs.take n++ys))))else False
   | _=>False)
  | _=>False)else False
 | _,_=>False
theorem Gw {t e d:Nat}{tt:TypeId}{ei:TyI}(ht:P.underlying t=some (.slice e))(he:Xr P e ei)(hs:HS w0 M ρ H w){a x:AV}{va vx:Value}(ha:ConcV w (ow M ρ H) ρ a va)(hx:ConcV w (ow M ρ H) ρ x vx){K:KK}
  (h:QA7 ei e d a x H K):
  ∃u w' ρ' H' av,(Builtin.append_ #[t,t] tt #[va,vx]).run P w= .ok u w'/\HS w0 M ρ' H' w'/\Ext ρ H w ρ' H' w'/\ConcV w' (ow M ρ' H') ρ' av u/\K av H':=by
 unfold QA7 at h;cases hap:QA6 e ei.cells H a x with
 | some r=>
  obtain⟨k,k2,n,n2,o,t2,sz2,xs,ys⟩:=r;rw[hap]at h;simp only at h;split at h
  ·rename_i hd;obtain⟨⟨g1,g2,g3,g4,g5,g6⟩,hk⟩:=h;obtain⟨rfl,rfl,q1,q2,q3⟩:=QCO hap;obtain⟨us,hcu,hv⟩:=ha;simp at hv;subst hv;obtain⟨us,hcx,hv⟩:=hx;simp at hv;subst hv;rw[g1]at hcu g3 g5 g6 hk;rw[g2]at hcx g4 g5 g6 hk;obtain⟨w',ρ',u,c1,c2,c3,c4⟩:=QDx (tt:=tt) ht he hs hd q3 q1 q2 hcu hcx g3 g4 g5 g6;exact⟨u,w',ρ',_,_,c1,c2,c3,c4,hk⟩
  ·exact h.elim
 | none=>
 rw[hap]at h;simp only at h;split at h
 ·rename_i sz' ys hel hd;cases hb:sz'.beq ei.cells with
  | false=>rw[hb]at h;exact h.elim
  | true=>
   rw[hb]at h;simp only[R7]at h;have hsz:=Za hb;subst hsz;obtain⟨news,hsl⟩:=QA5 hs hx hel;split at h
   ·obtain⟨rfl,_⟩:=ConcX.one ha;obtain⟨⟨h1,h2⟩,hk⟩:=h;obtain⟨u,w',ρ',r1,r2,r3,r4⟩:=V8 (tt:=tt) ht he hs hd hsl h1 h2;exact⟨u,w',ρ',_,_,r1,r2,r3,r4,hk⟩
   ·rename_i k n;split at h
    ·rename_i e' sz xs hk;cases hb2:(e'.beq e&&sz.beq ei.cells)with
     | false=>rw[hb2]at h;exact h.elim
     | true=>
      rw[hb2]at h;simp only[R7]at h;simp only[Zg]at hb2;have e1:=Za hb2.1;have e2:=Za hb2.2;subst e1 e2;obtain⟨⟨h1,h2⟩,hkk⟩:=h;obtain⟨vals,hcc,hv⟩:=ha;simp at hv;subst hv;obtain⟨w',ρ',u,r1,r2,r3,r4⟩:=QAu (tt:=tt) ht he hs hd hk hcc hsl h1 h2;exact⟨u,w',ρ',_,_,r1,r2,r3,r4,hkk⟩
    ·exact h.elim
   ·exact h.elim
 ·exact h.elim
inductive Qo (w:World)(O:Nat->Prop)(ρ:Env):List AV->List Value->Prop
 | nil:Qo w O ρ [] []
 | cons {a:AV} {as:List AV} {v:Value} {vs:List Value} (h:ConcV w O ρ a v) (t:Qo w O ρ as vs):Qo w O ρ (a::as) (v::vs)
def QD9 (H:HP):AV->Option AV
 | .x b cs=>(W7 H cs).map (AV.x b)
 | _=>none
def Wz (H:HP):List AV->Option (List AV)
 | []=>some []
 | a::as=>match QD9 H a,Wz H as with
  | some a',some as'=>some (a'::as')
  | _,_=>none
abbrev PR:=Nat->List AV->Option ((AV->Prop)->Prop)
abbrev PM:=Nat->List AV->HP->Nat->Option (KK->Prop)

def XT:Env:=fun _=>none
def Spec (P:Program)(g:Nat)(tab:List Value)(f:Nat)(as:List AV)(K:AV->Prop):Prop:=
  ∀w (O:Nat->Prop) vals,(∀b,O b->b<w.heap.size)->QDq w g tab->Qo w O XT as vals->
    Calls P f vals.toArray w (fun e w'=> ∃v av,e= .returned v/\K av/\ConcV w' O XT av v/\Below w.heap.size w w')

def SpecM (P:Program)(g:Nat)(tab:List Value)(f:Nat)(as:List AV)(H:HP)(K:KK):Prop:=
 ∀w0 M ρ w vals,M.g=g->M.tab=tab->HS w0 M ρ H w->Qo w (ow M ρ H) ρ as vals->
  Calls P f vals.toArray w (fun e w'=> ∃v ρ' H' av,e= .returned v/\HS w0 M ρ' H' w'/\Ext ρ H w ρ' H' w'/\ConcV w' (ow M ρ' H') ρ' av v/\K av H')
def VE (P:Program)(f:Nat):Prop:= ∀args w,(callFunc f args).run P w= .ok (.enter f args) w

structure QLU (P:Program)(g:Nat)(tab:List Value)(pr:PR):Prop where
 enter: ∀f as T,pr f as=some T->VE P f
 sound: ∀f as T,pr f as=some T-> ∀K,T K->Spec P g tab f as K
structure QIW (P:Program)(g:Nat)(tab:List Value)(pm:PM):Prop where
 enter: ∀f as H d T,pm f as H d=some T->VE P f
 sound: ∀f as H d T,pm f as H d=some T-> ∀K,T K->SpecM P g tab f as H K
abbrev PX:=Nat->List AV->Option ((AV->Prop)->Prop)
def QOa (P:Program)(px:PX):Prop:= ∀f as T,px f as=some T-> ∀K,T K-> ∀w (O:Nat->Prop) (ρ:Env) vals,Qo w O ρ as vals->
 ∃v av,(callFunc f vals.toArray).run P w= .ok (.value v) w/\ConcV w O ρ av v/\K av
def QGv:List Ch->Bool
  | []=>true
  | .s .. ::_=>false
  | .y .. ::_=>false
  | .i .. ::_=>false
  | _::cs=>QGv cs
def noS:AV->Bool
 | .x _ cs=>QGv cs
 | .t l=>l.all fun p=>QGv p.2
 | _=>true
def zeros (as:List AV):List (Nat×AV):=as.map fun a=>(0,a)
def QQK (K:Nat->Nat->List (List Ch)->Nat->Prop):KK:=fun v H'=>
  match v with
  | .x false [.w d 0 n]=>match H' d with
    | some (.row t sz zs)=>(∀z∈zs,QGv z=true)/\K t sz zs n
    | _=>False
  | _=>False

def QIX (pm:PM)(f d:Nat)(as:List AV)(H:HP)(K:KK):Prop:=
  match as with
  | [.x false [.q k i n]]=>match H k,H d with
    | some (.nst _ _ oo _ sz2 xs),none=> ∃ys,(ldE xs i oo 1=some [.s sz2 ys]/\n=ys.length)/\match pm f [.x false [.s sz2 ys]] (fun _=>none) d with
      | some T=>T (QQK fun t sz zs m=>K (.x false [.w d 0 m]) (upd H d (some (.row t sz zs))))
      | none=>False
    | _,_=>False
  | _=>False

def QCP (pr:PR)(pm:PM)(f d:Nat)(as:List AV)(H:HP)(K:KK):Prop:=
 match pm f as H d with
 | some T=>T K
 | none=>match Wz H as with
  | some bs=>match pr f bs with
   | some T=>T fun v=>K v (bif noS v then H else killParts H (zeros as))
   | none=>False
  | none=>QIX pm f d as H K
theorem HO (hs:HS w0 M ρ H w){b:Nat}(h:ow M ρ H b):b<w.heap.size:=by
 rcases h with h | ⟨k,bd,a1,a2,a3,a4⟩
 ·exact Zk (hs.glob.2.2.2 b h).1 hs.size
 ·exact(hs.rng k bd a1 a2 a4 b a3).1
theorem HS.below (hs:HS w0 M ρ H w){w':World}(hb:Below w.heap.size w w'):HS w0 M ρ H w'/\Ext ρ H w ρ H w':=by
 have hx:Ext ρ H w ρ H w':=⟨⟨hb.size,fun b h _=>hb.block b h⟩,fun _ _ h=>h,fun _ _ h=>h,fun _ h=>⟨rfl,h⟩⟩;refine⟨⟨hb.os.trans hs.os,hb.tape.trans hs.tape,hb.output.trans hs.output,Nat.le_trans hs.size hb.size,hs.glob,fun b h1 h2=>(hb.block b (Zk h1 hs.size)).trans (hs.old b h1 h2),?_,hs.dom,?_,hs.dist⟩,hx⟩
 ·intro k b hk hlv;obtain⟨bd,e,ok⟩:=hs.blk k b hk hlv;exact⟨bd,e,ok.ext hx (fun hn hl j hj=>hb.block _ (hs.rng k bd e hn (by rw[hk];exact hl) j (by rw[hk];exact hj)).1)⟩
 ·intro k bd h1 h2 h3 j hj;have:=hs.rng k bd h1 h2 h3 j hj;exact⟨Zk this.1 hb.size,this.2⟩
def QAI (i j:TyI)(a:AV)(H:HP)(K:AV->Prop):Prop:=
  match i.und,j.und,a with
  | .string,.slice _,.x false [.b m _]=>K (.x false [.s 1 ((QA m).map QK)])
  | _,_,_=>QCM i j a H K

theorem QCQ {s d:Nat}{i j:TyI}(hi:Xr P s i)(hj:Xr P d j)(he: ∀e,i.und= .slice e->P.underlying e=some (.int .u8))(hd: ∀e,j.und= .slice e->P.underlying e=some (.int .u8))(hs:HS w0 M ρ H w){a:AV}{v:Value}(ha:ConcV w (ow M ρ H) ρ a v){K:AV->Prop}(h:QAI i j a H K):
  ∃u w' av,(convert s d v).run P w= .ok u w'/\HS w0 M ρ H w'/\Ext ρ H w ρ H w'/\ConcV w' (ow M ρ H) ρ av u/\K av:=by
 unfold QAI at h;split at h
 ·rename_i e m n hu1 hu2;obtain⟨rfl,_⟩:=Jl ha;have hr:=run_bytes_of_string (P:=P) w s d e ⟨(QA m).toArray⟩ (by rw[hi.und,hu1]) (by rw[hj.und,hu2]) (hd e hu2);generalize hn:grownCap w (ByteArray.size ⟨(QA m).toArray⟩) 0 e=cap at hr;have hcap:(QA m).length<=cap:=by
   have:=grownCap_ge w (ByteArray.size ⟨(QA m).toArray⟩) 0 e;have hz:(⟨(QA m).toArray⟩:ByteArray).size=(QA m).length:=by show(QA m).toArray.size=_;simp
   omega
  generalize hw:(w.drew.alloc (.cells (bytesRow ⟨(QA m).toArray⟩ cap) e ((bytesRow ⟨(QA m).toArray⟩ cap).size,(bytesRow ⟨(QA m).toArray⟩ cap).size+1)))=w' at hr;have hheap:w'.heap=w.heap.push (.cells (bytesRow ⟨(QA m).toArray⟩ cap) e ((bytesRow ⟨(QA m).toArray⟩ cap).size,(bytesRow ⟨(QA m).toArray⟩ cap).size+1)):=by subst hw;rfl
  have hb:Below w.heap.size w w':=⟨by subst hw;rfl,by subst hw;rfl,by subst hw;rfl,by rw[hheap];simp,fun k hk=>by rw[hheap];simp[Array.getElem?_push,Nat.ne_of_lt hk]⟩;obtain⟨k1,k2⟩:=hs.below hb;refine⟨_,_,_,hr,k1,k2,?_,h⟩;have hlen:((QA m).map QK).length=(QA m).length:=by simp
  have hz:(⟨(QA m).toArray⟩:ByteArray).size=((QA m).map QK).length:=by show(QA m).toArray.size=_;simp
  rw[hz];have key:CC w' (ow M ρ H) ρ [.s 1 ((QA m).map QK)] [.slice (some ⟨w.heap.size,0,none⟩) ((QA m).map QK).length cap]:=by
   refine .s (f:=fun i=>[.int .u8 (((QA m).getD i 0).toNat:Int)]) ⟨by rw[hheap];simp,fun ho=>Nat.lt_irrefl _ (HO hs ho),fun i x hx=>⟨rfl,fun j hj=> ?_⟩⟩ (fun i x hx=> ?_) (by omega) .nil
   ·have hj0:j=0:=by omega
    subst hj0;have hi:=(Zb.1 hx).1;rw[hlen]at hi;have hcell:w'.cell? ⟨w.heap.size,i,none⟩=(bytesRow ⟨(QA m).toArray⟩ cap)[i]? :=by
     simp[World.cell?,hheap]
    rw[show 0+i*1+0=i by omega,hcell];unfold bytesRow;rw[Array.getElem?_append_left (by simpa using hi)];simp[Ya,hi]
   ·have hi:=(Zb.1 hx).1;rw[hlen]at hi;rw[Zu,Zj hi]at hx;cases hx
    simp only[Ya,Zj hi,Option.getD_some];exact .v rfl .nil
  exact⟨_,key,rfl⟩
 ·obtain⟨u,av,h1,h2,h3⟩:=QCN hi hj he hs ha h;exact⟨u,w,av,h1,hs,.refl _ _ _,h2,h3⟩
theorem V9 {O O':Nat->Prop}{cs:List Ch}{vs:List Value}(h:CC w O ρ cs vs):QGv cs=true->CC w O' ρ cs vs:=by
 induction h with
 | nil=>exact fun _=> .nil
 | v h1 _ ih=>exact fun h=> .v h1 (ih h)
 | r hb _ ih=>exact fun h=> .r hb (ih h)
 | b hb _ ih=>exact fun h=> .b hb (ih h)
 | s0 _ ih=>exact fun h=>by cases h
 | s00 _ ih=>exact fun h=>by cases h
 | s _ _ _ _ _ ih=>exact fun h=>by cases h
 | p h1 h2 _ ih=>exact fun h=> .p h1 h2 (ih h)
 | w h1 h2 h3 h4 h5 _ ih=>exact fun h=> .w h1 h2 h3 h4 h5 (ih h)
 | w0 h1 h2 _ ih=>exact fun h=> .w0 h1 h2 (ih h)
 | w00 h1 _ ih=>exact fun h=> .w00 h1 (ih h)
 | e h1 h2 _ ih=>exact fun h=> .e h1 h2 (ih h)
 | y _ _ _ _ ih=>exact fun h=>by cases h
 | f h1 _ ih=>exact fun h=> .f h1 (ih h)
 | i=>exact fun h=>by cases h
 | m h1 h2 _ ih=>exact fun h=> .m h1 h2 (ih h)
 | yl h1 h2 _ ih=>exact fun h=> .yl h1 h2 (ih h)
 | q h1 h2 h3 h4 _ ih=>exact fun h=> .q h1 h2 h3 h4 (ih h)
 | z h1 h2 h3 _ ih=>exact fun h=> .z h1 h2 h3 (ih h)
 | u h1 _ ih=>exact fun h=> .u h1 (ih h)
theorem QIY {O O':Nat->Prop}{av:AV}{v:Value}(h:ConcV w O ρ av v)(hn:noS av=true):ConcV w O' ρ av v:=by
 cases av with
 | x b cs=>obtain⟨vals,h1,h2⟩:=h;exact⟨vals,V9 h1 hn,h2⟩
 | t l=>
  obtain⟨vs,h1,h2⟩:=h;refine⟨vs,?_,h2⟩;simp only[noS]at hn;clear h2;induction h1 with
  | nil=>exact .nil
  | cons hx _ ih=>
   simp only[List.all_cons,Zg]at hn;obtain⟨vals,k1,k2⟩:=hx;exact .cons ⟨vals,V9 k1 hn.1,k2⟩ (ih hn.2)
 | n=>exact h
 | u=>trivial
theorem HQ: ∀{as bs:List AV},Wz H as=some bs-> ∀k∈Q3 (zeros as),∃t sz xs,H k=some (.row t sz xs):=by
 intro as;induction as with
 | nil=>intro bs _ k hk;simp[zeros,Q3]at hk
 | cons a as ih=>
  intro bs h k hk;simp only[Wz]at h;split at h
  ·rename_i h1 h2;cases a with
   | x ag cs=>
    simp only[zeros,Yc,Q3,Zz]at hk;simp only[QD9,Zf]at h1;obtain⟨ds,hi,_⟩:=h1;rcases hk with hk | hk
    ·exact Jy hi k hk
    ·exact ih h2 k hk
   | _=>simp[QD9]at h1
  ·cases h
theorem HR (hs:HS w0 M ρ H w){as0:List AV}(hrow: ∀k∈Q3 (zeros as0),∃t sz xs,H k=some (.row t sz xs)){as:List AV}{vals:List Value}(h:Qo w (ow M ρ H) ρ as vals):
  ∀{bs:List AV},(∀k∈Q3 (zeros as),k∈Q3 (zeros as0))->Wz H as=some bs->Qo w (ow M ρ (Eng.killParts H (zeros as0))) XT bs vals:=by
 induction h with
 | nil=>intro bs _ h;simp[Wz]at h;subst h;exact .nil
 | @cons a as v vs hc _ ih=>
  intro bs hsub h;simp only[Wz]at h;split at h
  ·rename_i h1 h2;simp at h;subst h;cases a with
   | x ag cs=>
    simp only[QD9,Zf]at h1;obtain⟨ds,hi,rfl⟩:=h1;obtain⟨us,hcu,hv⟩:=hc;simp only[zeros,Yc,Q3,Zz]at hsub;exact .cons ⟨us,QIV hs (b:=true) (fun k hk=>hsub k (.inl hk)) hcu hi hrow,hv⟩ (ih (fun k hk=>hsub k (.inr hk)) h2)
   | _=>simp[QD9]at h1
  ·cases h
theorem QCR {pm:PM}(hpm:QIW P M.g M.tab pm)(hs:HS w0 M ρ H w){f d:Nat}{as:List AV}{vals:List Value}(ha:Qo w (ow M ρ H) ρ as vals){K:KK}(h:QIX pm f d as H K):
  VE P f/\Calls P f vals.toArray w (fun e w'=> ∃v ρ' H' av,e= .returned v/\HS w0 M ρ' H' w'/\Ext ρ H w ρ' H' w'/\ConcV w' (ow M ρ' H') ρ' av v/\K av H'):=by
 unfold QIX at h;split at h
 ·rename_i k i n;split at h
  ·rename_i t1 sz1 oo t2 sz2 xs hk hd;obtain⟨ys,⟨hld,hn⟩,h⟩:=h;split at h
   ·rename_i T hT;refine⟨hpm.enter _ _ _ _ _ hT,?_⟩;obtain⟨bd,hρ,hnn,hlen,hbsz,⟨hs1,hs2,hs3⟩,arr,hb,hsize,hle,hel⟩:=hs.blk k _ hk rfl;obtain⟨el,hel2⟩:=HD hld;have hj:=(Zb.1 hel2).1;have lk:XI (H k)=true:=by rw[hk];rfl
    have hHS:HS w {M with m:=fun _=>False,x:=fun b=>ow M ρ H b/\ ¬XS bd (H k) b} XT (fun _=>none) w:=
     ⟨rfl,rfl,rfl,Nat.le_refl _,⟨hs.globw,fun h=>h,Zk hs.glob.2.2.1 hs.size,fun b hb=>⟨HO hs hb.1,fun h=>h⟩⟩,fun _ _ _=>rfl,fun _ _ h=>(by cases h),fun _ _=>rfl,fun _ _ h=>(by cases h),fun _ _ _ _ h=>(by cases h)⟩
    have hO: ∀b,ow {M with m:=fun _=>False,x:=fun b=>ow M ρ H b/\ ¬XS bd (H k) b} XT (fun _=>none) b->ow M ρ H b/\ ¬XS bd (H k) b:=by
     rintro b (h | ⟨_,_,h,_⟩)
     ·exact h
     ·cases h
    have harg:Qo w (ow {M with m:=fun _=>False,x:=fun b=>ow M ρ H b/\ ¬XS bd (H k) b} XT (fun _=>none)) XT [.x false [.s sz2 ys]] vals:=by
     cases ha with
     | cons hc ht=>
      cases ht
      obtain⟨us,hcu,hv⟩:=hc;simp at hv;subst hv;refine .cons (XK ?_) .nil;cases hcu with
      | @q _ _ _ _ cap β _ _ _ hk' _ hβ hc _=>
       rw[hρ]at hk';cases hk'
       obtain⟨pre,zs,post,us,us',cap',rfl,e2,e3,d1,d2,arr2,d3,⟨cp,d4,d5'⟩,d5,d6⟩:=hel i el β hel2 hβ;have hyz:=QDt hel2 e2 hld;subst hyz;subst hn;have hβm:XS bd (H k) β:=by rw[hk];exact .inr (Zn hβ)
       refine CC.s (f:=fun j=>QX arr2 sz2 j) ⟨(Array.getElem?_eq_some_iff.1 d3).1,fun h=>(hO _ h).2 hβm,fun j y hy=> ?_⟩ (fun j y hy=>(d6 j y hy).mono (.refl _ _) (fun b _ h=>(hO b h).1) (fun _ _ h=>h)) hc .nil;have hi:=(Zb.1 hy).1;refine⟨W8 d4 (by omega),fun q hq=> ?_⟩;simp only[World.cell?,d3,QX];rw[Zd,if_pos hq,Ze];rw[show 0+j*sz2+q=j*sz2+q by omega];simp
    refine(hpm.sound _ _ _ _ _ hT _ h w {M with m:=fun _=>False,x:=fun b=>ow M ρ H b/\ ¬XS bd (H k) b} XT w vals rfl rfl hHS harg).mono ?_
    rintro e w' ⟨v,ρ1,H1,av,rfl,h1,_,hc,hK⟩;have hbel:Below w.heap.size w w':=⟨h1.os,h1.tape,h1.output,h1.size,fun b hb=>h1.old b hb (fun h=>h)⟩;unfold QQK at hK;split at hK
    ·rename_i d1 n1;split at hK
     ·rename_i t sz zs hd1;obtain⟨hns,hK⟩:=hK;obtain⟨bd1,hρ1,hl1,hz1,ok1⟩:=h1.blk d1 _ hd1 rfl;obtain⟨us,hcu,hv⟩:=hc;simp at hv;subst hv;have elok: ∀{O':Nat->Prop} {arr1:Array Value},(∀i x,zs[i]? =some x->CC w' (ow {M with m:=fun _=>False,x:=fun b=>ow M ρ H b/\ ¬XS bd (H k) b} ρ1 H1) (fun _=>none) x (QX arr1 sz i))-> ∀i x,zs[i]? =some x->CC w' O' (fun _=>none) x (QX arr1 sz i):=
       fun h i x hx=>V9 (h i x hx) (hns x (Zn hx))
      rcases ok1 with⟨hnil,rfl⟩ | ⟨hn1,arr1,c1,c2,c3,c4⟩
      ·obtain⟨k1,k2⟩:=hs.below hbel;obtain⟨k3,k4⟩:=k1.allocNil (d:=d) hd t sz;refine⟨v,_,_,_,rfl,k3,k2.trans k4,?_,hK⟩;cases hcu with
       | w hk' hn' _ _ _ _=>rw[hρ1]at hk';cases hk';rw[hnil]at hn';cases hn'
       | w0 _ _ _=>exact XK (.w0 (QI _ _ _) rfl .nil)
       | w00 _ _=>exact XK (.w00 (QI _ _ _) .nil)
      ·have hr1:=h1.rng d1 bd1 hρ1 hn1 (by rw[hd1];rfl) bd1.blk Qs;have hmv:=hs.absorb (ks:=[]) (d:=d) (w':=w') (bd':=⟨bd1.blk,bd1.cap,bd1.len,bd1.sz,false,[]⟩) (b':= .row t sz zs) (by simp) hd
        (fun j hj=> .inl (by
         have hj:j=bd1.blk:=hj;rw[hj]
         exact⟨hr1.2.resolve_right (fun h=>h),hr1.1⟩)) (fun j hj _=>hbel.block j hj) hbel.size hbel.os hbel.tape hbel.output
        (fun hx'=>⟨hl1,hz1,.inr ⟨rfl,arr1,c1,c2,c3,elok c4⟩⟩)
       rw[QGn]at hmv;refine⟨v,_,_,_,rfl,hmv.1,hmv.2,?_,hK⟩;cases hcu with
       | w hk' hn' hl hc hcap _=>
        rw[hρ1]at hk';cases hk'
        exact XK (CC.w (bd:=⟨bd1.blk,bd1.cap,bd1.len,bd1.sz,false,[]⟩) (QI _ _ _) rfl hl hc hcap .nil)
       | w0 hk' hn' _=>rw[hρ1]at hk';cases hk';rw[hn1]at hn';cases hn'
       | w00 _ _=>exact XK (.w00 (QI _ _ _) .nil)
     ·exact hK.elim
    ·exact hK.elim
   ·exact h.elim
  ·exact h.elim
 ·exact h.elim
theorem KE {pr:PR}{pm:PM}(hpr:QLU P M.g M.tab pr)(hpm:QIW P M.g M.tab pm)(hs:HS w0 M ρ H w){f d:Nat}{as:List AV}{vals:List Value}(ha:Qo w (ow M ρ H) ρ as vals){K:KK}(h:QCP pr pm f d as H K):
  VE P f/\Calls P f vals.toArray w (fun e w'=> ∃v ρ' H' av,e= .returned v/\HS w0 M ρ' H' w'/\Ext ρ H w ρ' H' w'/\ConcV w' (ow M ρ' H') ρ' av v/\K av H'):=by
 unfold QCP at h;split at h
 ·rename_i T hT;exact⟨hpm.enter _ _ _ _ _ hT,hpm.sound _ _ _ _ _ hT K h w0 M ρ w vals rfl rfl hs ha⟩
 ·split at h
  ·rename_i bs hbs;split at h
   ·rename_i T hT;have hrow:=HQ hbs;obtain⟨k1,k2⟩:=hs.killParts (parts:=zeros as) (fun k hk=>let ⟨t,sz,xs,e⟩:=hrow k hk;⟨_,e⟩);refine⟨hpr.enter _ _ _ hT,(hpr.sound _ _ _ hT _ h w (ow M ρ (Eng.killParts H (zeros as))) vals (fun b hb=>HO k1 hb) hs.globw (HR hs hrow ha (fun _ h=>h) hbs)).mono ?_⟩;rintro e w' ⟨v,av,rfl,hk,hc,hb⟩;have hc':ConcV w' (ow M ρ (Eng.killParts H (zeros as))) ρ av v:=hc.mono (.refl _ _) (fun _ _ h=>h) (fun _ _ h=>by cases h);cases hn:noS av with
    | true=>
     rw[hn]at hk;obtain⟨h1,h2⟩:=hs.below hb;exact⟨v,ρ,H,av,rfl,h1,h2,QIY hc' hn,hk⟩
    | false=>
     rw[hn]at hk;obtain⟨h1,h2⟩:=k1.below hb;exact⟨v,ρ,_,av,rfl,h1,k2.trans h2,hc',hk⟩
   ·exact h.elim
  ·exact QCR hpm hs ha h
end Go.Eng
