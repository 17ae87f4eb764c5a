/- The engine, part G: all operations. -/
import Derived.Test.YtmpfaflhpioaiaaGreatDoorE1
import Derived.Laws.Strings
import Derived.Laws.StructEq
import Derived.Great.FillDense
import Derived.Laws.BytesString
import Derived.Laws.Slices
import Derived.Laws.IdiomStrings
open Option renaming some → A, none → G, map_eq_some_iff → Zf
open _root_ renaming List → B, Nat → C, False → I, Option → J, ByteArray → L, Array → S, UInt8 → T, Bool → X, Int → Y, if_pos → c, decide_eq_true_eq → j, absurd → u
open Bool renaming false → D, true → N, and_eq_true → Zi, eq_iff_iff → Zr
open Go renaming run_underlying → E, Value → F, binOp → Q, World → R, Program → U, TypeId → Z, grownCap → l, bytesRow → p, eqGuard → e, Operand → f, asIntOf → r, convert → y, underlying → s, BinOp → z
open List renaming length → q, getElem?_take → Zd, getElem?_eq_some_iff → Zb, getElem?_drop → Ze, replicate → Zl, ext_getElem? → Zo, getElem?_append_left → Zh, getElem?_eq_getElem → Zj, getElem?_append_right → Zk, size_toArray → Zs, mem_append → Zz, getElem?_map → Zt, map_cons → Yc, length_cons → Yd, drop_drop → Ye, mem_of_getElem? → Zx, eq_of_mem_replicate → Zq, getElem?_eq_none → Zu, eq_nil_of_length_eq_zero → Zy, getD_eq_getElem?_getD → Ya
open Nat renaming eq_of_beq_eq_true → Za, add_mul → Zm, lt_of_lt_of_le → Zn, add_assoc → Yb, pow_le_pow_right → Zv, mul_le_mul_right → Zw
open Go.Result renaming andThen_ok → Zc
open Go.ByteArray renaming toList_eq → Zg
open Int renaming le_refl → Zp
namespace Go.Eng
open Go
variable {P:U}{w0:R}{M:Ctx}{ρ:Env}{H:HP}{w:R}
abbrev KK:=AV->HP->Prop
def Good (P:U)(w0:R)(M:Ctx)(ρ:Env)(H:HP)(w:R)(K:KK):Result Next->Prop
  | .ok (.value v) g=> ∃b c k,HS w0 M b c g/\Ext ρ H w b c g/\ConcV g (ow M b c) b k v/\K k c
  | .ok .skip g=> ∃b c,HS w0 M b c g/\Ext ρ H w b c g/\K .n c
  | .ok (.enter f j) g=>g=w/\Calls P f j w fun e h=> ∃v b c k,e= .returned v/\HS w0 M b c h/\Ext ρ H w b c h/\ConcV h (ow M b c) b k v/\K k c
  | _=>I

variable{v:F}
theorem Good.val {K:KK}{r:Result Next}{av:AV}(c:HS w0 M ρ H w)(b:r= .ok (.value v) w)(h:ConcV w (ow M ρ H) ρ av v)(hk:K av H):Good P w0 M ρ H w K r:=by
 subst b;exact⟨ρ,H,av,c,.refl _ _ _,h,hk⟩
def JS (v:F):AV:= .x D [.v v]
variable{O:C->Prop}
theorem Qg(h:v.oneCell'=N):ConcV w O ρ (JS v) v:=ConcX.mk1 h
theorem QPe{x:F}(h:ConcV w O ρ (.x D [.v x]) v):v=x:=(ConcX.one h).1
variable{n:C}
theorem Wo{m:C}(h:ConcV w O ρ (.x D [.b m n]) v):v=Ja (QB m)/\m<2^n:=by
 obtain⟨e,f,c⟩:=h;simp at c;subst c;cases f with
 | b g _=>exact⟨rfl,g⟩
theorem YI{c:Ch}(h:CC w O ρ [c] [v]):ConcV w O ρ (.x D [c]) v:=⟨[v],h,rfl⟩
variable{o:C}
theorem QiV{k:C}{bd:WM}(hk:ρ k=A bd)(h:bd.isNil=D):ConcV w O ρ (.x D [.p k o]) (.pointer (A ⟨bd.zc,o,G⟩)):=YI (.p hk h .nil)
theorem re{k i a:C}{bd:WM}(hk:ρ k=A bd)(b:bd.isNil=D)(h:a=i*bd.sz+o):ConcV w O ρ (.x D [.e k i o]) (.pointer (A ⟨bd.zc,a,G⟩)):=by
 subst h;exact YI (.e hk b .nil)
theorem QiW{sz b i j a:C}{xs:B (B Ch)}{f:C->B F}(c:K8 w O b o sz xs f)(e: ∀i x,xs[i]? =A x->CC w O (fun _=>G) x (f i))(h:a=o+i*sz+j):
  ConcV w O ρ (.x D [.y sz xs i j]) (.pointer (A ⟨b,a,G⟩)):=by
 subst h;exact YI (.y c e .nil)
theorem QSO: ∀{f g m:C},m<=f->m<=g->nbF f m=nbF g m:=by
 intro f;induction f with
 | zero=>
  intro g m h b;have:m=0:=o3
  subst this;cases g<;>rfl
 | succ f c=>
  intro g m h b;cases m with
  | zero=>cases g<;>rfl
  | succ n=>
   cases g with
   | zero=>omega
   | succ g=>
    simp only[nbF];rw[c (g:=g) o3 o3]
theorem XA:QB 0=[]:=rfl
theorem YJ (n:C)(h:n≠0):QB n=QB (n/256)++[T.ofNat (n % 256)]:=by
 cases n with
 | zero=>exact u rfl h
 | succ n=>
  show nbF (n+1) (n+1)=_
  simp only[nbF,QB];rw[QSO (f:=n) (g:=(n+1)/256) o3 o3]
def QG (l:B T):C:=l.foldl (fun a b=>256*a+b.toNat) 0
theorem YX (l:B T)(b:T):QG (l++[b])=256*QG l+b.toNat:=by simp[QG]
theorem Xv (n:C):QG (QB n)=n:=by
 induction n using C.strongRecOn with
 | _ n b=>
  by_cases h:n=0
  ·subst h;simp[XA,QG]
  ·rw[YJ n h,YX,b _ o3];have:(T.ofNat (n % 256)).toNat=n % 256:=by simp[T.toNat_ofNat']
   rw[this];omega
theorem VS{m:C}(h:QB m=QB n):m=n:=by rw[<-Xv m,h,Xv]
theorem JT (l:B T):(⟨l.toArray⟩:L).toList=l:=by rw[Zg]
variable{op:z}
theorem QKU{k:IntKind}{a b:Y}{K:F->Prop}(h:(me op k a b).run K): ∃v,K v/\v.oneCell'=N/\
  (∀t w,(Q op t (.int k a) (.int k b)).run P w= .ok v w):=by
 cases op<;>simp only[me,BR.run]at h<;>first
  | exact⟨_,h,rfl,fun t w=>by simp[Q,Op.intArith,Op.intBits,Op.intCmp,QiT,orI,uf,QdL]⟩
  | exact⟨_,h.2,rfl,fun t w=>by simp[Q,Op.intDiv,h.1]⟩
theorem QKV{x y:F}{K:F->Prop}(h:(fA op x y).run K): ∃v,K v/\v.oneCell'=N/\(∀t w,(Q op t x y).run P w= .ok v w):=by
 unfold fA at h;split at h
 ·rename_i k a l b;split at h
  ·obtain⟨f,c⟩:=h;have: ¬b<0:=o3
   exact⟨_,c,rfl,fun t w=>by simp[Q,Op.shift,this,YM]⟩
  ·obtain⟨f,c⟩:=h;have: ¬b<0:=o3
   exact⟨_,c,rfl,fun t w=>by simp[Q,Op.shift,this,XE]⟩
  ·rename_i g j;split at h
   ·rename_i e;subst e;exact QKU h
   ·exact h.elim
 ·split at h
  ·exact⟨_,h,rfl,fun t w=>by simp[Q,Op.stringOp]⟩
  ·exact⟨_,h,rfl,fun t w=>by simp[Q,Op.stringOp]⟩
  ·exact⟨_,h,rfl,fun t w=>by simp[Q,Op.stringOp]⟩
  ·obtain⟨f,c⟩:=h;exact⟨_,c,rfl,fun t w=>by simp[Q,Op.stringOp];omega⟩
  ·exact h.elim
 ·exact h.elim
def bf (op:z)(x y:AV)(K:AV->Prop):Prop:=
 match x,y with
 | .x D [.v a],.x D [.v b]=>(fA op a b).run fun v=>K (JS v)
 | .x D [.b m _],.x D [.v (.string s)]=>(match op with
  | .eql=>K (JS (.bool (decide (QB m=s.data.toList))))
  | .neq=>K (JS (.bool (!decide (QB m=s.data.toList))))
  | _=>I)
 | .x D [.v (.string s)],.x D [.b m _]=>(match op with
  | .eql=>K (JS (.bool (decide (s.data.toList=QB m))))
  | .neq=>K (JS (.bool (!decide (s.data.toList=QB m))))
  | _=>I)
 | .x D [.b m c],.x D [.b n e]=>(match op with
  | .add=>((m=0\/n=0)/\c+e<=1152921504606846976)/\K (.x D [.b (m+n) (c+e)])
  | .eql=>K (JS (.bool (decide (m=n))))
  | .neq=>K (JS (.bool (!decide (m=n))))
  | _=>I)
 | _,_=>I
theorem Xe: ∀{m n:C},m<2^n->(QB m).length<=n:=by
 intro m;induction m using C.strongRecOn with
 | _ m g=>
  intro n h;by_cases b:m=0
  ·subst b;simp[XA]
  ·rw[YJ m b,B.length_append,B.length_singleton];by_cases k:8<=n
   ·have c:m/256<2^(n-8):=by
     apply C.div_lt_of_lt_mul;rw[show(256:C)=2^8 from rfl,<-C.pow_add,(o3:8+(n-8)=n)];exact h
    have:=g (m/256) o3 c;omega
   ·have j:2^n<=2^7:=Zv o3 o3;have f:m/256=0:=o3
    rw[f,XA];have:n≠0:=fun e=>by subst e;omega
    simp;omega
theorem Y1 (op:z)(t:Z)(x y:f)(a b:F)(h:a.oneCell'=N)(c:a≠ .nilIface)(w:R):(e op t x y a b).run P w= .ok () w:=by
 unfold e;cases op<;>first
  | (simp;done)
  | (cases a<;>first | (simp[Value.oneCell']at h;done) | (exact u rfl c) | (cases b<;>simp))
theorem V0 (t c:Z)(x y:f)(a b:L)(w:R):(do e .eql t x y (.string a) (.string b);Q .eql c (.string a) (.string b):Sem F).run P w= .ok (.bool (a.toList==b.toList)) w:=by
 have:=Y1 (P:=P) .eql t x y (.string a) (.string b) rfl o6 w;simp only[Sem.run_bind,this,Zc];simp[Q,Op.stringOp]
theorem V1 (t c:Z)(x y:f)(a b:L)(w:R):(do e .neq t x y (.string a) (.string b);Q .neq c (.string a) (.string b):Sem F).run P w= .ok (.bool (!(a.toList==b.toList))) w:=by
 have:=Y1 (P:=P) .neq t x y (.string a) (.string b) rfl o6 w;simp only[Sem.run_bind,this,Zc];simp[Q,Op.stringOp]
theorem QEf (m:C)(l:B T):(QB m==l)=decide (QB m=l):=by rw[Zr];simp
theorem QNd (m n:C):(QB m==QB n)=decide (m=n):=by
 rw[Zr];simp;exact⟨VS,fun e=>by rw[e]⟩
variable{K:AV->Prop}
theorem QKW{t t':Z}{x y:f}{z E:AV}{vx vy:F}(j:ConcV w O ρ z vx)(k:ConcV w O ρ E vy)(h:bf op z E K):
  ∃v av,(do e op t x y vx vy;Q op t' vx vy:Sem F).run P w= .ok v w/\ConcV w O ρ av v/\K av:=by
 unfold bf at h;split at h
 ·obtain⟨v,p,V,u⟩:=QKV (P:=P) h;obtain⟨rfl,ox⟩:=ConcX.one j;obtain⟨rfl,oy⟩:=ConcX.one k;refine⟨v,_,?_,Qg V,p⟩;by_cases I:vx= .nilIface
  ·subst I;simp[fA,BR.run]at h
  ·simp[Y1 op t x y vx vy ox I,u]
 ·obtain⟨rfl,_⟩:=Wo j;obtain⟨rfl,_⟩:=ConcX.one k;split at h
  ·exact⟨_,_,V0 _ _ _ _ _ _ w,Qg rfl,by rw[JT,QEf,Zg];exact h⟩
  ·exact⟨_,_,V1 _ _ _ _ _ _ w,Qg rfl,by rw[JT,QEf,Zg];exact h⟩
  ·exact h.elim
 ·obtain⟨rfl,_⟩:=ConcX.one j;obtain⟨rfl,_⟩:=Wo k;have b: ∀(l:B T) (m:C),(l==QB m)=decide (l=QB m):=fun l m=>by rw[Zr];simp
  split at h
  ·exact⟨_,_,V0 _ _ _ _ _ _ w,Qg rfl,by rw[Zg,Zg,b];exact h⟩
  ·exact⟨_,_,V1 _ _ _ _ _ _ w,Qg rfl,by rw[Zg,Zg,b];exact h⟩
  ·exact h.elim
 ·rename_i m S n U;obtain⟨rfl,J⟩:=Wo j;obtain⟨rfl,R⟩:=Wo k;split at h
  ·obtain⟨⟨c,hb⟩,p⟩:=h;have k1:=Xe J;have k2:=Xe R;have W:QB m++QB n=QB (m+n):=by
    rcases c with c | c<;>subst c<;>simp[XA]
   have s:m+n<2^(S+U):=by
    rcases c with c | c<;>subst c
    ·simpa using Zn R (Zv o3 o3)
    ·simpa using Zn J (Zv o3 o3)
   refine⟨Ja (QB (m+n)),_,?_,YI (.b s .nil),p⟩;have u:=Y1 (P:=P) .add t x y (Ja (QB m)) (Ja (QB n)) rfl (by simp[Ja]) w;have X: ∀l:B T,(⟨l.toArray⟩:L).size=q l:=fun l=>by show l.toArray.size=_;simp
   have g:(⟨(QB m).toArray⟩:L)++⟨(QB n).toArray⟩=⟨(QB (m+n)).toArray⟩:=by
    rw[<-W];apply L.ext;simp
   have r:((QB m).length:Y)+(QB n).length<=9223372036854775807:=o3
   simp only[Sem.run_bind,u,Zc];simp[Q,Ja,Op.stringOp,X,g,r]
  ·exact⟨_,_,V0 _ _ _ _ _ _ w,Qg rfl,by rw[JT,JT,QNd];exact h⟩
  ·exact⟨_,_,V1 _ _ _ _ _ _ w,Qg rfl,by rw[JT,JT,QNd];exact h⟩
  ·exact h.elim
 ·exact h.elim
def unA (op:UnOp)(x:AV)(K:AV->Prop):Prop:=
 match op,x with
 | .not,.x D [.v (.bool b)]=>K (JS (.bool (!b)))
 | .neg,.x D [.v (.int k n)]=>K (JS (.int k (k.wrap (0-n))))
 | _,_=>I
theorem QPf {op:UnOp}{b:AV}{vx:F}(c:ConcV w O ρ b vx)(h:unA op b K):
  ∃v av,(Op.unary op vx).run P w= .ok v w/\ConcV w O ρ av v/\K av:=by
 unfold unA at h;split at h
 ·obtain⟨rfl,_⟩:=ConcX.one c;exact⟨_,_,rfl,Qg rfl,h⟩
 ·obtain⟨rfl,_⟩:=ConcX.one c;exact⟨_,_,rfl,Qg rfl,h⟩
 ·exact h.elim
def WR (i:TyI)(a:AV)(f:C)(tb:TB)(K:AV->Prop):Prop:=
 match i.zd with
 | .struct c=>match c[f]? with
  | some fd=>match tb fd.type with
   | some b=>bif b.cells.beq 0 then I else match a with
    | .x D [.p k o]=>K (.x D [.p k (o+fd.offset)])
    | .x D [.e k j o]=>K (.x D [.e k j (o+fd.offset)])
    | .x D [.y s x j o]=>K (.x D [.y s x j (o+fd.offset)])
    | _=>I
   | none=>I
  | none=>I
 | _=>I
variable{a:AV}{t:C}{tb:TB}{i:TyI}{va:F}
theorem Gr(B:Wf P tb)(L:JK P t i)(l:ConcV w O ρ a va){f:C}(h:WR i a f tb K):
  ∃v av,(Instr.fieldAt t va f).run P w= .ok v w/\ConcV w O ρ av v/\K av:=by
 unfold WR at h;split at h
 ·rename_i I s;split at h
  ·rename_i fd m;split at h
   ·rename_i F q;cases k:F.cells.beq 0 with
    | true=>rw[k]at h;exact h.elim
    | false=>
     rw[k]at h;simp only[R8]at h;have z:F.cells≠0:=fun e=>by rw[e]at k;cases k
     have Q:P.underlying t=A (.struct I):=by rw[L.zd,s]
     have r: ∀{b o:C},va= .pointer (A ⟨b,o,G⟩)->(Instr.fieldAt t va f).run P w= .ok (.pointer (A ⟨b,o+fd.offset,G⟩)) w:=by
      intro b o e;subst e;simp[Instr.fieldAt,E Q,m,Instr.sureAddr,fieldPlace,XU (B _ _ q),z,Jj]
     split at h
     ·obtain⟨j,c,g⟩:=l;simp at g;subst g;cases c with
      | p u x _=>exact⟨_,_,r rfl,QiV u x,h⟩
     ·obtain⟨j,c,g⟩:=l;simp at g;subst g;cases c with
      | e u x _=>exact⟨_,_,r rfl,re u x o3,h⟩
     ·obtain⟨j,c,g⟩:=l;simp at g;subst g;cases c with
      | y J R _=>exact⟨_,_,r rfl,QiW J R o3,h⟩
     ·exact h.elim
   ·exact h.elim
  ·exact h.elim
 ·exact h.elim
def Gs (i:TyI)(a:AV)(f:C)(tb:TB)(K:AV->Prop):Prop:=
  match i.zd with
  | .struct e=>match e[f]? with
    | some fd=>match tb fd.type with
      | some b=>match a with
        | .x N c=>orF (ldS c fd.offset b.cells b.agg) K
        | _=>I
      | none=>I
    | none=>I
  | _=>I

theorem kH(h:JK P t i){cs:B F}{off:C}{us:B F}(f:us=(cs.drop off).take i.cells)(j:us.length=i.cells)(w:R):
  ∃v,(part t cs.toArray off).run P w= .ok v w/\(if i.agg then v= .agg us.toArray else us=[v]):=by
 cases b:i.agg with
 | true=>
  refine⟨.agg us.toArray,?_,o6⟩;simp[part,Uj h,b,XU h];rw[f]
 | false=>
  have g:=h.one b;match us,(by omega:us.length=1)with
  | [v],_=>
   refine⟨v,?_,o6⟩;have:cs[off]? =A v:=by
    have e:[v][0]? =((cs.drop off).take i.cells)[0]? :=by rw[f]
    rw[Zd,c o3,Ze]at e;simpa using e.symm
   simp[part,Uj h,b,this]
theorem QFu(k:Wf P tb)(y:JK P t i)(u:ConcV w O ρ a va){f:C}(h:Gs i a f tb K):
  ∃v av,(Instr.field t va f).run P w= .ok v w/\ConcV w O ρ av v/\K av:=by
 unfold Gs at h;split at h
 ·rename_i m j;split at h
  ·rename_i fd e;split at h
   ·rename_i I g;split at h
    ·obtain⟨l,c,b⟩:=u;simp at b;subst b;obtain⟨F,B,p,q,r,s⟩:=KF c h;have z:P.underlying t=A (.struct m):=by rw[y.zd,j]
     obtain⟨v,x,b⟩:=kH (P:=P) (k _ _ g) r s w;exact⟨v,.x _ _,by simp[Instr.field,E z,e,asAgg,x],⟨B,q,b⟩,p⟩
    ·exact h.elim
   ·exact h.elim
  ·exact h.elim
 ·exact h.elim
def WS (i:TyI)(a c:AV)(H:HP)(tb:TB)(K:AV->Prop):Prop:=
  match i.zd,c with
  | .slice e,.x D [.v (.int _ j)]=>match tb e with
    | some b=>match a with
      | .x D [.s s x]=>bif s.beq b.cells then(0<=j/\j<(q x:Y))/\K (.x D [.y s x j.toNat 0])else I
      | .x D [.w k o n]=>match H k with
        | some (.row _ s _)=>bif s.beq b.cells then(0<=j/\j<(n:Y))/\K (.x D [.e k (o+j.toNat) 0])else I
        | _=>I
      | _=>I
    | none=>I
  | .array n e,.x D [.v (.int _ j)]=>match tb e with
    | some b=>match a with
      | .x D [.p k 0]=>match H k with
        | some (.row _ s _)=>bif s.beq b.cells then(0<=j/\j<(n:Y))/\K (.x D [.e k j.toNat 0])else I
        | _=>I
      | _=>I
    | none=>I
  | _,_=>I

theorem Kd{e:C}{c:TyI}(f:P.underlying t=A (.slice e))(h:JK P e c){k:IntKind}{j:Y}{b cap:C}(h0:0<=j)(h1:j<n)(w:R):
  (Instr.indexAt t (.slice (A ⟨b,o,G⟩) n cap) (.int k j)).run P w= .ok (.pointer (A ⟨b,o+j.toNat*c.cells,G⟩)) w:=by
 simp[Instr.indexAt,r,E f,h0,h1,XU h,Jj]
theorem Gt(C:Wf P tb)(X:JK P t i)(W:HS w0 M ρ H w){Y:AV}{Z:F}(S:ConcV w (ow M ρ H) ρ a va)(V:ConcV w (ow M ρ H) ρ Y Z)(h:WS i a Y H tb K):
  ∃v av,(Instr.indexAt t va Z).run P w= .ok v w/\ConcV w (ow M ρ H) ρ av v/\K av:=by
 unfold WS at h;split at h
 ·rename_i e kk j U;obtain⟨rfl,_⟩:=ConcX.one V;have b:P.underlying t=A (.slice e):=by rw[X.zd,U]
  split at h
  ·rename_i R x;split at h
   ·rename_i Q xs;cases m:Q.beq R.cells with
    | false=>rw[m]at h;exact h.elim
    | true=>
     rw[m]at h;obtain⟨⟨I,u⟩,J⟩:=h;have l:=Za m;obtain⟨z,f,y⟩:=S;simp at y;subst y;cases f with
     | s0 _=>simp at u;omega
     | s00 _=>simp at u;omega
     | s hr hx _ _=>
      exact⟨_,_,Kd b (C _ _ x) I u w,QiW hr hx (by rw[<-l];omega),J⟩
   ·rename_i k o n;split at h
    ·rename_i tt Q xs J;cases m:Q.beq R.cells with
     | false=>rw[m]at h;exact h.elim
     | true=>
      rw[m]at h;obtain⟨⟨I,u⟩,B⟩:=h;have l:=Za m;obtain⟨z,f,y⟩:=S;simp at y;subst y;obtain⟨bd,q,L,c,ok⟩:=W.zc k _ J rfl;cases f with
      | w g T hl _ _ _=>
       rw[q]at g;cases g
       exact⟨_,_,Kd b (C _ _ x) I u w,re q T (by rw[<-l,<-c,Zm];omega),B⟩
      | w0 _ _ _=>simp at u;omega
      | w00 _ _=>simp at u;omega
    ·exact h.elim
   ·exact h.elim
  ·exact h.elim
 ·rename_i n e kk j U;obtain⟨rfl,_⟩:=ConcX.one V;have b:P.underlying t=A (.array n e):=by rw[X.zd,U]
  split at h
  ·rename_i R x;split at h
   ·rename_i k;split at h
    ·rename_i tt Q xs J;cases m:Q.beq R.cells with
     | false=>rw[m]at h;exact h.elim
     | true=>
      rw[m]at h;obtain⟨⟨I,u⟩,B⟩:=h;have l:=Za m;obtain⟨z,f,y⟩:=S;simp at y;subst y;obtain⟨bd,q,L,c,ok⟩:=W.zc k _ J rfl;cases f with
      | p g T _=>
       rw[q]at g;cases g
       refine⟨_,_,?_,re (i:=j.toNat) (o:=0) q T rfl,B⟩;simp[Instr.indexAt,r,E b,Instr.sureAddr,I,u,XU (C _ _ x),Jj,c,l]
    ·exact h.elim
   ·exact h.elim
  ·exact h.elim
 ·exact h.elim
def Gu (i:TyI)(a c:AV)(K:AV->Prop):Prop:=
  match i.zd,a,c with
  | .string,.x D [.v (.string s)],.x D [.v (.int _ j)]=> ∃b,(0<=j/\s.data.toList[j.toNat]? =A b)/\K (JS (.int .u8 b.toNat))
  | .string,.x D [.b m _],.x D [.v (.int _ j)]=> ∃b,(0<=j/\(QB m)[j.toNat]? =A b)/\K (JS (.int .u8 b.toNat))
  | _,_,_=>I

theorem QFv(z:JK P t i){B:AV}{C:F}(x:ConcV w O ρ a va)(y:ConcV w O ρ B C)(h:Gu i a B K):
  ∃v av,(Instr.index t va C).run P w= .ok v w/\ConcV w O ρ av v/\K av:=by
 unfold Gu at h;split at h
 ·rename_i s I j u;obtain⟨rfl,_⟩:=ConcX.one x;obtain⟨rfl,_⟩:=ConcX.one y;obtain⟨b,⟨k,g⟩,p⟩:=h;have e:P.underlying t=A .string:=by rw[z.zd,u]
  refine⟨_,_,?_,Qg rfl,p⟩;have l:s[j.toNat]? =A b:=by
   have f:j.toNat<q s.data.toList:=(Zb.1 g).1;have c:j.toNat<s.size:=(j9 f)
   rw[getElem?_pos s j.toNat c];have:=(Zb.1 g).2;simp at this;simp[<-this];rfl
  simp[Instr.index,r,E e,k,l]
 ·rename_i m n I j u;obtain⟨rfl,_⟩:=Wo x;obtain⟨rfl,_⟩:=ConcX.one y;obtain⟨b,⟨k,g⟩,p⟩:=h;have e:P.underlying t=A .string:=by rw[z.zd,u]
  refine⟨_,_,?_,Qg rfl,p⟩;have l:(⟨(QB m).toArray⟩:L)[j.toNat]? =A b:=by
   have f:j.toNat<(QB m).length:=(Zb.1 g).1;have c:j.toNat<(⟨(QB m).toArray⟩:L).size:=by show _<(QB m).toArray.size;simpa using f
   rw[getElem?_pos _ j.toNat c];have:=(Zb.1 g).2;show A ((QB m).toArray[j.toNat])=A b
   simp[this]
  simp[Instr.index,r,E e,k,l,Ja]
 ·exact h.elim
end Go.Eng
namespace Go.Eng
open Go
variable {P:U}{w0:R}{M:Ctx}{ρ:Env}{H:HP}{w:R}
theorem QPg (vs:B F): ∀(k off:C) (b:S F),off+k+q vs<=b.size->
  ((vs.zipIdx k).foldl (fun cs (x:F×C)=>cs.setIfInBounds (off+x.2) x.1) b)=(b.toList.take (off+k)++vs++b.toList.drop (off+k+q vs)).toArray:=by
 induction vs with
 | nil=>intro k off b _;simp
 | cons v vs r=>
  intro k off b h;simp only[Yd]at h;simp only[B.zipIdx_cons,B.foldl_cons];rw[r (k+1) off _ o9];apply congrArg;apply Zo;intro m;simp only[S.toList_setIfInBounds];have g:(B.take (off+k) b.toList).length=off+k:=o9
  have f:(B.take (off+(k+1)) (b.toList.set (off+k) v)).length=off+(k+1):=o9
  rw[B.append_assoc,B.append_assoc];by_cases l:m<off+k
  ·rw[Zh o3,Zh o3];rw[Zd,c o3,Zd,c l,B.getElem?_set_ne o3]
  ·rw[Zk (by omega:(B.take (off+k) b.toList).length<=m),g];by_cases p:m=off+k
   ·subst p;rw[Zh o3,Zd,c o3];simp;have:off+k<b.size:=o3
    simp[this]
   ·rw[Zk o3,f];have e:m-(off+k)=(m-(off+(k+1)))+1:=o3
    rw[e];simp only[B.cons_append,B.getElem?_cons_succ];by_cases j:m-(off+(k+1))<vs.length
    ·rw[Zh j,Zh j]
    ·rw[Zk o3,Zk o3,Ze,Ze,B.getElem?_set_ne o3];congr 1;simp only[Yd];omega
def aQ (p:C->J (C×C))(cs:B Ch):B (C×AV)->J (B Ch)
  | []=>A cs
  | (i,a)::r=>
    match p i,a with
    | some (b,n),.x _ e=>bif(Qj e).beq n then(match Vj cs b e with
      | some c=>aQ p c r
      | none=>G)else G
    | _,_=>G

theorem QID {O:C->Prop}{p:C->J (C×C)}: ∀{parts:B (C×AV)} {vparts:B (C×F)} {cs s:B Ch} {b:B F},CC w O ρ cs b->
  parts.length=q vparts->(∀(j:C) (i:C) (a:AV) (l:C) (v:F),parts[j]? =A (i,a)->vparts[j]? =A (l,v)->i=l/\ConcV w O ρ a v)->aQ p cs parts=A s->
  ∃us:B F,Instr.fill p b.toArray vparts=A us.toArray/\CC w O ρ s us:=by
 intro parts;induction parts with
 | nil=>
  intro vparts cs s b u m _ h;have:vparts=[]:=Zy ((j9 m.symm));subst this;simp[aQ]at h;subst h;exact⟨b,rfl,u⟩
 | cons pa parts ih=>
  intro vparts cs s b u m V h;obtain⟨i,a⟩:=pa;match vparts,m with
  | (l,v)::vparts,m=>
   obtain⟨rfl,I⟩:=V 0 i a l v rfl rfl;simp only[aQ]at h;split at h
   ·rename_i e n ag Y R _;cases y:(Qj Y).beq n with
    | false=>rw[y]at h;cases h
    | true=>
     rw[y]at h;simp only[R7]at h;split at h
     ·rename_i W g;obtain⟨us,f,c,_⟩:=ConcX.cells I;have Q:=Za y;have k:=pY g;rw[<-f.length,<-u.length]at k;have z:=Gq g u f;obtain⟨r,hr,E⟩:=ih (vparts:=vparts) z ((j9 m)) (fun j i a l v Z h2=>V (j+1) i a l v ((j9 Z)) ((j9 h2))) h;refine⟨r,?_,E⟩;have At:v.cells.size=n:=by rw[c];simp[f.length,Q]
      have T:=QPg us 0 e b.toArray ((j9 k));simp only[C.add_zero]at T;have U: ¬(v.cells.size≠n\/b.toArray.size<e+v.cells.size):=by
       rw[c];simp only[Zs];rw[f.length,Q];rw[f.length,Q]at k;omega
      simp only[Instr.fill,R];have L:(decide (v.cells.size≠n) || decide (e+v.cells.size>b.toArray.size))=D:=by
       simp only[X.or_eq_false_iff,decide_eq_false_iff_not];constructor
       ·intro h;exact U (.inl h)
       ·intro h;exact U (.inr h)
      rw[L];simp only[X.false_eq_true,if_false];have:(v.cells.zipIdx.foldl (fun cs (x:F×C)=>cs.setIfInBounds (e+x.2) x.1) b.toArray)=(b.take e++us++b.drop (e+q us)).toArray:=by
       rw[<-S.foldl_toList];have:v.cells.zipIdx.toList=us.zipIdx:=by rw[c];simp
       rw[this];exact T
      exact(congrArg (Instr.fill p · vparts) this).trans hr
     ·cases h
   ·cases h
def QY3 (tb:TB)(b:S Field):J (B (C×C)):=
 b.toList.mapM fun f=>(tb f.type).map fun i=>(f.offset,i.cells)
def Gv (i:TyI)(parts:B (C×AV))(tb:TB)(K:AV->Prop):Prop:=
  match i.zd with
  | .struct f=>match QY3 tb f with
    | some p=>orH (aQ (fun j=>p[j]?) (i.zero.map Ch.v) parts) fun c=>K (.x N c)
    | none=>I
  | _=>I

theorem QKX {tb:TB}(g:Wf P tb): ∀{b:B Field} {pl:B (C×C)},(b.mapM fun f=>(tb f.type).map fun i=>(f.offset,i.cells))=A pl-> ∀w,(b.mapM fun f=>do pure (f.offset,<-sizeOf f.type):Sem (B (C×C))).run P w= .ok pl w:=by
 intro b;induction b with
 | nil=>intro pl h w;simp at h;subst h;rfl
 | cons f b j=>
  intro pl h w;simp only[B.mapM_cons]at h;cases c:tb f.type with
  | none=>rw[c]at h;simp at h
  | some i=>
   rw[c]at h;cases e:(b.mapM fun f=>(tb f.type).map fun i=>(f.offset,i.cells))with
   | none=>rw[e]at h;simp at h
   | some p=>
    rw[e]at h;simp at h;subst h;have:=j e w;simp only[B.mapM_cons,Sem.run_bind,XU (g _ _ c),Zc,Sem.run_pure,this]
theorem QFw {tb:TB}(q:Wf P tb){t:C}{i:TyI}(p:JK P t i){O:C->Prop}{parts:B (C×AV)}{vparts:S (C×F)}(L:parts.length=vparts.size)
  (Q: ∀(j:C) (i:C) (a:AV) (u:C) (v:F),parts[j]? =A (i,a)->vparts.toList[j]? =A (u,v)->i=u/\ConcV w O ρ a v) {K:AV->Prop} (h:Gv i parts tb K):
  ∃v av,(Instr.build t vparts).run P w= .ok v w/\ConcV w O ρ av v/\K av:=by
 unfold Gv at h;split at h
 ·rename_i g k;split at h
  ·rename_i s l;unfold orH at h;split at h
   ·rename_i y b;have R:P.underlying t=A (.struct g):=by rw[p.zd,k]
    obtain⟨z,T,r⟩:=Kv p w;obtain⟨x,I,J⟩:=QID (w:=w) (O:=O) (ρ:=ρ) (CC.vals p.zone) (vparts:=vparts.toList) ((j9 L)) Q b;have m:=QKX q l w;have c:(g.mapM fun f=>do pure (f.offset,<-sizeOf f.type):Sem (S (C×C))).run P w= .ok s.toArray w:=by
     rw[<-S.toArray_toList (xs:=g)] ;rw[B.mapM_toArray];simp only[Sem.run_map,m,Zc]
    refine⟨.agg x.toArray,.x N y,?_,⟨x,J,o6⟩,h⟩;simp only[Instr.build,Sem.run_bind,T,Zc,E R];simp only[c,Zc,r];have e:(fun(j:C)=>s.toArray[j]?)=fun(j:C)=>s[j]? :=by funext j;simp
    rw[e,I];rfl
   ·exact h.elim
  ·exact h.elim
 ·exact h.elim
end Go.Eng
namespace Go.Eng
open Go
inductive Lf where
  | int (k:IntKind)
  | bool
  | str
  deriving DecidableEq

def Jy:F->J Lf
 | .int k _=>A (.int k)
 | .bool _=>A .bool
 | .string _=>A .str
 | _=>G
def V2 (r:TyI->J (B Lf))(tb:TB):C->B Field->J (B Lf)
 | _,[]=>A []
 | o,f::e=>match tb f.type with
  | some c=>bif f.offset.beq o then(match r c,V2 r tb (o+c.cells) e with
   | some a,A b=>bif a.length.beq c.cells then A (a++b)else G
   | _,_=>G)else G
  | none=>G
def Uk (tb:TB):C->TyI->J (B Lf)
  | 0,_=>G
  | d+1,i=>match i.zd with
    | .int k=>A [.int k]
    | .bool=>A [.bool]
    | .string=>A [.str]
    | .struct f=>bif i.eq then V2 (Uk tb d) tb 0 f.toList else G
    | _=>G

def Gw:F->F->X
 | .int _ a,.int _ b=>a==b
 | .bool a,.bool b=>a==b
 | .string a,.string b=>a.toList==b.toList
 | _,_=>D
def KG:B F->B F->X
 | x::b,y::c=>Gw x y&&KG b c
 | _,_=>N
theorem QIE: ∀{a b c d:B F},q a=q b->KG (a++c) (b++d)=(KG a b&&KG c d):=by
 intro a;induction a with
 | nil=>intro b c d h;cases b with
  | nil=>simp[KG]
  | cons=>cases h
 | cons x a e=>
  intro b c d h;cases b with
  | nil=>cases h
  | cons y b=>simp only[B.cons_append,KG,e ((j9 h)),X.and_assoc]
variable {P:U}{w:R}
variable{d n:C}{tb:TB}
theorem QB7 (L : Wf P tb) (ih : ∀ (i : TyI) (t : C) (l : B Lf), JK P t i → Uk tb d i = A l → ∀ (x y : F) (us vs : B F), (if i.agg then x = .agg us.toArray else us = [x]) → (if i.agg then y = .agg vs.toArray else vs = [y]) →
      us.map Jy=l.map A->vs.map Jy=l.map A->(Op.equalIn (n+d) t x y).run P w= .ok (KG us vs) w) (us vs:B F):
    ∀(m:B Field) (o:C) (l:B Lf),(∀f∈m,f.name≠ "_")->V2 (Uk tb d) tb o m=A l->(us.drop o).map Jy=l.map A->(vs.drop o).map Jy=l.map A->
      (Op.eqFields (n+d) us.toArray vs.toArray m).run P w= .ok (KG (us.drop o) (vs.drop o)) w:=by
  intro m;induction m with
  | nil=>
    intro o l _ h Q V;simp only[V2,J.some.injEq]at h;subst h;have r:us.drop o=[]:=(j9 Q)
    rw[r];simp[Op.eqFields,KG]
  | cons f m T=>
    intro o l p h Q V;simp only[V2]at h;split at h
    · rename_i e E;cases s:f.offset.beq o with
      | false=>rw[s]at h;cases h
      | true=>
        rw[s]at h;have ho:=Za s;simp only[R7]at h;split at h
        · rename_i a b ha u;cases I:a.length.beq e.cells with
          | false=>rw[I]at h;cases h
          | true=>
            rw[I]at h;have U:=Za I;simp only[R7,J.some.injEq]at h;subst h;have split: ∀{us:B F},(us.drop o).map Jy=(a++b).map A->((us.drop o).take e.cells).map Jy=a.map A/\(us.drop (o+e.cells)).map Jy=b.map A/\((us.drop o).take e.cells).length=e.cells:=by
              intro us h;have At:(us.drop o).length=q a+q b:=by
                have:=congrArg B.length h;simpa using this
              refine⟨?_,?_,?_⟩
              · rw[B.map_take,h,B.map_append,B.take_append_of_le_length o9,B.take_of_length_le o9]
              · rw[<-Ye,B.map_drop,h,B.map_append,B.drop_append_of_le_length o9,B.drop_of_length_le o9,B.nil_append]
              · rw[B.length_take];omega
            obtain⟨u1,u2,W⟩:=split Q;obtain⟨v1,v2,X⟩:=split V;have j:=L _ _ E;obtain⟨x,hx,R⟩:=kH (P:=P) j (cs:=us) (off:=o) rfl W w;obtain⟨y,hy,S⟩:=kH (P:=P) j (cs:=vs) (off:=o) rfl X w;have z:=ih e f.type a j ha x y _ _ R S u1 v1;have k:=T (o+e.cells) b (fun g hg=>p g (by simp[hg])) u u2 v2;have r:us.drop o=(us.drop o).take e.cells++us.drop (o+e.cells):=by rw[<-Ye,B.take_append_drop]
            have Y:vs.drop o=(vs.drop o).take e.cells++vs.drop (o+e.cells):=by rw[<-Ye,B.take_append_drop]
            have Z:KG (us.drop o) (vs.drop o)=(KG ((us.drop o).take e.cells) ((vs.drop o).take e.cells)&&KG (us.drop (o+e.cells)) (vs.drop (o+e.cells))):=by
              conv=>lhs;rw[r,Y]
              exact QIE (by rw[W,X])
            rw[Z];simp only[Op.eqFields,c (p f o6),ho,Sem.run_bind,hx,hy,Zc,z];cases hq:KG ((us.drop o).take e.cells) ((vs.drop o).take e.cells)with
            | false=>simp
            | true=>simpa using k
        · cases h
    · cases h

theorem QEN (s : Wf P tb) (n : C) : ∀ (d : C) (i : TyI) (t : C) (m : B Lf), JK P t i → Uk tb d i = A m → ∀ (x y : F) (us vs : B F), (if i.agg then x = .agg us.toArray else us = [x]) → (if i.agg then y = .agg vs.toArray else vs = [y]) →
      us.map Jy=m.map A->vs.map Jy=m.map A->(Op.equalIn (n+d) t x y).run P w= .ok (KG us vs) w:=by
  intro d;induction d with
  | zero=>intro i t m _ h;cases h
  | succ d T=>
    intro i t m p h x y us vs j l f g;simp only[Uk]at h;have c:=p.agg;split at h
    · rename_i k e;cases h
      rw[e]at c;simp only at c;simp[c]at j l;subst j l;simp at f g;have b:P.underlying t=A (.int k):=by rw[p.zd,e]
      cases x<;>simp[Jy]at f
      cases y<;>simp[Jy]at g
      subst f g;rw[<-Yb,run_equalIn_int w (n+d) t _ _ _ _ b];simp[KG,Gw]
    · rename_i e;cases h
      rw[e]at c;simp only at c;simp[c]at j l;subst j l;simp at f g;have b:P.underlying t=A .bool:=by rw[p.zd,e]
      cases x<;>simp[Jy]at f
      cases y<;>simp[Jy]at g
      rw[<-Yb,run_equalIn_bool' w (n+d) t _ _ b];simp[KG,Gw]
    · rename_i e;cases h
      rw[e]at c;simp only at c;simp[c]at j l;subst j l;simp at f g;have b:P.underlying t=A .string:=by rw[p.zd,e]
      cases x<;>simp[Jy]at f
      cases y<;>simp[Jy]at g
      rw[<-Yb,run_equalIn_string w (n+d) t _ _ b];simp[KG,Gw]
    · rename_i q e;cases r:i.eq with
      | false=>rw[r]at h;cases h
      | true=>
        rw[r]at h;simp only[R7]at h;rw[e]at c;simp only at c;simp[c]at j l;subst j l;obtain⟨z,U,E⟩:=p.eqok r;have b:P.underlying t=A (.struct q):=by rw[p.zd,e]
        have u:P.fieldsOf t=q:=by simp[Program.fieldsOf,b]
        rw[<-Yb,run_equalIn_struct w (n+d) t _ _ (by rw[u];exact b) z,u];have:=QB7 s (n:=n) (d:=d) (fun i t m I J x y us vs L Q R S=>T i t m I J x y us vs L Q R S) us vs q.toList 0 m (E q e) h ((j9 f)) ((j9 g));simpa using this
    · cases h

def ZS:B Ch->J (B Lf)
 | []=>A []
 | c::e=>match ZS e with
  | none=>G
  | some b=>match c with
   | .v x=>match Jy x with
    | some l=>A (l::b)
    | none=>G
   | .r _ _=>A (.bool:: .str:: .str::b)
   | .b _ _=>A (.str::b)
   | _=>G
def eqC:B Ch->B Ch->J X
 | [],[]=>A N
 | .v (.int _ a)::c,.v (.int _ b)::e=>(eqC c e).map fun r=>(a==b)&&r
 | .v (.bool a)::c,.v (.bool b)::e=>(eqC c e).map fun r=>(a==b)&&r
 | .v (.string a)::c,.v (.string b)::e=>(eqC c e).map fun r=>(a.toList==b.toList)&&r
 | .r q _::c,.r p _::e=>(eqC c e).map fun r=>decide (q=p)&&r
 | .b m _::c,.b n _::e=>(eqC c e).map fun r=>decide (m=n)&&r
 | _,_=>G
variable{ρ:Env}{O:C->Prop}
theorem wE: ∀{cs:B Ch} {us:B F} {f:B Lf},CC w O ρ cs us->ZS cs=A f->us.map Jy=f.map A:=by
 intro cs;induction cs with
 | nil=>intro us f e h;cases h;cases e;rfl
 | cons c cs j=>
  intro us f e h;unfold ZS at h;split at h
  ·cases h
  ·rename_i p g;cases c with
   | v x=>
    simp only at h;split at h
    ·rename_i l k;cases h
     cases e with
     | v _ e=>simp[k,j e g]
    ·cases h
   | r q n=>
    cases h
    cases e with
    | r _ e=>simp[Jy,TP,numV,Tm,Ja,j e g]
   | b m n=>
    cases h
    cases e with
    | b _ e=>simp[Jy,Ja,j e g]
   | _=>cases h
theorem QFx (l:B T):(⟨l.toArray⟩:L).toList=l:=by rw[Zg]
theorem QIF (m n:C):Gw (Ja (QB m)) (Ja (QB n))=decide (m=n):=by
 simp only[Gw,Ja,QFx];rw[Zr];simp only[beq_iff_eq,j];exact⟨VS,fun e=>by rw[e]⟩
theorem QPh: ∀{cs g:B Ch} {r:X},eqC cs g=A r-> ∀{O:C->Prop} {ρ:Env} {us vs:B F},CC w O ρ cs us->CC w O ρ g vs->KG us vs=r:=by
 intro cs g;fun_induction eqC cs g with
 | case1=>intro r h O ρ us vs c f;cases h;cases c;cases f;rfl
 | case2 k a cs z b g s=>
  intro r h O ρ us vs c f;simp only[Zf]at h;obtain⟨u,l,rfl⟩:=h;cases c with
  | v _ c=>cases f with
   | v _ f=>simp only[KG,Gw,s l c f]
 | case3 a cs b g s=>
  intro r h O ρ us vs c f;simp only[Zf]at h;obtain⟨u,l,rfl⟩:=h;cases c with
  | v _ c=>cases f with
   | v _ f=>simp only[KG,Gw,s l c f]
 | case4 a cs b g s=>
  intro r h O ρ us vs c f;simp only[Zf]at h;obtain⟨u,l,rfl⟩:=h;cases c with
  | v _ c=>cases f with
   | v _ f=>simp only[KG,Gw,s l c f]
 | case5 q n cs p m g s=>
  intro r h O ρ us vs c f;simp only[Zf]at h;obtain⟨u,l,rfl⟩:=h;cases c with
  | r _ c=>cases f with
   | r _ f=>
    have e:(Gw (TP q) (TP p)&&(Gw (numV q) (numV p)&&Gw (Tm q) (Tm p)))=decide (q=p):=by
     simp only[numV,Tm,QIF];simp only[TP,Gw];rw[Zr];simp only[Zi,beq_iff_eq,j];constructor
     ·rintro⟨c,f,y⟩;have c:(q.num<0)↔(p.num<0):=(j9 c)
      refine Rat.ext ?_ y
      by_cases h:q.num<0
      ·have:=c.1 h;omega
      ·have: ¬p.num<0:=fun x=>h (c.2 x);omega
     ·rintro rfl;simp
    simp only[KG,s l c f];rw[<-e];simp only[X.and_assoc]
 | case6 m k cs n z g s=>
  intro r h O ρ us vs c f;simp only[Zf]at h;obtain⟨u,l,rfl⟩:=h;cases c with
  | b _ c=>cases f with
   | b _ f=>simp only[KG,QIF,s l c f]
 | case7=>intro r h;cases h
def eqA (tb:TB)(t:C)(op:z)(cs b:B Ch)(K:AV->Prop):Prop:=
  match tb t with
  | none=>I
  | some i=>bif i.eq&&i.agg then(match Uk tb 16 i with
    | none=>I
    | some l=>bif decide (ZS cs=A l)&&decide (ZS b=A l)then(match eqC cs b with
      | none=>I
      | some r=>match op with
        | .eql=>K (.x D [.v (.bool r)])
        | .neq=>K (.x D [.v (.bool !r)])
        | _=>I)else I)else I

variable{t:C}{vx vy:F}
theorem QPi(k:Wf P tb){op:z}{cs l:B Ch}{x y:f}(T:ConcV w O ρ (.x N cs) vx)(U:ConcV w O ρ (.x N l) vy){K:AV->Prop}(h:eqA tb t op cs l K):
  ∃v av,(do e op t x y vx vy;Q op t vx vy:Sem F).run P w= .ok v w/\ConcV w O ρ av v/\K av:=by
 obtain⟨u,s,E⟩:=T;obtain⟨q,C,I⟩:=U;simp at E I;subst E I;unfold eqA at h;split at h
 ·exact h.elim
 ·rename_i i R;have L:=k _ _ R;cases c:i.eq&&i.agg with
  | false=>rw[c]at h;exact h.elim
  | true=>
   rw[c]at h;simp only[R7]at h;simp only[Zi]at c;split at h
   ·exact h.elim
   ·rename_i p m;cases g:decide (ZS cs=A p)&&decide (ZS l=A p)with
    | false=>rw[g]at h;exact h.elim
    | true=>
     rw[g]at h;simp only[Zi,j]at g;simp only[R7]at h;split at h
     ·exact h.elim
     ·rename_i r S;have b:=QEN (w:=w) k 9984 16 i t p L m (.agg u.toArray) (.agg q.toArray) u q (by simp[c.2]) (by simp[c.2]) (wE s g.1) (wE C g.2);rw[QPh S s C]at b;have J:=run_eqGuard_agg (P:=P) w op t x y u.toArray q.toArray (L.eqok c.1).2.1;split at h
      ·refine⟨.bool r,_,?_,Qg rfl,h⟩;simp only[Sem.run_bind,J,Zc];rw[run_eql_struct,b];rfl
      ·refine⟨.bool !r,_,?_,Qg rfl,h⟩;simp only[Sem.run_bind,J,Zc];rw[run_neq_struct,b];rfl
      ·exact h.elim
def eqT (tb:TB)(t:C)(a b:AV):J (Prop×X):=
  match tb t with
  | none=>G
  | some i=>match i.zd,a,b with
    | .bool,.x D [.v (.bool p)],.x D [.v (.bool q)]=>A (True,p==q)
    | .slice _,.x D [.s _ c],.x D [.v (.slice G _ _)]=>A (c≠[],D)
    | .slice _,.x D [.w _ _ n],.x D [.v (.slice G _ _)]=>A (n≠0,D)
    | .slice _,.x D [.v (.slice x _ _)],.x D [.v (.slice G _ _)]=>A (True,x.isNone)
    | _,_,_=>G

def aW (tb:TB)(t:C)(op:z)(a b:AV)(K:AV->Prop):Prop:=
  match a,b with
  | .x N c,.x N e=>eqA tb t op c e K
  | a,b=>match eqT tb t a b with
    | some (p,r)=>(match op with
      | .eql=>p/\K (.x D [.v (.bool r)])
      | .neq=>p/\K (.x D [.v (.bool !r)])
      | _=>I)
    | none=>bf op a b K

theorem QFy{t:Z}{p q:X}(h:(s t).run P w= .ok .bool w):(Op.equalIn (d+1) t (.bool p) (.bool q)).run P w= .ok (p==q) w:=by simp[Op.equalIn,h]
theorem QIG{t e:Z}{x:J Addr}{c f b:C}(h:(s t).run P w= .ok (.slice e) w):(Op.equalIn (d+1) t (.slice x n c) (.slice G f b)).run P w= .ok x.isNone w:=by
 cases x<;>simp[Op.equalIn,h]
theorem QKY {t:Z}{p q:X}(h:(s t).run P w= .ok .bool w):(Op.equal t (.bool p) (.bool q)).run P w= .ok (p==q) w:=QFy (d:=9999) h
theorem Gx {t e:Z}{x:J Addr}{c f b:C}(h:(s t).run P w= .ok (.slice e) w):(Op.equal t (.slice x n c) (.slice G f b)).run P w= .ok x.isNone w:=QIG (d:=9999) h
theorem QEh(L:Wf P tb){R S:AV}(z:ConcV w O ρ R vx)(J:ConcV w O ρ S vy){p:Prop}{r:X}(h:eqT tb t R S=A (p,r))(C:p):
  (∀x y:f,∀op,(e op t x y vx vy).run P w= .ok () w)/\(Q .eql t vx vy).run P w= .ok (.bool r) w/\(Q .neq t vx vy).run P w= .ok (.bool !r) w:=by
 unfold eqT at h;split at h
 ·cases h
 ·rename_i i hi;have I:=L _ _ hi;have g: ∀{a:F} {r:X},a.oneCell'=N->a≠ .nilIface->(Op.equal t a vy).run P w= .ok r w->Q .eql t a vy=(do pure (.bool (<-Op.equal t a vy)))->Q .neq t a vy=(do pure (.bool (!(<-Op.equal t a vy))))->
    (∀x y:f,∀op,(e op t x y a vy).run P w= .ok () w)/\(Q .eql t a vy).run P w= .ok (.bool r) w/\(Q .neq t a vy).run P w= .ok (.bool !r) w:=by
   intro a r W Y U Z h5;exact⟨fun x y op=>Y1 op t x y a vy W Y w,by rw[Z];simp[U],by rw[h5];simp[U]⟩
  split at h
  ·rename_i p q l;cases h
   obtain⟨rfl,_⟩:=ConcX.one z;obtain⟨rfl,_⟩:=ConcX.one J;have b:=E I.zd w;rw[l]at b;exact g rfl o6 (QKY b) rfl rfl
  ·rename_i T sz xs n c l;cases h
   obtain⟨rfl,_⟩:=ConcX.one J;have b:=E I.zd w;rw[l]at b;obtain⟨B,j,m⟩:=z;simp at m;subst m;cases j with
   | s0 _=>exact u rfl C
   | s00 _=>exact u rfl C
   | s hr z V _=>exact g rfl o6 (Gx b) rfl rfl
  ·rename_i T k o n n' c l;cases h
   obtain⟨rfl,_⟩:=ConcX.one J;have b:=E I.zd w;rw[l]at b;obtain⟨B,j,m⟩:=z;simp at m;subst m;cases j with
   | w _ _ _ _ _ _=>exact g rfl o6 (Gx b) rfl rfl
   | w0 _ _ _=>exact u rfl C
   | w00 _ _=>exact u rfl C
  ·rename_i T x n c n' c' l;cases h
   obtain⟨rfl,_⟩:=ConcX.one z;obtain⟨rfl,_⟩:=ConcX.one J;have b:=E I.zd w;rw[l]at b;exact g rfl o6 (Gx b) rfl rfl
  ·cases h
theorem QKZ(b:Wf P tb){op:z}{l m:AV}{x y:f}(c:ConcV w O ρ l vx)(g:ConcV w O ρ m vy){K:AV->Prop}(h:aW tb t op l m K):
  ∃v av,(do e op t x y vx vy;Q op t vx vy:Sem F).run P w= .ok v w/\ConcV w O ρ av v/\K av:=by
 unfold aW at h;split at h
 ·exact QPi b c g h
 ·split at h
  ·rename_i p r q;split at h
   ·obtain⟨j,k,_⟩:=QEh b c g q h.1;exact⟨_,_,by simp only[Sem.run_bind,j x y,Zc,k],Qg rfl,h.2⟩
   ·obtain⟨j,_,k⟩:=QEh b c g q h.1;exact⟨_,_,by simp only[Sem.run_bind,j x y,Zc,k],Qg rfl,h.2⟩
   ·exact h.elim
  ·exact QKW c g h
end Go.Eng
namespace Go.Eng
open Go
variable {P:U}{w0:R}{M:Ctx}{ρ:Env}{H:HP}{w:R}
def Gy (H:HP)(n:C):C->B (C×AV)->J (B (B Ch))
  | _,[]=>A []
  | k,(i,.x _ c)::b=>bif i.beq k&&(Qj c).beq n then(match U7 H c,Gy H n (k+1) b with
    | some e,A r=>A (e::r)
    | _,_=>G)else G
  | _,_=>G

def killParts (H:HP):B (C×AV)->HP
 | []=>H
 | (_,.x _ c)::r=>killParts (killL H c) r
 | _::r=>killParts H r
def XI:B (C×AV)->B C
 | []=>[]
 | (_,.x _ cs)::r=>Jx cs++XI r
 | _::r=>XI r
theorem VT: ∀(ps:B (C×AV)) (H:HP) (k:C),killParts H ps k=if k∈XI ps then A .dead else H k:=by
 intro ps;induction ps with
 | nil=>intro H k;simp[killParts,XI]
 | cons p ps c=>
  intro H k;obtain⟨i,a⟩:=p;cases a with
  | x b e=>
   simp only[killParts,XI,Zz];rw[c,Hv];by_cases h:k∈XI ps<;>by_cases f:k∈Jx e<;>simp[h,f]
  | _=>simp only[killParts,XI];exact c H k
def QEi (w:R)(O:C->Prop)(ρ:Env)(parts:B (C×AV))(vparts:B (C×F)):Prop:=
 parts.length=q vparts/\ ∀(j:C) (i:C) (a:AV) (b:C) (v:F),parts[j]? =A (i,a)->vparts[j]? =A (b,v)->i=b/\ConcV w O ρ a v
theorem QIH {n:C}: ∀{k:C} {parts:B (C×AV)} {xs:B (B Ch)},Gy H n k parts=A xs->q xs=q parts/\
  ∀j i a,parts[j]? =A (i,a)->i=k+j/\ ∃b cs e,a= .x b cs/\Qj cs=n/\U7 H cs=A e/\xs[j]? =A e:=by
 intro k parts;induction parts generalizing k with
 | nil=>intro xs h;simp[Gy]at h;subst h;simp
 | cons p parts u=>
  intro xs h;obtain⟨i,a⟩:=p;cases a with
  | x b cs=>
   simp only[Gy]at h;cases c:(i.beq k&&(Qj cs).beq n)with
   | false=>rw[c]at h;cases h
   | true=>
    rw[c]at h;simp only[R7]at h;simp only[Zi]at c;split at h
    ·rename_i e r l m;simp at h;subst h;obtain⟨y,z⟩:=u m;refine⟨by simp[y],fun j s g f=> ?_⟩;cases j with
     | zero=>simp at f;obtain⟨rfl,rfl⟩:=f;exact⟨Za c.1,b,cs,e,rfl,Za c.2,l,rfl⟩
     | succ j=>
      have:=z j s g ((j9 f));exact⟨o3,(j9 this.2)⟩
    ·cases h
  | _=>simp[Gy]at h
def Ke (b:TyI)(e len d:C)(parts:B (C×AV))(H:HP)(K:KK):Prop:=
 bif(len*b.cells).ble 1000000&&parts.length.beq len&&C.blt 0 b.cells then orH (Gy H b.cells 0 parts) fun x=>match H d with
  | none=>K (.x D [.w d 0 len]) (upd (killParts H parts) d (A (.row e b.cells x)))
  | some _=>I
 else I
theorem xU (x:HS w0 M ρ H w){parts:B (C×AV)}{b:X}{cs y:B Ch}{us:B F}(f: ∀k∈Jx cs,k∈XI parts)(I:CC w (ow M ρ H) ρ cs us)(J:U7 H cs=A y)
  (j: ∀k∈XI parts,∃t sz xs,H k=A (.row t sz xs)):CC w (ow M ρ (killParts H parts)) (fun _=>G) y us:=by
 have _:=b;have g: ∀b,ow M ρ (killParts H parts) b->ow M ρ H b:=by
  rintro b (h | ⟨k,r,m,p,q,c⟩)
  ·exact .inl h
  ·rw[VT]at c;split at c
   ·cases c
   ·exact .inr ⟨k,r,m,p,q,c⟩
 refine QB5 x g I J fun k z r l E h=> ?_
 obtain⟨t,sz,xs,e⟩:=j k (f k z);rcases h with h | ⟨L,s,m,p,q,c⟩
 ·exact x.nx l E (by rw[e];rfl) h
 ·rw[VT]at c;split at c
  ·cases c
  ·rename_i u;have:=x.ze L k s r m l p E c (by rw[e];rfl) q;subst this;exact u (f _ z)
theorem HS.killParts (e:HS w0 M ρ H w): ∀{parts:B (C×AV)},(∀k∈XI parts,∃b,H k=A b)->HS w0 M ρ (Eng.killParts H parts) w/\Ext ρ H w ρ (Eng.killParts H parts) w:=by
 intro parts;induction parts generalizing H with
 | nil=>exact fun _=>⟨e,.refl _ _ _⟩
 | cons p parts f=>
  intro c;obtain⟨i,a⟩:=p;cases a with
  | x b cs=>
   obtain⟨g,j⟩:=e.killL (cs:=cs) (fun k h=>c k (by simp[XI,h]))
   have:=f g (fun k h=>by
    rw[Hv];split
    ·exact⟨_,rfl⟩
    ·exact c k (by simp[XI,h]))
   exact⟨this.1,j.trans this.2⟩
  | _=>exact f e (fun k h=>c k (by simpa [XI]using h))
theorem QEj {sz:C}: ∀{vs:B (B F)},(∀v∈vs,q v=sz)-> ∀i u,vs[i]? =A u->Qt vs.flatten.toArray sz i=u:=by
 intro vs;induction vs with
 | nil=>intro _ i u h;simp at h
 | cons v vs f=>
  intro h i u b;have c:v.length=sz:=h v o6;cases i with
  | zero=>simp at b;subst b;simp[Qt,<-c]
  | succ i=>
   rw[B.flatten_cons,C.add_comm i 1,VQ 1 ((j9 c))];exact f (fun x e=>h x (by simp[e])) i u ((j9 b))
theorem Hw {t e len:C}{f:TyI}(ht:P.underlying t=A (.slice e))(he:JK P e f)(hs:HS w0 M ρ H w){d:C}{parts:B (C×AV)}{vparts:S (C×F)}(hp:QEi w (ow M ρ H) ρ parts vparts.toList){K:KK}
  (h:Ke f e len d parts H K):
  ∃v w' ρ' H' av,(Instr.buildSlice t len vparts).run P w= .ok v w'/\HS w0 M ρ' H' w'/\Ext ρ H w ρ' H' w'/\ConcV w' (ow M ρ' H') ρ' av v/\K av H':=by
 unfold Ke at h;cases hb:((len*f.cells).ble 1000000&&parts.length.beq len&&C.blt 0 f.cells)with
 | false=>rw[hb]at h;exact h.elim
 | true=>
  rw[hb]at h;simp only[Zi]at hb;obtain⟨⟨Lm,Q⟩,hZ⟩:=hb;have Lm:=C.le_of_ble_eq_true Lm;have Q:=Za Q;have be:0<f.cells:=by
   have:C.ble 1 f.cells=N:=hZ;exact C.le_of_ble_eq_true this
  simp only[R7]at h;unfold orH at h;split at h
  ·rename_i xs jg;split at h
   ·rename_i hd;obtain⟨l1,l2⟩:=QIH jg;obtain⟨pl,pc⟩:=hp;-- the values
    have At:vparts.toList.length=q parts:=pl.symm;have y: ∀(j i:C) (v:F),vparts.toList[j]? =A (i,v)->i=j/\ ∃g W,Qj g=f.cells/\U7 H g=A W/\xs[j]? =A W/\(∀k∈Jx g,k∈XI parts)/\ ∃V,CC w (ow M ρ H) ρ g V/\v.cells=V.toArray:=by
     intro j i v hj;have Z:j<q parts:=by rw[<-At];exact(Zb.1 hj).1
     obtain⟨⟨i',a⟩,hpj'⟩: ∃p,parts[j]? =A p:=⟨_,Zj Z⟩
     obtain⟨e1,ja⟩:=pc j i' a i v hpj' hj;obtain⟨e2,b,g,W,rfl,q1,q2,q3⟩:=l2 j i' a hpj';obtain⟨V,r,R,_⟩:=ConcX.cells ja;refine⟨o3,g,W,q1,q2,q3,?_,V,r,R⟩;intro k hk;have: ∀{I:B (C×AV)} {j:C},I[j]? =A (i',.x b g)->k∈XI I:=by
      intro I;induction I with
      | nil=>intro j h;simp at h
      | cons p I ih=>
       intro j h;cases j with
       | zero=>simp at h;subst h;simp[XI,hk]
       | succ j=>
        have:=ih ((j9 h));obtain⟨a1,a2⟩:=p;cases a2<;>simp[XI,this]
     exact this hpj'
    have u: ∀k∈XI parts,∃t sz xs,H k=A (.row t sz xs):=by
     intro k hk;have: ∀{I:B (C×AV)},k∈XI I-> ∃(j i:C) (b:X) (g:B Ch),I[j]? =A (i,AV.x b g)/\k∈Jx g:=by
      intro I;induction I with
      | nil=>intro h;simp[XI]at h
      | cons p I ih=>
       intro h;obtain⟨a1,a2⟩:=p;cases a2 with
       | x b g=>
        simp only[XI,Zz]at h;rcases h with h | h
        ·exact⟨0,a1,b,g,rfl,h⟩
        ·obtain⟨j,i,b',J,h1,h2⟩:=ih h;exact⟨j+1,i,b',J,(j9 h1),h2⟩
       | _=>obtain⟨j,i,b',J,h1,h2⟩:=ih (by simpa [XI]using h);exact⟨j+1,i,b',J,(j9 h1),h2⟩
     obtain⟨j,i,b,g,h1,h2⟩:=this hk;obtain⟨_,b',J,W,e,_,q2,_⟩:=l2 j i _ h1;cases e
     exact VA q2 k h2
    -- the parts are dense
    have T:vparts.toList=((vparts.toList.map (·.2)).zipIdx 0).map fun x=>(x.2,x.1):=by
     apply Zo;intro j;simp only[Zt,B.getElem?_zipIdx];cases hj:vparts.toList[j]? with
     | none=>simp
     | some p=>
      obtain⟨i,v⟩:=p;have:=(y j i v hj).1;subst this;simp
    have c: ∀v∈vparts.toList.map (·.2),v.cells.size=f.cells:=by
     intro v hv;obtain⟨⟨i,v'⟩,hm,rfl⟩:=B.mem_map.1 hv;obtain⟨j,hj⟩:=B.getElem?_of_mem hm
     obtain⟨_,g,W,q1,_,_,_,V,r,Y⟩:=y j i v' hj;simp[Y,r.length,q1]
    have U:(vparts.toList.map (·.2)).length=len:=by rw[B.length_map,At,Q]
    obtain⟨z,hz,ji⟩:=Kv he w;let m:=((vparts.toList.map (·.2)).map fun v=>v.cells.toList).flatten.toArray
    have s: ∀(zz:S F),Instr.fill (fun i=>A (i*f.cells,f.cells)) ((S.range (len*f.cells)).map (zz[· % zz.size]!)) vparts.toList=A m:=by
     intro zz;have:=Great.fill_whole be (vparts.toList.map (·.2)) ((S.range (len*f.cells)).map (zz[· % zz.size]!)) c (by rw[U];simp);rw[<-T]at this;rw[this];simp[m,B.flatMap]
    have L:m.size=len*f.cells:=by
     have: ∀(l:B F),(∀v∈l,v.cells.size=f.cells)->((l.map fun v=>v.cells.toList).flatten).length=q l*f.cells:=by
      intro l;induction l with
      | nil=>intro _;simp
      | cons v l ih=>intro h;simp only[Yc,B.flatten_cons,B.length_append,S.length_toList,Yd,h v o6,ih (fun x hx=>h x (by simp[hx])),Zm];omega
     simp only[m,Zs];rw[this _ c,U]
    obtain⟨jc,jd⟩:=hs.killParts (parts:=parts) (fun k hk=>let ⟨t,sz,xs,e⟩:=u k hk;⟨_,e⟩);have jb:Eng.killParts H parts d=G:=by
     rw[VT,if_neg (fun hm=>by obtain⟨_,_,_,e⟩:=u d hm;rw[hd]at e;cases e)];exact hd
    have jh:xs.length=len:=by rw[l1,Q]
    obtain⟨ρ',a1,a2,a3⟩:=jc.row (w':=w.alloc (.cells m e)) jb (t:=e) (sz:=f.cells) (cap:=len) (xs:=xs) L o3 rfl rfl rfl rfl (fun i x hi=>by
     have Z:i<q vparts.toList:=by rw[At,<-l1];exact(Zb.1 hi).1
     obtain⟨⟨i',v⟩,hv⟩: ∃p,vparts.toList[i]? =A p:=⟨_,Zj Z⟩
     obtain⟨_,g,W,q1,q2,q3,q4,V,r,Y⟩:=y i i' v hv;rw[hi]at q3;cases q3
     have:Qt m f.cells i=V:=by
      refine QEj (vs:=(vparts.toList.map (·.2)).map fun v=>v.cells.toList) ?_ i V ?_
      ·intro l hl;obtain⟨v',jf,rfl⟩:=B.mem_map.1 hl;simpa using c v' jf
      ·simp only[Zt,hv];simp[Y]
     rw[this]
     exact xU hs (b:=N) q4 r q2 u)
    have je: ¬(len*f.cells>2^24):=o3
    refine⟨.slice (A ⟨w.heap.size,0,G⟩) len len,_,ρ',_,_,?_,a1,jd.trans a2,a3 len o3,h⟩;simp only[Instr.buildSlice,Sem.run_bind,E ht,Zc,XU he];by_cases h0:len*f.cells=0
    ·have hf:=s #[];simp[h0]at hf;simp[h0,hf,newRow,World.alloc_eq]
    ·have hf:=s z.cells;simp only[if_neg je,Sem.run_bind,Sem.run_pure,Zc,h0,if_false,hz,hf];simp[newRow,World.alloc_eq]
   ·exact h.elim
  ·exact h.elim
end Go.Eng
namespace Go.Eng
open Go
variable {P:U}{w0:R}{M:Ctx}{ρ:Env}{H:HP}{w:R}
def eR (i:TyI)(t d:C)(tb:TB)(H:HP)(K:KK):Prop:=
 match H d with
 | some _=>I
 | none=>match i.zd with
  | .array n e=>match tb e with
   | some c=>bif i.cells.beq (n*c.cells)&&C.blt 0 c.cells then
     (∀b,i.zero=b->(Zl n c.zero).flatten=b->K (.x D [.p d 0]) (upd H d (A (.row t c.cells (Zl n (c.zero.map Ch.v))))))/\(Zl n c.zero).flatten=i.zero else I
   | none=>I
  | _=>K (.x D [.p d 0]) (upd H d (A (.box t (i.zero.map Ch.v))))
variable{K:KK}{d t:C}{tb:TB}{i:TyI}
theorem QF0(r:Wf P tb)(q:JK P t i)(I:HS w0 M ρ H w)(h:eR i t d tb H K):
  ∃v w' ρ' k av,(Instr.alloc t N (.tuple #[])).run P w= .ok v w'/\HS w0 M ρ' k w'/\Ext ρ H w ρ' k w'/\ConcV w' (ow M ρ' k) ρ' av v/\K av k:=by
 obtain⟨z,V,u⟩:=Kv q w;have g:(Instr.alloc t N (.tuple #[])).run P w= .ok (.pointer (A ⟨w.heap.size,0,G⟩)) (w.alloc (.cells i.zero.toArray t)):=by
  simp[Instr.alloc,V,newVar,newRow,u,World.alloc_eq]
 unfold eR at h;split at h
 ·exact h.elim
 ·rename_i B;split at h
  ·rename_i n e W;split at h
   ·rename_i c m;cases l:(i.cells.beq (n*c.cells)&&C.blt 0 c.cells)with
    | false=>rw[l]at h;exact h.elim
    | true=>
     rw[l]at h;obtain⟨R,y⟩:=h;have T:=R _ rfl y;simp only[Zi]at l;have S:=Za l.1;have E:=r _ _ m;have f:=I.alloc B (o:= .cells i.zero.toArray t) (bd:=⟨w.heap.size,n,n,c.cells,D⟩) (b:= .row t c.cells (Zl n (c.zero.map Ch.v))) (w':=w.alloc (.cells i.zero.toArray t)) rfl rfl rfl rfl rfl
      (fun X=>⟨o6,rfl,.inr ⟨rfl,i.zero.toArray,heap_alloc_new w _,by rw[<-S];simpa using q.zlen,o6,fun j x F=>by
       have s:x=c.zero.map Ch.v:=by
        have:=Zx F;exact Zq this
       have p:j<n:=by have:=(Zb.1 F).1;simpa using this
       subst s;have:Qt i.zero.toArray c.cells j=c.zero:=by
        rw[<-y];refine QEj (vs:=Zl n c.zero) (fun v U=> ?_) j _ ?_
        ·rw[Zq U,E.zlen]
        ·simp[p]
       rw[this]
       exact CC.vals E.zone⟩⟩)
     exact⟨_,_,_,_,.x D [.p d 0],g,f.1,f.2,QiV (QT _ _ _) rfl,T⟩
   ·exact h.elim
  ·obtain⟨ρ',J,L,Q⟩:=I.box B (t:=t) (CC.vals (w:=w) (O:=ow M ρ H) (ρ:=ρ) q.zone);exact⟨_,_,ρ',_,_,g,J,L,Q,h⟩
def pH (i:TyI)(t d:C)(a:AV)(H:HP)(K:KK):Prop:=
 match H d,a with
 | none,.x _ c=>bif(Qj c).beq i.cells then K (.x D [.p d 0]) (upd H d (A (.box t c)))else I
 | _,_=>I
variable{a:AV}
theorem QKa(r:HS w0 M ρ H w){v:F}(p:ConcV w (ow M ρ H) ρ a v)(h:pH i t d a H K):
  ∃u w' ρ' e av,(Instr.box t v).run P w= .ok u w'/\HS w0 M ρ' e w'/\Ext ρ H w ρ' e w'/\ConcV w' (ow M ρ' e) ρ' av u/\K av e:=by
 unfold pH at h;split at h
 ·rename_i b m q;cases g:(Qj m).beq i.cells with
  | false=>rw[g]at h;exact h.elim
  | true=>
   rw[g]at h;obtain⟨s,f,c,_⟩:=ConcX.cells p;obtain⟨ρ',j,k,l⟩:=r.box q (t:=t) f;refine⟨_,_,ρ',_,_,?_,j,k,l,h⟩;simp[Instr.box,newVar,newRow,c,World.alloc_eq]
 ·exact h.elim
def HN (b:TyI)(e d:C)(l c:AV)(H:HP)(K:KK):Prop:=
 match l,c,H d with
 | .x D [.v (.int _ l)],.x D [.v (.int _ c)],G=>(0<=l/\l<=c/\(b.bytes:Y)*c<=281474976710656/\c<=9223372036854775807)/\
   K (.x D [.w d 0 l.toNat]) (upd H d (A (.row e b.cells (Zl l.toNat (b.zero.map Ch.v)))))
 | _,_,_=>I
theorem QB9 {z:B F}{n sz i:C}(b:z.length=sz)(e:i<n):Qt (madeCells z.toArray (n*sz)) sz i=z:=by
 have c:(i+1)*sz<=n*sz:=Zw _ e;rw[Zm,C.one_mul]at c;apply Zo;intro m;simp only[Qt,madeCells];rw[Zd];split
 ·rename_i h;rw[Ze];simp only[S.toList_map,S.toList_range,Zt];rw[B.getElem?_range o3];simp only[J.map_some,Zs,b];have:(i*sz+m) % sz=m:=by rw[C.add_comm,C.add_mul_mod_self_right,C.mod_eq_of_lt h]
  rw[this];simp[b,h]
 ·rename_i h;rw[Zu o3]
theorem Gz{e:C}{b:TyI}(X:P.underlying t=A (.slice e))(k:JK P e b)(W:HS w0 M ρ H w){l c:AV}{vl s:F}(V:ConcV w (ow M ρ H) ρ l vl)(R:ConcV w (ow M ρ H) ρ c s)(h:HN b e d l c H K):
  ∃u w' ρ' f av,(Instr.makeSlice t vl s).run P w= .ok u w'/\HS w0 M ρ' f w'/\Ext ρ H w ρ' f w'/\ConcV w' (ow M ρ' f) ρ' av u/\K av f:=by
 unfold HN at h;split at h
 ·rename_i Z l k2 c S;obtain⟨rfl,_⟩:=ConcX.one V;obtain⟨rfl,_⟩:=ConcX.one R;obtain⟨⟨I,J,L,Q⟩,U⟩:=h;obtain⟨ti,z,g,m,j,Y,q⟩:=k.info;have r:=run_make (P:=P) w t e ti z X g Y Z k2 l c I J (by rw[j];exact L) Q;rw[q,m]at r;obtain⟨ρ',y,B,E⟩:=W.row (w':=w.alloc (.cells (madeCells b.zero.toArray (c.toNat*b.cells)) e)) S (t:=e) (sz:=b.cells) (cap:=c.toNat) (xs:=Zl l.toNat (b.zero.map Ch.v))
   (size_madeCells _ _) o9 rfl rfl rfl rfl (fun i x g=>by
    have p:x=b.zero.map Ch.v:=Zq (Zx g);have T:i<l.toNat:=by have:=(Zb.1 g).1;simpa using this
    subst p;rw[QB9 k.zlen o3]
    exact CC.vals k.zone)
  exact⟨_,_,ρ',_,_,r,y,B,E _ o6,U⟩
 ·exact h.elim
def zm (x:J AV)(b:Y)(K:Y->Prop):Prop:=
 match x with
 | none=>K b
 | some (.x D [.v (.int _ j)])=>K j
 | _=>I
def G0 (i:TyI)(a:AV)(g f j:J AV)(H:HP)(tb:TB)(K:AV->Prop):Prop:=
 match j with
 | some _=>I
 | none=>match i.zd,a with
  | .string,.x D [.v (.string s)]=>zm g 0 fun l=>zm f s.size fun h=>(0<=l/\l<=h/\h<=(s.size:Y))/\K (JS (.string (s.extract l.toNat h.toNat)))
  | .slice e,.x D [.s b x]=>(match tb e with
   | some c=>bif b.beq c.cells then zm g 0 fun l=>zm f x.length fun h=>(0<=l/\l<=h/\h<=(q x:Y))/\K (.x D [.s b ((x.drop l.toNat).take (h.toNat-l.toNat))])else I
   | none=>I)
  | .slice e,.x D [.w k o n]=>(match tb e,H k with
   | some c,A (.row _ b _)=>bif b.beq c.cells then zm g 0 fun l=>zm f n fun h=>(0<=l/\l<=h/\h<=(n:Y))/\K (.x D [.w k (o+l.toNat) (h.toNat-l.toNat)])else I
   | _,_=>I)
  | .array m e,.x D [.p k 0]=>(match tb e,H k with
   | some c,A (.row _ b x)=>bif b.beq c.cells then zm g 0 fun l=>zm f m fun h=>(0<=l/\l<=h/\h<=(m:Y)/\m<=q x)/\K (.x D [.w k l.toNat (h.toNat-l.toNat)])else I
   | _,_=>I)
  | _,_=>I
theorem YN {O:C->Prop}{x:J AV}{vx:J F}(g: ∀a,x=A a-> ∃v,vx=A v/\ConcV w O ρ a v)(f:x=G->vx=G){b:Y}{K:Y->Prop}(h:zm x b K):
  ∃j,K j/\(vx=G/\j=b\/ ∃k,vx=A (.int k j)):=by
 unfold zm at h;split at h
 ·exact⟨b,h,.inl ⟨f rfl,rfl⟩⟩
 ·rename_i k j;obtain⟨v,e,c⟩:=g _ rfl;obtain⟨rfl,_⟩:=ConcX.one c;exact⟨j,h,.inr ⟨k,e⟩⟩
 ·exact h.elim
theorem JL {isSlice:X}{len cap:C}{g c:J F}{l h:Y}(f:g=G/\l=0\/ ∃k,g=A (.int k l))(b:c=G/\h=(len:Y)\/ ∃k,c=A (.int k h))(h0:0<=l)(h1:l<=h)(j:h<=(cap:Y)):
  (Instr.sliceBounds isSlice len cap g c G).run P w= .ok (l.toNat,h.toNat,cap) w:=by
 have e:(h.toNat:Y)=h:=Y.toNat_of_nonneg o3;rcases f with⟨rfl,rfl⟩ | ⟨m,rfl⟩<;>rcases b with⟨rfl,rfl⟩ | ⟨p,rfl⟩
 ·simp[Instr.sliceBounds]
 ·simp[Instr.sliceBounds,Instr.sliceBound,r,j,(by omega:0<=h)]
 ·simp[Instr.sliceBounds,Instr.sliceBound,r,h0,h1]
 ·simp[Instr.sliceBounds,Instr.sliceBound,r,h0,h1,j,e,(by omega:0<=h)]
theorem QF1(Q:Wf P tb)(ht:JK P t i)(hs:HS w0 M ρ H w){va:F}(ha:ConcV w (ow M ρ H) ρ a va){lo X mx:J AV}{W V jf:J F}
  (ja: ∀a,lo=A a-> ∃v,W=A v/\ConcV w (ow M ρ H) ρ a v) (T:lo=G->W=G) (hZ: ∀a,X=A a-> ∃v,V=A v/\ConcV w (ow M ρ H) ρ a v) (S:X=G->V=G) (jk:mx=G->jf=G)
  {K:AV->Prop} (h:G0 i a lo X mx H tb K):
  ∃v av,(Instr.sliceAt t va W V jf).run P w= .ok v w/\ConcV w (ow M ρ H) ρ av v/\K av:=by
 unfold G0 at h;split at h
 ·exact h.elim
 ·have:=jk rfl;subst this;split at h
  ·rename_i s hu;obtain⟨rfl,_⟩:=ConcX.one ha;have r:P.underlying t=A .string:=by rw[ht.zd,hu]
   obtain⟨l,h,Z⟩:=YN ja T h;obtain⟨y,⟨⟨h0,h1,h2⟩,hk⟩,Y⟩:=YN hZ S h;refine⟨_,_,?_,Qg rfl,hk⟩;simp[Instr.sliceAt,Instr.slice,E r,JL Z Y h0 h1 h2]
  ·rename_i e sz xs hu;have r:P.underlying t=A (.slice e):=by rw[ht.zd,hu]
   split at h
   ·rename_i ei u;cases hb:sz.beq ei.cells with
    | false=>rw[hb]at h;exact h.elim
    | true=>
     rw[hb]at h;simp only[R7]at h;have be:=Za hb;obtain⟨l,h,Z⟩:=YN ja T h;obtain⟨y,⟨⟨h0,h1,h2⟩,hk⟩,Y⟩:=YN hZ S h;obtain⟨jc,Lm,hv⟩:=ha;simp at hv;subst hv;cases Lm with
     | s0 _=>
      simp at h2;have e1:l=0:=o3
      have e2:y=0:=o3
      subst e1 e2;refine⟨.slice G 0 0,_,?_,YI (by simpa using CC.s0 .nil),hk⟩;have:=JL (P:=P) (w:=w) (isSlice:=N) (len:=0) (cap:=0) Z ((j9 Y)) (Zp 0) (Zp 0) o6;simp[Instr.sliceAt,Instr.slice,E r,this,XU (Q _ _ u)]
     | @s00 _ _ b o cap _ _ _=>
      simp at h2;have e1:l=0:=o3
      have e2:y=0:=o3
      subst e1 e2;have:=JL (P:=P) (w:=w) (isSlice:=N) (len:=0) (cap:=cap) Z ((j9 Y)) (Zp 0) (Zp 0) o6;refine⟨.slice (A ⟨b,o,G⟩) 0 cap,_,?_,YI (by simpa using CC.s00 .nil),hk⟩;simp[Instr.sliceAt,Instr.slice,E r,this,XU (Q _ _ u),Addr.add]
     | @s _ _ b o cap _ f _ _ hr hx jm _=>
      have L:=JL (P:=P) (w:=w) (isSlice:=N) (len:=q xs) (cap:=cap) Z Y h0 h1 o3;have g:(Instr.sliceAt t (.slice (A ⟨b,o,G⟩) xs.length cap) W V G).run P w= .ok (.slice (if cap=l.toNat then A ⟨b,o,G⟩else A ⟨b,o+l.toNat*sz,G⟩) (y.toNat-l.toNat) (cap-l.toNat)) w:=by
       simp[Instr.sliceAt,Instr.slice,E r,L,XU (Q _ _ u),Jj,be]
      by_cases hc:cap=l.toNat
      ·have e0:y.toNat-l.toNat=0:=o3
       rw[c hc,e0]at g;rw[e0,B.take_zero]at hk;exact⟨_,_,g,YI (.s00 .nil),hk⟩
      ·rw[if_neg hc]at g;refine⟨_,_,g,YI ?_,hk⟩;have jj:((xs.drop l.toNat).take (y.toNat-l.toNat)).length=y.toNat-l.toNat:=o9
       have jb: ∀i x,((xs.drop l.toNat).take (y.toNat-l.toNat))[i]? =A x->xs[l.toNat+i]? =A x:=by
        intro i x X;rw[Zd]at X;split at X
        ·rwa [Ze]at X
        ·cases X
       have U:=CC.s (ρ:=ρ) (w:=w) (O:=ow M ρ H) (sz:=sz) (b:=b) (o:=o+l.toNat*sz) (cap:=cap-l.toNat) (xs:=(xs.drop l.toNat).take (y.toNat-l.toNat)) (f:=fun i=>f (l.toNat+i)) (cs:=[]) (vs:=[])
        ⟨hr.lt,hr.free,fun i x X=>by
         have:=hr.cell (l.toNat+i) x (jb i x X);refine⟨this.1,fun j hj=> ?_⟩
         rw[<-this.2 j hj];congr 2;rw[Zm];omega⟩ (fun i x X=>hx _ x (jb i x X)) o3 .nil
       rwa [jj]at U
   ·exact h.elim
  ·rename_i e k o n hu;have r:P.underlying t=A (.slice e):=by rw[ht.zd,hu]
   split at h
   ·rename_i ei tt sz xs u hk;cases hb:sz.beq ei.cells with
    | false=>rw[hb]at h;exact h.elim
    | true=>
     rw[hb]at h;simp only[R7]at h;have be:=Za hb;obtain⟨l,h,Z⟩:=YN ja T h;obtain⟨y,⟨⟨h0,h1,h2⟩,C⟩,Y⟩:=YN hZ S h;obtain⟨jc,Lm,hv⟩:=ha;simp at hv;subst hv;obtain⟨bd,R,je,At,ok⟩:=hs.zc k _ hk rfl;cases Lm with
     | @w _ _ _ _ cap _ _ _ z hn hl jn jq _=>
      rw[R]at z;cases z
      rcases ok with⟨I,_⟩ | ⟨_,jg,jh,jd,ji,jl⟩
      ·rw[hn]at I;cases I
      have L:=JL (P:=P) (w:=w) (isSlice:=N) (len:=n) (cap:=cap) Z Y h0 h1 o3;have g:(Instr.sliceAt t (.slice (A ⟨bd.zc,o*bd.sz,G⟩) n (cap)) W V G).run P w= .ok (.slice (if cap=l.toNat then A ⟨bd.zc,o*bd.sz,G⟩else A ⟨bd.zc,o*bd.sz+l.toNat*sz,G⟩) (y.toNat-l.toNat) (cap-l.toNat)) w:=by
       simp[Instr.sliceAt,Instr.slice,E r,L,XU (Q _ _ u),Jj,be]
      by_cases hc:cap=l.toNat
      ·have e0:y.toNat-l.toNat=0:=o3
       have e1:cap-l.toNat=0:=o3
       rw[c hc,e0,e1]at g;rw[e0]at C;exact⟨_,_,g,YI (.w00 R .nil),C⟩
      ·rw[if_neg hc]at g;refine⟨_,_,g,YI ?_,C⟩;have U:=CC.w (w:=w) (O:=ow M ρ H) (k:=k) (o:=o+l.toNat) (n:=y.toNat-l.toNat) (cap:=cap-l.toNat) R hn o3 o3 o3 .nil;rw[At]at U⊢;rwa [Zm]at U
     | w0 z hn _=>
      simp at h2;have e1:l=0:=o3
      have e2:y=0:=o3
      subst e1 e2;refine⟨.slice G 0 0,_,?_,YI (by simpa using CC.w0 z hn .nil),C⟩;have:=JL (P:=P) (w:=w) (isSlice:=N) (len:=0) (cap:=0) Z ((j9 Y)) (Zp 0) (Zp 0) o6;simp[Instr.sliceAt,Instr.slice,E r,this,XU (Q _ _ u)]
     | @w00 _ _ _ b o' _ _ _ z _=>
      simp at h2;have e1:l=0:=o3
      have e2:y=0:=o3
      subst e1 e2;have:=JL (P:=P) (w:=w) (isSlice:=N) (len:=0) (cap:=0) Z ((j9 Y)) (Zp 0) (Zp 0) o6;refine⟨.slice (A ⟨b,o',G⟩) 0 0,_,?_,YI (by simpa using CC.w00 z .nil),C⟩;simp[Instr.sliceAt,Instr.slice,E r,this,XU (Q _ _ u)]
   ·exact h.elim
  ·rename_i m e k hu;have r:P.underlying t=A (.array m e):=by rw[ht.zd,hu]
   split at h
   ·rename_i ei tt sz xs u hk;cases hb:sz.beq ei.cells with
    | false=>rw[hb]at h;exact h.elim
    | true=>
     rw[hb]at h;simp only[R7]at h;have be:=Za hb;obtain⟨l,h,Z⟩:=YN ja T h;obtain⟨y,⟨⟨h0,h1,h2,h3⟩,C⟩,Y⟩:=YN hZ S h;obtain⟨jc,Lm,hv⟩:=ha;simp at hv;subst hv;obtain⟨bd,R,je,At,ok⟩:=hs.zc k _ hk rfl;cases Lm with
     | p z hn _=>
      rw[R]at z;cases z
      rcases ok with⟨I,_⟩ | ⟨_,jg,jh,jd,ji,jl⟩
      ·rw[hn]at I;cases I
      have L:=JL (P:=P) (w:=w) (isSlice:=D) (len:=m) (cap:=m) Z Y h0 h1 o3;have g:(Instr.sliceAt t (.pointer (A ⟨bd.zc,0,G⟩)) W V G).run P w= .ok (.slice (A (if m=l.toNat then⟨bd.zc,0,G⟩else⟨bd.zc,l.toNat*sz,G⟩)) (y.toNat-l.toNat) (m-l.toNat)) w:=by
       simp[Instr.sliceAt,Instr.sureAddr,E r,L,XU (Q _ _ u),Jj,be]
      by_cases hc:m=l.toNat
      ·have e0:y.toNat-l.toNat=0:=o3
       have e1:m-l.toNat=0:=o3
       rw[c hc,e0,e1]at g;rw[e0]at C;exact⟨_,_,g,YI (.w00 R .nil),C⟩
      ·rw[if_neg hc]at g;refine⟨_,_,g,YI ?_,C⟩;have U:=CC.w (w:=w) (O:=ow M ρ H) (k:=k) (o:=l.toNat) (n:=y.toNat-l.toNat) (cap:=m-l.toNat) R hn o3 o3 o3 .nil;rwa [At]at U
   ·exact h.elim
  ·exact h.elim
def lJ (i:TyI)(a:AV)(f c g:J AV)(d:C)(H:HP)(tb:TB)(K:KK):Prop:=
  match i.zd,a,H d,g with
  | .slice e,.x D [.s s x],G,A m=>(match tb e with
    | some b=>bif s.beq b.cells then zm f 0 fun l=>zm c x.length fun h=>zm (A m) 0 fun m=>(l=0/\h=0/\m=0)/\K (.x D [.w d 0 0]) (upd H d (A (.row e s [])))else I
    | none=>I)
  | _,_,_,_=>I

theorem QEO(Lm:Wf P tb)(ht:JK P t i)(hs:HS w0 M ρ H w){va:F}(ha:ConcV w (ow M ρ H) ρ a va){lo L mx:J AV}{j q u:J F}
  (At: ∀a,lo=A a-> ∃v,j=A v/\ConcV w (ow M ρ H) ρ a v) (Q:lo=G->j=G) (z: ∀a,L=A a-> ∃v,q=A v/\ConcV w (ow M ρ H) ρ a v) (B:L=G->q=G) (R: ∀a,mx=A a-> ∃v,u=A v/\ConcV w (ow M ρ H) ρ a v)
 (Y:L=G->I) (h:lJ i a lo L mx d H tb K):
  ∃v w' ρ' T av,(Instr.sliceAt t va j q u).run P w= .ok v w'/\HS w0 M ρ' T w'/\Ext ρ H w ρ' T w'/\ConcV w' (ow M ρ' T) ρ' av v/\K av T:=by
 unfold lJ at h;split at h
 ·rename_i e sz xs m hu hd;have S:P.underlying t=A (.slice e):=by rw[ht.zd,hu]
  split at h
  ·rename_i ei X;cases U:sz.beq ei.cells with
   | false=>rw[U]at h;exact h.elim
   | true=>
    rw[U]at h;simp only[R7]at h;obtain⟨l,h,bl⟩:=YN At Q h;obtain⟨hh,h,bh⟩:=YN z B h;obtain⟨mm,⟨⟨rfl,rfl,rfl⟩,Z⟩,bm⟩:=YN R (fun h=>by cases h) h;obtain⟨ja,W,hv⟩:=ha;simp at hv;subst hv;have b:=hs.allocNil (d:=d) hd e sz;have hZ: ∃k,u=A (.int k 0):=by
     rcases bm with⟨V,_⟩ | h
     ·obtain⟨v,y,_⟩:=R _ rfl;rw[V]at y;cases y
     ·exact h
    have be: ∃k,q=A (.int k 0):=by
     rcases bh with⟨V,_⟩ | h
     ·cases L with
      | none=>exact(Y rfl).elim
      | some x=>
       obtain⟨v,y,_⟩:=z _ rfl;rw[V]at y;cases y
     ·exact h
    obtain⟨km,rfl⟩:=hZ;obtain⟨kh,rfl⟩:=be;have U: ∀g c:C,(Instr.sliceBounds N g c j (A (.int kh 0)) (A (.int km 0))).run P w= .ok (0,0,0) w:=by
     intro g c;rcases bl with⟨rfl,_⟩ | ⟨k,rfl⟩<;>simp[Instr.sliceBounds,Instr.sliceBound,r]
    have f: ∀p g c,(Instr.sliceAt t (.slice p g c) j (A (.int kh 0)) (A (.int km 0))).run P w= .ok (.slice p 0 0) w:=by
     intro p g c;simp[Instr.sliceAt,Instr.slice,E S,U,XU (Lm _ _ X)]
    cases W with
    | s0 _=>exact⟨_,_,_,_,_,f _ _ _,b.1,b.2,YI (.w0 (QT _ _ _) rfl .nil),Z⟩
    | s00 _=>exact⟨_,_,_,_,_,f _ _ _,b.1,b.2,YI (.w00 (QT _ _ _) .nil),Z⟩
    | s _ _ _ _=>exact⟨_,_,_,_,_,f _ _ _,b.1,b.2,YI (.w00 (QT _ _ _) .nil),Z⟩
  ·exact h.elim
 ·exact h.elim
end Go.Eng
namespace Go.Eng
open Go
variable {P:U}{w0:R}{M:Ctx}{ρ:Env}{H:HP}{w:R}
variable{v:F}
theorem QII (hs:HS w0 M ρ H w){k o n t sz:C}{xs:B (B Ch)}(hk:H k=A (.row t sz xs))(J:CC w (ow M ρ H) ρ [.w k o n] [v]):
  ∃I,VR w v sz ((xs.drop o).take n) (ow M ρ H) I:=by
 obtain⟨U,T,X,S,ok⟩:=hs.zc k _ hk rfl;cases J with
 | @w _ _ _ _ L _ _ _ z hn hl At V _=>
  rw[T]at z;cases z
  rcases ok with⟨p,_⟩ | ⟨_,f,Z,R,Lm,hx⟩
  ·rw[hn]at p;cases p
  have E:((xs.drop o).take n).length=n:=o9
  have Q:(o+n)*sz<=U.cap*sz:=Zw _ o3;rw[Zm]at Q;have F:((f.toList.drop (o*sz)).take (n*sz)).length=n*sz:=o9
  have y: ∀i,i<n->Qt ((f.toList.drop (o*sz)).take (n*sz)).toArray sz i=Qt f sz (o+i):=by
   intro i l;have Y:(i+1)*sz<=n*sz:=Zw _ l;rw[Zm,C.one_mul]at Y;apply Zo;intro m;simp only[Qt];rw[Zd,Zd];split
   ·rw[Ze,Ze,Zd,c o3,Ze];congr 1;rw[Zm];omega
   ·rfl
  have g: ∀i x,((xs.drop o).take n)[i]? =A x->i<n/\CC w (ow M ρ H) (fun _=>G) x (Qt f sz (o+i)):=by
   intro i x l;rw[Zd]at l;split at l
   ·rename_i r;rw[Ze]at l;exact⟨r,hx _ x l⟩
   ·cases l
  refine⟨(f.toList.drop (o*sz)).take (n*sz),by rw[E];exact F,?_,fun i x l=>by rw[y i (g i x l).1];exact(g i x l).2,.inr ⟨U.zc,o*sz,L,by rw[E,S],Kc Z _ _⟩⟩;intro u hu;obtain⟨j,W⟩:=B.getElem?_of_mem hu
  have s:j<n*sz:=by rw[<-F];exact(Zb.1 W).1
  have q:0<sz:=by
   rcases C.eq_zero_or_pos sz with e | e
   ·rw[e]at s;simp at s
   ·exact e
  have r:j/sz<n:=by rw[C.div_lt_iff_lt_mul q];exact s
  obtain⟨x,hxx⟩: ∃x,((xs.drop o).take n)[j/sz]? =A x:=⟨_,Zj o3⟩
  have J:=(g _ x hxx).2;rw[<-y _ r]at J;refine J.one u ?_
  refine Zx (i:=j % sz) ?_
  simp only[Qt];rw[Zd,c (C.mod_lt _ q),Ze];simp only[C.div_add_mod'];exact W
 | w0=>exact⟨[],o6,o6,o6,.inl ⟨rfl,o6⟩⟩
 | @w00 _ _ _ b o' _ _ _ _ _=>exact⟨[],o6,o6,o6,.inr ⟨b,o',0,o6,fun j v h=>by simp at h⟩⟩
def cI (H:HP)(a:AV):J (C×B (B Ch)):=
  match a with
  | .x D [.s s x]=>A (s,x)
  | .x D [.w k o n]=>match H k with
    | some (.row _ s x)=>A (s,(x.drop o).take n)
    | _=>G
  | _=>G

theorem Hx (k:HS w0 M ρ H w){a:AV}(g:ConcV w (ow M ρ H) ρ a v){sz:C}{y:B (B Ch)}(h:cI H a=A (sz,y)): ∃e,VR w v sz y (ow M ρ H) e:=by
 unfold cI at h;split at h
 ·cases h
  obtain⟨f,b,c⟩:=g;simp at c;subst c;exact QY2 b
 ·split at h
  ·rename_i j;cases h
   obtain⟨f,b,c⟩:=g;simp at c;subst c;exact QII k j b
  ·cases h
 ·cases h
def QW (b:T):B Ch:=[.v (.int .u8 b.toNat)]
def bD (i j:TyI)(a:AV)(H:HP)(K:AV->Prop):Prop:=
 match i.zd,j.zd,a with
 | _,.int k,.x D [.v (.int _ n)]=>K (JS (.int k (k.wrap n)))
 | .string,.string,.x D [.v (.string s)]=>K (JS (.string s))
 | .string,.string,.x D [.b m n]=>K (.x D [.b m n])
 | .slice _,.string,a=>match cI H a with
  | some (1,y)=> ∃b:B T,y=b.map QW/\K (JS (.string ⟨b.toArray⟩))
  | _=>I
 | _,_,_=>I
theorem QKb {O:C->Prop}{f:B T}{e:B F}(h:VR w v 1 (f.map QW) O e):e=f.map fun b=>Value.int .u8 b.toNat:=by
 apply Zo;intro i;have k:=h.len;simp at k;by_cases j:i<f.length
 ·have:=h.el i (QW f[i]) (by simp[j]);unfold QW at this;have g:Qt e.toArray 1 i=[Value.int .u8 f[i].toNat]:=by
   generalize m:Qt e.toArray 1 i=l at this;cases this with
   | v _ h=>cases h;rfl
  simp only[Qt,C.mul_one]at g;have:e[i]? =(B.take 1 (B.drop i e))[0]? :=by rw[Zd,c o3,Ze];simp
  rw[this,g];simp[j]
 ·rw[Zu o3,Zu o9]
theorem QKc (c:B T): ∀(s:L),((c.map fun b=>(b.toNat:Y)).foldl (fun(r:L) n=>r.push (T.ofNat n.toNat)) s)=⟨(s.data.toList++c).toArray⟩:=by
 induction c with
 | nil=>intro s;simp
 | cons b c e=>
  intro s;simp only[Yc,B.foldl_cons];rw[e];have:T.ofNat (b.toNat:Y).toNat=b:=o6
  rw[this];simp[L.push]
theorem QIK {s d:C}{i j:TyI}(Q:JK P s i)(R:JK P d j)(W: ∀e,i.zd= .slice e->P.underlying e=A (.int .u8))(hs:HS w0 M ρ H w){a:AV}(L:ConcV w (ow M ρ H) ρ a v){K:AV->Prop}(h:bD i j a H K):
  ∃u av,(y s d v).run P w= .ok u w/\ConcV w (ow M ρ H) ρ av u/\K av:=by
 unfold bD at h;split at h
 ·rename_i k n hu;obtain⟨rfl,_⟩:=ConcX.one L;refine⟨_,_,?_,Qg rfl,h⟩;have p:=E Q.zd w;have g:=E R.zd w;rw[hu]at g;simp only[y,Sem.run_bind,p,g,Zc];rfl
 ·rename_i s' f l;obtain⟨rfl,_⟩:=ConcX.one L;refine⟨_,_,?_,Qg rfl,h⟩;have p:=E Q.zd w;have g:=E R.zd w;rw[f]at p;rw[l]at g;simp[y,p,g]
 ·rename_i m n f l;obtain⟨rfl,V⟩:=Wo L;refine⟨_,_,?_,YI (.b V .nil),h⟩;have p:=E Q.zd w;have g:=E R.zd w;rw[f]at p;rw[l]at g;simp[y,p,g,Ja]
 ·rename_i e f l;split at h
  ·rename_i ys S;obtain⟨x,rfl,X⟩:=h;obtain⟨J,q⟩:=Hx hs L S;have p:=E Q.zd w;have g:=E R.zd w;rw[f]at p;rw[l]at g;have U:=E (W e f) w;have hn:=QKb q;have I:(Conv.bytesToString v).run P w= .ok (.string ⟨x.toArray⟩) w:=by
    rcases q.cell with⟨rfl,F⟩ | ⟨b,o,z,rfl,r⟩
    ·have:x=[]:=(j9 F)
     subst this;rfl
    ·have B:=K9 (P:=P) r;have Z:J.length=(x.map QW).length:=(j9 q.len)
     rw[Z]at B;have:=run_bytesToString (P:=P) w ⟨b,o,G⟩ (x.map QW).length z (x.map fun b=>(b.toNat:Y)) (by rw[B,hn];simp[Function.comp_def]);rw[this,QKc];simp
   refine⟨_,_,?_,Qg rfl,X⟩;have T: ∃a n c,v= .slice a n c:=by
    rcases q.cell with⟨rfl,_⟩ | ⟨b,o,z,rfl,_⟩
    ·exact⟨_,_,_,rfl⟩
    ·exact⟨_,_,_,rfl⟩
   obtain⟨a',n',c',rfl⟩:=T;simp[y,p,g,U,I]
  ·exact h.elim
 ·exact h.elim
end Go.Eng
namespace Go.Eng
open Go Go.RowKit
variable {P:U}{w0:R}{M:Ctx}{ρ:Env}{H:HP}{w:R}
def Z9 (i:TyI)(a:AV)(K:AV->Prop):Prop:=
 match i.zd,a with
 | .string,.x D [.v (.string s)]=>K (JS (.int .i64 s.size))
 | .string,.x D [.b m _]=>K (JS (.int .i64 (QB m).length))
 | .slice _,.x D [.s _ x]=>K (JS (.int .i64 x.length))
 | .slice _,.x D [.w _ _ n]=>K (JS (.int .i64 n))
 | .slice _,.x D [.v (.slice G 0 0)]=>K (JS (.int .i64 0))
 | _,_=>I
variable{a:AV}{t:C}{O:C->Prop}{v:F}
theorem QKd{tt:Z}{i:TyI}(p:JK P t i)(g:ConcV w O ρ a v){K:AV->Prop}(h:Z9 i a K):
  ∃u av,(Builtin.len_ #[t] tt #[v]).run P w= .ok u w/\ConcV w O ρ av u/\K av:=by
 have b:=E p.zd w;unfold Z9 at h;split at h
 ·rename_i s c;obtain⟨rfl,_⟩:=ConcX.one g;rw[c]at b;exact⟨_,_,by simp[Builtin.len_,b,goInt],Qg rfl,h⟩
 ·rename_i m _ c;obtain⟨rfl,_⟩:=Wo g;rw[c]at b;refine⟨_,_,?_,Qg rfl,h⟩;have q:(⟨(QB m).toArray⟩:L).size=(QB m).length:=by show(QB m).toArray.size=_;simp
  simp[Builtin.len_,b,goInt,Ja,q]
 ·rename_i e r x c;obtain⟨l,f,j⟩:=g;simp at j;subst j;rw[c]at b;refine⟨.int .i64 x.length,_,?_,Qg rfl,h⟩;cases f<;>simp[Builtin.len_,b,goInt]
 ·rename_i e k o n c;obtain⟨l,f,j⟩:=g;simp at j;subst j;rw[c]at b;refine⟨.int .i64 n,_,?_,Qg rfl,h⟩;cases f<;>simp[Builtin.len_,b,goInt]
 ·rename_i e c;obtain⟨rfl,_⟩:=ConcX.one g;rw[c]at b;exact⟨_,_,by simp[Builtin.len_,b,goInt],Qg rfl,h⟩
 ·exact h.elim
def VU (m:X)(a b:AV)(K:AV->Prop):Prop:=
 match a,b with
 | .x D [.v (.int k x)],.x D [.v (.int _ y)]=>K (JS (.int k (bif m then(if y>x then y else x)else(if y<x then y else x))))
 | _,_=>I
variable{d:C}
theorem G4{e:C}{k:TyI}(U:P.underlying t=A (.slice e))(he:JK P e k)(hs:HS w0 M ρ H w){tt:Z}(hd:H d=G){c:B (B Ch)}{x:F}
    {f:B F} (s:VR w x k.cells c (ow M ρ H) f) (I:c.length*k.bytes<=140737488355328) (Lm:c.length<=9223372036854775807):
    ∃u w' ρ',(Builtin.append_ #[t,t] tt #[.slice G 0 0,x]).run P w= .ok u w'/\HS w0 M ρ' (upd H d (A (.row e k.cells c))) w'/\
      Ext ρ H w ρ' (upd H d (A (.row e k.cells c))) w'/\ConcV w' (ow M ρ' (upd H d (A (.row e k.cells c)))) ρ' (.x D [.w d 0 c.length]) u:=by
  obtain⟨ti,z,R,T,L,hz,Y⟩:=he.info;have At:z.cells.size=k.cells:=by rw[Y];simpa using he.zlen
  have g:c=[]->(∃b o m,x= .slice (A ⟨b,o,G⟩) 0 m)\/x= .slice G 0 0->_:=fun J V=>by
    subst J;have:=hs.allocNil (d:=d) hd e k.cells
    refine(⟨.slice G 0 0,w,_,?_,this.1,this.2,YI (.w0 (QT _ _ _) rfl .nil)⟩: ∃u w' ρ',(Builtin.append_ #[t,t] tt #[.slice G 0 0,x]).run P w= .ok u w'/\HS w0 M ρ' (upd H d (A (.row e k.cells []))) w'/\
      Ext ρ H w ρ' (upd H d (A (.row e k.cells []))) w'/\ConcV w' (ow M ρ' (upd H d (A (.row e k.cells [])))) ρ' (.x D [.w d 0 0]) u)
    rcases V with⟨b,o,m,rfl⟩ | rfl
    · simp[Builtin.append_,E U,sizeOf,typeInfo,R,Builtin.lenOf,Builtin.firstCells,loadCells,loadCellsFrom]
    · simp[Builtin.append_,E U,sizeOf,typeInfo,R,Builtin.lenOf,Builtin.firstCells]
  rcases s.cell with⟨rfl,rfl⟩ | ⟨b,o,m,rfl,p⟩
  · exact g rfl (.inr rfl)
  · by_cases W:c.length=0
    · have X:c=[]:=Zy W;subst X;exact g rfl (.inl ⟨_,_,_,rfl⟩)
    · have hr:=run_append_nil (P:=P) w t tt e ti z U R hz ⟨b,o,G⟩ c.length m f (by rw[s.len,T]) (fun j u hu=>by rw[Jj];exact p j u hu) o3 o3 (by rw[L];omega);have Q:=grownCap_ge w c.length 0 e;have h:=hs.same (w':=w.drew) rfl rfl rfl rfl;have e1:c.length+(l w c.length 0 e-q c)=l w c.length 0 e:=o3
      have hS:(f.toArray++Builtin.zeroCells z.cells (l w c.length 0 e-q c)).size=l w c.length 0 e*k.cells:=by
        simp only[S.size_append,Zs,size_zeroCells,At,s.len,<-Zm,e1]
      obtain⟨ρ',a1,a2,a3⟩:=h.1.row (w':=w.drew.alloc (.cells (f.toArray++Builtin.zeroCells z.cells (l w c.length 0 e-q c)) e)) hd hS Q rfl rfl rfl rfl (fun i y J=>by
        have r:(f.toArray++Builtin.zeroCells z.cells (l w c.length 0 e-q c))=(f++(Builtin.zeroCells z.cells (l w c.length 0 e-q c)).toList).toArray:=by
          apply S.ext';simp
        rw[r,Wg c.length s.len (Zb.1 J).1]
        exact h.2.cc0 (s.el i y J))
      exact⟨_,_,ρ',hr,a1,h.2.trans a2,by simpa using a3 c.length (C.le_refl _)⟩

def ic (sz:C)(H:HP)(a:AV):J (C×B (B Ch)):=
  match a with
  | .x D [.v (.slice (A ⟨_,_,G⟩) 0 _)]=>A (sz,[])
  | a=>cI H a
theorem QF4 (g:HS w0 M ρ H w)(f:ConcV w (ow M ρ H) ρ a v){s sz:C}{y:B (B Ch)}(h:ic s H a=A (sz,y)): ∃e,VR w v sz y (ow M ρ H) e:=by
 unfold ic at h;split at h
 ·rename_i b o c;cases h
  obtain⟨rfl,_⟩:=ConcX.one f;exact⟨[],o6,o6,o6,.inr ⟨b,o,c,rfl,fun j v h=>by simp at h⟩⟩
 ·exact Hx g f h
def rC (b:TyI)(e d:C)(a x:AV)(H:HP)(K:KK):Prop:=
 match ic b.cells H x,H d with
 | some (s,y),G=>bif s.beq b.cells then(match a with
  | .x D [.v (.slice G 0 0)]=>(q y*b.bytes<=140737488355328/\y.length<=9223372036854775807)/\K (.x D [.w d 0 y.length]) (upd H d (A (.row e b.cells y)))
  | .x D [.w k 0 n]=>(match H k with
   | some (.row c f g)=>bif c.beq e&&f.beq b.cells then((n+q y)*b.bytes<=140737488355328/\n+q y<=9223372036854775807)/\
     K (.x D [.w d 0 (n+q y)]) (upd (upd H k (A .dead)) d (A (.row e b.cells (g.take n++y))))else I
   | _=>I)
  | _=>I)else I
 | _,_=>I
theorem QEP{e:C}{tt:Z}{g:TyI}(T:P.underlying t=A (.slice e))(S:JK P e g)(y:HS w0 M ρ H w){x:AV}{va vx:F}(Q:ConcV w (ow M ρ H) ρ a va)(hx:ConcV w (ow M ρ H) ρ x vx){K:KK}
  (h:rC g e d a x H K):
  ∃u w' ρ' f av,(Builtin.append_ #[t,t] tt #[va,vx]).run P w= .ok u w'/\HS w0 M ρ' f w'/\Ext ρ H w ρ' f w'/\ConcV w' (ow M ρ' f) ρ' av u/\K av f:=by
 unfold rC at h;split at h
 ·rename_i L ys q R;cases m:L.beq g.cells with
  | false=>rw[m]at h;exact h.elim
  | true=>
   rw[m]at h;simp only[R7]at h;have z:=Za m;subst z;obtain⟨V,c⟩:=QF4 y hx q;split at h
   ·obtain⟨rfl,_⟩:=ConcX.one Q;obtain⟨⟨j,l⟩,r⟩:=h;obtain⟨u,w',ρ',B,E,I,J⟩:=G4 (tt:=tt) T S y R c j l;exact⟨u,w',ρ',_,_,B,E,I,J,r⟩
   ·rename_i k n;split at h
    ·rename_i X sz xs r;cases b:(X.beq e&&sz.beq g.cells)with
     | false=>rw[b]at h;exact h.elim
     | true=>
      rw[b]at h;simp only[R7]at h;simp only[Zi]at b;have Y:=Za b.1;have e2:=Za b.2;subst Y e2;obtain⟨⟨j,l⟩,s⟩:=h;obtain⟨W,p,U⟩:=Q;simp at U;subst U;obtain⟨w',ρ',u,B,E,I,J⟩:=QFt (tt:=tt) T S y R r p c j l;exact⟨u,w',ρ',_,_,B,E,I,J,s⟩
    ·exact h.elim
   ·exact h.elim
 ·exact h.elim
inductive Qu (w:World)(O:C->Prop)(ρ:Env):B AV->B Value->Prop
 | nil:Qu w O ρ [] []
 | cons {a:AV} {as:B AV} {v:Value} {vs:B Value} (h:ConcV w O ρ a v) (t:Qu w O ρ as vs):Qu w O ρ (a::as) (v::vs)
def ZL (H:HP):AV->J AV
 | .x b c=>(U7 H c).map (AV.x b)
 | _=>G
def Vl (H:HP):B AV->J (B AV)
 | []=>A []
 | a::e=>match ZL H a,Vl H e with
  | some c,A b=>A (c::b)
  | _,_=>G
abbrev PR:=C->B AV->J ((AV->Prop)->Prop)
abbrev PM:=C->B AV->HP->C->J (KK->Prop)

def Y3:Env:=fun _=>G
def Spec (P:U)(g:C)(z:B F)(f:C)(j:B AV)(K:AV->Prop):Prop:=
  ∀w (O:C->Prop) vals,(∀b,O b->b<w.heap.size)->Tz w g z->Qu w O Y3 j vals->
    Calls P f vals.toArray w (fun e h=> ∃v c,e= .returned v/\K c/\ConcV h O Y3 c v/\Below w.heap.size w h)

def SpecM (P:U)(g:C)(z:B F)(f:C)(l:B AV)(H:HP)(K:KK):Prop:=
 ∀w0 M ρ w c,M.g=g->M.zb=z->HS w0 M ρ H w->Qu w (ow M ρ H) ρ l c->
  Calls P f c.toArray w (fun e j=> ∃v b h k,e= .returned v/\HS w0 M b h j/\Ext ρ H w b h j/\ConcV j (ow M b h) b k v/\K k h)
def G5 (P:U)(f:C):Prop:= ∀b w,(callFunc f b).run P w= .ok (.enter f b) w

structure dG (P:Program)(g:C)(zb:B Value)(pr:PR):Prop where
 enter: ∀f as T,pr f as=A T->G5 P f
 sound: ∀f as T,pr f as=A T-> ∀K,T K->Spec P g zb f as K
structure bQ (P:Program)(g:C)(zb:B Value)(pm:PM):Prop where
 enter: ∀f as H d T,pm f as H d=A T->G5 P f
 sound: ∀f as H d T,pm f as H d=A T-> ∀K,T K->SpecM P g zb f as H K
abbrev PX:=C->B AV->J ((AV->Prop)->Prop)
def kI (P:U)(p:PX):Prop:= ∀f b T,p f b=A T-> ∀K,T K-> ∀w (O:C->Prop) (ρ:Env) vals,Qu w O ρ b vals->
 ∃v c,(callFunc f vals.toArray).run P w= .ok (.value v) w/\ConcV w O ρ c v/\K c
def cn:B Ch->X
  | []=>N
  | .s .. ::_=>D
  | .y .. ::_=>D
  | .i .. ::_=>D
  | _::c=>cn c
def noS:AV->X
 | .x _ c=>cn c
 | .t l=>l.all fun p=>cn p.2
 | _=>N
def zeros (b:B AV):B (C×AV):=b.map fun a=>(0,a)
def Z0 (e:PR)(p:PM)(f d:C)(b:B AV)(H:HP)(K:KK):Prop:=
 match p f b H d with
 | some T=>T K
 | none=>match Vl H b with
  | some c=>match e f c with
   | some T=>T fun v=>K v (bif noS v then H else killParts H (zeros b))
   | none=>I
  | none=>I
theorem bH (c:HS w0 M ρ H w){b:C}(h:ow M ρ H b):b<w.heap.size:=by
 rcases h with h | ⟨k,l,e,f,g,j⟩
 ·exact Zn (c.zi.2.2.2 b h).1 c.size
 ·exact g▸(c.zh k l e f j).1
theorem HS.below (c:HS w0 M ρ H w){w':R}(f:Below w.heap.size w w'):HS w0 M ρ H w'/\Ext ρ H w ρ H w':=by
 have q:Ext ρ H w ρ H w':=⟨⟨f.size,fun b h _=>f.block b h⟩,fun _ _ h=>h,fun _ _ h=>h,fun _ h=>⟨rfl,h⟩⟩;refine⟨⟨f.os.trans c.os,f.tape.trans c.tape,f.output.trans c.output,C.le_trans c.size f.size,c.zi,fun b j l=>(f.block b (Zn j c.size)).trans (c.zj b j l),?_,c.zq,?_,c.ze⟩,q⟩
 ·intro k b p m;obtain⟨g,e,x⟩:=c.zc k b p m;exact⟨g,e,x.ext q (fun u s=>f.block _ (c.zh k g e u (by rw[p];exact s)).1)⟩
 ·intro k g j l r;have:=c.zh k g j l r;exact⟨Zn this.1 f.size,this.2⟩
def Z4 (i j:TyI)(a:AV)(H:HP)(K:AV->Prop):Prop:=
  match i.zd,j.zd,a with
  | .string,.slice _,.x D [.b m _]=>K (.x D [.s 1 ((QB m).map QW)])
  | _,_,_=>bD i j a H K

theorem QIL{s:C}{i j:TyI}(g:JK P s i)(I:JK P d j)(he: ∀e,i.zd= .slice e->P.underlying e=A (.int .u8))(hd: ∀e,j.zd= .slice e->P.underlying e=A (.int .u8))(E:HS w0 M ρ H w)(W:ConcV w (ow M ρ H) ρ a v){K:AV->Prop}(h:Z4 i j a H K):
  ∃u w' av,(y s d v).run P w= .ok u w'/\HS w0 M ρ H w'/\Ext ρ H w ρ H w'/\ConcV w' (ow M ρ H) ρ av u/\K av:=by
 unfold Z4 at h;split at h
 ·rename_i e m n U z;obtain⟨rfl,_⟩:=Wo W;have T:=run_bytes_of_string (P:=P) w s d e ⟨(QB m).toArray⟩ (by rw[g.zd,U]) (by rw[I.zd,z]) (hd e z);generalize hn:l w (L.size ⟨(QB m).toArray⟩) 0 e=c at T;have X:(QB m).length<=c:=by
   have:=grownCap_ge w (L.size ⟨(QB m).toArray⟩) 0 e;have Z:(⟨(QB m).toArray⟩:L).size=(QB m).length:=by show(QB m).toArray.size=_;simp
   omega
  generalize F:(w.drew.alloc (.cells (p ⟨(QB m).toArray⟩ c) e ((p ⟨(QB m).toArray⟩ c).size,(p ⟨(QB m).toArray⟩ c).size+1)))=w' at T;have b:w'.heap=w.heap.push (.cells (p ⟨(QB m).toArray⟩ c) e ((p ⟨(QB m).toArray⟩ c).size,(p ⟨(QB m).toArray⟩ c).size+1)):=by subst F;rfl
  have hb:Below w.heap.size w w':=⟨by subst F;rfl,by subst F;rfl,by subst F;rfl,by rw[b];simp,fun k hk=>by rw[b];simp[S.getElem?_push,C.ne_of_lt hk]⟩;obtain⟨k1,k2⟩:=E.below hb;refine⟨_,_,_,T,k1,k2,?_,h⟩;have q:((QB m).map QW).length=(QB m).length:=o6
  have Z:(⟨(QB m).toArray⟩:L).size=((QB m).map QW).length:=by show(QB m).toArray.size=_;simp
  rw[Z];have V:CC w' (ow M ρ H) ρ [.s 1 ((QB m).map QW)] [.slice (A ⟨w.heap.size,0,G⟩) ((QB m).map QW).length c]:=by
   refine .s (f:=fun i=>[.int .u8 (((QB m).getD i 0).toNat:Y)]) ⟨by rw[b];simp,fun ho=>C.lt_irrefl _ (bH E ho),fun i x B=>⟨rfl,fun j I=> ?_⟩⟩ (fun i x B=> ?_) o3 .nil
   ·have Q:j=0:=o3
    subst Q;have g:=(Zb.1 B).1;rw[q]at g;have r:w'.cell? ⟨w.heap.size,i,G⟩=(p ⟨(QB m).toArray⟩ c)[i]? :=by
     simp[R.cell?,b]
    rw[(o3:0+i*1+0=i),r];unfold p;rw[S.getElem?_append_left ((j9 g))];simp[Ya,g]
   ·have g:=(Zb.1 B).1;rw[q]at g;rw[Zt,Zj g]at B;cases B
    simp only[Ya,Zj g,J.getD_some];exact .v rfl .nil
  exact⟨_,V,rfl⟩
 ·obtain⟨u,av,h1,h2,h3⟩:=QIK g I he E W h;exact⟨u,w,av,h1,E,.refl _ _ _,h2,h3⟩
theorem QEm{O':C->Prop}{cs:B Ch}{vs:B F}(h:CC w O ρ cs vs):cn cs=N->CC w O' ρ cs vs:=by
 induction h with
 | nil=>exact fun _=> .nil
 | v g _ c=>exact fun h=> .v g (c h)
 | r k _ c=>exact fun h=> .r k (c h)
 | b k _ c=>exact fun h=> .b k (c h)
 | s0 _ c=>exact fun h=>by cases h
 | s00 _ c=>exact fun h=>by cases h
 | s _ _ _ _ _ c=>exact fun h=>by cases h
 | p g j _ c=>exact fun h=> .p g j (c h)
 | w g j l q x _ c=>exact fun h=> .w g j l q x (c h)
 | w0 g j _ c=>exact fun h=> .w0 g j (c h)
 | w00 g _ c=>exact fun h=> .w00 g (c h)
 | e g j _ c=>exact fun h=> .e g j (c h)
 | y _ _ _ _ c=>exact fun h=>by cases h
 | f g _ c=>exact fun h=> .f g (c h)
 | i=>exact fun h=>by cases h
 | m g j _ c=>exact fun h=> .m g j (c h)
 | yl g j _ c=>exact fun h=> .yl g j (c h)
 | u g _ c=>exact fun h=> .u g (c h)
theorem QSS{O':C->Prop}{av:AV}(h:ConcV w O ρ av v)(e:noS av=N):ConcV w O' ρ av v:=by
 cases av with
 | x b r=>obtain⟨c,g,f⟩:=h;exact⟨c,QEm g e,f⟩
 | t l=>
  obtain⟨q,g,f⟩:=h;refine⟨q,?_,f⟩;simp only[noS]at e;clear f;induction g with
  | nil=>exact .nil
  | cons j _ k=>
   simp only[B.all_cons,Zi]at e;obtain⟨c,m,p⟩:=j;exact .cons ⟨c,QEm m e.1,p⟩ (k e.2)
 | n=>exact h
 | u=>trivial
theorem xp: ∀{b c:B AV},Vl H b=A c-> ∀k∈XI (zeros b),∃t sz xs,H k=A (.row t sz xs):=by
 intro b;induction b with
 | nil=>intro c _ k hk;simp[zeros,XI]at hk
 | cons a b j=>
  intro c h k hk;simp only[Vl]at h;split at h
  ·rename_i e f;cases a with
   | x l m=>
    simp only[zeros,Yc,XI,Zz]at hk;simp only[ZL,Zf]at e;obtain⟨p,g,_⟩:=e;rcases hk with hk | hk
    ·exact VA g k hk
    ·exact j f k hk
   | _=>simp[ZL]at e
  ·cases h
theorem QCC (u:HS w0 M ρ H w){as0:B AV}(f: ∀k∈XI (zeros as0),∃t sz xs,H k=A (.row t sz xs)){g:B AV}{e:B F}(h:Qu w (ow M ρ H) ρ g e):
  ∀{j:B AV},(∀k∈XI (zeros g),k∈XI (zeros as0))->Vl H g=A j->Qu w (ow M ρ (Eng.killParts H (zeros as0))) Y3 j e:=by
 induction h with
 | nil=>intro j _ h;simp[Vl]at h;subst h;exact .nil
 | @cons a g v L r _ z=>
  intro j c h;simp only[Vl]at h;split at h
  ·rename_i l q;simp at h;subst h;cases a with
   | x E I=>
    simp only[ZL,Zf]at l;obtain⟨J,s,rfl⟩:=l;obtain⟨C,m,y⟩:=r;simp only[zeros,Yc,XI,Zz]at c;exact .cons ⟨C,xU u (b:=N) (fun k p=>c k (.inl p)) m s f,y⟩ (z (fun k p=>c k (.inr p)) q)
   | _=>simp[ZL]at l
  ·cases h
theorem Kf {R:PR}{Q:PM}(s:dG P M.g M.zb R)(r:bQ P M.g M.zb Q)(u:HS w0 M ρ H w){f:C}{l:B AV}{c:B F}(J:Qu w (ow M ρ H) ρ l c){K:KK}(h:Z0 R Q f d l H K):
  G5 P f/\Calls P f c.toArray w (fun e w'=> ∃v ρ' x av,e= .returned v/\HS w0 M ρ' x w'/\Ext ρ H w ρ' x w'/\ConcV w' (ow M ρ' x) ρ' av v/\K av x):=by
 unfold Z0 at h;split at h
 ·rename_i T m;exact⟨r.enter _ _ _ _ _ m,r.sound _ _ _ _ _ m K h w0 M ρ w c rfl rfl u J⟩
 ·split at h
  ·rename_i V p;split at h
   ·rename_i T m;have g:=xp p;obtain⟨L,U⟩:=u.killParts (parts:=zeros l) (fun k j=>let ⟨t,W,X,e⟩:=g k j;⟨_,e⟩);refine⟨s.enter _ _ _ m,(s.sound _ _ _ m _ h w (ow M ρ (Eng.killParts H (zeros l))) c (fun b y=>bH L y) u.globw (QCC u g J (fun _ h=>h) p)).mono ?_⟩;rintro e w' ⟨v,av,rfl,j,S,y⟩;have q:ConcV w' (ow M ρ (Eng.killParts H (zeros l))) ρ av v:=S.mono (.refl _ _) (fun _ _ h=>h) (fun _ _ h=>by cases h);cases I:noS av with
    | true=>
     rw[I]at j;obtain⟨z,E⟩:=u.below y;exact⟨v,ρ,H,av,rfl,z,E,QSS q I,j⟩
    | false=>
     rw[I]at j;obtain⟨z,E⟩:=L.below y;exact⟨v,ρ,_,av,rfl,z,U.trans E,q,j⟩
   ·exact h.elim
  ·exact h.elim
end Go.Eng
