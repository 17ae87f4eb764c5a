/- sturm: plain, chained, changes, zero, count, middle, halve, ready, Count, Fine. -/
import Derived.Test.YtmpfaflhpioaiaaGreatDoorIA
open _root_ renaming List → A, Rat → B, Int → F, Nat → H, True → I, OfNat → M
open Option renaming some → C, none → L
open Bool renaming false → D, true → G
open List renaming length → E, drop → P, take → S, map → Zh, getElem?_eq_getElem → Zg, take_of_length_le → Zn, mem_of_getElem? → Zo, getD_eq_getElem?_getD → Zp
open Int renaming ofNat → J, ofNat_eq_natCast → X
open Go.Eng.Ch renaming r → N, v → Q, s → T
open Go.IntKind renaming i64 → O
open Nat renaming le_refl → U, le_trans → Zq, zero_add → Zu, ble_eq_true_of_le → Zr
open Go.Value renaming int → Y, bool → Zt, string → Zm
open ByteArray renaming mk → Zc
open Array renaming mk → Ze
set_option maxHeartbeats 1000000
set_option maxRecDepth 100000
namespace Go.Proofs
open Go Go.Eng Tryz
def chE (p:A B):A Ch:=[.s 3 (lR 100000 p)]
def chN (c:A (A B)):A (A Ch):=c.map chE
def sC (c:A (A B)):AV:= .x D [.s 1 (chN c)]
theorem bW (c:A (A B)):(chN c).length=E c:=by simp[chN]
variable{c:A (A B)}{p:A B}
theorem cE{i:H}(h:c[i]? =C p):ldE (chN c) i 0 1=C [.s 3 (lR 100000 p)]:=by
 simp only[ldE,chN,A.getElem?_map,h];rfl
theorem sF:S c.length (chN c)++[[T 3 (lR 100000 p)]]=chN (c++[p]):=by
 rw[Zn (by rw[bW];exact U _)];simp[chN,chE]
theorem Qcj:S c.length (P 0 (chN c))=chN c:=by
 rw[A.drop_zero,Zn (by rw[bW];exact U _)]
theorem QkP (q:B):XY q=1\/XY q=0\/XY q= -1:=by
 unfold XY;split
 ·exact .inr (.inl rfl)
 ·split
  ·exact .inr (.inr rfl)
  ·exact .inl rfl
theorem Qck {w:B}(h:0<w):XY w=1:=by
 have a:w.num≠0:=fun e=>by rw[B.num_eq_zero.1 e]at h;exact absurd h o8
 have b:=B.num_nonneg.2 (B.le_of_lt h);unfold XY;rw[if_neg a,if_neg o3]
variable{q:A B}
theorem v9{R:A B×A B}(h:JJ p q=C R):1<=E q:=by
 cases q with
 | nil=>
  exfalso;unfold JJ at h;rw[show FU=99999+1 from rfl,Hr]at h;rw[show H.ble ([]:A B).length (QR p).length=G from Zr (H.zero_le _)]at h;simp only[R7]at h;obtain⟨c,a,_⟩:=bind_some h;unfold TI at a;rw[show((Ue ([]:A B)).num==0)=G from rfl]at a;cases a
 | cons x l=>simp
theorem QX6: ∀{n:H} {b r:A B} {R:A B×A B},Hr q n b r=C R->E R.1=E b/\R.2.length<=E r:=by
 intro n;induction n with
 | zero=>intro b r R h;cases h
 | succ n i=>
  intro b r R h;rw[Hr]at h;cases a:H.ble q.length r.length with
  | false=>rw[a]at h;cases h;exact⟨rfl,U _⟩
  | true=>
   rw[a]at h;obtain⟨c,_,h⟩:=bind_some h;obtain⟨f,d,h⟩:=bind_some h;obtain⟨k,e⟩:=i h;rw[A.length_set]at k;exact⟨k,Zq e (Zq (KY _) (H.le_of_eq (QXv d)))⟩
theorem U4{R:A B×A B}(h:JJ p q=C R):R.1.length<=E p/\R.2.length<=E p:=by
 have a:=v9 h;obtain⟨k,b⟩:=QX6 h;rw[A.length_replicate]at k;have:=KY p;omega
theorem Qcl {d:B}: ∀{l a r:A B},scF d l a=C r->E r=E a+E l:=by
 intro l;induction l with
 | nil=>intro a r h;cases h;simp
 | cons x l i=>
  intro a r h;rw[scF]at h;obtain⟨u,_,h⟩:=bind_some h;rw[i h];simp;omega
theorem cL{r:A B}(h:JZ p=C r):r.length=E p:=by
 have:=Qcl h;simpa using this
theorem QX7: ∀{l a r:A B} {i:H},Hq l i a=C r->E r=E a+E l:=by
 intro l;induction l with
 | nil=>intro a r i h;cases h;simp
 | cons x l b=>
  intro a r i h;rw[Hq]at h;obtain⟨u,_,h⟩:=bind_some h;rw[b h];simp;omega
theorem nh{d:A B}(h:Tn p=C d): ∃a,Hq (p.drop 1) 1 []=C a/\d=QR a/\d.length<=E p:=by
 unfold Tn at h;cases b:Hq (p.drop 1) 1 []with
 | none=>rw[b]at h;cases h
 | some a=>
  rw[b]at h;cases h
  refine⟨a,rfl,rfl,?_⟩;have:=QX7 b;have:=KY a;simp at*;omega
theorem Qh6: ∀{n:H} {c R:A (A B)} {q:A B},chF n c q=C R->1<=E c->(∀p∈c,E p<=1000)->E q<=1000->(1<=E R/\R.length<=E c+n)/\ ∀p∈R,E p<=1000:=by
 intro n;induction n with
 | zero=>intro c R q h;cases h
 | succ n k=>
  intro c R q h e a t;rw[chF]at h;cases b:H.ble 1 q.length with
  | false=>rw[b]at h;cases h;exact⟨⟨e,o3⟩,a⟩
  | true=>
   rw[b]at h;obtain⟨s,g,h⟩:=bind_some h;obtain⟨r,d,h⟩:=bind_some h;obtain⟨x,hx⟩: ∃x,c[E c-1]? =C x:=⟨_,Zg o3⟩
   have j:=a x (Zo hx);rw[Zp,hx]at d;have f:=(U4 d).2;have i:=cL g
   obtain⟨⟨l,m⟩,o⟩:=k h o6 (fun p hp=>by
    rcases A.mem_append.1 hp with hp | hp
    ·exact a p hp
    ·simp at hp;subst hp;omega) (by simp at f|-;omega)
   refine⟨⟨l,?_⟩,o⟩;simp at m;omega
variable{R:A (A B)}
theorem QNM(h:Wn p=C R)(e:p.length<=1000):(1<=E R/\R.length<=200000)/\ ∀p∈R,E p<=1000:=by
 unfold Wn at h;obtain⟨d,b,h⟩:=bind_some h;obtain⟨_,_,_,i⟩:=nh b;obtain⟨⟨f,k⟩,g⟩:=Qh6 h o6 (fun q a=>by simp at a;subst a;exact e) o3;unfold FU at k;simp at k;exact⟨⟨f,o3⟩,g⟩
theorem zP(h:JE p=C R):(1<=(QR p).length/\(QR p).length<=13)/\ ∃d g r s,(Tn (QR p)=C d/\Sx FU (QR p) d=C g)/\JJ (QR p) g=C r/\JZ (QR r.1)=C s/\s.length<=13/\Wn s=C R:=by
 unfold JE at h;cases b:H.beq (QR p).length 0 with
 | true=>rw[b]at h;cases h
 | false=>
  rw[b]at h;cases e:H.ble (QR p).length 13 with
  | false=>rw[e]at h;cases h
  | true=>
   rw[e]at h;obtain⟨s,a,h⟩:=bind_some h;unfold QXn at a;obtain⟨d,j,a⟩:=bind_some a;obtain⟨g,k,a⟩:=bind_some a;obtain⟨r,f,a⟩:=bind_some a;have m:=cL a;have o:=KY r.1;have t:=(U4 f).1;have i:=H.le_of_ble_eq_true e;refine⟨⟨?_,i⟩,d,g,r,s,⟨j,k⟩,f,a,o3,h⟩;cases l:(QR p).length with
   | zero=>rw[l]at b;cases b
   | succ n=>omega
theorem rJ(h:JE p=C R):(1<=E R/\R.length<=200000)/\ ∀p∈R,E p<=1000:=by
 obtain⟨_,d,g,r,s,_,_,_,b,a⟩:=zP h;exact QNM a o3
theorem zJ(h:1<=E c): ∃p,c[0]? =C p/\c.getD 0 []=p:=by
 obtain⟨x,hx⟩: ∃x,c[0]? =C x:=⟨_,Zg o3⟩
 exact⟨x,hx,by rw[Zp,hx];rfl⟩
structure dO where
 n:H
 a:A B
 b:A B
def Qcn (p g:A B):LI:=fun _=> .inv ⟨dO,fun e=>⟨[(0,sR 100000 p),(3,sR 100000 e.a),(4,sR 100000 e.b)],[]⟩,fun e=>(E e.a<=1000/\e.b.length<=1000)/\Sx e.n e.a e.b=C g,fun e=>e.n,fun _=>0⟩
def QKH (p:A B)(_d:A B)(g:A B)(_r:A B×A B)(_s:A B)(K:AV->Prop):Prop:=QN QeX (oF f163) (Qcn p g) f163 [sR 100000 p] K
theorem QKI (p:A B)(d:A B)(g:A B)(r:A B×A B)(s:A B)(K:AV->Prop):QKH p d g r s K=(∃(h:A B)(a:A B),lR 100000 p=lR 100000 h/\(E h<=1000/\Hq (P 1 h) 1 []=C a)/\(∃(x:dO),(((E x.a<=1000/\x.b.length<=1000)/\Sx x.n x.a x.b=C g)/\M.ofNat 0=0)/\3=3/\lR 100000 p=lR 100000 p/\3=3/\lR 100000 p=lR 100000 x.a/\3=3/\lR 100000 (QR a)=lR 100000 x.b/\I)/\∀(x:dO),(E x.a<=1000/\x.b.length<=1000)/\Sx x.n x.a x.b=C g->M.ofNat 0=0->bif decide (J (lR 100000 x.b).length>0)then ∃(b:A B)(q:A B)(R:A B×A B),lR 100000 x.a=lR 100000 b/\lR 100000 x.b=lR 100000 q/\((E b<=1000/\1<=E q/\q.length<=1000)/\JJ b q=C R)/\∃(e:A B)(a:A B),lR 100000 x.b=lR 100000 e/\(E e<=1000/\JZ e=C a)/\∃(f:dO),(((E f.a<=1000/\f.b.length<=1000)/\Sx f.n f.a f.b=C g)/\M.ofNat 0=0/\f.n<x.n)/\3=3/\lR 100000 p=lR 100000 p/\3=3/\lR 100000 a=lR 100000 f.a/\3=3/\lR 100000 R.2=lR 100000 f.b/\I else ∃(b:A B)(q:A B)(R:A B×A B),lR 100000 p=lR 100000 b/\lR 100000 x.a=lR 100000 q/\((E b<=1000/\1<=E q/\q.length<=1000)/\JJ b q=C R)/\∃(p:A B),lR 100000 R.1=lR 100000 p/\p.length<=1000/\∃(e:A B)(a:A B),S (QR p).length (P 0 (Zh (fun(q:B)=>[N q 100000]) (QR p)))=lR 100000 e/\(E e<=1000/\JZ e=C a)/\K (AV.x D [T 3 (lR 100000 a)])):=o4
theorem QkR (p:A B)(d:A B)(g:A B)(r:A B×A B)(s:A B)(v:(E p<=1000)/\((Tn p=C d/\Sx FU p d=C g)/\JJ p g=C r/\JZ (QR r.1)=C s))(K:AV->Prop)(u:K (sR 100000 s)):QM (QKH p d g r s K):=by
 refine⟨?_⟩;rw[QKI];try simp only[X,R0,R1,R4]
 obtain⟨e,⟨w,y⟩,k,z⟩:=v;obtain⟨b,t,rfl,F⟩:=nh w;refine⟨p,b,rfl,⟨e,t⟩,⟨⟨FU,p,QR b⟩,⟨⟨e,o5⟩,y⟩,rfl,rfl⟩,fun x ⟨⟨j,l⟩,a⟩=>QE (fun h=> ?_) (fun h=> ?_)⟩
 ·have h:1<=E x.b:=by have:=R5 h;rw[Qw]at this;omega
  cases f:x.n with
  | zero=>rw[f]at a;cases a
  | succ n=>
   rw[f,Sx,Zr h]at a;simp only[R7]at a;obtain⟨R,m,a⟩:=bind_some a;obtain⟨o,i,a⟩:=bind_some a;exact⟨x.a,x.b,R,rfl,rfl,⟨⟨j,h,l⟩,m⟩,x.b,o,rfl,⟨l,i⟩,⟨n,o,R.2⟩,⟨⟨⟨by simp only;rw[cL i];exact l,Zq (U4 m).2 j⟩,a⟩,o5⟩,rfl,rfl⟩
 ·have h:x.b.length=0:=by have:=R6 h;rw[Qw]at this;omega
  cases f:x.n with
  | zero=>rw[f]at a;cases a
  | succ n=>
   rw[f,Sx,h]at a;have a:C x.a=C g:=a;have a:=Option.some.inj a;rw[a];rw[a]at j;exact⟨p,g,r,rfl,rfl,⟨⟨e,v9 k,j⟩,k⟩,r.1,rfl,Zq (U4 k).1 e,QR r.1,s,Vi rfl,⟨Zq (KY _) (Zq (U4 k).1 e),z⟩,u⟩
def lB:Ctr
 | [.x D [.s 3 x]]=>C fun K=> ∃(p:A B) (d:A B) (g:A B) (r:A B×A B) (s:A B),x=lR 100000 p/\((E p<=1000)/\((Tn p=C d/\Sx FU p d=C g)/\JJ p g=C r/\JZ (QR r.1)=C s))/\(K (sR 100000 s))
 | _=>L
theorem Qh7:QH 163 lB:=by
 refine okL func163 fun l a b K h=> ?_
 unfold lB at b;split at b<;>cases b
 obtain⟨p,d,g,r,s,rfl,e,h⟩:=h;exact spL Qci QK func163 (QkR _ _ _ _ _ e K h)
def kr:LC:=(163,lB)::nK
theorem QPC:QF kr:= .cons Qh7 uO
structure ChX where
 n:H
 i:H
 c:A (A B)
 q:A B
 r:A B
def tg (c:A (A B)):Blk:= .row 42 1 (chN c)
def Qco (R:A (A B)):LI:=fun i=>
 bif i.beq 3 then .invf [501] ⟨ChX,fun e=>⟨[(3,.x D [.w 500 0 e.c.length]),(4,sR 100000 e.q)],[(500,tg e.c)]⟩,fun e=>((1<=E e.c/\e.c.length+e.n<=FU+2)/\e.q.length<=1000/\ ∀p∈e.c,E p<=1000)/\chF e.n e.c e.q=C R,fun e=>e.n,fun _=>0⟩
 else .inv ⟨ChX,fun e=>⟨[(3,.x D [.w 500 0 e.c.length]),(4,.x D [.w 501 0 e.i]),(39,sR 100000 e.r),(40,iA .i64 e.r.length),(41,iA .i64 e.i)],[(500,tg e.c),(501,YU 100000 ((e.r.map fun x=> -x).take e.i))]⟩,
  fun e=>(((1<=E e.c/\e.c.length+e.n<=FU+2)/\e.r.length<=1000/\ ∀p∈e.c,E p<=1000)/\e.i<=E e.r)/\chF e.n e.c (e.r.map fun x=> -x)=C R,fun e=>E e.r-e.i,fun e=>e.n+1⟩
def PT(a:ChX):=a.c.length
def PO(a:A B):=lR 100000 a
def PV(a:B):=N a 100000
def PW(a:A B):=E a<=1000
def PU(a b:A (A B)):=chN a=chN b
def Pd(a:ChX):=a.r.length
def Pf(a:A B->A (A B)):=∀(z:A B),z∈a z->PW z
def Pc(a b:ChX):=Zh (fun(z:B)=>[PV z]) (S a.i (Zh (fun(y:B)=>-y) b.r))
def Pg(a b c:ChX):=1<=PT a/\PT b+c.n<=100002
def Pe:=M.ofNat 0=0
def Pl(a b:ChX)(c:A B):=S (PT a) (chN b.c)++[[T 3 (PO c)]]
def Pr(a b c d:ChX)(e:A B->ChX)(f g h i j:ChX)(k:A (A B)):=((Pg a b c/\PW d.r/\Pf (fun z=>(e z).c))/\f.i<=Pd g)/\chF h.n i.c (Zh (fun(y:B)=>-y) j.r)=C k
def Pp(a:ChX):=O.wrap (J (PT a+1)-1)
def Ps(a:ChX):=O.wrap (J (PT a+1)-2)
theorem QkT (p:A B)(R:A (A B))(hc:(E p<=1000)/\(Wn p=C R))(K:AV->Prop)(hK:K (sC R)):QM (QN (mkT kr Ww X4) (oF f162) (Qco R) f162 [sR 100000 p] K):=by
 refine HV (∃(k f:A B),PO p=PO k/\(PW k/\Hq (P 1 k) 1 []=C f)/\(∃(x:ChX),(((Pg x x x/\PW x.q/\Pf (fun p=>x.c))/\chF x.n x.c x.q=C R)/\Pe)/\0=0/\1=PT x/\3=3/\PO (QR f)=PO x.q/\42=42/\1=1/\([[T 3 (PO p)]]=chN x.c\/QC [[T 3 (PO p)]] (chN x.c))/\I)/\∀(x:ChX),(Pg x x x/\PW x.q/\Pf (fun p=>x.c))/\chF x.n x.c x.q=C R->Pe->bif decide (J (PO x.q).length>0)then∃(p f:A B),PO x.q=PO p/\(PW p/\JZ p=C f)/\((PT x+1)*24<=140737488355328/\PT x+1<=9223372036854775807)/\(0<=Ps x/\Ps x<J (PT x+1))/\∃(ys:A (A Ch)),ldE (Pl x x f) (0+(Ps x).toNat) 0 1=C [T 3 ys]/\(0<=Pp x/\Pp x<J (PT x+1))/\∃(h:A (A Ch)),ldE (Pl x x f) (0+(Pp x).toNat) 0 1=C [T 3 h]/\∃(p q:A B)(i:A B×A B),ys=PO p/\h=PO q/\((PW p/\1<=E q/\PW q)/\JJ p q=C i)/\((0:F)=0/\(0:F)=0/\(0:F)=0)/\(∃(a:ChX),(Pr a a a a (fun p=>a) a a a a a R/\a.n+1=x.n)/\0=0/\PT x+1=PT a/\0=0/\0=a.i/\3=3/\PO i.2=PO a.r/\J (PO i.2).length=J (Pd a)/\0=J a.i/\42=42/\1=1/\(Pl x x f=chN a.c\/QC (Pl x x f) (chN a.c))/\25=25/\3=3/\([]=Pc a a\/QC [] (Pc a a))/\I)/\∀(a:ChX),Pr a a a a (fun p=>a) a a a a a R->a.n+1=x.n->bif decide (J a.i<J (Pd a))then(0<=J a.i/\J a.i<J (PO a.r).length)/\∃(q:B)(n:H),ldE (PO a.r) (J a.i).toNat 0 3=C [N q n]/\n<=100000/\((a.i+1)*40<=140737488355328/\a.i+1<=9223372036854775807)/\∃(b:ChX),(Pr b b b b (fun p=>b) b b b b b R/\b.n+1=x.n/\Pd b-b.i<Pd a-a.i)/\0=0/\PT a=PT b/\0=0/\a.i+1=b.i/\3=3/\PO a.r=PO b.r/\J (Pd a)=J (Pd b)/\O.wrap (J a.i+1)=J b.i/\42=42/\1=1/\(PU a.c b.c\/QC (chN a.c) (chN b.c))/\25=25/\3=3/\(S a.i (Pc a a)++[[PV (-q)]]=Pc b b\/QC (S a.i (Pc a a)++[[PV (-q)]]) (Pc b b))/\I else∃(b:ChX),(((Pg b b b/\PW b.q/\Pf (fun p=>b.c))/\chF b.n b.c b.q=C R)/\M.ofNat 0=0/\b.n<x.n)/\0=0/\PT a=PT b/\3=3/\S a.i (P 0 (Pc a a))=PO b.q/\42=42/\1=1/\(PU a.c b.c\/QC (chN a.c) (chN b.c))/\I else K (AV.x D [T 1 (S (PT x) (P 0 (chN x.c)))])) ?_
 delta PT PO PV PW PU Pd Pf Pc Pg Pe Pl Pr Pp Ps
 try simp only[X,R0,R1,Zu,R4]
 obtain⟨hl,t⟩:=hc;unfold Wn at t;obtain⟨d,hd,t⟩:=bind_some t;obtain⟨f,h1,rfl,h2⟩:=nh hd;refine⟨p,f,rfl,⟨hl,h1⟩,⟨⟨FU,0,[p],QR f,[]⟩,⟨⟨⟨o6,by simp only[A.length_singleton,FU];omega⟩,o5,fun q hq=>by simp at hq;subst hq;exact hl⟩,t⟩,rfl,rfl,.inl rfl⟩,fun x ⟨⟨⟨a1,a2⟩,a3,W⟩,g⟩=>QE (fun j=> ?_) (fun j=> ?_)⟩
 ·have j:1<=E x.q:=by have:=R5 j;rw[Qw]at this;omega
  cases o:x.n with
  | zero=>rw[o]at g;cases g
  | succ n=>
   rw[o,chF,Zr j]at g;simp only[R7]at g;obtain⟨s,hs,g⟩:=bind_some g;obtain⟨r,z,g⟩:=bind_some g;obtain⟨l,hl'⟩: ∃l,x.c[E x.c-1]? =C l:=⟨_,Zg o3⟩
   rw[Zp,hl']at z;have v:O.wrap (((E x.c+1:H):F)-2)=((E x.c-1:H):F):=by rw[w64 o3];omega
   have w:O.wrap (((E x.c+1:H):F)-1)=((E x.c:H):F):=by rw[w64 o3];omega
   have el:=W l (Zo hl');have es:=cL hs;have u:=(U4 z).2;have u:r.2.length<=1000:=Zq u el;rw[v,w];simp only[F.toNat_natCast];refine⟨x.q,s,rfl,⟨a3,hs⟩,⟨o3,o3⟩,⟨o3,o3⟩,lR 100000 l,?_,⟨o3,o3⟩,lR 100000 s,?_,l,s,r,rfl,rfl,⟨⟨el,o3,o3⟩,z⟩,⟨⟨n,0,x.c++[s],[],r.2⟩,⟨⟨⟨⟨⟨o6,o9⟩,u,fun q hq=> ?_⟩,H.zero_le _⟩,g⟩,by simp only⟩,o6,rfl,rfl,by rw[Qw],rfl,.inl sF,.inl o6⟩,fun y ⟨⟨⟨⟨Z,b2⟩,b3,b4⟩,b5⟩,bv⟩ V=>QE (fun m=> ?_) (fun m=> ?_)⟩
   ·rw[sF];exact cE (by rw[A.getElem?_append_left o3];exact hl')
   ·rw[sF];exact cE (by rw[A.getElem?_append_right (U _),H.sub_self];rfl)
   ·rcases A.mem_append.1 hq with hq | hq
    ·exact W q hq
    ·simp at hq;subst hq;omega
   ·have m:y.i<E y.r:=(j7 m)
    obtain⟨q,hq⟩: ∃q,y.r[y.i]? =C q:=⟨_,Zg o3⟩
    refine⟨by rw[Qw];omega,q,100000,Xd hq,o3,⟨o3,o3⟩,⟨y.n,y.i+1,y.c,[],y.r⟩,⟨⟨⟨⟨⟨Z,b2⟩,b3,b4⟩,o5⟩,bv⟩,V,o5⟩,rfl,rfl,rfl,rfl,by rw[w64 o3];simp,.inl rfl,.inl ?_⟩;rw[Zn o9,A.take_add_one,A.getElem?_map,hq,A.map_append];rfl
   ·have m:y.i=E y.r:=(j8 m)
    have e:S y.i (Zh (fun x=> -x) y.r)=Zh (fun x=> -x) y.r:=Zn o9;refine⟨⟨y.n,0,y.c,y.r.map fun x=> -x,[]⟩,⟨⟨⟨⟨Z,b2⟩,by simp only[A.length_map];exact b3,b4⟩,bv⟩,o5⟩,rfl,?_,.inl rfl⟩;rw[e];exact Vi o9
 ·have j:x.q.length=0:=by have:=R6 j;rw[Qw]at this;omega
  cases o:x.n with
  | zero=>rw[o]at g;cases g
  | succ n=>
   rw[o,chF,j]at g;have g:C x.c=C R:=g;have g:=Option.some.inj g;rw[Qcj,g];exact hK
def iB:Ctr
 | [.x D [.s 3 x]]=>C fun K=> ∃(p:A B) (R:A (A B)),x=lR 100000 p/\((E p<=1000)/\(Wn p=C R))/\(K (sC R))
 | _=>L
theorem Qh8:QH 162 iB:=by
 refine okL func162 fun l a b K h=> ?_
 unfold iB at b;split at b<;>cases b
 obtain⟨p,R,rfl,d,h⟩:=h;exact spL (QP QPC YC Qb) QK func162 (QkT _ _ d K h)
def gF:LC:=(162,iB)::kr
theorem QPD:QF gF:= .cons Qh8 QPC
structure CgX where
 i:H
 k:F
 l:F
def QYC (c:A (A B))(x:B)(n:H)(R:F):LI:=fun i=>
 bif i.beq 3 then .inv ⟨CgX,fun e=>⟨[(0,sC c),(3,.x D [.p 3 0]),(5,iA .i64 e.k),(6,iA .i64 e.l),(10,sC c),(11,iA .i64 c.length),(12,iA .i64 e.i)],[(3,.box 25 [.r x n])]⟩,fun e=>(e.i<=E c/\(0<=e.k/\e.k<=e.i)/\ -1<=e.l/\e.l<=1)/\S2 x (c.drop e.i) e.k e.l=C R,fun e=>E c-e.i,fun _=>0⟩
 else bif i.beq 8 then .cut ⟨CgX×F,fun e=>⟨[(0,sC c),(3,.x D [.p 3 0]),(5,iA .i64 e.1.k),(6,iA .i64 e.1.l),(9,iA .i64 e.2),(10,sC c),(11,iA .i64 c.length),(12,iA .i64 e.1.i)],[(3,.box 25 [.r x n])]⟩,fun e=>(e.1.i<E c/\(0<=e.1.k/\e.1.k<=e.1.i+1)/\(-1<=e.1.l/\e.1.l<=1)/\ -1<=e.2/\e.2<=1)/\S2 x (c.drop (e.1.i+1)) e.1.k (bif e.2==0 then e.1.l else e.2)=C R,fun _=>0,fun e=>E c-e.1.i⟩
 else .no
abbrev QYD (c:A (A B))(x:B)(n:H)(R:F)(K:AV->Prop):Prop:=(((E c<=200000/\n<=100000)/\ ∀p∈c,E p<=1000)/\(Uf c x=C R))/\((0<=R/\R<=E c)->K (iA .i64 R))
def PS(a:CgX):=J a.i
def PY(a:A (A B)):=J a.length
def PZ(a:A (A B))(b:CgX):=E a-b.i
def Pq(a b c d:CgX×F):=(-1<=a.1.l/\b.1.l<=1)/\ -1<=c.2/\d.2<=1
theorem Qh9 (c:A (A B))(x:B)(n:H)(R:F)(K:AV->Prop)(k:QYD c x n R K):QM (QN (mkT gF Ww X4) (oF f164) (QYC c x n R) f164 [sC c,rA x n] K):=by
  obtain⟨Z,k⟩:=k;refine HV ((∃(a:CgX),(((a.i<=E c/\(0<=a.k/\a.k<=PS a)/\ -1<=a.l/\a.l<=1)/\S2 x (P a.i c) a.k a.l=C R)/\Pe)/\1=1/\PU c c/\0=0/\0=a.k/\0=a.l/\1=1/\PU c c/\J (chN c).length=PY c/\0=PS a/\25=25/\x=x/\n<=n/\I)/\∀(a:CgX),(a.i<=E c/\(0<=a.k/\a.k<=PS a)/\ -1<=a.l/\a.l<=1)/\S2 x (P a.i c) a.k a.l=C R->Pe->bif decide (PS a<PY c)then(0<=PS a/\PS a<J (chN c).length)/\∃(w:A (A Ch)),ldE (chN c) (PS a).toNat 0 1=C [T 3 w]/\∃(p:A B)(r:B),w=PO p/\((PW p/\n<=100000)/\Tb p x=C r)/\100000<=4294967296/\(bif decide (O.wrap (XY r*a.l)<0)then∃(v:CgX×F),(((v.1.i<E c/\(0<=v.1.k/\v.1.k<=PS v.1+1)/\Pq v v v v)/\S2 x (P (v.1.i+1) c) v.1.k (bif v.2 ==0 then v.1.l else v.2)=C R)/\PZ c v.1=PZ c a)/\1=1/\PU c c/\0=0/\O.wrap (a.k+1)=v.1.k/\a.l=v.1.l/\XY r=v.2/\1=1/\PU c c/\PY c=PY c/\PS a=PS v.1/\25=25/\x=x/\n<=n/\I else∃(u:CgX×F),(((u.1.i<E c/\(0<=u.1.k/\u.1.k<=PS u.1+1)/\Pq u u u u)/\S2 x (P (u.1.i+1) c) u.1.k (bif u.2 ==0 then u.1.l else u.2)=C R)/\PZ c u.1=PZ c a)/\1=1/\PU c c/\0=0/\a.k=u.1.k/\a.l=u.1.l/\XY r=u.2/\1=1/\PU c c/\PY c=PY c/\PS a=PS u.1/\25=25/\x=x/\n<=n/\I)/\∀(b:CgX×F),(b.1.i<E c/\(0<=b.1.k/\b.1.k<=PS b.1+1)/\Pq b b b b)/\S2 x (P (b.1.i+1) c) b.1.k (bif b.2 ==0 then b.1.l else b.2)=C R->PZ c b.1=PZ c a->bif b.2 !=0 then∃(z:CgX),(((z.i<=E c/\(0<=z.k/\z.k<=PS z)/\ -1<=z.l/\z.l<=1)/\S2 x (P z.i c) z.k z.l=C R)/\M.ofNat 0=0/\PZ c z<PZ c a)/\1=1/\PU c c/\0=0/\b.1.k=z.k/\b.2=z.l/\1=1/\PU c c/\PY c=PY c/\O.wrap (PS b.1+1)=PS z/\25=25/\x=x/\n<=n/\I else∃(y:CgX),(((y.i<=E c/\(0<=y.k/\y.k<=PS y)/\ -1<=y.l/\y.l<=1)/\S2 x (P y.i c) y.k y.l=C R)/\M.ofNat 0=0/\PZ c y<PZ c a)/\1=1/\PU c c/\0=0/\b.1.k=y.k/\b.1.l=y.l/\1=1/\PU c c/\PY c=PY c/\O.wrap (PS b.1+1)=PS y/\25=25/\x=x/\n<=n/\I else K (AV.x D [Q (Y O a.k)])) ?_
  delta PO PW PS PU PY PZ Pe Pq
  try simp only[X,R0,R1,U,R4]
  obtain⟨⟨⟨hl,hn⟩,hp⟩,W⟩:=Z;simp only[bW,R0];refine⟨⟨⟨0,0,0⟩,⟨⟨H.zero_le _,⟨o8,o8⟩,o8,o8⟩,W⟩,rfl,rfl,rfl⟩,fun e ⟨⟨h1,⟨l,h3⟩,m,o⟩,f⟩=>QE (fun h=> ?_) (fun h=> ?_)⟩
  · have h:e.i<E c:=(j7 h)
    obtain⟨q,hq⟩: ∃q,c[e.i]? =C q:=⟨_,Zg o3⟩
    have S:c.drop e.i=q::c.drop (e.i+1):=by
      rw[A.drop_eq_getElem_cons h];congr 1;rw[Zg h]at hq;exact Option.some.inj hq
    rw[S,S2]at f;obtain⟨r,hr,f⟩:=bind_some f;have sb:=QkP r;have V:O.wrap (XY r*e.l)=XY r*e.l:=by rcases sb with s | s | s<;>rw[s]<;>rw[w64 o3]
    rw[F.toNat_natCast];refine⟨o3,_,cE hq,q,r,rfl,⟨⟨hp q (Zo hq),hn⟩,hr⟩,o3,⟨by rw[V];refine QE (fun d=> ?_) (fun d=> ?_);exact(by rw[d]at f;exact⟨⟨⟨e.i,e.k+1,e.l⟩,XY r⟩,⟨⟨⟨h,⟨o5,o5⟩,⟨m,o⟩,o5,o5⟩,f⟩,rfl⟩,by rw[w64 o3],rfl,rfl,rfl⟩);exact(by rw[d]at f;exact⟨⟨⟨e.i,e.k,e.l⟩,XY r⟩,⟨⟨⟨h,⟨l,o5⟩,⟨m,o⟩,o5,o5⟩,f⟩,rfl⟩,rfl,rfl,rfl,rfl⟩),fun y ⟨⟨y1,⟨t,y3⟩,⟨y4,y5⟩,y6,y7⟩,i⟩ yt=>QE (fun d=> ?_) (fun d=> ?_)⟩⟩
    · have j:(y.2==0)=D:=by
        cases g:y.2==0 with
        | false=>rfl
        | true=>simp at g;rw[g]at d;cases d
      rw[j]at i;exact⟨⟨y.1.i+1,y.1.k,y.2⟩,⟨⟨⟨o5,⟨t,o5⟩,y6,y7⟩,i⟩,o5⟩,rfl,rfl,by rw[w64 o3];simp⟩
    · have j:(y.2==0)=G:=by
        cases g:y.2==0 with
        | true=>rfl
        | false => have : (y.2 != 0) = G := by simp only [bne, g]; rfl
                   rw[this]at d;cases d
      rw[j]at i;exact⟨⟨y.1.i+1,y.1.k,y.1.l⟩,⟨⟨⟨o5,⟨t,o5⟩,y4,y5⟩,i⟩,o5⟩,rfl,rfl,by rw[w64 o3];simp⟩
  · have h:c.length<=e.i:=(j8 h)
    rw[A.drop_eq_nil_of_le h]at f;cases f
    exact k ⟨l,o3⟩
def iy:Ctr
 | [.x D [.s 1 a],.x G [.r x n]]=>C fun K=> ∃(c:A (A B)) (R:F),a=chN c/\QYD c x n R K
 | _=>L
theorem Qcp:QH 164 iy:=by
 refine okL func164 fun l a b K h=> ?_
 unfold iy at b;split at b<;>cases b
 obtain⟨c,R,rfl,h⟩:=h;exact spL (QP QPD YC Qb) QK func164 (Qh9 _ _ _ _ K h)
def gQ:LC:=(164,iy)::gF
theorem QPE:QF gQ:= .cons Qcp QPD
def xP (c:A (A B))(x:B)(n:H)(_R:Bool)(K:AV->Prop):Prop:=QN (mkT gQ Ww X4) (oF f165) noL f165 [sC c,rA x n] K
theorem QEc (c:A (A B))(x:B)(n:H)(R:Bool)(K:AV->Prop):xP c x n R K=(((0:F)<=0/\0<J (chN c).length)/\∃(y:A (A Ch)),ldE (chN c) 0 0 1=C [T 3 y]/\∃(p:A B)(r:B),y=lR 100000 p/\((E p<=1000/\n<=100000)/\Tb p x=C r)/\100000<=4294967296/\K (AV.x D [Q (Zt (XY r==0))])):=o4
theorem Qcq (c:A (A B))(x:B)(n:H)(R:Bool)(f:((1<=E c/\n<=100000)/\ ∀p∈c,E p<=1000)/\(W0 c x=C R))(K:AV->Prop)(d:K (.x D [.v (.bool R)])):QM (xP c x n R K):=by
 refine⟨?_⟩;rw[QEc];try simp only[X]
 obtain⟨⟨⟨b,j⟩,k⟩,h⟩:=f;obtain⟨q,a,i⟩:=zJ b;unfold W0 at h;rw[i]at h;obtain⟨e,g,h⟩:=bind_some h;cases h
 exact⟨by rw[bW];omega,_,cE a,q,e,rfl,⟨⟨k q (Zo a),j⟩,g⟩,o3,d⟩
def mV:Ctr
 | [.x D [.s 1 a],.x G [.r x n]]=>C fun K=> ∃(c:A (A B)) (R:Bool),a=chN c/\(((1<=E c/\n<=100000)/\ ∀p∈c,E p<=1000)/\(W0 c x=C R))/\(K (.x D [.v (.bool R)]))
 | _=>L
theorem QYF:QH 165 mV:=by
 refine okL func165 fun l a b K h=> ?_
 unfold mV at b;split at b<;>cases b
 obtain⟨c,R,rfl,d,h⟩:=h;exact spL (QP QPE YC Qb) QK func165 (Qcq _ _ _ _ d K h)
def kC:LC:=(165,mV)::gQ
theorem QPF:QF kC:= .cons QYF QPE
def zS (c:A (A B))(s:Sp)(_R:F)(K:AV->Prop):Prop:=QN (mkT kC Ww X4) (oF f138) noL f138 [sC c,.x G [.r s.lo 100000,.r s.hi 100000]] K
theorem QHv (c:A (A B))(s:Sp)(R:F)(K:AV->Prop):zS c s R K=(∃(b:A (A B))(R:F),chN c=chN b/\(((E b<=200000/\100000<=100000)/\∀(p:A B),p∈b->E p<=1000)/\Uf b s.lo=C R)/\(0<=R/\R<=J b.length->∃(d:A (A B))(a:F),chN c=chN d/\(((E d<=200000/\100000<=100000)/\∀(p:A B),p∈d->E p<=1000)/\Uf d s.hi=C a)/\(0<=a/\a<=J d.length->∃(e:A (A B))(f:Bool),chN c=chN e/\(((1<=E e/\100000<=100000)/\∀(p:A B),p∈e->E p<=1000)/\W0 e s.lo=C f)/\bif f then K (AV.x D [Q (Y O (O.wrap (O.wrap (R-a)+1)))])else K (AV.x D [Q (Y O (O.wrap (R-a)))])))):=o4
theorem QiA (c:A (A B))(s:Sp)(R:F)(n:((1<=E c/\c.length<=200000)/\ ∀p∈c,E p<=1000)/\(Jp c s=C R))(K:AV->Prop)(g:K (iA .i64 R)):QM (zS c s R K):=by
 refine⟨?_⟩;rw[QHv];try simp only[X,R1,U]
 obtain⟨⟨⟨i,f⟩,d⟩,h⟩:=n;unfold Jp at h;obtain⟨a,j,h⟩:=bind_some h;obtain⟨b,l,h⟩:=bind_some h;obtain⟨z,e,h⟩:=bind_some h;cases h
 refine⟨c,a,rfl,⟨⟨f,d⟩,j⟩,fun k=>⟨c,b,rfl,⟨⟨f,d⟩,l⟩,fun m=>⟨c,z,rfl,⟨⟨i,d⟩,e⟩,?_⟩⟩⟩;rw[w64 (by omega: -9223372036854775808<=a-b/\a-b<9223372036854775808),w64 o3];cases z with
 | true=>exact g
 | false=>exact g
def qe:Ctr
 | [.x D [.s 1 x],.x G y]=>C fun K=> ∃(c:A (A B)) (s:Sp) (R:F),x=chN c/\y=[.r s.lo 100000,.r s.hi 100000]/\(((1<=E c/\c.length<=200000)/\ ∀p∈c,E p<=1000)/\(Jp c s=C R))/\(K (iA .i64 R))
 | _=>L
theorem Qcr:QH 138 qe:=by
 refine okL func138 fun l a b K h=> ?_
 unfold qe at b;split at b<;>cases b
 obtain⟨c,s,R,rfl,rfl,d,h⟩:=h;exact spL (QP QPF YC Qb) QK func138 (QiA _ _ _ d K h)
def mQ:LC:=(138,qe)::kC
theorem QPG:QF mQ:= .cons Qcr QPF
abbrev xL (x:F)(y:F)(K:AV->Prop):Prop:=(((-9223372036854775808<=x/\x<9223372036854775808)/\ -9223372036854775808<=y/\y<9223372036854775808)/\((y:B)≠0))/\(K (.t [(G,[.r ((x:B)/(y:B)) 100000]),(D,[.v (.int .i64 0)])]))
def Pm(a:AV->Prop)(b:A Ch)(c:F):=a (AV.t [(G,b),(D,[Q (Y O c)])])
def Ph:F:=-9223372036854775808
def Po(a b c:F):=a<=b/\c<9223372036854775808
theorem Qcs (x:F)(y:F)(K:AV->Prop)(h:xL x y K):QM (QN (mkT mQ Ww X4) (oF f59) noL f59 [iA .i64 x,iA .i64 y] K):=by
 obtain⟨e,h⟩:=h;refine HV (Po Ph x x/\Po Ph y y/\200000<=4294967296/\∃(r:B),TI ↑x ↑y=C r/\Pm K [PV r] 0) ?_
 delta PV Pm Ph Po
 try simp only[X,R0,R1,Zu,U,R4,R2,R3]
 obtain⟨⟨f,g⟩,d⟩:=e;have i:(2:H)^64=18446744073709551616:=o8
 have a:Bd 64 (x:B):=uV o3 o8;have b:Bd 64 (y:B):=uV o3 o8;exact⟨f,g,o3,_,Qcb a b d o3,h⟩
def rT:Ctr
 | [.x D [.v (.int .i64 x)],.x D [.v (.int .i64 y)]]=>C fun K=>xL x y K
 | _=>L
theorem QYI:QH 59 rT:=by
 refine okL func59 fun l a h K b=> ?_
 unfold rT at h;split at h<;>cases h
 exact spL (QP QPG YC Qb) QK func59 (Qcs _ _ K b)
def iT:LC:=(59,rT)::mQ
theorem xu:QF iT:= .cons QYI QPG
theorem QiB (s:Sp)(_hc:I)(K:AV->Prop)(b: ∃R,Ge s=C R/\K (rA R 100000)):QM (QN (mkT iT Ww X4) (oF f166) noL f166 [.x G [.r s.lo 100000,.r s.hi 100000]] K):=by
 refine HV (((Po (Ph:F) 1 (1:F)/\(Ph:F)<=2/\(2:F)<9223372036854775808)/\(↑(2:F):B)≠M.ofNat 0)/\200001<=4294967296/\∃(r:B),VM s.lo s.hi=C r/\200000<=4294967296/\∃(a:B),JX ((↑(1:F):B)/(↑(2:F):B)) r=C a/\K (AV.x G [PV a])) ?_
 delta PV Ph Po
 try simp only[X,R0,R1,Zu,U,R4,R2,R3]
 obtain⟨R,h,b⟩:=b;unfold Ge at h;obtain⟨m,d,h⟩:=bind_some h;exact⟨⟨⟨o3,o3⟩,j5⟩,o3,m,d,o3,R,h,b⟩
def mL:Ctr
 | [.x G y]=>C fun K=> ∃(s:Sp),y=[.r s.lo 100000,.r s.hi 100000]/\(I)/\(∃R,Ge s=C R/\K (rA R 100000))
 | _=>L
theorem Qct:QH 166 mL:=by
 refine okL func166 fun l a b K h=> ?_
 unfold mL at b;split at b<;>cases b
 obtain⟨s,rfl,d,h⟩:=h;exact spL (QP xu YC Qb) QK func166 (QiB _ d K h)
def gI:LC:=(166,mL)::iT
theorem QPJ:QF gI:= .cons Qct xu
def QBE (c:A (A B))(s:Sp)(_R:Sp)(K:AV->Prop):Prop:=QN (mkT gI Ww X4) (oF f139) noL f139 [sC c,.x G [.r s.lo 100000,.r s.hi 100000]] K
theorem QD5 (c:A (A B))(s:Sp)(R:Sp)(K:AV->Prop):QBE c s R K=(∃(d:Sp),[N s.lo 100000,N s.hi 100000]=[N d.lo 100000,N d.hi 100000]/\I/\∃(R:B),Ge d=C R/\∃(b:A (A B))(f:Bool),chN c=chN b/\(((1<=E b/\100000<=100000)/\∀(p:A B),p∈b->E p<=1000)/\W0 b R=C f)/\bif f then 100000<=2000000000/\K (AV.x G [N R 100000,N R 100000])else ∃(a:A (A B))(e:Sp)(g:F),chN c=chN a/\[N s.lo 100000,N R 100000]=[N e.lo 100000,N e.hi 100000]/\(((1<=E a/\a.length<=200000)/\∀(p:A B),p∈a->E p<=1000)/\Jp a e=C g)/\bif g==1 then K (AV.x G [N s.lo 100000,N R 100000])else K (AV.x G [N R 100000,N s.hi 100000])):=o4
theorem QYL (c:A (A B))(s:Sp)(R:Sp)(i:((1<=E c/\c.length<=200000)/\ ∀p∈c,E p<=1000)/\(KV c s=C R))(K:AV->Prop)(b:K (.x G [.r R.lo 100000,.r R.hi 100000])):QM (QBE c s R K):=by
 refine⟨?_⟩;rw[QD5];try simp only[R0,R1,U]
 obtain⟨⟨⟨e,g⟩,f⟩,h⟩:=i;unfold KV at h;obtain⟨m,j,h⟩:=bind_some h;obtain⟨z,d,h⟩:=bind_some h;refine⟨s,rfl,m,j,c,z,rfl,⟨⟨e,f⟩,d⟩,QE (fun a=> ?_) (fun a=> ?_)⟩
 ·rw[a]at h;cases h
  exact⟨o3,b⟩
 ·rw[a]at h;obtain⟨n,k,h⟩:=bind_some h;refine⟨c,⟨s.lo,m⟩,n,rfl,rfl,⟨⟨⟨e,g⟩,f⟩,k⟩,QE (fun a=> ?_) (fun a=> ?_)⟩
  ·rw[a]at h;cases h
   exact b
  ·rw[a]at h;cases h
   exact b
def gm:Ctr
 | [.x D [.s 1 x],.x G y]=>C fun K=> ∃(c:A (A B)) (s:Sp) (R:Sp),x=chN c/\y=[.r s.lo 100000,.r s.hi 100000]/\(((1<=E c/\c.length<=200000)/\ ∀p∈c,E p<=1000)/\(KV c s=C R))/\(K (.x G [.r R.lo 100000,.r R.hi 100000]))
 | _=>L
theorem QRz:QH 139 gm:=by
 refine okL func139 fun l a b K h=> ?_
 unfold gm at b;split at b<;>cases b
 obtain⟨c,s,R,rfl,rfl,d,h⟩:=h;exact spL (QP QPJ YC Qb) QK func139 (QYL _ _ _ d K h)
def gZ:LC:=(139,gm)::gI
theorem vd:QF gZ:= .cons QRz QPJ
def wF (p:A B)(_R:A (A B))(K:AV->Prop):Prop:=QN (mkT gZ Ww X4) (oF f137) noL f137 [sR 100000 p] K
theorem QD7 (p:A B)(R:A (A B))(K:AV->Prop):wF p R K=(∃(a:A B),lR 100000 p=lR 100000 a/\a.length<=1000/\bif J (QR a).length==0 then K (AV.t [(D,[Q (Value.slice L 0 0)]),(D,[Q (Y O 12)])])else bif decide (J (QR a).length>13)then K (AV.t [(D,[Q (Value.slice L 0 0)]),(D,[Q (Y O 2)])])else ∃(p:A B)(d:A B)(g:A B)(r:A B×A B)(s:A B),S (QR a).length (P 0 (Zh (fun(q:B)=>[N q 100000]) (QR a)))=lR 100000 p/\(E p<=1000/\(Tn p=C d/\Sx 100000 p d=C g)/\JJ p g=C r/\JZ (QR r.1)=C s)/\∃(p:A B)(R:A (A B)),lR 100000 s=lR 100000 p/\(E p<=1000/\Wn p=C R)/\K (AV.t [(D,[T 1 (chN R)]),(D,[Q (Y O 0)])])):=o4
theorem QYN (p:A B)(R:A (A B))(i:(E p<=1000)/\(JE p=C R))(K:AV->Prop)(e:K (.t [(D,[.s 1 (chN R)]),(D,[.v (.int .i64 0)])])):QM (wF p R K):=by
 refine⟨?_⟩;rw[QD7];try simp only[X]
 obtain⟨k,f⟩:=i;obtain⟨⟨b,n⟩,d,g,r,s,j,l,m,o,a⟩:=zP f;refine⟨p,rfl,k,QE (fun h=> ?_) (fun h=>QE (fun h=> ?_) (fun h=> ?_))⟩
 ·simp at h;rw[h]at b;simp at b
 ·have:=R5 h;omega
 ·exact⟨QR p,d,g,r,s,Vi rfl,⟨o3,j,l,m⟩,s,R,rfl,⟨o3,a⟩,e⟩
def p8:Ctr
 | [.x D [.s 3 x]]=>C fun K=> ∃(p:A B) (R:A (A B)),x=lR 100000 p/\((E p<=1000)/\(JE p=C R))/\(K (.t [(D,[.s 1 (chN R)]),(D,[.v (.int .i64 0)])]))
 | _=>L
theorem QR0:QH 137 p8:=by
 refine okL func137 fun l a b K h=> ?_
 unfold p8 at b;split at b<;>cases b
 obtain⟨p,R,rfl,d,h⟩:=h;exact spL (QP vd YC Qb) QK func137 (QYN _ _ d K h)
def lT:LC:=(137,p8)::gZ
theorem QPL:QF lT:= .cons QR0 vd
def QBG (p:A B)(s:Sp)(_R:F)(K:AV->Prop):Prop:=QN (mkT lT Ww X4) (oF f133) noL f133 [sR 100000 p,.x G [.r s.lo 100000,.r s.hi 100000]] K
theorem QD9 (p:A B)(s:Sp)(R:F)(K:AV->Prop):QBG p s R K=(∃(a:A B)(R:A (A B)),lR 100000 p=lR 100000 a/\(E a<=1000/\JE a=C R)/\(400000<=4294967290/\s.lo<=s.hi/\s.lo<=s.hi)/\∃(c:A (A B))(b:Sp)(d:F),chN R=chN c/\[N (Qx s.lo s.lo) 100000,N (Q6 s.hi s.hi) 100000]=[N b.lo 100000,N b.hi 100000]/\(((1<=E c/\c.length<=200000)/\∀(p:A B),p∈c->E p<=1000)/\Jp c b=C d)/\K (AV.t [(D,[Q (Y O d)]),(D,[Q (Y O 0)])])):=o4
theorem QYP (p:A B)(s:Sp)(R:F)(a:(E p<=1000/\s.lo<=s.hi)/\(Hs p s=C R))(K:AV->Prop)(d:K (.t [(D,[.v (.int .i64 R)]),(D,[.v (.int .i64 0)])])):QM (QBG p s R K):=by
 refine⟨?_⟩;rw[QD9];try simp only[X,R0,R1,Zu,U,R4,R2,R3]
 obtain⟨⟨f,b⟩,h⟩:=a;unfold Hs at h;obtain⟨c,a,h⟩:=bind_some h;have e:=rJ a;rw[YR,show Q6 s.hi s.hi=s.hi by unfold Q6;split<;>rfl];exact⟨p,c,rfl,⟨f,a⟩,⟨o3,b,b⟩,c,s,R,rfl,rfl,⟨e,h⟩,d⟩
def gX:Ctr
 | [.x D [.s 3 x],.x G y]=>C fun K=> ∃(p:A B) (s:Sp) (R:F),x=lR 100000 p/\y=[.r s.lo 100000,.r s.hi 100000]/\((E p<=1000/\s.lo<=s.hi)/\(Hs p s=C R))/\(K (.t [(D,[.v (.int .i64 R)]),(D,[.v (.int .i64 0)])]))
 | _=>L
theorem QR1:QH 133 gX:=by
 refine okL func133 fun l a b K h=> ?_
 unfold gX at b;split at b<;>cases b
 obtain⟨p,s,R,rfl,rfl,d,h⟩:=h;exact spL (QP QPL YC Qb) QK func133 (QYP _ _ _ d K h)
def nE:LC:=(133,gX)::lT
theorem u4:QF nE:= .cons QR1 QPL
def QR2 (c:A (A B))(w:B)(R:Sp):LI:=fun _=> .inv ⟨H×Sp,fun e=>⟨[(4,.x D [.p 4 0]),(5,.x D [.p 5 0]),(6,.x D [.p 6 0]),(8,sC c)],[(4,.box 113 [.r e.2.lo 100000,.r e.2.hi 100000]),(5,.box 25 [.r w 100000]),(6,.box 113 (Xm++Xm))]⟩,fun e=>HM c w e.1 e.2=C R,fun e=>e.1,fun _=>0⟩
abbrev QPN (p:A B)(c:A (A B))(s:Sp)(w:B)(R:Sp)(K:AV->Prop):Prop:=(((E p<=1000/\s.lo<=s.hi)/\JE p=C c)/\(0<w/\aS p s w=C R))/\(K (.t [(G,[.r R.lo 100000,.r R.hi 100000]),(D,[.v (.int .i64 0)])]))
def Pt:=Zc (Ze [])
def Pb:=Pt=Pt
def Pa:=Q (Zm Pt)
def Pn:=D=D
def Pk:=100000<=100000
def Pj:=Q (Zt D)
theorem Qcu (p:A B)(c:A (A B))(s:Sp)(w:B)(R:Sp)(K:AV->Prop)(z:QPN p c s w R K):QM (QN (mkT nE Ww X4) (oF f98) (QR2 c w R) f98 [sR 100000 p,.x G [.r s.lo 100000,.r s.hi 100000],rA w 100000] K):=by
  obtain⟨v,z⟩:=z;refine HV (∃(m:A B)(j:A (A B)),PO p=PO m/\(PW m/\JE m=C j)/\100000<=4294967296/\bif decide (XY w<=0)then Pm K [Pj,Pa,Pa,Pj,Pa,Pa] 1 else(400000<=4294967290/\s.lo<=s.hi/\s.lo<=s.hi)/\∃(f:A (A B))(o:Sp)(u:F),PU j f/\[PV (Qx s.lo s.lo),PV (Q6 s.hi s.hi)]=[PV o.lo,PV o.hi]/\(((1<=E f/\f.length<=200000)/\Pf (fun p=>f))/\Jp f o=C u)/\bif u !=1 then Pm K [Pj,Pa,Pa,Pj,Pa,Pa] 4 else(∃(x:H×Sp),(HM c w x.1 x.2=C R/\Pe)/\0=0/\0=0/\0=0/\1=1/\PU j c/\113=113/\Qx s.lo s.lo=x.2.lo/\Pk/\Q6 s.hi s.hi=x.2.hi/\Pk/\25=25/\w=w/\100000<=100000/\113=113/\Pn/\Pb/\Pb/\Pn/\Pb/\Pb/\I)/\∀(x:H×Sp),HM c w x.1 x.2=C R->Pe->200001<=4294967296/\∃(r:B),K5 x.2.hi x.2.lo=C r/\200000<=4294967296/\bif decide (YY r w>0)then∃(g:A (A B))(s l:Sp),PU c g/\[PV x.2.lo,PV x.2.hi]=[PV s.lo,PV s.hi]/\(((1<=E g/\g.length<=200000)/\Pf (fun p=>g))/\KV g s=C l)/\∃(y:H×Sp),(HM c w y.1 y.2=C R/\M.ofNat 0=0/\y.1<x.1)/\0=0/\0=0/\0=0/\1=1/\PU c c/\113=113/\l.lo=y.2.lo/\Pk/\l.hi=y.2.hi/\Pk/\25=25/\w=w/\100000<=100000/\113=113/\Pn/\Pb/\Pb/\Pn/\Pb/\Pb/\I else Pm K [PV x.2.lo,PV x.2.hi] 0) ?_
  delta PO Pt PV PW PU Pf Pb Pa Pe Pm Pn Pk Pj
  try simp only[R0,R1,U,R4]
  obtain⟨⟨⟨Z,V⟩,v⟩,hw,i⟩:=v;unfold aS at i;rw[v]at i;obtain⟨c',P,i⟩:=bind_some i;cases P
  obtain⟨n,hn,i⟩:=bind_some i;have S:=rJ v;rw[YR,show Q6 s.hi s.hi=s.hi by unfold Q6;split<;>rfl];refine⟨p,c,rfl,⟨Z,v⟩,o3,QE (fun a=> ?_) (fun _=>⟨⟨o3,V,V⟩,c,s,n,rfl,rfl,⟨S,hn⟩,QE (fun a=> ?_) (fun a=>⟨⟨(FU,s),?_,rfl,rfl,rfl⟩,fun x b=>⟨o3,?_⟩⟩)⟩)⟩
  · have:=R5 a;rw[Qck hw]at this;omega
  · have e:(n==1)=D:=by
      cases h:n==1 with
      | false=>rfl
      | true=>simp at h;subst h;cases a
    rw[e]at i;cases i
  · have e:(n==1)=G:=by
      cases h:n==1 with
      | true=>rfl
      | false => have : (n != 1) = G := by simp only [bne, h]; rfl
                 rw[this]at a;cases a
    rw[e]at i;exact i
  · obtain⟨k,t⟩:=x;cases k with
    | zero=>cases b
    | succ k=>
      have b:HM c w (k+1) t=C R:=b;rw[HM]at b;obtain⟨d,X,b⟩:=bind_some b;refine⟨d,X,o3,QE (fun a=> ?_) (fun a=> ?_)⟩
      · have a:w<d:=by
          have:=R5 a;exact B.not_le.1 fun e=>by have:=(Jh d w).2 e;omega
        rw[decide_eq_true a]at b;obtain⟨W,ht,b⟩:=bind_some b;exact⟨c,t,W,rfl,rfl,⟨S,ht⟩,(k,W),⟨b,H.lt_succ_self k⟩,rfl,rfl⟩
      · have a: ¬w<d:=by
          have:=R6 a;exact B.not_lt.2 ((Jh d w).1 o3)
        rw[decide_eq_false a]at b;cases b
        exact z
def sJ:Ctr
 | [.x D [.s 3 x],.x G y,.x G z]=>C fun K=> ∃(p:A B) (c:A (A B)) (s:Sp) (w:B) (R:Sp),x=lR 100000 p/\y=[.r s.lo 100000,.r s.hi 100000]/\z=[.r w 100000]/\QPN p c s w R K
 | _=>L
theorem QYR:QH 98 sJ:=by
 refine okL func98 fun l a b K h=> ?_
 unfold sJ at b;split at b<;>cases b
 obtain⟨p,c,s,w,R,rfl,rfl,rfl,h⟩:=h;exact spL (QP u4 YC Qb) QK func98 (Qcu _ _ _ _ _ K h)
def aU:LC:=(98,sJ)::nE
noncomputable def QeY:Qd:=mkT aU Ww X4
theorem eY:QF aU:= .cons QYR u4
theorem Qcv:Qr QeY:=QP eY YC Qb
end Go.Proofs
