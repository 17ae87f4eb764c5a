/- path: measure. -/
import Derived.Test.YtmpfaflhpioaiaaGreatDoorPH1
open _root_ renaming List → A, Int → B, Nat → C, Rat → F, True → G, Option → J
open Option renaming some → D, none → H
open Bool renaming false → E
open Int renaming ofNat → I, ofNat_eq_natCast → Zn, toNat_natCast → Zo
open List renaming length → L, mem_of_getElem? → Zh, getElem?_eq_some_iff → Zi, map → Zb, getElem?_eq_getElem → Zk, eq_nil_of_length_eq_zero → Zm
open Go.Eng.Ch renaming v → O, s → S, r → Zj, m → Zp
open Go.IntKind renaming i64 → Q
open Go.Value renaming bool → Zg, int → Zd, string → Zf
set_option maxHeartbeats 2000000
set_option maxRecDepth 100000
namespace Go.Proofs
open Go Go.Eng Tryz
def spE (l:A B):A Ch:=[.s 1 (ints l)]
def Kp (b:A (A B)):Blk:= .row 22 1 (b.map spE)
def FN (s:B)(f:B->J B)(l:A B):J C:=(f (numV s l)).map B.toNat
def EdS (a:ArmV)(ws:A (A (F×F)))(s:B)(u v:A B):Prop:=OkS s a.za.length u/\AdjS s u v/\frV a ws s v u=true
def NS (a:ArmV)(s:B):C:=((s+1)^a.za.length).toNat
structure BmX where
 f:B->J B
 n:C
 row:A (A B)
 c:C
 p:C
 nx:A (A B)
 u:A B
 i:C
 v:B
 j:C
 w:A B
structure BmO (a:ArmV)(ws:A (A (F×F)))(s:B)(g:A B)(x:BmX):Prop where
 zr:Bfs (EdS a ws s) g (OkS s a.za.length) (FN s x.f) x.n x.row
 nn: ∀k v,x.f k=D v->0<=v
 lv:x.row≠[]->x.n+K4 x.f (NS a s)<=NS a s
 rl:x.row.length<=NS a s
def bmP (x:BmX)(u v:A B):Prop:=u∈x.row.take x.p\/(u=x.u/\ ∃i y w,x.u[i]? =D y/\((w=y-1/\(i<x.i\/(i=x.i/\0<x.j)))\/(w=y+1/\(i<x.i\/(i=x.i/\1<x.j))))/\v=x.u.set i w)
structure BmM (a:ArmV)(ws:A (A (F×F)))(s:B)(g:A B)(P:BmX->A B->A B->Prop)(x:BmX):Prop where
 zr:Sz (EdS a ws s) g (OkS s a.za.length) (FN s x.f) x.n x.row x.nx (P x)
 nn: ∀k v,x.f k=D v->0<=v
 lv:x.n+x.c<=NS a s+1
 ct:K4 x.f (NS a s)+L x.nx+1<=x.c
 rl:x.row.length<=NS a s
 p:x.p<=x.row.length
def Ti (x:BmX)(u _v:A B):Prop:=u∈x.row.take x.p
structure BmI (a:ArmV)(ws:A (A (F×F)))(s:B)(g:A B)(x:BmX):Prop where
 all:BmM a ws s g bmP x
 u:x.row[x.p]? =D x.u
 i:x.i<=x.u.length
structure BmJ (a:ArmV)(ws:A (A (F×F)))(s:B)(g:A B)(x:BmX):Prop where
 all:BmM a ws s g bmP x
 u:x.row[x.p]? =D x.u
 v:x.u[x.i]? =D x.v
 j:x.j<=2
structure BmK (a:ArmV)(ws:A (A (F×F)))(s:B)(g:A B)(x:BmX):Prop where
 all:BmJ a ws s g x
 j1:x.j<2
 r:0<=rsW x.v x.j/\rsW x.v x.j<=s
 w:x.w=x.u.set x.i (rsW x.v x.j)
def bmQ (a:ArmV)(s:B)(x:BmX):C:=(x.c*(NS a s+1)+L x.row)*(NS a s+1)+(NS a s-x.p)
def bmC (a:ArmV)(s:B)(x:BmX):C:=(bmQ a s x*(NS a s+1)+(numV s x.u).toNat)*16+(L x.u-x.i)*3+(2-x.j)
def bmT (b:A B):A (C×AV):=[(2,.x E [.s 1 (ints b)]),(3,.x E [.p 3 0])]
def mZ (b:A B)(x:BmX):A (C×AV):=(7,.x E [.p 7 0])::(26,.x E [.w 500 0 x.row.length])::(27,iA .i64 x.row.length)::(28,iA .i64 x.p)::bmT b
def bmH (a:ArmV)(m:C)(ws:A (A (F×F)))(s:B)(x:BmX):A (C×Blk):=[(3,.box 80 [.p 1000 0]),(1000,seB a m ws s (.m 6000)),(6000,.mp x.f)]
def zT (a:ArmV)(m:C)(ws:A (A (F×F)))(s:B)(x:BmX):A (C×Blk):=(7,.box 88 [.w 501 0 x.nx.length])::(500,Kp x.row)::(501,Kp x.nx)::bmH a m ws s x
def fJ (a:ArmV)(m:C)(ws:A (A (F×F)))(s:B)(x:BmX):A (C×Blk):=(9,.box 22 [.s 1 (ints x.u)])::(40,.box 3 [.v (.int .i64 s)])::(1040,.box 22 [.s 1 (ints x.u)])::zT a m ws s x
def Qj7 (a:ArmV)(m:C)(ws:A (A (F×F)))(s:B)(g b:A B):Inv:=⟨BmX,fun x=>⟨(6,.x E [.w 500 0 x.row.length])::bmT b,(500,Kp x.row)::bmH a m ws s x⟩,BmO a ws s g,fun x=>K4 x.f (NS a s)+min x.row.length 1,fun _=>0⟩
def Qj8 (a:ArmV)(m:C)(ws:A (A (F×F)))(s:B)(g b:A B):Inv:=⟨BmX,fun x=>⟨mZ b x,zT a m ws s x⟩,BmM a ws s g Ti,bmQ a s,fun x=>x.c⟩
def Qk9 (a:ArmV)(m:C)(ws:A (A (F×F)))(s:B)(g b:A B):Inv:=⟨BmX,fun x=>⟨(9,.x E [.p 9 0])::(40,.x E [.f 109 [1040,40]])::mZ b x,fJ a m ws s x⟩,fun x=>BmM a ws s g Ti x/\x.row[x.p]? =D x.u,fun _=>0,bmQ a s⟩
def QlA (a:ArmV)(m:C)(ws:A (A (F×F)))(s:B)(g:A B)(q:C):Inv:=⟨BmX,fun x=>⟨bX 900 1040 40 x.u x.i,(900,.lp 0)::fJ a m ws s x⟩,fun x=>BmI a ws s g x/\x.j=0/\bmQ a s x=q,fun x=>L x.u-x.i,fun _=>0⟩
def QlB (a:ArmV)(m:C)(ws:A (A (F×F)))(s:B)(g:A B)(q:C):Inv:=⟨BmX,fun x=>⟨fg x.i x.v 820 x.j++bX 900 1040 40 x.u x.i,(900,.lp 0)::(820,YV [x.v-1,x.v+1])::fJ a m ws s x⟩,fun x=>BmJ a ws s g x/\bmQ a s x=q,bmC a s,fun x=>L x.u-x.i⟩
def Qj9 (a:ArmV)(m:C)(ws:A (A (F×F)))(s:B)(g b:A B):Inv:=⟨BmX,fun x=>⟨(12,.x E [.v (.bool (x.f (numV s x.w)).isSome)])::(10,.x E [.s 1 (ints x.w)])::(9,.x E [.p 9 0])::mZ b x,(900,.lp 1)::(820,YV [x.v-1,x.v+1])::fJ a m ws s x⟩,BmK a ws s g,fun _=>0,bmC a s⟩
def QXP (a:ArmV)(m:C)(ws:A (A (F×F)))(s:B)(g c:A B):LI:=fun b=>
 bif b.beq 3 then .inv (Qj7 a m ws s g c)
 else bif b.beq 6 then .inv (Qj8 a m ws s g c)
 else bif b.beq 10 then .it (Qk9 a m ws s g c) [] 900 Qj5 (fun d b=>bif b.beq 1 then .inv (QlA a m ws s g (bmQ a s d))else .inv (QlB a m ws s g (bmQ a s d)))
 else bif b.beq 12 then .cutf [43] (Qj9 a m ws s g c)
 else .no
structure FdS (a:ArmV)(ws:A (A (F×F)))(s:B)(g fr:A B)(f:B->J B):Prop where
 found:Found (EdS a ws s) g (OkS s a.za.length) (FN s f) fr
 nn: ∀k v,f k=D v->0<=v
theorem Qhh (x:B)(_hc:G)(K:AV->Prop)(h:K (.x E [.v (.bool E)])):QM (QN QcE (oF f149) noL f149 [iA .i64 x] K):=by
 refine HV (K (AV.x E [O (Zg (x !=x))])) ?_
 try simp only[Zn,R0,R1,C.zero_add,C.le_refl,R4,R2,R3]
 rw[(o6:(x !=x)=E)];exact h
def pQ:Ctr
 | [.x E [.v (.int .i64 _x)]]=>D fun K=>(G)/\(K (.x E [.v (.bool E)]))
 | _=>H
theorem QcG:QH 149 pQ:=by
 refine okL func149 fun l T b K h=> ?_
 unfold pQ at b;split at b<;>cases b
 obtain⟨c,h⟩:=h;exact spL k7 QK func149 (Qhh _ c K h)
def ik:LC:=(149,pQ)::aX
theorem tX:QF ik:= .cons QcG dJ
def Mx(a:B):A Ch:=[O (Zd Q a)]
def NB(a b:B)(c d:Prop):=bif decide (a<b)then c else d
def NF(a:AV->Prop)(b:B):=a (AV.x E (Mx b))
theorem Qhi (x:B)(y:B)(_hc:G)(K:AV->Prop)(h: ∀r:B,K (iA .i64 r)):QM (QN (mkTP ik ZK X4) (oF f111) noL f111 [iA .i64 x,iA .i64 y] K):=by
 refine HV (G/\G/\NB x y (NF K (-1)) (bif decide (x>y)then NF K 1 else NF K 0)) ?_
 delta Mx NB NF
 try simp only[R0]
 exact QE (fun _=>h _) (fun _=>QE (fun _=>h _) (fun _=>h _))
def ko:Ctr
 | [.x E [.v (.int .i64 _x)],.x E [.v (.int .i64 _y)]]=>D fun K=>(G)/\(∀r:B,K (iA .i64 r))
 | _=>H
theorem QcH:QH 111 ko:=by
 refine okL func111 fun l T b K h=> ?_
 unfold ko at b;split at b<;>cases b
 obtain⟨c,h⟩:=h;exact spL (az tX bw Qb) QK func111 (Qhi _ _ c K h)
def pk:LC:=(111,ko)::ik
theorem QO0:QF pk:= .cons QcH tX
def Mt(a b:C):=I a=I b
def Mp(a b:A B):=ints a=ints b
def Mu:C:=OfNat.ofNat 0
def M3(a:B)(b:C):=Q.wrap (a+1)=I b
def NI(a:A B):=I (ints a).length
theorem QcI (l:A B)(m:A B)(n:(L l<=1000/\m.length<=1000))(K:AV->Prop)(h: ∀r:B,K (iA .i64 r)):QM (QN (mkTP pk ZK X4) (oF f69) (fun _=> .inv ⟨C,fun i=>⟨[(0,.x E [.s 1 (ints l)]),(1,.x E [.s 1 (ints m)]),(9,.x E [.s 1 (ints l)]),(10,iA .i64 l.length),(11,iA .i64 i)],[]⟩,fun i=>i<=L l,fun i=>L l-i,fun _=>0⟩) f69 [.x E [.s 1 (ints l)],.x E [.s 1 (ints m)]] K):=by
 refine HV ((∃(x:C),(x<=L l/\Mu=0)/\1=1/\Mp l l/\1=1/\Mp m m/\1=1/\Mp l l/\Mt (ints l).length l.length/\0=I x/\G)/\∀(x:C),x<=L l->Mu=0->NB (I x) (I l.length) ((0<=I x/\I x<NI l)/\∃(d:B),ldE (ints l) (I x).toNat 0 1=D (Mx d)/\bif decide (I x>=NI m)then NF K 1 else(0<=I x/\I x<NI m)/\∃(d:B),ldE (ints m) (I x).toNat 0 1=D (Mx d)/\G/\∀(r:B),bif r !=0 then NF K r else∃(e:C),(e<=L l/\Mu=0/\l.length-e<L l-x)/\1=1/\Mp l l/\1=1/\Mp m m/\1=1/\Mp l l/\Mt l.length l.length/\M3 (I x) e/\G) (NB (NI l) (NI m) (NF K (-1)) (NF K 0))) ?_
 delta Mx Mt Mp Mu M3 NB NF NI
 try simp only[Zn,R0,R1,R4]
 have n:=n;refine⟨⟨0,C.zero_le _,by rw[XG],rfl⟩,fun x o=>QE (fun c=> ?_) (fun _=>QE (fun _=>h _) (fun _=>h _))⟩;have c:x<L l:=(j7 c)
 obtain⟨k,hk⟩: ∃k,l[x]? =D k:=⟨_,Zk c⟩
 refine⟨⟨o3,by rw[XG];omega⟩,k,We ((j9 hk)),QE (fun _=>h _) (fun b=> ?_)⟩;have b:x<L m:=by have:=R6 b;rw[XG]at this;omega
 obtain⟨k2,hk2⟩: ∃k,m[x]? =D k:=⟨_,Zk b⟩
 exact⟨⟨o3,by rw[XG];omega⟩,k2,We ((j9 hk2)),fun r=>QE (fun _=>h _) (fun _=>⟨x+1,⟨o3,o3⟩,by rw[w64 o3];simp⟩)⟩
def iK:Ctr
 | [.x E [.s 1 b],.x E [.s 1 c]]=>D fun K=> ∃(l:A B) (m:A B),b=ints l/\c=ints m/\((L l<=1000/\m.length<=1000))/\(∀r:B,K (iA .i64 r))
 | _=>H
theorem QXS:QH 69 iK:=by
 refine okL func69 fun l T b K h=> ?_
 unfold iK at b;split at b<;>cases b
 obtain⟨l,m,rfl,rfl,c,h⟩:=h;exact spL (az QO0 bw Qb) QK func69 (QcI _ _ c K h)
def QeQ:LC:=(69,iK)::pk
noncomputable def QeR:Qd:=mkTP QeQ ZK X4
theorem QcJ:QF QeQ:= .cons QXS QO0
theorem QcK:Qr QeR:=az QcJ bw Qb
def Bef (l:A B)(i j:C)(v:A B):Prop:= ∃b y w,l[b]? =D y/\((w=y-1/\(b<i\/(b=i/\0<j)))\/(w=y+1/\(b<i\/(b=i/\1<j))))/\v=l.set b w
variable{l:A B}
theorem QJ5{v:A B}: ¬Bef l 0 0 v:=by
 rintro⟨i,y,w,_,h | h,_⟩<;>omega
variable{i:C}
theorem vh{v:A B}:Bef l (i+1) 0 v->Bef l i 2 v:=by
 rintro⟨c,y,w,h,d,b⟩;exact⟨c,y,w,h,o3,b⟩
variable{y:B}{j:C}
theorem QJ7{v:A B}(e:l[i]? =D y)(o:j<2):Bef l i (j+1) v->Bef l i j v\/v=l.set i (rsW y j):=by
 rintro⟨d,m,w,b,n,h⟩;by_cases k:d=i
 ·subst k;rw[e]at b;cases b
  have:j=0\/j=1:=o3
  rcases this with rfl | rfl
  ·right;have c:w=y-1:=o3
   rw[h,c];rfl
  ·by_cases c:w=y+1
   ·right;rw[h,c];rfl
   ·left;exact⟨d,y,w,e,o3,h⟩
 ·left;exact⟨d,m,w,b,o3,h⟩
variable{s:B}
theorem QO1{v:A B}(h:AdjS s l v):Bef l l.length 0 v:=by
 obtain⟨i,y,w,b,c,_,rfl⟩:=h;have d:=(Zi.1 b).1;exact⟨i,y,w,b,o3,rfl⟩
theorem Ga(b:l[i]? =D y)(_hj:j<2)(h:0<=rsW y j/\rsW y j<=s):AdjS s l (l.set i (rsW y j)):=by
 refine⟨i,y,rsW y j,b,?_,h,rfl⟩;unfold rsW;split
 ·exact .inl rfl
 ·exact .inr rfl
theorem cZ{len:C}{w:B}(d:OkS s len l)(e:l[i]? =D y)(h: ¬(0<=w/\w<=s)): ¬AdjS s l (l.set i w):=fun b=>by
 have:=(b.ok d).2 w (by
  have c:=(Zi.1 e).1
  exact Zh (i:=i) (by simp[c]))
 exact h this
variable{a:ArmV}
theorem Jw(e:1<=s)(h:OkS s a.za.length l):0<=numV s l/\numV s l<(NS a s:B):=by
 obtain⟨c,b⟩:=Uc (o3:0<=s) h.2;refine⟨c,?_⟩;have d:=Ub (o3:0<=s) a.za.length;rw[h.1]at b;unfold NS;rw[B.toNat_of_nonneg o3];exact b
variable{v:B}{f:B->J B}
theorem QBB{n:C}(h:v=n):FN s (JM f (numV s l) v) l=D n:=by
 subst h;simp[FN,JM]
theorem rB{len:C}(e:1<=s){m:A B}(b:OkS s len l)(c:OkS s len m)(h:m≠l):FN s (JM f (numV s l) v) m=FN s f m:=by
 have:(numV s l==numV s m)=E:=by
  cases d:(numV s l==numV s m)with
  | false=>rfl
  | true=>exact absurd (Ud o3 (c.1.trans b.1.symm) c.2 b.2 (by simpa using(eq_of_beq d).symm)) h
 simp[FN,JM,this]
theorem QO2:FN s f l=H↔f (numV s l)=H:=by simp[FN]
theorem Gb{d:C}(b: ∀k v,f k=D v->0<=v):FN s f l=D d↔f (numV s l)=D (d:B):=by
 unfold FN;cases h:f (numV s l)with
 | none=>simp
 | some v=>
  have:=b _ _ h;simp only[J.map_some,J.some.injEq];constructor<;>intro h<;>omega
theorem tD{k:B}(e: ∀k v,f k=D v->0<=v)(m:0<=v): ∀b c,JM f k v b=D c->0<=c:=by
 intro b c h;unfold JM at h;cases d:(k==b)with
 | true=>rw[d]at h;cases h;exact m
 | false=>rw[d]at h;exact e _ _ h
theorem rG{k:B}(hk:f k=H){n:C}(h0:0<=k)(h1:k<n):K4 (JM f k v) n<K4 f n:=by
 refine Qb8 (k:=k) (fun c h=> ?_) hk (by simp[JM]) h0 h1;unfold JM at h;cases b:(k==c)with
 | true=>rw[b]at h;cases h
 | false=>rw[b]at h;exact h
theorem Gc {M x y b c:C}(m:y<M)(d:c<M)(h:x*M+y=b*M+c):x=b/\y=c:=by
 have e:(x*M+y)/M=x:=by rw[C.mul_comm,C.mul_add_div o3,C.div_eq_of_lt m];rfl
 have k:(b*M+c)/M=b:=by rw[C.mul_comm,C.mul_add_div o3,C.div_eq_of_lt d];rfl
 have:x=b:=by rw[<-e,h,k]
 subst this;exact⟨rfl,o3⟩
variable{x:BmX}
theorem sr{y:BmX}(k:x.row.length<=NS a s/\x.p<=L x.row)(m:y.row.length<=NS a s/\y.p<=L y.row)(h:bmQ a s x=bmQ a s y):x.c=y.c/\x.row.length=L y.row/\x.p=y.p:=by
 unfold bmQ at h;obtain⟨b,e⟩:=Gc o3 o3 h;obtain⟨c,d⟩:=Gc o3 o3 b;exact⟨c,d,o3⟩
theorem QXV(h0:0<=s)(h:s<=12): ∀n:C,(s+1)^n<=13^n:=by
 intro n;induction n with
 | zero=>simp
 | succ n b=>
  rw[B.pow_succ,B.pow_succ];have c:=Ub h0 n;exact B.le_trans (B.mul_le_mul_of_nonneg_right b o3) (B.mul_le_mul_of_nonneg_left o3 o3)
theorem iC(b:QJ a)(c:1<=s/\s<=12):1<=NS a s/\NS a s<=2197:=by
 have m:=b.n;have d:=QXV (o3:0<=s) c.2 a.za.length;have e:=Ub (o3:0<=s) a.za.length;have k:(13:B)^a.za.length<=2197:=by
  have:a.za.length=1\/a.za.length=2\/a.za.length=3:=o3
  rcases this with h | h | h<;>rw[h]<;>decide
 unfold NS;omega
theorem QkA(d:1<=s){y:BmX}(b:OkS s a.za.length x.u)(c:OkS s a.za.length y.u)(o:a.za.length<=3)(q:x.i<L x.u)(w:y.i<L y.u)(r:x.j<=2)(z:y.j<=2)(h:bmC a s x=bmC a s y):bmQ a s x=bmQ a s y/\x.u=y.u/\x.i=y.i/\x.j=y.j:=by
 unfold bmC at h;have p:=Jw d b;have u:=Jw d c;have t:=b.1;have A:=c.1;have k:bmQ a s x*(NS a s+1)+(numV s x.u).toNat=bmQ a s y*(NS a s+1)+(numV s y.u).toNat:=o3
 obtain⟨m,n⟩:=Gc o3 o3 k;have e:x.u=y.u:=Ud o3 o3 b.2 c.2 o3;exact⟨m,e,o3,o3⟩
variable{ws:A (A (F×F))}
theorem bC: ∀u v,EdS a ws s u v->OkS s a.za.length v:=fun _ _ h=>h.2.1.ok h.1
variable{g:A B}
theorem BmJ.ok(h:BmJ a ws s g x):OkS s a.za.length x.u:=h.all.zr.rok _ (Zh h.u)
theorem QO3{nx:A (A B)}(k:x.u[x.i]? =D x.v)(e:x.j<2)(u v:A B)(h:bmP {x with j:=x.j+1,nx:=nx,f:=f} u v):bmP x u v\/(u=x.u/\v=x.u.set x.i (rsW x.v x.j)):=by
 rcases h with h | ⟨d,c⟩
 ·exact .inl (.inl h)
 ·have c:Bef x.u x.i (x.j+1) v:=c;rcases QJ7 k e c with b | b
  ·exact .inl (.inr ⟨d,b⟩)
  ·exact .inr ⟨d,b⟩
theorem kp(h:BmJ a ws s g x)(b:x.j<2)(hk:EdS a ws s x.u (x.u.set x.i (rsW x.v x.j))->FN s x.f (x.u.set x.i (rsW x.v x.j))≠H):BmJ a ws s g {x with j:=x.j+1}:=
  ⟨⟨h.all.zr.skip (fun u v c=>QO3 (nx:=x.nx) (f:=x.f) h.v b u v c) hk,h.all.nn,h.all.lv,h.all.ct,h.all.rl,h.all.p⟩,h.u,h.v,o5⟩
theorem Qhj(n:1<=s)(h:BmJ a ws s g x)(k:x.j<2)(r:0<=rsW x.v x.j/\rsW x.v x.j<=s){w:A B}(o:w=x.u.set x.i (rsW x.v x.j))(m:x.f (numV s w)=H)(p:frV a ws s w x.u=true):
    BmJ a ws s g {x with j:=x.j+1,f:=JM x.f (numV s w) (x.n+1),nx:=x.nx++[w]}:=by
  have e:AdjS s x.u w:=o▸Ga h.v k r
  have b:=e.ok h.ok;have c:=Jw n b;refine⟨⟨h.all.zr.add (u0:=x.u) (v0:=w) (fun u v q=>by rw[o];exact QO3 (nx:=x.nx++[w]) (f:=JM x.f (numV s w) (x.n+1)) h.v k u v q) (Zh h.u) ⟨h.ok,e,p⟩ b (QO2.2 m) (fun v t d=>rB n b t d) (QBB o6) bC,tD h.all.nn o3,h.all.lv,?_,h.all.rl,h.all.p⟩,h.u,h.v,o5⟩;have z:=rG (v:=(x.n:B)+1) m c.1 c.2;have:=h.all.ct;simp only[A.length_append,A.length_singleton];omega
theorem q_j (a:ArmV)(s:B)(x:BmX)(j:C)(f:B->J B)(nx:A (A B)):bmQ a s {x with j:=j,f:=f,nx:=nx}=bmQ a s x:=rfl
theorem c_j(h:x.j<2)(f:B->J B)(nx:A (A B)):bmC a s {x with j:=x.j+1,f:=f,nx:=nx}<bmC a s x:=by
 unfold bmC;rw[q_j];simp only;omega
theorem QXW (f:B->J B): ∀n,K4 f n<=n:=by
 intro n;induction n with
 | zero=>exact C.le_refl _
 | succ n b=>unfold K4;split<;>omega
theorem nO {l:A (A B)}{u:A B}(h:l[i]? =D u):ldE (l.map spE) i 0 1=D [.s 1 (ints u)]:=by
 simp only[ldE,A.getElem?_map,h];rfl
theorem lP(h:j<2):ldE [[O (.int .i64 (v-1))],[O (.int .i64 (v+1))]] j 0 1=D [.v (.int .i64 (rsW v j))]:=by
 have:j=0\/j=1:=o3
 rcases this with rfl | rfl<;>rfl
theorem Gd (l:A B)(i:C)(d:B):(ints l).set i [O (.int .i64 d)]=ints (l.set i d):=by simp[ints,A.map_set]
def Mm(a b:C):=(a:C)=b
def Mf:=Mm 1 1
def Mh:=Mm 0 0
def M1(a:BmX):=ints a.u
def M8(a:BmX):=Zb spE a.row
def My(a:BmX):=Zb spE a.nx
def Mk:=(63:C)<=63
def Mg:=Mm 22 22
def Mj(a b:BmX):A (A Ch):=[Mx (a.v-1),Mx (b.v+1)]
def Mz(a:BmX):=a.nx.length
def Ml(a b:BmX):=M1 a=M1 b
def Mn(a:BmX):=a.row.length
def Mo(a b:BmX):=L a.u-b.i
def M4(a b:ArmV):=Zb QA a.za=Zb QA b.za
def M9:=Mm 16 16
def M5(a b:ArmV):=a.half=b.half
def M6(a b:ArmV):=a.name=b.name
def NG:=Mm 80 80
def Mq(a b c d:BmX):=M8 a=M8 b\/QC (M8 c) (M8 d)
def Mr:=Mm 88 88
def Ms(a b c d e f:ArmV)(g:C)(h:A (A (F×F)))(i:B):A Ch:=[O (Zf a.name),Zj b.x 63,Zj c.y 63,O (Zg d.half),Zj e.t 63,S 16 (Zb QA f.za),S 1 (shN g h),O (Zd Q i),Zp 6000]
def Mv(a b c d:BmX):=My a=My b\/QC (My c) (My d)
def Mw(a b:BmX):=Mz a=Mz b
def M0(a:Prop)(b c d e f g h i j k l m:ArmV)(n:Prop):=Mf/\a/\NG/\Mh/\Mm 83 83/\M6 b c/\d.x=e.x/\Mk/\f.y=g.y/\Mk/\M5 h i/\j.t=k.t/\Mk/\M9/\M4 l m/\Mf/\n
def ND:=Mm 83 83
def NA(a:BmX->Prop)(b:BmX->BmX)(c:BmX->B)(d:BmX->Prop)(e f g:BmX->BmX)(h:BmX->Prop):=∃(z:BmX),a z/\Mt (b z).i z.i/\c z=z.v/\Mh/\Mm 2 2/\(2:B)=2/\d z/\Mh/\Mh/\Mf/\Ml (e z) z/\Mt (f z).u.length z.u.length/\Mt (g z).i z.i/\Mh/\Mm 3 3/\Mf/\h z
def NH(a:A B)(b:ArmV)(c:B->A B)(d:B->B):=L a=L b.za/\∀(z:B),z∈c z->0<=z/\z<=d z
def NJ(a:ArmV->C->A (A (F×F))->B->A B->Prop):=∃(z:ArmV)(y:C)(x:A (A (F×F)))(w:B)(v:A B),a z y x w v
def NK(a:BmX)(b:ArmV)(c:B)(d:BmX):=K4 a.f (NS b c)+min (Mn d) 1
def NL(a:A B)(b:BmX)(c:B):=(ints a).set (0+(I b.i).toNat) (Mx c)
def NM(a b c d e f:ArmV)(g:C)(h:A (A (F×F)))(i:B):A Ch:=[O (Zf a.name),Zj b.x 63,Zj c.y 63,O (Zg d.half),Zj e.t 63,S 16 (Zb QA f.za),S 1 (shN g h),O (Zd Q i),O (Value.map H)]
def NN:=Value.slice H 0 0
theorem Qhk (a:ArmV)(m:C)(ws:A (A (F×F)))(s:B)(g Z:A B)(hg:QJ a)(hs:1<=s/\s<=12)(hZ:OkS s a.za.length g)(jk:OkS s a.za.length Z)(hm:m<=400000000)(hw:(∀w∈ws,QY w)/\ws.length<=20):QM (Xp (X:=B->J B) QcE (oF f27) (QXP a m ws s g Z) f27 [.x E [.p 1000 0],.x E [.s 1 (ints g)],.x E [.s 1 (ints Z)]] [(1000,seB a m ws s GZ)] (FdS a ws s g Z) (fun f=>⟨[],[(1000,seB a m ws s (.m 6000)),(6000,.mp f)]⟩)):=by
 refine HV (NJ (fun be jC jq jc l=>NM a a a a a a m ws s=NM be be be be be be jC jq jc/\Mp g l/\QJ be/\(1<=jc/\jc<=12)/\NH l be (fun z=>l) (fun y=>jc)/\Blk.box 83 (NM a a a a a a m ws s)=Blk.box 83 (NM a a a a a a m ws s)/\(∃(x:BmX),(BmO a ws s g x/\Mu=0)/\Mh/\1=Mn x/\Mf/\Mp Z Z/\Mh/\Mg/\Mf/\([[S 1 (ints g)]]=M8 x\/QC [[S 1 (ints g)]] (M8 x))/\NG/\Mh/\ND/\M6 a a/\a.x=a.x/\Mk/\a.y=a.y/\Mk/\M5 a a/\a.t=a.t/\Mk/\M9/\M4 a a/\Mf/\shN m ws=shN m ws/\s=s/\JM (fun(_x:B)=>H) (numV jc l) 0=x.f/\G)/\∀(x:BmX),BmO a ws s g x->Mu=0->bif decide (I (Mn x)>0)then(∃(K:BmX),(BmM a ws s g Ti K/\K.c=NK x a s x)/\Mh/\Mh/\Mn x=Mn K/\Mt (Mn x) (Mn K)/\0=I K.p/\Mf/\Mp Z Z/\Mh/\Mr/\NN=NN/\Mh/\Mz K=0/\Mg/\Mf/\Mq x K x K/\My K=[]/\NG/\Mh/\ND/\M6 a a/\a.x=a.x/\Mk/\a.y=a.y/\Mk/\M5 a a/\a.t=a.t/\Mk/\M9/\M4 a a/\Mf/\shN m ws=shN m ws/\s=s/\x.f=K.f/\G)/\∀(K:BmX),BmM a ws s g Ti K->K.c=NK x a s x->NB (I K.p) (I (Mn K)) ((0<=I K.p/\I K.p<I (Mn K))/\∃(ys:A (A Ch)),ldE (M8 K) (0+(I K.p).toNat) 0 1=D [S 1 ys]/\∃(l jh:A B),ys=ints l/\Mp Z jh/\(L l<=1000/\jh.length<=1000)/\bif decide (l=jh)then∃(x:B->J B),FdS a ws s g Z x/\ND/\M6 a a/\a.x=a.x/\Mk/\a.y=a.y/\Mk/\M5 a a/\a.t=a.t/\Mk/\M9/\M4 a a/\Mf/\shN m ws=shN m ws/\s=s/\K.f=x/\G else∃(l:A B),ys=ints l/\(∃(x:BmX),((BmM a ws s g Ti x/\x.row[x.p]? =D x.u)/\bmQ a s x=bmQ a s K)/\Mh/\Mm 109 109/\Mh/\Mh/\Mn K=Mn x/\Mt (Mn K) (Mn x)/\Mt K.p x.p/\Mf/\Mp Z Z/\Mh/\Mg/\Mf/\ys=M1 x/\Mm 3 3/\s=s/\Mg/\Mf/\ints l=M1 x/\Mr/\Mh/\Mw K x/\Mg/\Mf/\Mq K x K x/\Mg/\Mf/\Mv K x K x/\NG/\Mh/\ND/\M6 a a/\a.x=a.x/\Mk/\a.y=a.y/\Mk/\M5 a a/\a.t=a.t/\Mk/\M9/\M4 a a/\Mf/\shN m ws=shN m ws/\s=s/\K.f=x.f/\G)/\∀(M:BmX),BmM a ws s g Ti M/\M.row[M.p]? =D M.u->bmQ a s M=bmQ a s K->(∃(x:BmX),((BmI a ws s g x/\x.j=0/\bmQ a s x=bmQ a s M)/\Mu=Mu)/\Mh/\Mh/\Mf/\Ml M x/\Mt (M1 M).length x.u.length/\0=I x.i/\Mh/\Mg/\Mf/\Ml M x/\Mm 3 3/\s=s/\Mg/\Mf/\Ml M x/\Mr/\Mh/\Mw M x/\Mg/\Mf/\Mq M x M x/\Mg/\Mf/\Mv M x M x/\NG/\Mh/\ND/\M6 a a/\a.x=a.x/\Mk/\a.y=a.y/\Mk/\M5 a a/\a.t=a.t/\Mk/\M9/\M4 a a/\Mf/\shN m ws=shN m ws/\s=s/\M.f=x.f/\G)/\∀(q:BmX),BmI a ws s g q/\q.j=0/\bmQ a s q=bmQ a s M->Mu=Mu->NB (I q.i) (I q.u.length) ((0<=I q.i/\I q.i<I (M1 q).length)/\∃(d:B),ldE (M1 q) (I q.i).toNat 0 1=D (Mx d)/\NA (fun x=>(BmJ a ws s g x/\bmQ a s x=bmQ a s M)/\Mo x x=Mo q q) (fun x=>q) (fun x=>d) (fun x=>0=I x.j) (fun x=>q) (fun x=>q) (fun x=>q) (fun x=>([Mx (Q.wrap (d-1)),Mx (Q.wrap (d+1))]=Mj x x\/QC [Mx (Q.wrap (d-1)),Mx (Q.wrap (d+1))] (Mj x x))/\Mg/\Mf/\Ml q x/\Mm 3 3/\s=s/\Mg/\Mf/\Ml q x/\Mr/\Mh/\Mw q x/\Mg/\Mf/\Mq q x q x/\Mg/\M0 (Mv q x q x) a a a a a a a a a a a a (shN m ws=shN m ws/\s=s/\q.f=x.f/\G))/\∀(x:BmX),BmJ a ws s g x/\bmQ a s x=bmQ a s M->Mo x x=Mo q q->NB (I x.j) 2 ((0<=I x.j/\I x.j<2)/\∃(d:B),ldE (Mj x x) (0+(I x.j).toNat) 0 1=D (Mx d)/\NB x.v 0 (NA (fun b=>(BmJ a ws s g b/\bmQ a s b=bmQ a s M)/\Mo b b=Mo q q/\bmC a s b<bmC a s x) (fun b=>x) (fun b=>x.v) (fun b=>M3 (I x.j) b.j) (fun b=>x) (fun b=>x) (fun b=>x) (fun b=>(Mj x x=Mj b b\/QC (Mj x x) (Mj b b))/\Mg/\Mf/\Ml x b/\Mm 3 3/\s=s/\Mg/\Mf/\Ml x b/\Mr/\Mh/\Mw x b/\Mg/\Mf/\Mq x b x b/\Mg/\M0 (Mv x b x b) a a a a a a a a a a a a (shN m ws=shN m ws/\s=s/\x.f=b.f/\G))) (bif decide (x.v>s)then NA (fun b=>(BmJ a ws s g b/\bmQ a s b=bmQ a s M)/\Mo b b=Mo q q/\bmC a s b<bmC a s x) (fun b=>x) (fun b=>x.v) (fun b=>M3 (I x.j) b.j) (fun b=>x) (fun b=>x) (fun b=>x) (fun b=>(Mj x x=Mj b b\/QC (Mj x x) (Mj b b))/\Mg/\Mf/\Ml x b/\Mm 3 3/\s=s/\Mg/\Mf/\Ml x b/\Mr/\Mh/\Mw x b/\Mg/\Mf/\Mq x b x b/\Mg/\M0 (Mv x b x b) a a a a a a a a a a a a (shN m ws=shN m ws/\s=s/\x.f=b.f/\G))else NB d 0 (NA (fun b=>(BmJ a ws s g b/\bmQ a s b=bmQ a s M)/\Mo b b=Mo q q/\bmC a s b<bmC a s x) (fun b=>x) (fun b=>x.v) (fun b=>M3 (I x.j) b.j) (fun b=>x) (fun b=>x) (fun b=>x) (fun b=>(Mj x x=Mj b b\/QC (Mj x x) (Mj b b))/\Mg/\Mf/\Ml x b/\Mm 3 3/\s=s/\Mg/\Mf/\Ml x b/\Mr/\Mh/\Mw x b/\Mg/\Mf/\Mq x b x b/\Mg/\M0 (Mv x b x b) a a a a a a a a a a a a (shN m ws=shN m ws/\s=s/\x.f=b.f/\G))) (bif decide (d>s)then NA (fun b=>(BmJ a ws s g b/\bmQ a s b=bmQ a s M)/\Mo b b=Mo q q/\bmC a s b<bmC a s x) (fun b=>x) (fun b=>x.v) (fun b=>M3 (I x.j) b.j) (fun b=>x) (fun b=>x) (fun b=>x) (fun b=>(Mj x x=Mj b b\/QC (Mj x x) (Mj b b))/\Mg/\Mf/\Ml x b/\Mm 3 3/\s=s/\Mg/\Mf/\Ml x b/\Mr/\Mh/\Mw x b/\Mg/\Mf/\Mq x b x b/\Mg/\M0 (Mv x b x b) a a a a a a a a a a a a (shN m ws=shN m ws/\s=s/\x.f=b.f/\G))else∃(l:A B),M1 x=ints l/\l.length*8<=140737488355328/\(0<=I x.i/\I x.i<I l.length)/\0+(I x.i).toNat<(ints l).length/\NJ (fun T jf Lm W At=>Ms a a a a a a m ws s=Ms T T T T T T jf Lm W/\NL l x d=ints At/\l.length=L At/\QJ T/\(1<=W/\W<=12)/\NH At T (fun k=>At) (fun k=>W)/\Blk.box 83 (Ms a a a a a a m ws s)=Blk.box 83 (Ms a a a a a a m ws s)/\Blk.mp x.f=Blk.mp x.f/\Blk.row 3 1 (NL l x d)=Blk.row 3 1 (NL l x d)/\∃(o:BmX),(BmK a ws s g o/\bmC a s o=bmC a s x)/\(x.f (numV W At)).isSome=(o.f (numV s o.w)).isSome/\Mf/\A.take l.length (A.drop 0 (NL l x d))=ints o.w/\Mh/\Mh/\Mh/\Mn M=Mn o/\Mt (Mn M) (Mn o)/\Mt M.p o.p/\Mf/\Mp Z Z/\Mh/\Mf/\Mm 3 3/\Mf/\(Mj x x=Mj o o\/QC (Mj x x) (Mj o o))/\Mg/\Mf/\Ml x o/\Mm 3 3/\s=s/\Mg/\Mf/\Ml x o/\Mr/\Mh/\Mw x o/\Mg/\Mf/\Mq x o x o/\Mg/\M0 (Mv x o x o) a a a a a a a a a a a a (shN m ws=shN m ws/\s=s/\x.f=o.f/\G))/\∀(o:BmX),BmK a ws s g o->bmC a s o=bmC a s x->bif !(o.f (numV s o.w)).isSome then NJ (fun R jf Lm W u=>∃(v:A B),Ms a a a a a a m ws s=Ms R R R R R R jf Lm W/\Mp o.w u/\M1 o=ints v/\(QJ R/\(1<=W/\W<=12)/\NH u R (fun k=>u) (fun k=>W)/\NH v R (fun k=>v) (fun k=>W)/\jf<=400000000/\(∀(w:A (F×F)),w∈Lm->QY w)/\Lm.length<=20)/\bif frV R Lm W u v then NJ (fun U jD jr jd l=>Ms a a a a a a m ws s=Ms U U U U U U jD jr jd/\Mp o.w l/\QJ U/\(1<=jd/\jd<=12)/\NH l U (fun t=>l) (fun r=>jd)/\Blk.box 83 (Ms a a a a a a m ws s)=Blk.box 83 (Ms a a a a a a m ws s)/\Blk.mp o.f=Blk.mp o.f/\NJ (fun V jE jt je At=>Ms a a a a a a m ws s=Ms V V V V V V jE jt je/\M1 o=ints At/\QJ V/\(1<=je/\je<=12)/\NH At V (fun k=>At) (fun k=>je)/\Blk.box 83 (Ms a a a a a a m ws s)=Blk.box 83 (Ms a a a a a a m ws s)/\Blk.mp o.f=Blk.mp o.f/\((Mz o+1)*24<=140737488355328/\Mz o+1<=9223372036854775807)/\NA (fun b=>(BmJ a ws s g b/\bmQ a s b=bmQ a s M)/\Mo b b=Mo q q/\bmC a s b<bmC a s x) (fun b=>x) (fun b=>x.v) (fun b=>M3 (I x.j) b.j) (fun b=>x) (fun b=>x) (fun b=>x) (fun b=>(Mj o o=Mj b b\/QC (Mj o o) (Mj b b))/\Mg/\Mf/\Ml o b/\Mm 3 3/\s=s/\Mg/\Mf/\Ml o b/\Mr/\Mh/\Mz o+1=Mz b/\Mg/\Mf/\Mq o b o b/\Mg/\M0 (A.take (Mz o) (My o)++[[S 1 (ints o.w)]]=My b\/QC (A.take (Mz o) (My o)++[[S 1 (ints o.w)]]) (My b)) a a a a a a a a a a a a (shN m ws=shN m ws/\s=s/\JM o.f (numV jd l) (Q.wrap ((o.f (numV je At)).getD 0+1))=b.f/\G))))else NA (fun b=>(BmJ a ws s g b/\bmQ a s b=bmQ a s M)/\Mo b b=Mo q q/\bmC a s b<bmC a s x) (fun b=>x) (fun b=>x.v) (fun b=>M3 (I x.j) b.j) (fun b=>x) (fun b=>x) (fun b=>x) (fun b=>(Mj o o=Mj b b\/QC (Mj o o) (Mj b b))/\Mg/\Mf/\Ml o b/\Mm 3 3/\s=s/\Mg/\Mf/\Ml o b/\Mr/\Mh/\Mw o b/\Mg/\Mf/\Mq o b o b/\Mg/\M0 (Mv o b o b) a a a a a a a a a a a a (shN m ws=shN m ws/\s=s/\o.f=b.f/\G)))else NA (fun b=>(BmJ a ws s g b/\bmQ a s b=bmQ a s M)/\Mo b b=Mo q q/\bmC a s b<bmC a s x) (fun b=>x) (fun b=>x.v) (fun b=>M3 (I x.j) b.j) (fun b=>x) (fun b=>x) (fun b=>x) (fun b=>(Mj o o=Mj b b\/QC (Mj o o) (Mj b b))/\Mg/\Mf/\Ml o b/\Mm 3 3/\s=s/\Mg/\Mf/\Ml o b/\Mr/\Mh/\Mw o b/\Mg/\Mf/\Mq o b o b/\Mg/\M0 (Mv o b o b) a a a a a a a a a a a a (shN m ws=shN m ws/\s=s/\o.f=b.f/\G))))) (∃(b:BmX),((BmI a ws s g b/\b.j=0/\bmQ a s b=bmQ a s M)/\Mu=Mu/\Mo b b<Mo q q)/\Mh/\Mh/\Mf/\Ml x b/\Mt x.u.length b.u.length/\M3 (I x.i) b.i/\Mh/\Mg/\Mf/\Ml x b/\Mm 3 3/\s=s/\Mg/\Mf/\Ml x b/\Mr/\Mh/\Mw x b/\Mg/\Mf/\Mq x b x b/\Mg/\Mf/\Mv x b x b/\NG/\Mh/\ND/\M6 a a/\a.x=a.x/\Mk/\a.y=a.y/\Mk/\M5 a a/\a.t=a.t/\Mk/\M9/\M4 a a/\Mf/\shN m ws=shN m ws/\s=s/\x.f=b.f/\G)) (∃(b:BmX),(BmM a ws s g Ti b/\b.c=NK x a s x/\bmQ a s b<bmQ a s K)/\Mh/\Mh/\Mn M=Mn b/\Mt (Mn M) (Mn b)/\M3 (I M.p) b.p/\Mf/\Mp Z Z/\Mh/\Mr/\Mh/\Mw q b/\Mg/\Mf/\Mq q b q b/\Mg/\M0 (Mv q b q b) a a a a a a a a a a a a (shN m ws=shN m ws/\s=s/\q.f=b.f/\G))) (∃(b:BmX),(BmO a ws s g b/\Mu=0/\NK b a s b<NK x a s x)/\Mh/\Mz K=Mn b/\Mf/\Mp Z Z/\Mh/\Mg/\Mf/\(My K=M8 b\/QC (My K) (M8 b))/\NG/\Mh/\ND/\M6 a a/\a.x=a.x/\Mk/\a.y=a.y/\Mk/\M5 a a/\a.t=a.t/\Mk/\M9/\M4 a a/\Mf/\shN m ws=shN m ws/\s=s/\K.f=b.f/\G)else∃(K:B->J B),FdS a ws s g Z K/\ND/\M6 a a/\a.x=a.x/\Mk/\a.y=a.y/\Mk/\M5 a a/\a.t=a.t/\Mk/\M9/\M4 a a/\Mf/\shN m ws=shN m ws/\s=s/\x.f=K/\G)) ?_
 delta Mm Mf Mx Mh M1 M8 My Mk Mg Mj Mt Mz Ml Mn Mo M4 M9 M5 M6 Mp NG Mq Mr Ms Mu Mv Mw M3 M0 NB ND NA NH NJ NK NL NM NN
 simp only[Zn,R0,R1,C.zero_add,C.le_refl,R4];have hn:=hg.n;obtain⟨jN,jO⟩:=iC hg hs;have jH:=Jw hs.1 hZ;have st:BmO a ws s g ⟨JM (fun _=>H) (numV s g) 0,0,[g],0,0,[],[],0,0,0,[]⟩:=by
  have F0:FN s (JM (fun _=>H) (numV s g) 0) g=D 0:=QBB (n:=0) rfl;refine⟨Bfs.first hZ (fun v hv=> ?_) (fun v d hv h=> ?_),tD (fun _ _ h=>by cases h) o3,fun _=> ?_,by simp only[A.length_singleton];omega⟩
  ·by_cases e:v=g
   ·subst e;exact⟨fun _=>rfl,fun _=>F0⟩
   ·rw[rB hs.1 hZ hv e];simp[FN,e]
  ·by_cases e:v=g
   ·subst e;have h:FN s (JM (fun _=>H) (numV s v) 0) v=D d:=h;rw[F0]at h;cases h;rfl
   ·rw[rB hs.1 hZ hv e]at h;simp[FN]at h
  ·have:=QXW (JM (fun _=>H) (numV s g) 0) (NS a s);simp only;omega
 refine⟨a,m,ws,s,g,rfl,rfl,hg,hs,hZ,⟨_,st,rfl,.inl rfl,rfl⟩,fun x hx=>QE (fun hp=>⟨?_,fun x1 h1 e1=>QE (fun ja=> ?_) (fun ja=> ?_)⟩) (fun hp=> ?_)⟩
 ·have hp:0<L x.row:=(j7 hp)
  have jv:=hx.lv (fun e=>by rw[e]at hp;simp at hp);refine⟨{x with c:=K4 x.f (NS a s)+min x.row.length 1,p:=0,nx:=[]},⟨⟨{hx.zr.begin with done:=fun u v hp he=>by simp[Ti]at hp},hx.nn,?_,?_,hx.rl,C.zero_le _⟩,rfl⟩,rfl,rfl,rfl,rfl,.inl rfl,rfl,rfl⟩
  ·simp only;omega
  ·simp only[A.length_nil];omega
 ·have ja:x1.p<L x1.row:=(j7 ja)
  obtain⟨u,hu⟩: ∃u,x1.row[x1.p]? =D u:=⟨_,Zk ja⟩
  have jm:=Zh hu;have jx:=h1.zr.rok u jm;have jK:=jx.1;have jG:=jk.1;refine⟨⟨o3,o3⟩,ints u,nO ((j9 hu)),u,Z,rfl,rfl,⟨o3,o3⟩,QE (fun he=> ?_) (fun he=> ?_)⟩
  ·have he:u=Z:=R5 he;exact⟨x1.f,⟨h1.zr.found (he▸jm),h1.nn⟩,rfl⟩
  ·refine⟨u,rfl,⟨{x1 with u:=u},⟨⟨⟨h1.zr,h1.nn,h1.lv,h1.ct,h1.rl,h1.p⟩,hu⟩,rfl⟩,rfl,rfl,rfl,rfl,rfl,rfl,.inl rfl,.inl rfl,rfl⟩,fun x2 ⟨h2,u2⟩ e2=>⟨⟨{x2 with i:=0,j:=0},⟨⟨⟨{h2.zr with done:=fun u v hp he=>hp.elim (fun h=>h2.zr.done u v h he) (fun⟨_,hb⟩=>absurd hb QJ5)},h2.nn,h2.lv,h2.ct,h2.rl,h2.p⟩,u2,C.zero_le _⟩,rfl,rfl⟩,rfl,by rw[XG],rfl,rfl,rfl,rfl,.inl rfl,.inl rfl,rfl⟩,fun x3 ⟨Y,j3,q3⟩=>QE (fun hi=> ?_) (fun hi=> ?_)⟩⟩
   ·have hi:x3.i<L x3.u:=(j7 hi)
    obtain⟨v,hv⟩: ∃v,x3.u[x3.i]? =D v:=⟨_,Zk hi⟩
    have jl:OkS s a.za.length x3.u:=Y.all.zr.rok _ (Zh Y.u);have jL:=jl.2 v (Zh hv);refine⟨⟨o3,by rw[XG];omega⟩,v,We ((j9 hv)),⟨{x3 with v:=v},⟨⟨⟨⟨Y.all.zr,Y.all.nn,Y.all.lv,Y.all.ct,Y.all.rl,Y.all.p⟩,Y.u,hv,o5⟩,q3⟩,rfl⟩,rfl,rfl,by simp only[j3];rfl,rfl,rfl,rfl,.inl (by rw[w64 o3,w64 o3]),rfl,rfl,rfl,.inl rfl,.inl rfl,rfl⟩,fun x ⟨N,hq⟩ e=>QE (fun hj=> ?_) (fun hj=> ?_)⟩
    ·have hj:x.j<2:=(j7 hj)
     have jM:=N.ok.2 x.v (Zh N.v);have jn:=(Zi.1 N.v).1;have jz:=N.ok.1;have wj:Q.wrap ((x.j:B)+1)=((x.j+1:C):B):=by rw[w64 o3];simp
     obtain⟨qc,ql,qp⟩:=sr ⟨N.all.rl,N.all.p⟩ ⟨h2.rl,h2.p⟩ hq;refine⟨⟨o3,o3⟩,rsW x.v x.j,by rw[Zo];exact lP hj,QE (fun h=>(j7 h)) (fun _=>QE (fun h=>(j7 h)) (fun _=>QE (fun h=> ?_) (fun ji=>QE (fun h=> ?_) (fun jj=> ?_))))⟩
     ·have h:=R5 h;exact⟨{x with j:=x.j+1},⟨⟨kp N hj fun he=>absurd he.2.1 (cZ N.ok N.v o3),hq⟩,e,c_j hj x.f x.nx⟩,rfl,rfl,wj,rfl,rfl,rfl,.inl rfl,rfl,rfl,rfl,.inl rfl,.inl rfl,rfl⟩
     ·have h:=R5 h;exact⟨{x with j:=x.j+1},⟨⟨kp N hj fun he=>absurd he.2.1 (cZ N.ok N.v o3),hq⟩,e,c_j hj x.f x.nx⟩,rfl,rfl,wj,rfl,rfl,rfl,.inl rfl,rfl,rfl,rfl,.inl rfl,.inl rfl,rfl⟩
     ·have ji:=R6 ji;have jj:=R6 jj;have hr:0<=rsW x.v x.j/\rsW x.v x.j<=s:=o3
      have jy:OkS s a.za.length (x.u.set x.i (rsW x.v x.j)):=(Ga N.v hj hr).ok N.ok;refine⟨x.u,rfl,o3,⟨o3,o3⟩,by rw[XG];omega,⟨a,m,ws,s,x.u.set x.i (rsW x.v x.j),rfl,by rw[Zo,Gd],o6,hg,hs,jy,{x with w:=x.u.set x.i (rsW x.v x.j)},⟨⟨⟨⟨N.all.zr,N.all.nn,N.all.lv,N.all.ct,N.all.rl,N.all.p⟩,N.u,N.v,N.j⟩,hj,hr,rfl⟩,rfl⟩,rfl,?_,ql.symm,by rw[ql],by rw[qp],.inl rfl,rfl,rfl,rfl,.inl rfl,.inl rfl,rfl⟩,fun y hy ey=> ?_⟩
      ·rw[Zo,Gd,A.drop_zero];exact A.take_of_length_le (by rw[XG];simp)
      ·have P:=hy.all;have jA:=(Zi.1 P.v).1;obtain⟨yq,yu,yi,yj⟩:=QkA hs.1 P.ok N.ok hn.2 jA jn P.j N.j ey;have yv:y.v=x.v:=by
        have h1:=P.v;rw[yu,yi,N.v]at h1;exact(J.some.inj h1).symm
       have jb:=hy.j1;have ju:OkS s a.za.length y.w:=by rw[hy.w];exact(Ga P.v jb hy.r).ok P.ok
       have yl:y.u.length-y.i=L x3.u-x3.i:=by rw[yu,yi];exact e
       have wy:Q.wrap ((x.j:B)+1)=((y.j+1:C):B):=by rw[wj,yj]
       have skip:(EdS a ws s y.u (y.u.set y.i (rsW y.v y.j))->FN s y.f (y.u.set y.i (rsW y.v y.j))≠H)->BmJ a ws s g {y with j:=y.j+1}:=kp P jb;refine QE (fun hb=> ?_) (fun hb=> ?_)
       ·refine⟨a,m,ws,s,y.w,y.u,rfl,rfl,rfl,⟨hg,hs,ju,P.ok,hm,hw⟩,QE (fun hf=> ?_) (fun hf=> ?_)⟩
        ·have jg:y.f (numV s y.w)=H:=by
          cases h:y.f (numV s y.w)with
          | none=>rfl
          | some z=>rw[h]at hb;simp at hb
         have jB:y.f (numV s y.u)=D (y.n:B):=(Gb P.all.nn).1 ((P.all.zr.inr _ P.ok).1 (Zh P.u));have jR:=P.all.lv;have jQ:=P.all.ct;refine⟨a,m,ws,s,y.w,rfl,rfl,hg,hs,ju,a,m,ws,s,y.u,rfl,rfl,hg,hs,P.ok,⟨o3,o3⟩,{y with j:=y.j+1,f:=JM y.f (numV s y.w) (y.n+1),nx:=y.nx++[y.w]},⟨⟨Qhj hs.1 P jb hy.r hy.w jg hf,yq.trans hq⟩,yl,by rw[<-ey];exact c_j jb _ _⟩,by rw[yi],yv.symm,wy,by rw[yu],by rw[yu],by rw[yi],.inl rfl,rfl,rfl,o6,.inl rfl,.inl ?_,?_⟩
         ·rw[A.take_of_length_le o6];simp[spE]
         ·rw[jB,J.getD_some,w64 o3]
        ·exact⟨{y with j:=y.j+1},⟨⟨skip fun he=>absurd he.2.2 (by rw[<-hy.w,hf];simp),yq.trans hq⟩,yl,by rw[<-ey];exact c_j jb y.f y.nx⟩,by rw[yi],yv.symm,wy,by rw[yu],by rw[yu],by rw[yi],.inl rfl,rfl,rfl,rfl,.inl rfl,.inl rfl,rfl⟩
       ·exact⟨{y with j:=y.j+1},⟨⟨skip fun _ h=>by rw[<-hy.w,QO2]at h;rw[h]at hb;simp at hb,yq.trans hq⟩,yl,by rw[<-ey];exact c_j jb y.f y.nx⟩,by rw[yi],yv.symm,wy,by rw[yu],by rw[yu],by rw[yi],.inl rfl,rfl,rfl,rfl,.inl rfl,.inl rfl,rfl⟩
    ·have hj:x.j=2:=by have:=R6 hj;have:=N.j;omega
     have jn:=(Zi.1 N.v).1;have jz:=N.ok.1;exact⟨{x with i:=x.i+1,j:=0},⟨⟨⟨⟨{N.all.zr with done:=fun u v hp he=>N.all.zr.done u v (hp.elim .inl fun⟨h1,h2⟩=> .inr ⟨h1,by have:=vh h2;rw[<-hj]at this;exact this⟩) he},N.all.nn,N.all.lv,N.all.ct,N.all.rl,N.all.p⟩,N.u,o5⟩,rfl,hq⟩,o5⟩,rfl,rfl,by rw[w64 o3];simp,rfl,rfl,rfl,.inl rfl,.inl rfl,rfl⟩
   ·have hi:x3.i=L x3.u:=by have:=R6 hi;have:=Y.i;omega
    obtain⟨qc,ql,qp⟩:=sr ⟨Y.all.rl,Y.all.p⟩ ⟨h2.rl,h2.p⟩ q3;obtain⟨rc,jP,rp⟩:=sr ⟨h2.rl,h2.p⟩ ⟨h1.rl,h1.p⟩ e2;have jI:=(Zi.1 Y.u).1;have jJ:=Y.all.rl;refine⟨{x3 with p:=x3.p+1},⟨⟨{Y.all.zr with done:=fun u v hp he=> ?_},Y.all.nn,Y.all.lv,Y.all.ct,Y.all.rl,o5⟩,o5,?_⟩,by simp only;exact ql.symm,by simp only;rw[ql],by rw[w64 o3,<-qp];simp,rfl,.inl rfl,.inl rfl,rfl⟩
    ·have hp:u∈x3.row.take (x3.p+1):=hp;rw[A.take_add_one,Y.u]at hp;rcases A.mem_append.1 hp with h | h
     ·exact Y.all.zr.done u v (.inl h) he
     ·have h:u=x3.u:=(j9 h)
      refine Y.all.zr.done u v (.inr ⟨h,?_⟩) he;have:=QO1 (h▸he.2.1);rw[<-hi,<-j3]at this;exact this
    ·rw[<-e2,<-q3];unfold bmQ;simp only;omega
 ·have ja:x1.p=L x1.row:=by have:=R6 ja;have:=h1.p;omega
  have jF:=h1.ct;have jv:=h1.lv;refine⟨{x1 with row:=x1.nx,n:=x1.n+1},⟨⟨h1.zr.next_row (fun u v hu _=> ?_) hZ bC,h1.nn,fun jw=> ?_,o5⟩,?_⟩,rfl,.inl rfl,rfl⟩
  ·show u∈x1.row.take x1.p
   rw[ja,A.take_length];exact hu
  ·have:x1.nx.length≠0:=fun h=>jw (Zm h);simp only;omega
  ·simp only;omega
 ·have hp:x.row=[]:=Zm ((j8 hp));have hb:=hx.zr;rw[hp]at hb;exact⟨x.f,⟨hb.found jk hZ bC,hx.nn⟩,rfl⟩
def iQ:XS:=fun c b _=>match c with
  | [.x E [.p k o],.x E [.s 1 h],.x E [.s 1 n]]=>match o with
    | 0=>match b k,b (k+5000)with
      | some (.box t e),H=>bif t.beq 83 then(match bt e with
        | some (.v (.map H))=>D fun K=> ∃(a:ArmV) (m:C) (ws:A (A (F×F))) (s:B) (g d:A B),e=Hp a m ws s GZ/\h=ints g/\n=ints d/\(QJ a/\(1<=s/\s<=12)/\OkS s a.za.length g/\OkS s a.za.length d/\m<=400000000/\(∀w∈ws,QY w)/\ws.length<=20)/\
            ∀f,FdS a ws s g d f->K (.t []) (upd (upd b k (D (seB a m ws s (.m (k+5000))))) (k+5000) (D (.mp f)))
        | _=>H)else H
      | _,_=>H
    | _+1=>H
  | _=>H
theorem QRr:Xg 27 iQ:=by
 refine⟨Qf func27 o4,fun l c d T e K u=> ?_⟩;unfold iQ at e;split at e
 ·rename_i k o W X;split at e
  ·split at e
   ·rename_i t V B F;cases q:t.beq 83 with
    | false=>rw[q]at e;cases e
    | true=>
     rw[q]at e;have P:=C.eq_of_beq_eq_true q;subst P;simp only[R7]at e;split at e
     ·cases e
      obtain⟨a,m,ws,s,g,A,rfl,rfl,rfl,⟨J,M,z,w,L,U⟩,u⟩:=u;refine W9 (R:=[(1000,k)]) (N:=[(6000,k+5000)]) (Hl:=[(1000,seB a m ws s GZ)]) k7 QK func27 o4 o4 j6
       (as0:=[.x E [.p 1000 0],.x E [.s 1 (ints g)],.x E [.s 1 (ints A)]]) ?_ (vP B rfl fun _=>cU) rfl o6 o6 (fun p n=>by simp at n;subst n;exact F) (fun x=>⟨fun p n=> ?_,fun p n b q=> ?_⟩) (Qhk a m ws s g A J M z w L U) (fun f G=>⟨_,rfl,?_⟩)
      ·simp[X7,X2,XZ,lkB]
      ·simp at n;subst n;exact fun h=>by have r:D (seB a m ws s (.m 6000))=H:=h;cases r
      ·simp at n;rcases n with rfl | rfl
       ·have r:D (seB a m ws s (.m 6000))=D b:=q;cases r;exact⟨_,sj⟩
       ·have r:D (Blk.mp x)=D b:=q;cases r;exact⟨_,rfl⟩
      ·show K _ (Xn [(1000,k),(6000,k+5000)] (QO [(1000,seB a m ws s (.m 6000)),(6000,.mp f)]) c)
       rw[QJ2];exact u f G
     ·cases e
   ·cases e
  ·cases e
 ·cases e
end Go.Proofs
