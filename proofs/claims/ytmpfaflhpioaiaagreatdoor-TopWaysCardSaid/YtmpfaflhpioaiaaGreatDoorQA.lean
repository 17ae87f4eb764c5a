/- Numbers of one size: sums, products, quotients are checked against it. -/
import Derived.Test.YtmpfaflhpioaiaaGreatDoorPD
open _root_ renaming Rat → A, List → B, Option → C, Nat → E, Int → G
open Option renaming some → F, none → I
open Bool renaming true → H, false → J
open List renaming length → Sj
open Int renaming natAbs_mul → Zc, natAbs_natCast → Zd, sign_eq_neg_one_of_neg → Za, sign_eq_one_of_pos → Zb
namespace Go.Proofs
open Go Go.Eng
def szR (q:A):E:=E.log2 (max q.num.natAbs q.den)+1
def ckZ (q:A):C A:=bif E.ble (szR q) 100000 then F q else I
def VM (p q:A):C A:=ckZ (p+q)
def K5 (p q:A):C A:=ckZ (p-q)
def JX (p q:A):C A:=ckZ (p*q)
def TI (p q:A):C A:=bif q.num==0 then I else ckZ (p/q)
def na:Ctr
 | [.x J [.v (.int .i64 n)]]=>F fun K=>(-9223372036854775808<=n/\n<9223372036854775808)/\K (rA (n:A) 100000)
 | _=>I
def mW:Ctr
 | [.x H [.r p a],.x H [.r q b]]=>F fun K=>a+b+1<=4294967296/\ ∃r,VM p q=F r/\K (rA r 100000)
 | _=>I
def qz:Ctr
 | [.x H [.r p a],.x H [.r q b]]=>F fun K=>a+b+1<=4294967296/\ ∃r,K5 p q=F r/\K (rA r 100000)
 | _=>I
def kA:Ctr
 | [.x H [.r p a],.x H [.r q b]]=>F fun K=>a+b<=4294967296/\ ∃r,JX p q=F r/\K (rA r 100000)
 | _=>I
def fc:Ctr
 | [.x H [.r p a],.x H [.r q b]]=>F fun K=>a+b<=4294967296/\ ∃r,TI p q=F r/\K (.t [(H,[.r r 100000]),(J,[.v (.int .i64 0)])])
 | _=>I
def nW:Ctr
 | [.x H [.r p a]]=>F fun K=>a<=100000/\K (rA (-p) 100000)
 | _=>I
def rS:Ctr
 | [.x H [.r p a]]=>F fun K=>a<=100000/\K (rA (Xr p) 100000)
 | _=>I
def lM:Ctr
 | [.x H [.r p a],.x H [.r q b]]=>F fun K=>(a<=100000/\b<=100000)/\K (rA (Qx p q) 100000)
 | _=>I
def si:Ctr
 | [.x H [.r p a],.x H [.r q b]]=>F fun K=>(a<=100000/\b<=100000)/\K (rA (Q6 p q) 100000)
 | _=>I
theorem Qhs (q:A):Bd (szR q) q:=by
 have h:max q.num.natAbs q.den<2^szR q:=E.lt_log2_self;exact⟨o3,o3⟩
variable{q:A}
theorem JY{r:A}:ckZ q=F r↔szR q<=100000/\q=r:=by
 unfold ckZ;cases h:E.ble (szR q) 100000 with
 | true=>simp[E.le_of_ble_eq_true h]
 | false=>
  have: ¬szR q<=100000:=fun k=>by rw[E.ble_eq_true_of_le k]at h;cases h
  simp[this]
theorem db{r:A}(h:ckZ q=F r):Bd 100000 r:=by
 obtain⟨c,rfl⟩:=JY.1 h;exact(Qhs q).mono c
variable{ρ:Env}{m n:E}{O:E->Prop}{v:Value}{W:World}
theorem Vg(f:Bd n q)(h:ConcV W O ρ (rA q m) v):ConcV W O ρ (rA q n) v:=by
 obtain⟨d,c,e⟩:=h;cases c with | r _ c=>exact⟨_,.r f c,e⟩
theorem cB(h:ConcV W O ρ (rA q m) v):Bd m q:=by
 obtain⟨c,d,f⟩:=h;cases d with | r e _=>exact e
theorem Qht:QH 42 na:=by
 refine⟨ok_rOf.enter,fun l T c K f=> ?_⟩;unfold na at c;split at c
 ·rename_i n;cases c
  exact Spec.res (ok_rOf.sound [.x J [.v (.int .i64 n)]] _ rfl (fun d=>d=rA (n:A) 64) ⟨f.1,rfl⟩) fun w O d v e h=>⟨_,f.2,by subst e;exact Vg ((cB h).mono o3) h⟩
 ·cases c
theorem QcS:QH 45 mW:=by
 refine⟨ok_rAdd.enter,fun l T h K c=> ?_⟩;unfold mW at h;split at h
 ·rename_i p a q b;cases h
  obtain⟨i,r,g,c⟩:=c;exact Spec.res (ok_rAdd.sound [.x H [.r p a],.x H [.r q b]] _ rfl (fun f=>f=rA (p+q) (a+b+1)) ⟨i,rfl⟩) fun w O f v e d=>⟨_,c,by subst e;obtain rfl:=(JY.1 g).2;exact Vg (db g) d⟩
 ·cases h
theorem QcT:QH 44 qz:=by
 refine⟨ok_rSub.enter,fun l T h K c=> ?_⟩;unfold qz at h;split at h
 ·rename_i p a q b;cases h
  obtain⟨i,r,g,c⟩:=c;exact Spec.res (ok_rSub.sound [.x H [.r p a],.x H [.r q b]] _ rfl (fun f=>f=rA (p-q) (a+b+1)) ⟨i,rfl⟩) fun w O f v e d=>⟨_,c,by subst e;obtain rfl:=(JY.1 g).2;exact Vg (db g) d⟩
 ·cases h
theorem QcU:QH 46 kA:=by
 refine⟨ok_rMul.enter,fun l T h K c=> ?_⟩;unfold kA at h;split at h
 ·rename_i p a q b;cases h
  obtain⟨i,r,g,c⟩:=c;exact Spec.res (ok_rMul.sound [.x H [.r p a],.x H [.r q b]] _ rfl (fun f=>f=rA (p*q) (a+b)) ⟨i,rfl⟩) fun w O f v e d=>⟨_,c,by subst e;obtain rfl:=(JY.1 g).2;exact Vg (db g) d⟩
 ·cases h
theorem QXl{cs:B Ch}(e:Bd n q)(h:ConcV W O ρ (.t [(H,[.r q m]),(J,cs)]) v):ConcV W O ρ (.t [(H,[.r q n]),(J,cs)]) v:=by
 obtain⟨i,c,d⟩:=h;cases c with
 | cons g f=>exact⟨_,.cons (Vg e g) f,d⟩
theorem QcV:QH 43 fc:=by
 refine⟨ok_rDiv.enter,fun l T c K d=> ?_⟩;unfold fc at c;split at c
 ·rename_i p a q b;cases c
  obtain⟨k,r,h,d⟩:=d;unfold TI at h;cases g:(q.num==0)with
  | true=>rw[g]at h;cases h
  | false=>
   rw[g]at h;have i:q≠0:=fun e=>by subst e;simp at g
   exact Spec.res (ok_rDiv.sound [.x H [.r p a],.x H [.r q b]] _ rfl (fun j=>j= .t [(H,[.r (p/q) (a+b)]),(J,[.v (.int .i64 0)])]) ⟨k,fun _=>rfl,fun e=>absurd e i⟩) fun w O j v e f=>⟨_,d,by subst e;obtain rfl:=(JY.1 h).2;exact QXl (db h) f⟩
 ·cases c
theorem QcW:QH 87 nW:=by
 refine⟨ok_rNeg.enter,fun l T c K d=> ?_⟩;unfold nW at c;split at c
 ·rename_i p a;cases c
  exact Spec.res (ok_rNeg.sound [.x H [.r p a]] _ rfl (fun f=>f=rA (-p) a) ⟨by have:=d.1;omega,rfl⟩) fun w O f v e h=>⟨_,d.2,by subst e;exact Vg ((cB h).mono d.1) h⟩
 ·cases c
theorem QcX:QH 75 rS:=by
 refine⟨ok_rAbs.enter,fun l T c K d=> ?_⟩;unfold rS at c;split at c
 ·rename_i p a;cases c
  exact Spec.res (ok_rAbs.sound [.x H [.r p a]] _ rfl (fun f=>f=rA (Xr p) a) ⟨by have:=d.1;omega,rfl⟩) fun w O f v e h=>⟨_,d.2,by subst e;exact Vg ((cB h).mono d.1) h⟩
 ·cases c
theorem QcY:QH 103 lM:=by
 refine⟨ok_rMin.enter,fun l T c K d=> ?_⟩;unfold lM at c;split at c
 ·rename_i p a q b;cases c
  obtain⟨⟨g,i⟩,d⟩:=d;exact Spec.res (ok_rMin.sound [.x H [.r p a],.x H [.r q b]] _ rfl (fun f=>f=rA (Qx p q) (max a b)) ⟨o3,rfl⟩) fun w O f v e h=>⟨_,d,by subst e;exact Vg ((cB h).mono o3) h⟩
 ·cases c
theorem QcZ:QH 104 si:=by
 refine⟨ok_rMax.enter,fun l T c K d=> ?_⟩;unfold si at c;split at c
 ·rename_i p a q b;cases c
  obtain⟨⟨g,i⟩,d⟩:=d;exact Spec.res (ok_rMax.sound [.x H [.r p a],.x H [.r q b]] _ rfl (fun f=>f=rA (Q6 p q) (max a b)) ⟨o3,rfl⟩) fun w O f v e h=>⟨_,d,by subst e;exact Vg ((cB h).mono o3) h⟩
 ·cases c
def eP:LC:=(42,na)::(45,mW)::(44,qz)::(46,kA)::(43,fc)::(87,nW)::(75,rS)::(103,lM)::(104,si)::bR
noncomputable def Qhu:Qd:=mkT eP M79 X4
theorem nM:QF eP:= .cons Qht (.cons QcS (.cons QcT (.cons QcU (.cons QcV (.cons QcW (.cons QcX (.cons QcY (.cons QcZ eI))))))))
theorem QXm:Qr Qhu:=QP nM Qq Qb
def FU:E:=100000
def Xk (p:B A):E->E
 | 0=>0
 | n+1=>bif XY (p.getD n 0)==0 then Xk p n else n+1
def QR (p:B A):B A:=p.take (Xk p p.length)
def evN (p:B A)(x:A):E->A->C A
 | 0,s=>F s
 | i+1,s=>(JX s x).bind fun m=>(VM m (p.getD i 0)).bind fun a=>evN p x i a
def Tb (p:B A)(x:A):C A:=evN p x p.length 0
def Hq:B A->E->B A->C (B A)
 | [],_,d=>F d
 | c::t,i,d=>(JX (((i:G)):A) c).bind fun m=>Hq t (i+1) (d++[m])
def Tn (p:B A):C (B A):=(Hq (p.drop 1) 1 []).map QR
def TT (c:A):B A->E->B A->C (B A)
 | [],_,r=>F r
 | x::t,j,r=>(JX c x).bind fun m=>(K5 (r.getD j 0) m).bind fun v=>TT c t (j+1) (r.set j v)
def Ue (p:B A):A:=p.getD (Sj p-1) 0
def Hr (q:B A):E->B A->B A->C (B A×B A)
 | 0,_,_=>I
 | n+1,z,d=>bif E.ble q.length d.length then
   (TI (Ue d) (Ue q)).bind fun c=>(TT c q (Sj d-Sj q) d).bind fun r=>Hr q n (z.set (Sj d-Sj q) c) (QR r)
  else F (z,d)
def JJ (p q:B A):C (B A×B A):=Hr q FU (B.replicate ((QR p).length+1-Sj q) 0) (QR p)
def scF (d:A):B A->B A->C (B A)
 | [],e=>F e
 | c::t,e=>(TI c d).bind fun v=>scF d t (e++[v])
def JZ (p:B A):C (B A):=scF (Xr (Ue p)) p []
def Sx:E->B A->B A->C (B A)
 | 0,_,_=>I
 | n+1,a,b=>bif E.ble 1 b.length then(JJ a b).bind fun r=>(JZ b).bind fun s=>Sx n s r.2 else F a
def QXn (p:B A):C (B A):=(Tn p).bind fun d=>(Sx FU p d).bind fun a=>(JJ p a).bind fun r=>JZ (QR r.1)
def chF:E->B (B A)->B A->C (B (B A))
 | 0,_,_=>I
 | n+1,c,q=>bif E.ble 1 q.length then(JZ q).bind fun s=>(JJ (c.getD (Sj c-1) []) s).bind fun r=>chF n (c++[s]) (r.2.map fun x=> -x)else F c
def Wn (p:B A):C (B (B A)):=(Tn p).bind fun q=>chF FU [p] q
def S2 (x:A):B (B A)->G->G->C G
 | [],n,_=>F n
 | p::t,n,l=>(Tb p x).bind fun e=>S2 x t (bif decide (XY e*l<0)then n+1 else n) (bif XY e==0 then l else XY e)
def Uf (c:B (B A))(x:A):C G:=S2 x c 0 0
def W0 (c:B (B A))(x:A):C Bool:=(Tb (c.getD 0 []) x).bind fun e=>F (XY e==0)
def Jp (c:B (B A))(s:Sp):C G:=(Uf c s.lo).bind fun a=>(Uf c s.hi).bind fun b=>(W0 c s.lo).bind fun z=>F (bif z then a-b+1 else a-b)
def vu:A:=((1:G):A)/((2:G):A)
def Ge (s:Sp):C A:=(VM s.lo s.hi).bind fun m=>JX vu m
def KV (c:B (B A))(s:Sp):C Sp:=(Ge s).bind fun m=>(W0 c m).bind fun z=>bif z then F ⟨m,m⟩else(Jp c ⟨s.lo,m⟩).bind fun n=>bif n==1 then F ⟨s.lo,m⟩else F ⟨m,s.hi⟩
def HL (c:B (B A))(m:A):E->A->C Sp
 | 0,_=>I
 | k+1,d=>(Ge ⟨0,1⟩).bind fun h=>(JX d h).bind fun b=>(K5 m b).bind fun l=>(VM m b).bind fun u=>(Jp c ⟨l,u⟩).bind fun n=>
   bif n==1 then(W0 c l).bind fun z=>bif z then HL c m k b else(W0 c u).bind fun y=>bif y then HL c m k b else F ⟨l,u⟩else HL c m k b
def Xo (c:B (B A)):E->B Sp->Sp->C (B Sp)
 | 0,_,_=>I
 | k+1,d,s=>(Jp c s).bind fun n=>bif n==0 then F d else bif n==1 then F (d++[s])else
   (Ge s).bind fun m=>(W0 c m).bind fun z=>bif z then
    (K5 s.hi m).bind fun b=>(HL c m FU b).bind fun t=>(Xo c k d ⟨s.lo,t.lo⟩).bind fun o=>Xo c k (o++[⟨m,m⟩]) ⟨t.hi,s.hi⟩
   else(Xo c k d ⟨s.lo,m⟩).bind fun o=>Xo c k o ⟨m,s.hi⟩
def JE (p:B A):C (B (B A)):=bif E.beq (QR p).length 0 then I else bif E.ble (QR p).length 13 then(QXn (QR p)).bind Wn else I
def Kr:B A->A->C A
 | [],s=>F s
 | x::t,s=>(VM s (Xr x)).bind fun a=>Kr t a
def K6 (c:B (B A)):E->Sp->Sp->C (Sp×Sp)
 | 0,_,_=>I
 | k+1,s,t=>bif decide (t.lo<=s.hi)then(KV c s).bind fun d=>(KV c t).bind fun e=>K6 c k d e else F (s,t)
def s0:Sp:=⟨0,0⟩
def YT (c:B (B A)):E->E->B Sp->C (B Sp)
  | 0,_,o=>F o
  | k+1,i,o=>(K6 c FU (o.getD (i-1) s0) (o.getD i s0)).bind fun r=>YT c k (i+1) ((o.set (i-1) r.1).set i r.2)
def KW (p:B A):C (B Sp):=(JE p).bind fun c=>(Kr (c.getD 0 []) 1).bind fun m=>(Xo c FU [] ⟨-m,m⟩).bind fun o=>bif E.ble o.length 1000 then YT c (Sj o-1) 1 o else I
def Hs (p:B A)(s:Sp):C G:=(JE p).bind fun c=>Jp c s
def HM (c:B (B A))(w:A):E->Sp->C Sp
 | 0,_=>I
 | k+1,s=>(K5 s.hi s.lo).bind fun d=>bif decide (w<d)then(KV c s).bind fun e=>HM c w k e else F s
def aS (p:B A)(s:Sp)(w:A):C Sp:=(JE p).bind fun c=>(Jp c s).bind fun n=>bif n==1 then HM c w FU s else I
structure RtV where
 p:B A
 s:Sp
def Ug (r:RtV)(d:G):C RtV:=(aS r.p r.s (((1:G):A)/(d:A))).bind fun s=>F ⟨r.p,s⟩
def Vh (r:RtV)(l h:A):C Bool:=bif decide (Q6 r.s.lo l<=Qx r.s.hi h)then(Hs r.p ⟨Q6 r.s.lo l,Qx r.s.hi h⟩).bind fun n=>F (n==1)else F J
def Gf (p:B A):E->G->RtV->C G
 | 0,_,_=>I
 | k+1,d,r=>(Hs p r.s).bind fun n=>bif n==0 then(Tb p r.s.lo).bind fun e=>F (XY e)else(Ug r d).bind fun c=>Gf p k (d*16) c
def wZ (r:RtV)(x y:A):C G:=(JX (((-2:G)):A) x).bind fun m=>Gf [y,m,-y] 15 16 r
def W2 (q p:B A)(x y:A)(c:B Sp):B Sp->B (RtV×RtV)->C (B (RtV×RtV))
 | [],d=>F d
 | s::t,d=>bif E.beq c.length 2 then(wZ ⟨q,s⟩ x y).bind fun n=>W2 q p x y c t (d++[(⟨q,s⟩,⟨p,bif decide (0<n)then c.getD 1 s0 else c.getD 0 s0⟩)])
  else W2 q p x y c t (d++[(⟨q,s⟩,⟨p,c.getD 0 s0⟩)])
def sqZ (a:A):C A:=JX a a
def Tg (x y:A):C A:=(JX x x).bind fun a=>(JX y y).bind fun b=>VM a b
def aF (l m z:A):C (B A):=(VM l m).bind fun a=>(sqZ a).bind fun c=>(K5 z c).bind fun e=>(K5 l m).bind fun b=>(sqZ b).bind fun d=>(K5 z d).bind fun f=>F [e,0,f]
def Z3 (l m x y z:A):C (B A):=(sqZ l).bind fun c=>(VM z c).bind fun f=>(sqZ m).bind fun g=>(K5 f g).bind fun k=>(JX l x).bind fun d=>(JX ((2:G):A) d).bind fun u=>
 (K5 k u).bind fun h=>(JX l y).bind fun e=>(JX ((-4:G):A) e).bind fun i=>(VM k u).bind fun j=>F [h,i,j]
def WK (l m x y:A):C (B (RtV×RtV)):=(Tg x y).bind fun z=>(aF l m z).bind fun p=>
 bif decide (0<XY (p.getD 0 0)) || decide (XY (p.getD 2 0)<=0)then F []else
  (Z3 l m x y z).bind fun q=>(KW q).bind fun first=>(KW p).bind fun s=>bif E.ble 1 s.length then W2 q p x y s first []else I
def inF (l h1 d h:A):B (RtV×RtV)->B (RtV×RtV)->C (B (RtV×RtV))
 | [],c=>F c
 | r::t,c=>(Vh r.1 l h1).bind fun a=>bif a then(Vh r.2 d h).bind fun b=>bif b then inF l h1 d h t (c++[r])else inF l h1 d h t c else inF l h1 d h t c
def S3:B (RtV×RtV)->B (B Sp)->C (B (B Sp))
 | [],c=>F c
 | r::t,c=>(Ug r.1 1000).bind fun a=>(Ug r.2 1000).bind fun b=>S3 t (c++[[a.s,b.s]])
theorem gA {N:G}{D:E}(d:0<D)(f:N.natAbs<2^m)(j:D<2^m):Bd m ((N:A)/((D:G):A)):=by
 have e:(N:A)/((D:G):A)=mkRat N D:=by rw[A.mkRat_eq_div];rfl
 rw[e];refine⟨?_,?_⟩
 ·rw[A.num_mkRat,if_neg o3];have:(N/(E.gcd D N.natAbs:G)).natAbs<=N.natAbs:=by
   have h:((E.gcd D N.natAbs:E):G)∣N:=G.ofNat_dvd_left.2 (E.gcd_dvd_right _ _);have k:0<E.gcd D N.natAbs:=E.gcd_pos_of_pos_left _ d;obtain⟨c,i⟩:=h;generalize E.gcd D N.natAbs=g at*;rw[i,G.mul_ediv_cancel_left _ o3,Zc];have:1*c.natAbs<=(g:G).natAbs*c.natAbs:=E.mul_le_mul_right _ o3;omega
  exact E.lt_of_le_of_lt this f
 ·rw[A.den_mkRat,if_neg o3];exact E.lt_of_le_of_lt (E.div_le_self _ _) j
theorem QkO (p:A):((p.den:G):A)≠0:=fun e=>p.den_nz (by exact_mod_cast A.intCast_eq_zero_iff.1 e)
theorem QXo (p q:A):(((p.den*q.den:E):G):A)≠0:=fun e=>by
 have h:p.den*q.den=0:=by exact_mod_cast A.intCast_eq_zero_iff.1 e
 have:=E.mul_pos p.den_pos q.den_pos;omega
theorem bu (p:A):p*((p.den:G):A)=(p.num:A):=by
 have h:(p.num:A)/((p.den:E):A)=p:=by rw[<-A.mkRat_eq_div,A.mkRat_self]
 have c:=A.div_mul_cancel (a:=(p.num:A)) (QkO p);rw[show(p.num:A)/((p.den:G):A)=p from h]at c;exact c
theorem fw {x N D:A}(c:D≠0)(h:x*D=N):x=N/D:=by rw[<-h,A.mul_div_cancel c]
variable{a b:E}
theorem KX(h:a<2^m)(k:b<2^n):a*b<2^(m+n):=by
 rw[E.pow_add];exact E.mul_lt_mul'' h k
variable{p:A}
theorem zL(h:Bd a p)(k:Bd b q):Bd (a+b+1) (p+q):=by
 have e:p+q=((p.num*q.den+q.num*p.den:G):A)/(((p.den*q.den:E):G):A):=by
  refine fw (QXo p q) ?_
  ·have c:=bu p;have d:=bu q;push_cast at c d|-;grind
 rw[e];refine gA (E.mul_pos p.den_pos q.den_pos) ?_ ?_
 ·have c:=KX h.1 k.2;have d:=KX k.1 h.2;rw[E.add_comm b a]at d;rw[E.pow_succ];have f:(p.num*(q.den:G)).natAbs=p.num.natAbs*q.den:=by rw[Zc,Zd]
  have g:(q.num*(p.den:G)).natAbs=q.num.natAbs*p.den:=by rw[Zc,Zd]
  omega
 ·have c:=KX h.2 k.2;rw[E.pow_succ];omega
theorem Qhw(h:Bd a p):Bd a (-p):=⟨by rw[show(-p).num= -p.num from rfl,G.natAbs_neg];exact h.1,h.2⟩
theorem Qhx(h:Bd a p)(k:Bd b q):Bd (a+b+1) (p-q):=by
 rw[A.sub_eq_add_neg];exact zL h (Qhw k)
theorem QXq(h:Bd a p)(k:Bd b q):Bd (a+b) (p*q):=by
 have e:p*q=((p.num*q.num:G):A)/(((p.den*q.den:E):G):A):=by
  refine fw (QXo p q) ?_
  ·have c:=bu p;have d:=bu q;push_cast at c d|-;grind
 rw[e];refine gA (E.mul_pos p.den_pos q.den_pos) ?_ (KX h.2 k.2)
 rw[Zc];exact KX h.1 k.1
theorem QRv (n:G):n.sign*n=n.natAbs:=by
 rcases G.lt_trichotomy n 0 with h | h | h
 ·rw[Za h];omega
 ·subst h;rfl
 ·rw[Zb h];omega
theorem Qhy(h:Bd a p)(h0:p≠0):Bd a (p⁻¹):=by
 have c:p.num≠0:=fun e=>h0 (A.num_eq_zero.1 e);have e:p⁻¹=((p.num.sign*p.den:G):A)/(((p.num.natAbs:E):G):A):=by
  have d:=bu p;have j:p*p⁻¹=1:=A.mul_inv_cancel p h0;have f:((p.num.natAbs:E):G)=p.num.sign*p.num:=(QRv p.num).symm;have g:p.num.sign*p.num.sign=1:=by
   rcases G.lt_or_gt_of_ne c with h | h
   ·rw[Za h];rfl
   ·rw[Zb h];rfl
  refine fw ?_ ?_
  ·intro e;have:=A.intCast_eq_zero_iff.1 e;omega
  ·rw[f];push_cast;have i:(p.num.sign:A)*(p.num.sign:A)=1:=by exact_mod_cast congrArg (fun z:G=>(z:A)) g
   push_cast at d;grind
 rw[e];refine gA o3 ?_ h.1
 rw[Zc,Zd];have:p.num.sign.natAbs=1:=by
  rcases G.lt_or_gt_of_ne c with h | h
  ·rw[Za h];rfl
  ·rw[Zb h];rfl
 rw[this,E.one_mul];exact h.2
theorem xa(h:Bd a p)(k:Bd b q)(h0:q≠0):Bd (a+b) (p/q):=by
 rw[A.div_def];exact QXq h (Qhy k h0)
theorem uV {n:G}(h:n.natAbs<2^m)(c:m≠0):Bd m (n:A):=⟨by rw[A.num_intCast];exact h,by show 1<2^m;exact E.one_lt_two_pow c⟩
theorem Qhz(h:Bd n q):szR q<=n:=by
 unfold szR;have c:max q.num.natAbs q.den<2^n:=by have:=h.1;have:=h.2;omega
 have d:=q.den_pos;have:=(E.log2_lt (n:=max q.num.natAbs q.den) (k:=n) o3).2 c;omega
theorem Qh0(h:Bd n q)(c:n<=100000):ckZ q=F q:=JY.2 ⟨E.le_trans (Qhz h) c,rfl⟩
theorem Qcb(h:Bd a p)(k:Bd b q)(h0:q≠0)(d:a+b<=100000):TI p q=F (p/q):=by
 unfold TI;have:(q.num==0)=J:=by
  cases c:q.num==0 with
  | false=>rfl
  | true=>exact absurd (A.num_eq_zero.1 ((j9 c))) h0
 rw[this];exact Qh0 (xa h k h0) d
end Go.Proofs
