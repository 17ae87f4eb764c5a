/- Numbers of one size: sums, products, quotients are checked against it. -/
import Derived.Test.YtfhfenokfkenoaaGreatDoorPD
open Int renaming sign_eq_neg_one_of_neg → Za, sign_eq_one_of_pos → Zb, natAbs_mul → Zc, natAbs_natCast → Zd
namespace Go.Proofs
open Go Go.Eng
def szR (q:Rat):Nat:=Nat.log2 (max q.num.natAbs q.den)+1
def ckZ (q:Rat):Option Rat:=bif Nat.ble (szR q) 100000 then some q else none
def KN (p q:Rat):Option Rat:=ckZ (p+q)
def W3 (p q:Rat):Option Rat:=ckZ (p-q)
def YY (p q:Rat):Option Rat:=ckZ (p*q)
def QCd (p q:Rat):Option Rat:=bif q.num==0 then none else ckZ (p/q)
def QQu:Ctr
 | [.x false [.v (.int .i64 n)]]=>some fun K=>(-9223372036854775808<=n/\n<9223372036854775808)/\K (rA (n:Rat) 100000)
 | _=>none
def QJY:Ctr
 | [.x true [.r p a],.x true [.r q b]]=>some fun K=>a+b+1<=4294967296/\ ∃r,KN p q=some r/\K (rA r 100000)
 | _=>none
def QJZ:Ctr
 | [.x true [.r p a],.x true [.r q b]]=>some fun K=>a+b+1<=4294967296/\ ∃r,W3 p q=some r/\K (rA r 100000)
 | _=>none
def QJa:Ctr
 | [.x true [.r p a],.x true [.r q b]]=>some fun K=>a+b<=4294967296/\ ∃r,YY p q=some r/\K (rA r 100000)
 | _=>none
def QJb:Ctr
 | [.x true [.r p a],.x true [.r q b]]=>some fun K=>a+b<=4294967296/\ ∃r,QCd p q=some r/\K (.t [(true,[.r r 100000]),(false,[.v (.int .i64 0)])])
 | _=>none
def QJc:Ctr
 | [.x true [.r p a]]=>some fun K=>a<=100000/\K (rA (-p) 100000)
 | _=>none
def QJd:Ctr
 | [.x true [.r p a]]=>some fun K=>a<=100000/\K (rA (QV p) 100000)
 | _=>none
def QJe:Ctr
 | [.x true [.r p a],.x true [.r q b]]=>some fun K=>(a<=100000/\b<=100000)/\K (rA (Qt p q) 100000)
 | _=>none
def QJf:Ctr
 | [.x true [.r p a],.x true [.r q b]]=>some fun K=>(a<=100000/\b<=100000)/\K (rA (Q7 p q) 100000)
 | _=>none
theorem QZX (q:Rat):Bd (szR q) q:=by
 have h:max q.num.natAbs q.den<2^szR q:=Nat.lt_log2_self;exact⟨by omega,by omega⟩
theorem JE {q r:Rat}:ckZ q=some r↔szR q<=100000/\q=r:=by
 unfold ckZ;cases h:Nat.ble (szR q) 100000 with
 | true=>simp[Nat.le_of_ble_eq_true h]
 | false=>
  have: ¬szR q<=100000:=fun k=>by rw[Nat.ble_eq_true_of_le k]at h;cases h
  simp[this]
theorem QE5 {q r:Rat}(h:ckZ q=some r):Bd 100000 r:=by
 obtain⟨h1,rfl⟩:=JE.1 h;exact(QZX q).mono h1
theorem VB {W:World}{O:Nat->Prop}{ρ:Env}{n m:Nat}{q:Rat}(hb:Bd n q){v:Value}(h:ConcV W O ρ (rA q m) v):ConcV W O ρ (rA q n) v:=by
 obtain⟨vals,h1,h2⟩:=h;cases h1 with | r _ h1=>exact⟨_,.r hb h1,h2⟩
theorem QG3 {W:World}{O:Nat->Prop}{ρ:Env}{m:Nat}{q:Rat}{v:Value}(h:ConcV W O ρ (rA q m) v):Bd m q:=by
 obtain⟨vals,h1,h2⟩:=h;cases h1 with | r hb _=>exact hb
theorem QZY:QI 68 QQu:=by
 refine⟨ok_rOf.enter,fun l T hT K hK=> ?_⟩;unfold QQu at hT;split at hT
 ·rename_i n;cases hT
  exact Spec.res (ok_rOf.sound [.x false [.v (.int .i64 n)]] _ rfl (fun av=>av=rA (n:Rat) 64) ⟨hK.1,rfl⟩) fun w O av v e hcv=>⟨_,hK.2,by subst e;exact VB ((QG3 hcv).mono (by omega)) hcv⟩
 ·cases hT
theorem QUo:QI 23 QJY:=by
 refine⟨ok_rAdd.enter,fun l T hT K hK=> ?_⟩;unfold QJY at hT;split at hT
 ·rename_i p a q b;cases hT
  obtain⟨h1,r,hr,hK⟩:=hK;exact Spec.res (ok_rAdd.sound [.x true [.r p a],.x true [.r q b]] _ rfl (fun av=>av=rA (p+q) (a+b+1)) ⟨h1,rfl⟩) fun w O av v e hcv=>⟨_,hK,by subst e;obtain rfl:=(JE.1 hr).2;exact VB (QE5 hr) hcv⟩
 ·cases hT
theorem QUp:QI 69 QJZ:=by
 refine⟨ok_rSub.enter,fun l T hT K hK=> ?_⟩;unfold QJZ at hT;split at hT
 ·rename_i p a q b;cases hT
  obtain⟨h1,r,hr,hK⟩:=hK;exact Spec.res (ok_rSub.sound [.x true [.r p a],.x true [.r q b]] _ rfl (fun av=>av=rA (p-q) (a+b+1)) ⟨h1,rfl⟩) fun w O av v e hcv=>⟨_,hK,by subst e;obtain rfl:=(JE.1 hr).2;exact VB (QE5 hr) hcv⟩
 ·cases hT
theorem QUq:QI 88 QJa:=by
 refine⟨ok_rMul.enter,fun l T hT K hK=> ?_⟩;unfold QJa at hT;split at hT
 ·rename_i p a q b;cases hT
  obtain⟨h1,r,hr,hK⟩:=hK;exact Spec.res (ok_rMul.sound [.x true [.r p a],.x true [.r q b]] _ rfl (fun av=>av=rA (p*q) (a+b)) ⟨h1,rfl⟩) fun w O av v e hcv=>⟨_,hK,by subst e;obtain rfl:=(JE.1 hr).2;exact VB (QE5 hr) hcv⟩
 ·cases hT
theorem QQv {W:World}{O:Nat->Prop}{ρ:Env}{n m:Nat}{q:Rat}{cs:List Ch}(hb:Bd n q){v:Value}(h:ConcV W O ρ (.t [(true,[.r q m]),(false,cs)]) v):ConcV W O ρ (.t [(true,[.r q n]),(false,cs)]) v:=by
 obtain⟨vs,h1,h2⟩:=h;cases h1 with
 | cons hx ht=>exact⟨_,.cons (VB hb hx) ht,h2⟩
theorem QUr:QI 87 QJb:=by
 refine⟨ok_rDiv.enter,fun l T hT K hK=> ?_⟩;unfold QJb at hT;split at hT
 ·rename_i p a q b;cases hT
  obtain⟨h1,r,hr,hK⟩:=hK;unfold QCd at hr;cases hq:(q.num==0)with
  | true=>rw[hq]at hr;cases hr
  | false=>
   rw[hq]at hr;have hq0:q≠0:=fun e=>by subst e;simp at hq
   exact Spec.res (ok_rDiv.sound [.x true [.r p a],.x true [.r q b]] _ rfl (fun av=>av= .t [(true,[.r (p/q) (a+b)]),(false,[.v (.int .i64 0)])]) ⟨h1,fun _=>rfl,fun e=>absurd e hq0⟩) fun w O av v e hcv=>⟨_,hK,by subst e;obtain rfl:=(JE.1 hr).2;exact QQv (QE5 hr) hcv⟩
 ·cases hT
theorem QUs:QI 127 QJc:=by
 refine⟨ok_rNeg.enter,fun l T hT K hK=> ?_⟩;unfold QJc at hT;split at hT
 ·rename_i p a;cases hT
  exact Spec.res (ok_rNeg.sound [.x true [.r p a]] _ rfl (fun av=>av=rA (-p) a) ⟨by have:=hK.1;omega,rfl⟩) fun w O av v e hcv=>⟨_,hK.2,by subst e;exact VB ((QG3 hcv).mono hK.1) hcv⟩
 ·cases hT
theorem QUt:QI 22 QJd:=by
 refine⟨ok_rAbs.enter,fun l T hT K hK=> ?_⟩;unfold QJd at hT;split at hT
 ·rename_i p a;cases hT
  exact Spec.res (ok_rAbs.sound [.x true [.r p a]] _ rfl (fun av=>av=rA (QV p) a) ⟨by have:=hK.1;omega,rfl⟩) fun w O av v e hcv=>⟨_,hK.2,by subst e;exact VB ((QG3 hcv).mono hK.1) hcv⟩
 ·cases hT
theorem QUu:QI 172 QJe:=by
 refine⟨ok_rMin.enter,fun l T hT K hK=> ?_⟩;unfold QJe at hT;split at hT
 ·rename_i p a q b;cases hT
  obtain⟨⟨h1,h2⟩,hK⟩:=hK;exact Spec.res (ok_rMin.sound [.x true [.r p a],.x true [.r q b]] _ rfl (fun av=>av=rA (Qt p q) (max a b)) ⟨by omega,rfl⟩) fun w O av v e hcv=>⟨_,hK,by subst e;exact VB ((QG3 hcv).mono (by omega)) hcv⟩
 ·cases hT
theorem QUv:QI 173 QJf:=by
 refine⟨ok_rMax.enter,fun l T hT K hK=> ?_⟩;unfold QJf at hT;split at hT
 ·rename_i p a q b;cases hT
  obtain⟨⟨h1,h2⟩,hK⟩:=hK;exact Spec.res (ok_rMax.sound [.x true [.r p a],.x true [.r q b]] _ rfl (fun av=>av=rA (Q7 p q) (max a b)) ⟨by omega,rfl⟩) fun w O av v e hcv=>⟨_,hK,by subst e;exact VB ((QG3 hcv).mono (by omega)) hcv⟩
 ·cases hT
def QUw:LC:=(68,QQu)::(23,QJY)::(69,QJZ)::(88,QJa)::(87,QJb)::(127,QJc)::(22,QJd)::(172,QJe)::(173,QJf)::QQT
noncomputable def QZZ:QZ:=mkT QUw M79 X4
theorem QJg:QG QUw:= .cons QZY (.cons QUo (.cons QUp (.cons QUq (.cons QUr (.cons QUs (.cons QUt (.cons QUu (.cons QUv QEz))))))))
theorem QQw:XL QZZ:=QP QJg XN Qg
end Go.Proofs
namespace Go.Proofs
open Go Go.Eng
def FU:Nat:=100000
def XC (p:List Rat):Nat->Nat
 | 0=>0
 | n+1=>bif Qf (p.getD n 0)==0 then XC p n else n+1
def QJ (p:List Rat):List Rat:=p.take (XC p p.length)
def evN (p:List Rat)(x:Rat):Nat->Rat->Option Rat
 | 0,s=>some s
 | i+1,s=>(YY s x).bind fun m=>(KN m (p.getD i 0)).bind fun a=>evN p x i a
def X8 (p:List Rat)(x:Rat):Option Rat:=evN p x p.length 0
def Kg:List Rat->Nat->List Rat->Option (List Rat)
 | [],_,acc=>some acc
 | c::t,i,acc=>(YY (((i:Int)):Rat) c).bind fun m=>Kg t (i+1) (acc++[m])
def Ga (p:List Rat):Option (List Rat):=(Kg (p.drop 1) 1 []).map QJ
def V3 (c:Rat):List Rat->Nat->List Rat->Option (List Rat)
 | [],_,rest=>some rest
 | x::t,j,rest=>(YY c x).bind fun m=>(W3 (rest.getD j 0) m).bind fun v=>V3 c t (j+1) (rest.set j v)
def Qq (p:List Rat):Rat:=p.getD (p.length-1) 0
def KO (q:List Rat):Nat->List Rat->List Rat->Option (List Rat×List Rat)
 | 0,_,_=>none
 | n+1,by',rest=>bif Nat.ble q.length rest.length then
   (QCd (Qq rest) (Qq q)).bind fun c=>(V3 c q (rest.length-q.length) rest).bind fun r=>KO q n (by'.set (rest.length-q.length) c) (QJ r)
  else some (by',rest)
def Xv (p q:List Rat):Option (List Rat×List Rat):=KO q FU (List.replicate ((QJ p).length+1-q.length) 0) (QJ p)
def scF (d:Rat):List Rat->List Rat->Option (List Rat)
 | [],acc=>some acc
 | c::t,acc=>(QCd c d).bind fun v=>scF d t (acc++[v])
def Y1 (p:List Rat):Option (List Rat):=scF (QV (Qq p)) p []
def Kh:Nat->List Rat->List Rat->Option (List Rat)
 | 0,_,_=>none
 | n+1,a,b=>bif Nat.ble 1 b.length then(Xv a b).bind fun r=>(Y1 b).bind fun s=>Kh n s r.2 else some a
def Wx (p:List Rat):Option (List Rat):=(Ga p).bind fun d=>(Kh FU p d).bind fun a=>(Xv p a).bind fun r=>Y1 (QJ r.1)
def chF:Nat->List (List Rat)->List Rat->Option (List (List Rat))
 | 0,_,_=>none
 | n+1,c,q=>bif Nat.ble 1 q.length then(Y1 q).bind fun s=>(Xv (c.getD (c.length-1) []) s).bind fun r=>chF n (c++[s]) (r.2.map fun x=> -x)else some c
def Xl (p:List Rat):Option (List (List Rat)):=(Ga p).bind fun q=>chF FU [p] q
def Ki (x:Rat):List (List Rat)->Int->Int->Option Int
 | [],n,_=>some n
 | p::t,n,last=>(X8 p x).bind fun e=>Ki x t (bif decide (Qf e*last<0)then n+1 else n) (bif Qf e==0 then last else Qf e)
def Xt (c:List (List Rat))(x:Rat):Option Int:=Ki x c 0 0
def YT (c:List (List Rat))(x:Rat):Option Bool:=(X8 (c.getD 0 []) x).bind fun e=>some (Qf e==0)
def YI (c:List (List Rat))(s:Sp):Option Int:=(Xt c s.lo).bind fun a=>(Xt c s.hi).bind fun b=>(YT c s.lo).bind fun z=>some (bif z then a-b+1 else a-b)
def QG4:Rat:=((1:Int):Rat)/((2:Int):Rat)
def V4 (s:Sp):Option Rat:=(KN s.lo s.hi).bind fun m=>YY QG4 m
def J9 (c:List (List Rat))(s:Sp):Option Sp:=(V4 s).bind fun m=>(YT c m).bind fun z=>bif z then some ⟨m,m⟩else(YI c ⟨s.lo,m⟩).bind fun n=>bif n==1 then some ⟨s.lo,m⟩else some ⟨m,s.hi⟩
def KB (c:List (List Rat))(m:Rat):Nat->Rat->Option Sp
 | 0,_=>none
 | k+1,b0=>(V4 ⟨0,1⟩).bind fun h=>(YY b0 h).bind fun b=>(W3 m b).bind fun l=>(KN m b).bind fun u=>(YI c ⟨l,u⟩).bind fun n=>
   bif n==1 then(YT c l).bind fun z=>bif z then KB c m k b else(YT c u).bind fun y=>bif y then KB c m k b else some ⟨l,u⟩else KB c m k b
def XQ (c:List (List Rat)):Nat->List Sp->Sp->Option (List Sp)
 | 0,_,_=>none
 | k+1,out,s=>(YI c s).bind fun n=>bif n==0 then some out else bif n==1 then some (out++[s])else
   (V4 s).bind fun m=>(YT c m).bind fun z=>bif z then
    (W3 s.hi m).bind fun b=>(KB c m FU b).bind fun t=>(XQ c k out ⟨s.lo,t.lo⟩).bind fun o=>XQ c k (o++[⟨m,m⟩]) ⟨t.hi,s.hi⟩
   else(XQ c k out ⟨s.lo,m⟩).bind fun o=>XQ c k o ⟨m,s.hi⟩
def Xf (p:List Rat):Option (List (List Rat)):=bif Nat.beq (QJ p).length 0 then none else bif Nat.ble (QJ p).length 13 then(Wx (QJ p)).bind Xl else none
def Y3:List Rat->Rat->Option Rat
 | [],s=>some s
 | x::t,s=>(KN s (QV x)).bind fun a=>Y3 t a
def WA (c:List (List Rat)):Nat->Sp->Sp->Option (Sp×Sp)
 | 0,_,_=>none
 | k+1,s,t=>bif decide (t.lo<=s.hi)then(J9 c s).bind fun s'=>(J9 c t).bind fun t'=>WA c k s' t' else some (s,t)
def s0:Sp:=⟨0,0⟩
def Xo (c:List (List Rat)):Nat->Nat->List Sp->Option (List Sp)
  | 0,_,out=>some out
  | k+1,i,out=>(WA c FU (out.getD (i-1) s0) (out.getD i s0)).bind fun r=>Xo c k (i+1) ((out.set (i-1) r.1).set i r.2)
def Jv (p:List Rat):Option (List Sp):=(Xf p).bind fun c=>(Y3 (c.getD 0 []) 1).bind fun m=>(XQ c FU [] ⟨-m,m⟩).bind fun out=>bif Nat.ble out.length 1000 then Xo c (out.length-1) 1 out else none
def Wy (p:List Rat)(s:Sp):Option Int:=(Xf p).bind fun c=>YI c s
def Kk (c:List (List Rat))(w:Rat):Nat->Sp->Option Sp
 | 0,_=>none
 | k+1,s=>(W3 s.hi s.lo).bind fun d=>bif decide (w<d)then(J9 c s).bind fun s'=>Kk c w k s' else some s
def QB4 (p:List Rat)(s:Sp)(w:Rat):Option Sp:=(Xf p).bind fun c=>(YI c s).bind fun n=>bif n==1 then Kk c w FU s else none
structure RtV where
 p:List Rat
 s:Sp
def WR (r:RtV)(den:Int):Option RtV:=(QB4 r.p r.s (((1:Int):Rat)/(den:Rat))).bind fun s=>some ⟨r.p,s⟩
def Xp (r:RtV)(lo hi:Rat):Option Bool:=bif decide (Q7 r.s.lo lo<=Qt r.s.hi hi)then(Wy r.p ⟨Q7 r.s.lo lo,Qt r.s.hi hi⟩).bind fun n=>some (n==1)else some false
def KC (p:List Rat):Nat->Int->RtV->Option Int
 | 0,_,_=>none
 | k+1,den,r=>(Wy p r.s).bind fun n=>bif n==0 then(X8 p r.s.lo).bind fun e=>some (Qf e)else(WR r den).bind fun r'=>KC p k (den*16) r'
def QG5 (r:RtV)(x y:Rat):Option Int:=(YY (((-2:Int)):Rat) x).bind fun m=>KC [y,m,-y] 15 16 r
def Jw (q p:List Rat)(x y:Rat)(second:List Sp):List Sp->List (RtV×RtV)->Option (List (RtV×RtV))
 | [],acc=>some acc
 | s::t,acc=>bif Nat.beq second.length 2 then(QG5 ⟨q,s⟩ x y).bind fun n=>Jw q p x y second t (acc++[(⟨q,s⟩,⟨p,bif decide (0<n)then second.getD 1 s0 else second.getD 0 s0⟩)])
  else Jw q p x y second t (acc++[(⟨q,s⟩,⟨p,second.getD 0 s0⟩)])
def sqZ (a:Rat):Option Rat:=YY a a
def Ue (x y:Rat):Option Rat:=(YY x x).bind fun a=>(YY y y).bind fun b=>KN a b
def G5 (l m far:Rat):Option (List Rat):=(KN l m).bind fun a=>(sqZ a).bind fun a2=>(W3 far a2).bind fun p0=>(W3 l m).bind fun b=>(sqZ b).bind fun b2=>(W3 far b2).bind fun p2=>some [p0,0,p2]
def G6 (l m x y far:Rat):Option (List Rat):=(sqZ l).bind fun l2=>(KN far l2).bind fun f=>(sqZ m).bind fun m2=>(W3 f m2).bind fun k=>(YY l x).bind fun lx=>(YY ((2:Int):Rat) lx).bind fun u=>
 (W3 k u).bind fun q0=>(YY l y).bind fun ly=>(YY ((-4:Int):Rat) ly).bind fun q1=>(KN k u).bind fun q2=>some [q0,q1,q2]
def YO (l m x y:Rat):Option (List (RtV×RtV)):=(Ue x y).bind fun far=>(G5 l m far).bind fun p=>
 bif decide (0<Qf (p.getD 0 0)) || decide (Qf (p.getD 2 0)<=0)then some []else
  (G6 l m x y far).bind fun q=>(Jv q).bind fun first=>(Jv p).bind fun second=>bif Nat.ble 1 second.length then Jw q p x y second first []else none
def inF (l1 h1 l2 h2:Rat):List (RtV×RtV)->List (RtV×RtV)->Option (List (RtV×RtV))
 | [],acc=>some acc
 | r::t,acc=>(Xp r.1 l1 h1).bind fun a=>bif a then(Xp r.2 l2 h2).bind fun b=>bif b then inF l1 h1 l2 h2 t (acc++[r])else inF l1 h1 l2 h2 t acc else inF l1 h1 l2 h2 t acc
def VO:List (RtV×RtV)->List (List Sp)->Option (List (List Sp))
 | [],acc=>some acc
 | r::t,acc=>(WR r.1 1000).bind fun a=>(WR r.2 1000).bind fun b=>VO t (acc++[[a.s,b.s]])
end Go.Proofs
namespace Go.Proofs
open Go Go.Eng
theorem UL {N:Int}{D m:Nat}(hD:0<D)(hN:N.natAbs<2^m)(hd:D<2^m):Bd m ((N:Rat)/((D:Int):Rat)):=by
 have e:(N:Rat)/((D:Int):Rat)=mkRat N D:=by rw[Rat.mkRat_eq_div];rfl
 rw[e];refine⟨?_,?_⟩
 ·rw[Rat.num_mkRat,if_neg (by omega)];have:(N/(Nat.gcd D N.natAbs:Int)).natAbs<=N.natAbs:=by
   have hdv:((Nat.gcd D N.natAbs:Nat):Int)∣N:=Int.ofNat_dvd_left.2 (Nat.gcd_dvd_right _ _);have hg:0<Nat.gcd D N.natAbs:=Nat.gcd_pos_of_pos_left _ hD;obtain⟨c,hc⟩:=hdv;generalize Nat.gcd D N.natAbs=g at*;rw[hc,Int.mul_ediv_cancel_left _ (by omega),Zc];have:1*c.natAbs<=(g:Int).natAbs*c.natAbs:=Nat.mul_le_mul_right _ (by omega);omega
  exact Nat.lt_of_le_of_lt this hN
 ·rw[Rat.den_mkRat,if_neg (by omega)];exact Nat.lt_of_le_of_lt (Nat.div_le_self _ _) hd
theorem Qbx (p:Rat):((p.den:Int):Rat)≠0:=fun e=>p.den_nz (by exact_mod_cast Rat.intCast_eq_zero_iff.1 e)
theorem QQx (p q:Rat):(((p.den*q.den:Nat):Int):Rat)≠0:=fun e=>by
 have h:p.den*q.den=0:=by exact_mod_cast Rat.intCast_eq_zero_iff.1 e
 have:=Nat.mul_pos p.den_pos q.den_pos;omega
theorem Hb (p:Rat):p*((p.den:Int):Rat)=(p.num:Rat):=by
 have h:(p.num:Rat)/((p.den:Nat):Rat)=p:=by rw[<-Rat.mkRat_eq_div,Rat.mkRat_self]
 have h2:=Rat.div_mul_cancel (a:=(p.num:Rat)) (Qbx p);rw[show(p.num:Rat)/((p.den:Int):Rat)=p from h]at h2;exact h2
theorem QQy {x N D:Rat}(hD:D≠0)(h:x*D=N):x=N/D:=by rw[<-h,Rat.mul_div_cancel hD]
theorem Wz {a b m n:Nat}(h:a<2^m)(k:b<2^n):a*b<2^(m+n):=by
 rw[Nat.pow_add];exact Nat.mul_lt_mul'' h k
theorem YP {a b:Nat}{p q:Rat}(h:Bd a p)(k:Bd b q):Bd (a+b+1) (p+q):=by
 have e:p+q=((p.num*q.den+q.num*p.den:Int):Rat)/(((p.den*q.den:Nat):Int):Rat):=by
  refine QQy (QQx p q) ?_
  ·have h1:=Hb p;have h2:=Hb q;push_cast at h1 h2⊢;grind
 rw[e];refine UL (Nat.mul_pos p.den_pos q.den_pos) ?_ ?_
 ·have h1:=Wz h.1 k.2;have h2:=Wz k.1 h.2;rw[Nat.add_comm b a]at h2;rw[Nat.pow_succ];have e1:(p.num*(q.den:Int)).natAbs=p.num.natAbs*q.den:=by rw[Zc,Zd]
  have e2:(q.num*(p.den:Int)).natAbs=q.num.natAbs*p.den:=by rw[Zc,Zd]
  omega
 ·have h1:=Wz h.2 k.2;rw[Nat.pow_succ];omega
theorem QB5 {a:Nat}{p:Rat}(h:Bd a p):Bd a (-p):=⟨by rw[show(-p).num= -p.num from rfl,Int.natAbs_neg];exact h.1,h.2⟩
theorem WB {a b:Nat}{p q:Rat}(h:Bd a p)(k:Bd b q):Bd (a+b+1) (p-q):=by
 rw[Rat.sub_eq_add_neg];exact YP h (QB5 k)
theorem Qw {a b:Nat}{p q:Rat}(h:Bd a p)(k:Bd b q):Bd (a+b) (p*q):=by
 have e:p*q=((p.num*q.num:Int):Rat)/(((p.den*q.den:Nat):Int):Rat):=by
  refine QQy (QQx p q) ?_
  ·have h1:=Hb p;have h2:=Hb q;push_cast at h1 h2⊢;grind
 rw[e];refine UL (Nat.mul_pos p.den_pos q.den_pos) ?_ (Wz h.2 k.2)
 rw[Zc];exact Wz h.1 k.1
theorem QM4 (n:Int):n.sign*n=n.natAbs:=by
 rcases Int.lt_trichotomy n 0 with h | h | h
 ·rw[Za h];omega
 ·subst h;rfl
 ·rw[Zb h];omega
theorem QZa {a:Nat}{p:Rat}(h:Bd a p)(h0:p≠0):Bd a (p⁻¹):=by
 have hn:p.num≠0:=fun e=>h0 (Rat.num_eq_zero.1 e);have e:p⁻¹=((p.num.sign*p.den:Int):Rat)/(((p.num.natAbs:Nat):Int):Rat):=by
  have h1:=Hb p;have h2:p*p⁻¹=1:=Rat.mul_inv_cancel p h0;have h3:((p.num.natAbs:Nat):Int)=p.num.sign*p.num:=(QM4 p.num).symm;have h4:p.num.sign*p.num.sign=1:=by
   rcases Int.lt_or_gt_of_ne hn with h | h
   ·rw[Za h];rfl
   ·rw[Zb h];rfl
  refine QQy ?_ ?_
  ·intro e;have:=Rat.intCast_eq_zero_iff.1 e;omega
  ·rw[h3];push_cast;have h4':(p.num.sign:Rat)*(p.num.sign:Rat)=1:=by exact_mod_cast congrArg (fun z:Int=>(z:Rat)) h4
   push_cast at h1;grind
 rw[e];refine UL (by omega) ?_ h.1
 rw[Zc,Zd];have:p.num.sign.natAbs=1:=by
  rcases Int.lt_or_gt_of_ne hn with h | h
  ·rw[Za h];rfl
  ·rw[Zb h];rfl
 rw[this,Nat.one_mul];exact h.2
theorem Xg {a b:Nat}{p q:Rat}(h:Bd a p)(k:Bd b q)(h0:q≠0):Bd (a+b) (p/q):=by
 rw[Rat.div_def];exact Qw h (QZa k h0)
theorem QQz {n:Int}{m:Nat}(h:n.natAbs<2^m)(hm:m≠0):Bd m (n:Rat):=⟨by rw[Rat.num_intCast];exact h,by show 1<2^m;exact Nat.one_lt_two_pow hm⟩
theorem QZb {n:Nat}{q:Rat}(h:Bd n q):szR q<=n:=by
 unfold szR;have h1:max q.num.natAbs q.den<2^n:=by have:=h.1;have:=h.2;omega
 have hd:=q.den_pos;have:=(Nat.log2_lt (n:=max q.num.natAbs q.den) (k:=n) (by omega)).2 h1;omega
theorem QE6 {n:Nat}{q:Rat}(h:Bd n q)(hn:n<=100000):ckZ q=some q:=JE.2 ⟨Nat.le_trans (QZb h) hn,rfl⟩
theorem X0 {a b:Nat}{p q:Rat}(h:Bd a p)(k:Bd b q)(hn:a+b+1<=100000):KN p q=some (p+q):=QE6 (YP h k) hn
theorem Y4 {a b:Nat}{p q:Rat}(h:Bd a p)(k:Bd b q)(hn:a+b+1<=100000):W3 p q=some (p-q):=QE6 (WB h k) hn
theorem XJ {a b:Nat}{p q:Rat}(h:Bd a p)(k:Bd b q)(hn:a+b<=100000):YY p q=some (p*q):=QE6 (Qw h k) hn
theorem Hc {a b:Nat}{p q:Rat}(h:Bd a p)(k:Bd b q)(h0:q≠0)(hn:a+b<=100000):QCd p q=some (p/q):=by
 unfold QCd;have:(q.num==0)=false:=by
  cases hb:q.num==0 with
  | false=>rfl
  | true=>exact absurd (Rat.num_eq_zero.1 (by simpa using hb)) h0
 rw[this];exact QE6 (Xg h k h0) hn
end Go.Proofs
