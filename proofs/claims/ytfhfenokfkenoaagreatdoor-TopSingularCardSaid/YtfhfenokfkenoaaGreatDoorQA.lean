/- Numbers of one size: sums, products, quotients are checked against it. -/
import Derived.Test.YtfhfenokfkenoaaGreatDoorPD
open Int renaming sign_eq_neg_one_of_neg → Za, sign_eq_one_of_pos → Zb, natAbs_mul → Zc, natAbs_natCast → Zd
namespace Go.Proofs
open Go Go.Eng
def szR (q:Rat):Nat:=Nat.log2 (max q.num.natAbs q.den)+1
def ckZ (q:Rat):Option Rat:=bif Nat.ble (szR q) 100000 then some q else none
def W5 (p q:Rat):Option Rat:=ckZ (p+q)
def Wn (p q:Rat):Option Rat:=ckZ (p-q)
def YV (p q:Rat):Option Rat:=ckZ (p*q)
def QBs (p q:Rat):Option Rat:=bif q.num==0 then none else ckZ (p/q)
def QPP:Ctr
 | [.x false [.v (.int .i64 n)]]=>some fun K=>(-9223372036854775808<=n/\n<9223372036854775808)/\K (rA (n:Rat) 100000)
 | _=>none
def QIJ:Ctr
 | [.x true [.r p a],.x true [.r q b]]=>some fun K=>a+b+1<=4294967296/\ ∃r,W5 p q=some r/\K (rA r 100000)
 | _=>none
def QIK:Ctr
 | [.x true [.r p a],.x true [.r q b]]=>some fun K=>a+b+1<=4294967296/\ ∃r,Wn p q=some r/\K (rA r 100000)
 | _=>none
def QIL:Ctr
 | [.x true [.r p a],.x true [.r q b]]=>some fun K=>a+b<=4294967296/\ ∃r,YV p q=some r/\K (rA r 100000)
 | _=>none
def QIM:Ctr
 | [.x true [.r p a],.x true [.r q b]]=>some fun K=>a+b<=4294967296/\ ∃r,QBs p q=some r/\K (.t [(true,[.r r 100000]),(false,[.v (.int .i64 0)])])
 | _=>none
def QIN:Ctr
 | [.x true [.r p a]]=>some fun K=>a<=100000/\K (rA (-p) 100000)
 | _=>none
def QIO:Ctr
 | [.x true [.r p a]]=>some fun K=>a<=100000/\K (rA (QW p) 100000)
 | _=>none
def QIP:Ctr
 | [.x true [.r p a],.x true [.r q b]]=>some fun K=>(a<=100000/\b<=100000)/\K (rA (Xl p q) 100000)
 | _=>none
def QIQ:Ctr
 | [.x true [.r p a],.x true [.r q b]]=>some fun K=>(a<=100000/\b<=100000)/\K (rA (JL p q) 100000)
 | _=>none
theorem QXe (q:Rat):Bd (szR q) q:=by
 have h:max q.num.natAbs q.den<2^szR q:=Nat.lt_log2_self;exact⟨by omega,by omega⟩
theorem JE {q r:Rat}:ckZ q=some r↔szR q<=100000/\q=r:=by
 unfold ckZ;cases h:Nat.ble (szR q) 100000 with
 | true=>simp[Nat.le_of_ble_eq_true h]
 | false=>
  have: ¬szR q<=100000:=fun k=>by rw[Nat.ble_eq_true_of_le k]at h;cases h
  simp[this]
theorem QEC {q r:Rat}(h:ckZ q=some r):Bd 100000 r:=by
 obtain⟨h1,rfl⟩:=JE.1 h;exact(QXe q).mono h1
theorem Km {W:World}{O:Nat->Prop}{ρ:Env}{n m:Nat}{q:Rat}(hb:Bd n q){v:Value}(h:ConcV W O ρ (rA q m) v):ConcV W O ρ (rA q n) v:=by
 obtain⟨vals,h1,h2⟩:=h;cases h1 with | r _ h1=>exact⟨_,.r hb h1,h2⟩
theorem QF0 {W:World}{O:Nat->Prop}{ρ:Env}{m:Nat}{q:Rat}{v:Value}(h:ConcV W O ρ (rA q m) v):Bd m q:=by
 obtain⟨vals,h1,h2⟩:=h;cases h1 with | r hb _=>exact hb
theorem QXf:QI 68 QPP:=by
 refine⟨ok_rOf.enter,fun l T hT K hK=> ?_⟩;unfold QPP at hT;split at hT
 ·rename_i n;cases hT
  exact Spec.res (ok_rOf.sound [.x false [.v (.int .i64 n)]] _ rfl (fun av=>av=rA (n:Rat) 64) ⟨hK.1,rfl⟩) fun w O av v e hcv=>⟨_,hK.2,by subst e;exact Km ((QF0 hcv).mono (by omega)) hcv⟩
 ·cases hT
theorem QS9:QI 23 QIJ:=by
 refine⟨ok_rAdd.enter,fun l T hT K hK=> ?_⟩;unfold QIJ at hT;split at hT
 ·rename_i p a q b;cases hT
  obtain⟨h1,r,hr,hK⟩:=hK;exact Spec.res (ok_rAdd.sound [.x true [.r p a],.x true [.r q b]] _ rfl (fun av=>av=rA (p+q) (a+b+1)) ⟨h1,rfl⟩) fun w O av v e hcv=>⟨_,hK,by subst e;obtain rfl:=(JE.1 hr).2;exact Km (QEC hr) hcv⟩
 ·cases hT
theorem QTA:QI 69 QIK:=by
 refine⟨ok_rSub.enter,fun l T hT K hK=> ?_⟩;unfold QIK at hT;split at hT
 ·rename_i p a q b;cases hT
  obtain⟨h1,r,hr,hK⟩:=hK;exact Spec.res (ok_rSub.sound [.x true [.r p a],.x true [.r q b]] _ rfl (fun av=>av=rA (p-q) (a+b+1)) ⟨h1,rfl⟩) fun w O av v e hcv=>⟨_,hK,by subst e;obtain rfl:=(JE.1 hr).2;exact Km (QEC hr) hcv⟩
 ·cases hT
theorem QTB:QI 88 QIL:=by
 refine⟨ok_rMul.enter,fun l T hT K hK=> ?_⟩;unfold QIL at hT;split at hT
 ·rename_i p a q b;cases hT
  obtain⟨h1,r,hr,hK⟩:=hK;exact Spec.res (ok_rMul.sound [.x true [.r p a],.x true [.r q b]] _ rfl (fun av=>av=rA (p*q) (a+b)) ⟨h1,rfl⟩) fun w O av v e hcv=>⟨_,hK,by subst e;obtain rfl:=(JE.1 hr).2;exact Km (QEC hr) hcv⟩
 ·cases hT
theorem QPQ {W:World}{O:Nat->Prop}{ρ:Env}{n m:Nat}{q:Rat}{cs:List Ch}(hb:Bd n q){v:Value}(h:ConcV W O ρ (.t [(true,[.r q m]),(false,cs)]) v):ConcV W O ρ (.t [(true,[.r q n]),(false,cs)]) v:=by
 obtain⟨vs,h1,h2⟩:=h;cases h1 with
 | cons hx ht=>exact⟨_,.cons (Km hb hx) ht,h2⟩
theorem QTC:QI 87 QIM:=by
 refine⟨ok_rDiv.enter,fun l T hT K hK=> ?_⟩;unfold QIM at hT;split at hT
 ·rename_i p a q b;cases hT
  obtain⟨h1,r,hr,hK⟩:=hK;unfold QBs at hr;cases hq:(q.num==0)with
  | true=>rw[hq]at hr;cases hr
  | false=>
   rw[hq]at hr;have hq0:q≠0:=fun e=>by subst e;simp at hq
   exact Spec.res (ok_rDiv.sound [.x true [.r p a],.x true [.r q b]] _ rfl (fun av=>av= .t [(true,[.r (p/q) (a+b)]),(false,[.v (.int .i64 0)])]) ⟨h1,fun _=>rfl,fun e=>absurd e hq0⟩) fun w O av v e hcv=>⟨_,hK,by subst e;obtain rfl:=(JE.1 hr).2;exact QPQ (QEC hr) hcv⟩
 ·cases hT
theorem QTD:QI 127 QIN:=by
 refine⟨ok_rNeg.enter,fun l T hT K hK=> ?_⟩;unfold QIN at hT;split at hT
 ·rename_i p a;cases hT
  exact Spec.res (ok_rNeg.sound [.x true [.r p a]] _ rfl (fun av=>av=rA (-p) a) ⟨by have:=hK.1;omega,rfl⟩) fun w O av v e hcv=>⟨_,hK.2,by subst e;exact Km ((QF0 hcv).mono hK.1) hcv⟩
 ·cases hT
theorem QTE:QI 22 QIO:=by
 refine⟨ok_rAbs.enter,fun l T hT K hK=> ?_⟩;unfold QIO at hT;split at hT
 ·rename_i p a;cases hT
  exact Spec.res (ok_rAbs.sound [.x true [.r p a]] _ rfl (fun av=>av=rA (QW p) a) ⟨by have:=hK.1;omega,rfl⟩) fun w O av v e hcv=>⟨_,hK.2,by subst e;exact Km ((QF0 hcv).mono hK.1) hcv⟩
 ·cases hT
theorem QTF:QI 172 QIP:=by
 refine⟨ok_rMin.enter,fun l T hT K hK=> ?_⟩;unfold QIP at hT;split at hT
 ·rename_i p a q b;cases hT
  obtain⟨⟨h1,h2⟩,hK⟩:=hK;exact Spec.res (ok_rMin.sound [.x true [.r p a],.x true [.r q b]] _ rfl (fun av=>av=rA (Xl p q) (max a b)) ⟨by omega,rfl⟩) fun w O av v e hcv=>⟨_,hK,by subst e;exact Km ((QF0 hcv).mono (by omega)) hcv⟩
 ·cases hT
theorem QTG:QI 173 QIQ:=by
 refine⟨ok_rMax.enter,fun l T hT K hK=> ?_⟩;unfold QIQ at hT;split at hT
 ·rename_i p a q b;cases hT
  obtain⟨⟨h1,h2⟩,hK⟩:=hK;exact Spec.res (ok_rMax.sound [.x true [.r p a],.x true [.r q b]] _ rfl (fun av=>av=rA (JL p q) (max a b)) ⟨by omega,rfl⟩) fun w O av v e hcv=>⟨_,hK,by subst e;exact Km ((QF0 hcv).mono (by omega)) hcv⟩
 ·cases hT
def QTH:LC:=(68,QPP)::(23,QIJ)::(69,QIK)::(88,QIL)::(87,QIM)::(127,QIN)::(22,QIO)::(172,QIP)::(173,QIQ)::QSy
noncomputable def QXg:Qb:=mkT QTH M79 X4
theorem QIR:QF QTH:= .cons QXf (.cons QS9 (.cons QTA (.cons QTB (.cons QTC (.cons QTD (.cons QTE (.cons QTF (.cons QTG QIH))))))))
theorem QPR:XI QXg:=QS QIR Xe Qm
end Go.Proofs
namespace Go.Proofs
open Go Go.Eng
def FU:Nat:=100000
def Q9 (p:List Rat):Nat->Nat
 | 0=>0
 | n+1=>bif Qa (p.getD n 0)==0 then Q9 p n else n+1
def QJ (p:List Rat):List Rat:=p.take (Q9 p p.length)
def evN (p:List Rat)(x:Rat):Nat->Rat->Option Rat
 | 0,s=>some s
 | i+1,s=>(YV s x).bind fun m=>(W5 m (p.getD i 0)).bind fun a=>evN p x i a
def X1 (p:List Rat)(x:Rat):Option Rat:=evN p x p.length 0
def KI:List Rat->Nat->List Rat->Option (List Rat)
 | [],_,acc=>some acc
 | c::t,i,acc=>(YV (((i:Int)):Rat) c).bind fun m=>KI t (i+1) (acc++[m])
def Hq (p:List Rat):Option (List Rat):=(KI (p.drop 1) 1 []).map QJ
def Vc (c:Rat):List Rat->Nat->List Rat->Option (List Rat)
 | [],_,rest=>some rest
 | x::t,j,rest=>(YV c x).bind fun m=>(Wn (rest.getD j 0) m).bind fun v=>Vc c t (j+1) (rest.set j v)
def Qp (p:List Rat):Rat:=p.getD (p.length-1) 0
def W6 (q:List Rat):Nat->List Rat->List Rat->Option (List Rat×List Rat)
 | 0,_,_=>none
 | n+1,by',rest=>bif Nat.ble q.length rest.length then
   (QBs (Qp rest) (Qp q)).bind fun c=>(Vc c q (rest.length-q.length) rest).bind fun r=>W6 q n (by'.set (rest.length-q.length) c) (QJ r)
  else some (by',rest)
def Xr (p q:List Rat):Option (List Rat×List Rat):=W6 q FU (List.replicate ((QJ p).length+1-q.length) 0) (QJ p)
def scF (d:Rat):List Rat->List Rat->Option (List Rat)
 | [],acc=>some acc
 | c::t,acc=>(QBs c d).bind fun v=>scF d t (acc++[v])
def YZ (p:List Rat):Option (List Rat):=scF (QW (Qp p)) p []
def KJ:Nat->List Rat->List Rat->Option (List Rat)
 | 0,_,_=>none
 | n+1,a,b=>bif Nat.ble 1 b.length then(Xr a b).bind fun r=>(YZ b).bind fun s=>KJ n s r.2 else some a
def Wi (p:List Rat):Option (List Rat):=(Hq p).bind fun d=>(KJ FU p d).bind fun a=>(Xr p a).bind fun r=>YZ (QJ r.1)
def chF:Nat->List (List Rat)->List Rat->Option (List (List Rat))
 | 0,_,_=>none
 | n+1,c,q=>bif Nat.ble 1 q.length then(YZ q).bind fun s=>(Xr (c.getD (c.length-1) []) s).bind fun r=>chF n (c++[s]) (r.2.map fun x=> -x)else some c
def Xf (p:List Rat):Option (List (List Rat)):=(Hq p).bind fun q=>chF FU [p] q
def KL (x:Rat):List (List Rat)->Int->Int->Option Int
 | [],n,_=>some n
 | p::t,n,last=>(X1 p x).bind fun e=>KL x t (bif decide (Qa e*last<0)then n+1 else n) (bif Qa e==0 then last else Qa e)
def Xo (c:List (List Rat))(x:Rat):Option Int:=KL x c 0 0
def YQ (c:List (List Rat))(x:Rat):Option Bool:=(X1 (c.getD 0 []) x).bind fun e=>some (Qa e==0)
def YC (c:List (List Rat))(s:Sp):Option Int:=(Xo c s.lo).bind fun a=>(Xo c s.hi).bind fun b=>(YQ c s.lo).bind fun z=>some (bif z then a-b+1 else a-b)
def QF1:Rat:=((1:Int):Rat)/((2:Int):Rat)
def Vd (s:Sp):Option Rat:=(W5 s.lo s.hi).bind fun m=>YV QF1 m
def Jy (c:List (List Rat))(s:Sp):Option Sp:=(Vd s).bind fun m=>(YQ c m).bind fun z=>bif z then some ⟨m,m⟩else(YC c ⟨s.lo,m⟩).bind fun n=>bif n==1 then some ⟨s.lo,m⟩else some ⟨m,s.hi⟩
def Wu (c:List (List Rat))(m:Rat):Nat->Rat->Option Sp
 | 0,_=>none
 | k+1,b0=>(Vd ⟨0,1⟩).bind fun h=>(YV b0 h).bind fun b=>(Wn m b).bind fun l=>(W5 m b).bind fun u=>(YC c ⟨l,u⟩).bind fun n=>
   bif n==1 then(YQ c l).bind fun z=>bif z then Wu c m k b else(YQ c u).bind fun y=>bif y then Wu c m k b else some ⟨l,u⟩else Wu c m k b
def XJ (c:List (List Rat)):Nat->List Sp->Sp->Option (List Sp)
 | 0,_,_=>none
 | k+1,out,s=>(YC c s).bind fun n=>bif n==0 then some out else bif n==1 then some (out++[s])else
   (Vd s).bind fun m=>(YQ c m).bind fun z=>bif z then
    (Wn s.hi m).bind fun b=>(Wu c m FU b).bind fun t=>(XJ c k out ⟨s.lo,t.lo⟩).bind fun o=>XJ c k (o++[⟨m,m⟩]) ⟨t.hi,s.hi⟩
   else(XJ c k out ⟨s.lo,m⟩).bind fun o=>XJ c k o ⟨m,s.hi⟩
def XW (p:List Rat):Option (List (List Rat)):=bif Nat.beq (QJ p).length 0 then none else bif Nat.ble (QJ p).length 13 then(Wi (QJ p)).bind Xf else none
def Y0:List Rat->Rat->Option Rat
 | [],s=>some s
 | x::t,s=>(W5 s (QW x)).bind fun a=>Y0 t a
def Jz (c:List (List Rat)):Nat->Sp->Sp->Option (Sp×Sp)
 | 0,_,_=>none
 | k+1,s,t=>bif decide (t.lo<=s.hi)then(Jy c s).bind fun s'=>(Jy c t).bind fun t'=>Jz c k s' t' else some (s,t)
def s0:Sp:=⟨0,0⟩
def Xh (c:List (List Rat)):Nat->Nat->List Sp->Option (List Sp)
  | 0,_,out=>some out
  | k+1,i,out=>(Jz c FU (out.getD (i-1) s0) (out.getD i s0)).bind fun r=>Xh c k (i+1) ((out.set (i-1) r.1).set i r.2)
def Jn (p:List Rat):Option (List Sp):=(XW p).bind fun c=>(Y0 (c.getD 0 []) 1).bind fun m=>(XJ c FU [] ⟨-m,m⟩).bind fun out=>bif Nat.ble out.length 1000 then Xh c (out.length-1) 1 out else none
def Wj (p:List Rat)(s:Sp):Option Int:=(XW p).bind fun c=>YC c s
def KM (c:List (List Rat))(w:Rat):Nat->Sp->Option Sp
 | 0,_=>none
 | k+1,s=>(Wn s.hi s.lo).bind fun d=>bif decide (w<d)then(Jy c s).bind fun s'=>KM c w k s' else some s
def QBI (p:List Rat)(s:Sp)(w:Rat):Option Sp:=(XW p).bind fun c=>(YC c s).bind fun n=>bif n==1 then KM c w FU s else none
structure RtV where
 p:List Rat
 s:Sp
def WB (r:RtV)(den:Int):Option RtV:=(QBI r.p r.s (((1:Int):Rat)/(den:Rat))).bind fun s=>some ⟨r.p,s⟩
def Xi (r:RtV)(lo hi:Rat):Option Bool:=bif decide (JL r.s.lo lo<=Xl r.s.hi hi)then(Wj r.p ⟨JL r.s.lo lo,Xl r.s.hi hi⟩).bind fun n=>some (n==1)else some false
def Wv (p:List Rat):Nat->Int->RtV->Option Int
 | 0,_,_=>none
 | k+1,den,r=>(Wj p r.s).bind fun n=>bif n==0 then(X1 p r.s.lo).bind fun e=>some (Qa e)else(WB r den).bind fun r'=>Wv p k (den*16) r'
def QF2 (r:RtV)(x y:Rat):Option Int:=(YV (((-2:Int)):Rat) x).bind fun m=>Wv [y,m,-y] 15 16 r
def Jo (q p:List Rat)(x y:Rat)(second:List Sp):List Sp->List (RtV×RtV)->Option (List (RtV×RtV))
 | [],acc=>some acc
 | s::t,acc=>bif Nat.beq second.length 2 then(QF2 ⟨q,s⟩ x y).bind fun n=>Jo q p x y second t (acc++[(⟨q,s⟩,⟨p,bif decide (0<n)then second.getD 1 s0 else second.getD 0 s0⟩)])
  else Jo q p x y second t (acc++[(⟨q,s⟩,⟨p,second.getD 0 s0⟩)])
def sqZ (a:Rat):Option Rat:=YV a a
def V8 (x y:Rat):Option Rat:=(YV x x).bind fun a=>(YV y y).bind fun b=>W5 a b
def GH (l m far:Rat):Option (List Rat):=(W5 l m).bind fun a=>(sqZ a).bind fun a2=>(Wn far a2).bind fun p0=>(Wn l m).bind fun b=>(sqZ b).bind fun b2=>(Wn far b2).bind fun p2=>some [p0,0,p2]
def GI (l m x y far:Rat):Option (List Rat):=(sqZ l).bind fun l2=>(W5 far l2).bind fun f=>(sqZ m).bind fun m2=>(Wn f m2).bind fun k=>(YV l x).bind fun lx=>(YV ((2:Int):Rat) lx).bind fun u=>
 (Wn k u).bind fun q0=>(YV l y).bind fun ly=>(YV ((-4:Int):Rat) ly).bind fun q1=>(W5 k u).bind fun q2=>some [q0,q1,q2]
def YI (l m x y:Rat):Option (List (RtV×RtV)):=(V8 x y).bind fun far=>(GH l m far).bind fun p=>
 bif decide (0<Qa (p.getD 0 0)) || decide (Qa (p.getD 2 0)<=0)then some []else
  (GI l m x y far).bind fun q=>(Jn q).bind fun first=>(Jn p).bind fun second=>bif Nat.ble 1 second.length then Jo q p x y second first []else none
def inF (l1 h1 l2 h2:Rat):List (RtV×RtV)->List (RtV×RtV)->Option (List (RtV×RtV))
 | [],acc=>some acc
 | r::t,acc=>(Xi r.1 l1 h1).bind fun a=>bif a then(Xi r.2 l2 h2).bind fun b=>bif b then inF l1 h1 l2 h2 t (acc++[r])else inF l1 h1 l2 h2 t acc else inF l1 h1 l2 h2 t acc
def Kz:List (RtV×RtV)->List (List Sp)->Option (List (List Sp))
 | [],acc=>some acc
 | r::t,acc=>(WB r.1 1000).bind fun a=>(WB r.2 1000).bind fun b=>Kz t (acc++[[a.s,b.s]])
end Go.Proofs
namespace Go.Proofs
open Go Go.Eng
theorem Vr {N:Int}{D m:Nat}(hD:0<D)(hN:N.natAbs<2^m)(hd:D<2^m):Bd m ((N:Rat)/((D:Int):Rat)):=by
 have e:(N:Rat)/((D:Int):Rat)=mkRat N D:=by rw[Rat.mkRat_eq_div];rfl
 rw[e];refine⟨?_,?_⟩
 ·rw[Rat.num_mkRat,if_neg (by omega)];have:(N/(Nat.gcd D N.natAbs:Int)).natAbs<=N.natAbs:=by
   have hdv:((Nat.gcd D N.natAbs:Nat):Int)∣N:=Int.ofNat_dvd_left.2 (Nat.gcd_dvd_right _ _);have hg:0<Nat.gcd D N.natAbs:=Nat.gcd_pos_of_pos_left _ hD;obtain⟨c,hc⟩:=hdv;generalize Nat.gcd D N.natAbs=g at*;rw[hc,Int.mul_ediv_cancel_left _ (by omega),Zc];have:1*c.natAbs<=(g:Int).natAbs*c.natAbs:=Nat.mul_le_mul_right _ (by omega);omega
  exact Nat.lt_of_le_of_lt this hN
 ·rw[Rat.den_mkRat,if_neg (by omega)];exact Nat.lt_of_le_of_lt (Nat.div_le_self _ _) hd
theorem QZ7 (p:Rat):((p.den:Int):Rat)≠0:=fun e=>p.den_nz (by exact_mod_cast Rat.intCast_eq_zero_iff.1 e)
theorem QPS (p q:Rat):(((p.den*q.den:Nat):Int):Rat)≠0:=fun e=>by
 have h:p.den*q.den=0:=by exact_mod_cast Rat.intCast_eq_zero_iff.1 e
 have:=Nat.mul_pos p.den_pos q.den_pos;omega
theorem Uy (p:Rat):p*((p.den:Int):Rat)=(p.num:Rat):=by
 have h:(p.num:Rat)/((p.den:Nat):Rat)=p:=by rw[<-Rat.mkRat_eq_div,Rat.mkRat_self]
 have h2:=Rat.div_mul_cancel (a:=(p.num:Rat)) (QZ7 p);rw[show(p.num:Rat)/((p.den:Int):Rat)=p from h]at h2;exact h2
theorem QPT {x N D:Rat}(hD:D≠0)(h:x*D=N):x=N/D:=by rw[<-h,Rat.mul_div_cancel hD]
theorem Wk {a b m n:Nat}(h:a<2^m)(k:b<2^n):a*b<2^(m+n):=by
 rw[Nat.pow_add];exact Nat.mul_lt_mul'' h k
theorem YJ {a b:Nat}{p q:Rat}(h:Bd a p)(k:Bd b q):Bd (a+b+1) (p+q):=by
 have e:p+q=((p.num*q.den+q.num*p.den:Int):Rat)/(((p.den*q.den:Nat):Int):Rat):=by
  refine QPT (QPS p q) ?_
  ·have h1:=Uy p;have h2:=Uy q;push_cast at h1 h2⊢;grind
 rw[e];refine Vr (Nat.mul_pos p.den_pos q.den_pos) ?_ ?_
 ·have h1:=Wk h.1 k.2;have h2:=Wk k.1 h.2;rw[Nat.add_comm b a]at h2;rw[Nat.pow_succ];have e1:(p.num*(q.den:Int)).natAbs=p.num.natAbs*q.den:=by rw[Zc,Zd]
  have e2:(q.num*(p.den:Int)).natAbs=q.num.natAbs*p.den:=by rw[Zc,Zd]
  omega
 ·have h1:=Wk h.2 k.2;rw[Nat.pow_succ];omega
theorem QBJ {a:Nat}{p:Rat}(h:Bd a p):Bd a (-p):=⟨by rw[show(-p).num= -p.num from rfl,Int.natAbs_neg];exact h.1,h.2⟩
theorem J0 {a b:Nat}{p q:Rat}(h:Bd a p)(k:Bd b q):Bd (a+b+1) (p-q):=by
 rw[Rat.sub_eq_add_neg];exact YJ h (QBJ k)
theorem Qu {a b:Nat}{p q:Rat}(h:Bd a p)(k:Bd b q):Bd (a+b) (p*q):=by
 have e:p*q=((p.num*q.num:Int):Rat)/(((p.den*q.den:Nat):Int):Rat):=by
  refine QPT (QPS p q) ?_
  ·have h1:=Uy p;have h2:=Uy q;push_cast at h1 h2⊢;grind
 rw[e];refine Vr (Nat.mul_pos p.den_pos q.den_pos) ?_ (Wk h.2 k.2)
 rw[Zc];exact Wk h.1 k.1
theorem QLn (n:Int):n.sign*n=n.natAbs:=by
 rcases Int.lt_trichotomy n 0 with h | h | h
 ·rw[Za h];omega
 ·subst h;rfl
 ·rw[Zb h];omega
theorem QXh {a:Nat}{p:Rat}(h:Bd a p)(h0:p≠0):Bd a (p⁻¹):=by
 have hn:p.num≠0:=fun e=>h0 (Rat.num_eq_zero.1 e);have e:p⁻¹=((p.num.sign*p.den:Int):Rat)/(((p.num.natAbs:Nat):Int):Rat):=by
  have h1:=Uy p;have h2:p*p⁻¹=1:=Rat.mul_inv_cancel p h0;have h3:((p.num.natAbs:Nat):Int)=p.num.sign*p.num:=(QLn p.num).symm;have h4:p.num.sign*p.num.sign=1:=by
   rcases Int.lt_or_gt_of_ne hn with h | h
   ·rw[Za h];rfl
   ·rw[Zb h];rfl
  refine QPT ?_ ?_
  ·intro e;have:=Rat.intCast_eq_zero_iff.1 e;omega
  ·rw[h3];push_cast;have h4':(p.num.sign:Rat)*(p.num.sign:Rat)=1:=by exact_mod_cast congrArg (fun z:Int=>(z:Rat)) h4
   push_cast at h1;grind
 rw[e];refine Vr (by omega) ?_ h.1
 rw[Zc,Zd];have:p.num.sign.natAbs=1:=by
  rcases Int.lt_or_gt_of_ne hn with h | h
  ·rw[Za h];rfl
  ·rw[Zb h];rfl
 rw[this,Nat.one_mul];exact h.2
theorem XX {a b:Nat}{p q:Rat}(h:Bd a p)(k:Bd b q)(h0:q≠0):Bd (a+b) (p/q):=by
 rw[Rat.div_def];exact Qu h (QXh k h0)
theorem QPU {n:Int}{m:Nat}(h:n.natAbs<2^m)(hm:m≠0):Bd m (n:Rat):=⟨by rw[Rat.num_intCast];exact h,by show 1<2^m;exact Nat.one_lt_two_pow hm⟩
theorem QXi {n:Nat}{q:Rat}(h:Bd n q):szR q<=n:=by
 unfold szR;have h1:max q.num.natAbs q.den<2^n:=by have:=h.1;have:=h.2;omega
 have hd:=q.den_pos;have:=(Nat.log2_lt (n:=max q.num.natAbs q.den) (k:=n) (by omega)).2 h1;omega
theorem QED {n:Nat}{q:Rat}(h:Bd n q)(hn:n<=100000):ckZ q=some q:=JE.2 ⟨Nat.le_trans (QXi h) hn,rfl⟩
theorem Xw {a b:Nat}{p q:Rat}(h:Bd a p)(k:Bd b q)(hn:a+b+1<=100000):W5 p q=some (p+q):=QED (YJ h k) hn
theorem Y1 {a b:Nat}{p q:Rat}(h:Bd a p)(k:Bd b q)(hn:a+b+1<=100000):Wn p q=some (p-q):=QED (J0 h k) hn
theorem XD {a b:Nat}{p q:Rat}(h:Bd a p)(k:Bd b q)(hn:a+b<=100000):YV p q=some (p*q):=QED (Qu h k) hn
theorem Uz {a b:Nat}{p q:Rat}(h:Bd a p)(k:Bd b q)(h0:q≠0)(hn:a+b<=100000):QBs p q=some (p/q):=by
 unfold QBs;have:(q.num==0)=false:=by
  cases hb:q.num==0 with
  | false=>rfl
  | true=>exact absurd (Rat.num_eq_zero.1 (by simpa using hb)) h0
 rw[this];exact QED (XX h k h0) hn
end Go.Proofs
