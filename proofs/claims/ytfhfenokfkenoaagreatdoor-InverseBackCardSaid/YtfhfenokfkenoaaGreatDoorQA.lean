/- Numbers of one size: sums, products, quotients are checked against it. -/
import Derived.Test.YtfhfenokfkenoaaGreatDoorPD
open Int renaming sign_eq_neg_one_of_neg → Za, sign_eq_one_of_pos → Zb, natAbs_mul → Zc, natAbs_natCast → Zd
namespace Go.Proofs
open Go Go.Eng
def szR (q:Rat):Nat:=Nat.log2 (max q.num.natAbs q.den)+1
def ckZ (q:Rat):Option Rat:=bif Nat.ble (szR q) 100000 then some q else none
def Wx (p q:Rat):Option Rat:=ckZ (p+q)
def Wy (p q:Rat):Option Rat:=ckZ (p-q)
def YB (p q:Rat):Option Rat:=ckZ (p*q)
def QD5 (p q:Rat):Option Rat:=bif q.num==0 then none else ckZ (p/q)
def QTX:Ctr
 | [.x false [.v (.int .i64 n)]]=>some fun K=>(-9223372036854775808<=n/\n<9223372036854775808)/\K (rA (n:Rat) 100000)
 | _=>none
def QMT:Ctr
 | [.x true [.r p a],.x true [.r q b]]=>some fun K=>a+b+1<=4294967296/\ ∃r,Wx p q=some r/\K (rA r 100000)
 | _=>none
def QMU:Ctr
 | [.x true [.r p a],.x true [.r q b]]=>some fun K=>a+b+1<=4294967296/\ ∃r,Wy p q=some r/\K (rA r 100000)
 | _=>none
def QMV:Ctr
 | [.x true [.r p a],.x true [.r q b]]=>some fun K=>a+b<=4294967296/\ ∃r,YB p q=some r/\K (rA r 100000)
 | _=>none
def QMW:Ctr
 | [.x true [.r p a],.x true [.r q b]]=>some fun K=>a+b<=4294967296/\ ∃r,QD5 p q=some r/\K (.t [(true,[.r r 100000]),(false,[.v (.int .i64 0)])])
 | _=>none
def QMX:Ctr
 | [.x true [.r p a]]=>some fun K=>a<=100000/\K (rA (-p) 100000)
 | _=>none
def QMY:Ctr
 | [.x true [.r p a]]=>some fun K=>a<=100000/\K (rA (QV p) 100000)
 | _=>none
def QMZ:Ctr
 | [.x true [.r p a],.x true [.r q b]]=>some fun K=>(a<=100000/\b<=100000)/\K (rA (Qm p q) 100000)
 | _=>none
def QMa:Ctr
 | [.x true [.r p a],.x true [.r q b]]=>some fun K=>(a<=100000/\b<=100000)/\K (rA (Qz p q) 100000)
 | _=>none
theorem Qdd (q:Rat):Bd (szR q) q:=by
 have h:max q.num.natAbs q.den<2^szR q:=Nat.lt_log2_self;exact⟨by omega,by omega⟩
theorem Y9 {q r:Rat}:ckZ q=some r↔szR q<=100000/\q=r:=by
 unfold ckZ;cases h:Nat.ble (szR q) 100000 with
 | true=>simp[Nat.le_of_ble_eq_true h]
 | false=>
  have: ¬szR q<=100000:=fun k=>by rw[Nat.ble_eq_true_of_le k]at h;cases h
  simp[this]
theorem QHV {q r:Rat}(h:ckZ q=some r):Bd 100000 r:=by
 obtain⟨h1,rfl⟩:=Y9.1 h;exact(Qdd q).mono h1
theorem Ky {W:World}{O:Nat->Prop}{ρ:Env}{n m:Nat}{q:Rat}(hb:Bd n q){v:Value}(h:ConcV W O ρ (rA q m) v):ConcV W O ρ (rA q n) v:=by
 obtain⟨vals,h1,h2⟩:=h;cases h1 with | r _ h1=>exact⟨_,.r hb h1,h2⟩
theorem QJj {W:World}{O:Nat->Prop}{ρ:Env}{m:Nat}{q:Rat}{v:Value}(h:ConcV W O ρ (rA q m) v):Bd m q:=by
 obtain⟨vals,h1,h2⟩:=h;cases h1 with | r hb _=>exact hb
theorem Qde:QI 68 QTX:=by
 refine⟨ok_rOf.enter,fun l T hT K hK=> ?_⟩;unfold QTX at hT;split at hT
 ·rename_i n;cases hT
  exact Spec.res (ok_rOf.sound [.x false [.v (.int .i64 n)]] _ rfl (fun av=>av=rA (n:Rat) 64) ⟨hK.1,rfl⟩) fun w O av v e hcv=>⟨_,hK.2,by subst e;exact Ky ((QJj hcv).mono (by omega)) hcv⟩
 ·cases hT
theorem QX5:QI 23 QMT:=by
 refine⟨ok_rAdd.enter,fun l T hT K hK=> ?_⟩;unfold QMT at hT;split at hT
 ·rename_i p a q b;cases hT
  obtain⟨h1,r,hr,hK⟩:=hK;exact Spec.res (ok_rAdd.sound [.x true [.r p a],.x true [.r q b]] _ rfl (fun av=>av=rA (p+q) (a+b+1)) ⟨h1,rfl⟩) fun w O av v e hcv=>⟨_,hK,by subst e;obtain rfl:=(Y9.1 hr).2;exact Ky (QHV hr) hcv⟩
 ·cases hT
theorem QX6:QI 69 QMU:=by
 refine⟨ok_rSub.enter,fun l T hT K hK=> ?_⟩;unfold QMU at hT;split at hT
 ·rename_i p a q b;cases hT
  obtain⟨h1,r,hr,hK⟩:=hK;exact Spec.res (ok_rSub.sound [.x true [.r p a],.x true [.r q b]] _ rfl (fun av=>av=rA (p-q) (a+b+1)) ⟨h1,rfl⟩) fun w O av v e hcv=>⟨_,hK,by subst e;obtain rfl:=(Y9.1 hr).2;exact Ky (QHV hr) hcv⟩
 ·cases hT
theorem QX7:QI 88 QMV:=by
 refine⟨ok_rMul.enter,fun l T hT K hK=> ?_⟩;unfold QMV at hT;split at hT
 ·rename_i p a q b;cases hT
  obtain⟨h1,r,hr,hK⟩:=hK;exact Spec.res (ok_rMul.sound [.x true [.r p a],.x true [.r q b]] _ rfl (fun av=>av=rA (p*q) (a+b)) ⟨h1,rfl⟩) fun w O av v e hcv=>⟨_,hK,by subst e;obtain rfl:=(Y9.1 hr).2;exact Ky (QHV hr) hcv⟩
 ·cases hT
theorem QTY {W:World}{O:Nat->Prop}{ρ:Env}{n m:Nat}{q:Rat}{cs:List Ch}(hb:Bd n q){v:Value}(h:ConcV W O ρ (.t [(true,[.r q m]),(false,cs)]) v):ConcV W O ρ (.t [(true,[.r q n]),(false,cs)]) v:=by
 obtain⟨vs,h1,h2⟩:=h;cases h1 with
 | cons hx ht=>exact⟨_,.cons (Ky hb hx) ht,h2⟩
theorem QX8:QI 87 QMW:=by
 refine⟨ok_rDiv.enter,fun l T hT K hK=> ?_⟩;unfold QMW at hT;split at hT
 ·rename_i p a q b;cases hT
  obtain⟨h1,r,hr,hK⟩:=hK;unfold QD5 at hr;cases hq:(q.num==0)with
  | true=>rw[hq]at hr;cases hr
  | false=>
   rw[hq]at hr;have hq0:q≠0:=fun e=>by subst e;simp at hq
   exact Spec.res (ok_rDiv.sound [.x true [.r p a],.x true [.r q b]] _ rfl (fun av=>av= .t [(true,[.r (p/q) (a+b)]),(false,[.v (.int .i64 0)])]) ⟨h1,fun _=>rfl,fun e=>absurd e hq0⟩) fun w O av v e hcv=>⟨_,hK,by subst e;obtain rfl:=(Y9.1 hr).2;exact QTY (QHV hr) hcv⟩
 ·cases hT
theorem QX9:QI 127 QMX:=by
 refine⟨ok_rNeg.enter,fun l T hT K hK=> ?_⟩;unfold QMX at hT;split at hT
 ·rename_i p a;cases hT
  exact Spec.res (ok_rNeg.sound [.x true [.r p a]] _ rfl (fun av=>av=rA (-p) a) ⟨by have:=hK.1;omega,rfl⟩) fun w O av v e hcv=>⟨_,hK.2,by subst e;exact Ky ((QJj hcv).mono hK.1) hcv⟩
 ·cases hT
theorem QYA:QI 22 QMY:=by
 refine⟨ok_rAbs.enter,fun l T hT K hK=> ?_⟩;unfold QMY at hT;split at hT
 ·rename_i p a;cases hT
  exact Spec.res (ok_rAbs.sound [.x true [.r p a]] _ rfl (fun av=>av=rA (QV p) a) ⟨by have:=hK.1;omega,rfl⟩) fun w O av v e hcv=>⟨_,hK.2,by subst e;exact Ky ((QJj hcv).mono hK.1) hcv⟩
 ·cases hT
theorem QYB:QI 172 QMZ:=by
 refine⟨ok_rMin.enter,fun l T hT K hK=> ?_⟩;unfold QMZ at hT;split at hT
 ·rename_i p a q b;cases hT
  obtain⟨⟨h1,h2⟩,hK⟩:=hK;exact Spec.res (ok_rMin.sound [.x true [.r p a],.x true [.r q b]] _ rfl (fun av=>av=rA (Qm p q) (max a b)) ⟨by omega,rfl⟩) fun w O av v e hcv=>⟨_,hK,by subst e;exact Ky ((QJj hcv).mono (by omega)) hcv⟩
 ·cases hT
theorem QYC:QI 173 QMa:=by
 refine⟨ok_rMax.enter,fun l T hT K hK=> ?_⟩;unfold QMa at hT;split at hT
 ·rename_i p a q b;cases hT
  obtain⟨⟨h1,h2⟩,hK⟩:=hK;exact Spec.res (ok_rMax.sound [.x true [.r p a],.x true [.r q b]] _ rfl (fun av=>av=rA (Qz p q) (max a b)) ⟨by omega,rfl⟩) fun w O av v e hcv=>⟨_,hK,by subst e;exact Ky ((QJj hcv).mono (by omega)) hcv⟩
 ·cases hT
def QYD:List (Nat×Ctr):=(68,QTX)::(23,QMT)::(69,QMU)::(88,QMV)::(87,QMW)::(127,QMX)::(22,QMY)::(172,QMZ)::(173,QMa)::QTN
noncomputable def Qdf:QR:=mkT QYD M79 X4
theorem QMb:QH QYD:= .cons Qde (.cons QX5 (.cons QX6 (.cons QX7 (.cons QX8 (.cons QX9 (.cons QYA (.cons QYB (.cons QYC QHT))))))))
theorem QTZ:QJ Qdf:=QU QMb XE Ql
end Go.Proofs
namespace Go.Proofs
open Go Go.Eng
def FU:Nat:=100000
def XB (p:List Rat):Nat->Nat
 | 0=>0
 | n+1=>bif Qa (p.getD n 0)==0 then XB p n else n+1
def QM (p:List Rat):List Rat:=p.take (XB p p.length)
def evN (p:List Rat)(x:Rat):Nat->Rat->Option Rat
 | 0,s=>some s
 | i+1,s=>(YB s x).bind fun m=>(Wx m (p.getD i 0)).bind fun a=>evN p x i a
def Xo (p:List Rat)(x:Rat):Option Rat:=evN p x p.length 0
def KY:List Rat->Nat->List Rat->Option (List Rat)
 | [],_,acc=>some acc
 | c::t,i,acc=>(YB (((i:Int)):Rat) c).bind fun m=>KY t (i+1) (acc++[m])
def GW (p:List Rat):Option (List Rat):=(KY (p.drop 1) 1 []).map QM
def Vl (c:Rat):List Rat->Nat->List Rat->Option (List Rat)
 | [],_,rest=>some rest
 | x::t,j,rest=>(YB c x).bind fun m=>(Wy (rest.getD j 0) m).bind fun v=>Vl c t (j+1) (rest.set j v)
def Qo (p:List Rat):Rat:=p.getD (p.length-1) 0
def KH (q:List Rat):Nat->List Rat->List Rat->Option (List Rat×List Rat)
 | 0,_,_=>none
 | n+1,by',rest=>bif Nat.ble q.length rest.length then
   (QD5 (Qo rest) (Qo q)).bind fun c=>(Vl c q (rest.length-q.length) rest).bind fun r=>KH q n (by'.set (rest.length-q.length) c) (QM r)
  else some (by',rest)
def Xe (p q:List Rat):Option (List Rat×List Rat):=KH q FU (List.replicate ((QM p).length+1-q.length) 0) (QM p)
def scF (d:Rat):List Rat->List Rat->Option (List Rat)
 | [],acc=>some acc
 | c::t,acc=>(QD5 c d).bind fun v=>scF d t (acc++[v])
def YV (p:List Rat):Option (List Rat):=scF (QV (Qo p)) p []
def KZ:Nat->List Rat->List Rat->Option (List Rat)
 | 0,_,_=>none
 | n+1,a,b=>bif Nat.ble 1 b.length then(Xe a b).bind fun r=>(YV b).bind fun s=>KZ n s r.2 else some a
def Ws (p:List Rat):Option (List Rat):=(GW p).bind fun d=>(KZ FU p d).bind fun a=>(Xe p a).bind fun r=>YV (QM r.1)
def chF:Nat->List (List Rat)->List Rat->Option (List (List Rat))
 | 0,_,_=>none
 | n+1,c,q=>bif Nat.ble 1 q.length then(YV q).bind fun s=>(Xe (c.getD (c.length-1) []) s).bind fun r=>chF n (c++[s]) (r.2.map fun x=> -x)else some c
def Xc (p:List Rat):Option (List (List Rat)):=(GW p).bind fun q=>chF FU [p] q
def Ka (x:Rat):List (List Rat)->Int->Int->Option Int
 | [],n,_=>some n
 | p::t,n,last=>(Xo p x).bind fun e=>Ka x t (bif decide (Qa e*last<0)then n+1 else n) (bif Qa e==0 then last else Qa e)
def Xd (c:List (List Rat))(x:Rat):Option Int:=Ka x c 0 0
def YN (c:List (List Rat))(x:Rat):Option Bool:=(Xo (c.getD 0 []) x).bind fun e=>some (Qa e==0)
def X9 (c:List (List Rat))(s:Sp):Option Int:=(Xd c s.lo).bind fun a=>(Xd c s.hi).bind fun b=>(YN c s.lo).bind fun z=>some (bif z then a-b+1 else a-b)
def QJk:Rat:=((1:Int):Rat)/((2:Int):Rat)
def Vm (s:Sp):Option Rat:=(Wx s.lo s.hi).bind fun m=>YB QJk m
def J3 (c:List (List Rat))(s:Sp):Option Sp:=(Vm s).bind fun m=>(YN c m).bind fun z=>bif z then some ⟨m,m⟩else(X9 c ⟨s.lo,m⟩).bind fun n=>bif n==1 then some ⟨s.lo,m⟩else some ⟨m,s.hi⟩
def W9 (c:List (List Rat))(m:Rat):Nat->Rat->Option Sp
 | 0,_=>none
 | k+1,b0=>(Vm ⟨0,1⟩).bind fun h=>(YB b0 h).bind fun b=>(Wy m b).bind fun l=>(Wx m b).bind fun u=>(X9 c ⟨l,u⟩).bind fun n=>
   bif n==1 then(YN c l).bind fun z=>bif z then W9 c m k b else(YN c u).bind fun y=>bif y then W9 c m k b else some ⟨l,u⟩else W9 c m k b
def XK (c:List (List Rat)):Nat->List Sp->Sp->Option (List Sp)
 | 0,_,_=>none
 | k+1,out,s=>(X9 c s).bind fun n=>bif n==0 then some out else bif n==1 then some (out++[s])else
   (Vm s).bind fun m=>(YN c m).bind fun z=>bif z then
    (Wy s.hi m).bind fun b=>(W9 c m FU b).bind fun t=>(XK c k out ⟨s.lo,t.lo⟩).bind fun o=>XK c k (o++[⟨m,m⟩]) ⟨t.hi,s.hi⟩
   else(XK c k out ⟨s.lo,m⟩).bind fun o=>XK c k o ⟨m,s.hi⟩
def XR (p:List Rat):Option (List (List Rat)):=bif Nat.beq (QM p).length 0 then none else bif Nat.ble (QM p).length 13 then(Ws (QM p)).bind Xc else none
def YW:List Rat->Rat->Option Rat
 | [],s=>some s
 | x::t,s=>(Wx s (QV x)).bind fun a=>YW t a
def J4 (c:List (List Rat)):Nat->Sp->Sp->Option (Sp×Sp)
 | 0,_,_=>none
 | k+1,s,t=>bif decide (t.lo<=s.hi)then(J3 c s).bind fun s'=>(J3 c t).bind fun t'=>J4 c k s' t' else some (s,t)
def s0:Sp:=⟨0,0⟩
def Xf (c:List (List Rat)):Nat->Nat->List Sp->Option (List Sp)
  | 0,_,out=>some out
  | k+1,i,out=>(J4 c FU (out.getD (i-1) s0) (out.getD i s0)).bind fun r=>Xf c k (i+1) ((out.set (i-1) r.1).set i r.2)
def Jo (p:List Rat):Option (List Sp):=(XR p).bind fun c=>(YW (c.getD 0 []) 1).bind fun m=>(XK c FU [] ⟨-m,m⟩).bind fun out=>bif Nat.ble out.length 1000 then Xf c (out.length-1) 1 out else none
def J5 (p:List Rat)(s:Sp):Option Int:=(XR p).bind fun c=>X9 c s
def Kb (c:List (List Rat))(w:Rat):Nat->Sp->Option Sp
 | 0,_=>none
 | k+1,s=>(Wy s.hi s.lo).bind fun d=>bif decide (w<d)then(J3 c s).bind fun s'=>Kb c w k s' else some s
def QAF (p:List Rat)(s:Sp)(w:Rat):Option Sp:=(XR p).bind fun c=>(X9 c s).bind fun n=>bif n==1 then Kb c w FU s else none
structure RtV where
 p:List Rat
 s:Sp
def Jp (r:RtV)(den:Int):Option RtV:=(QAF r.p r.s (((1:Int):Rat)/(den:Rat))).bind fun s=>some ⟨r.p,s⟩
def XU (r:RtV)(lo hi:Rat):Option Bool:=bif decide (Qz r.s.lo lo<=Qm r.s.hi hi)then(J5 r.p ⟨Qz r.s.lo lo,Qm r.s.hi hi⟩).bind fun n=>some (n==1)else some false
def JV (p:List Rat):Nat->Int->RtV->Option Int
 | 0,_,_=>none
 | k+1,den,r=>(J5 p r.s).bind fun n=>bif n==0 then(Xo p r.s.lo).bind fun e=>some (Qa e)else(Jp r den).bind fun r'=>JV p k (den*16) r'
def QCt (r:RtV)(x y:Rat):Option Int:=(YB (((-2:Int)):Rat) x).bind fun m=>JV [y,m,-y] 15 16 r
def Jq (q p:List Rat)(x y:Rat)(second:List Sp):List Sp->List (RtV×RtV)->Option (List (RtV×RtV))
 | [],acc=>some acc
 | s::t,acc=>bif Nat.beq second.length 2 then(QCt ⟨q,s⟩ x y).bind fun n=>Jq q p x y second t (acc++[(⟨q,s⟩,⟨p,bif decide (0<n)then second.getD 1 s0 else second.getD 0 s0⟩)])
  else Jq q p x y second t (acc++[(⟨q,s⟩,⟨p,second.getD 0 s0⟩)])
def sqZ (a:Rat):Option Rat:=YB a a
def UR (x y:Rat):Option Rat:=(YB x x).bind fun a=>(YB y y).bind fun b=>Wx a b
def QAG (l m far:Rat):Option (List Rat):=(Wx l m).bind fun a=>(sqZ a).bind fun a2=>(Wy far a2).bind fun p0=>(Wy l m).bind fun b=>(sqZ b).bind fun b2=>(Wy far b2).bind fun p2=>some [p0,0,p2]
def QAH (l m x y far:Rat):Option (List Rat):=(sqZ l).bind fun l2=>(Wx far l2).bind fun f=>(sqZ m).bind fun m2=>(Wy f m2).bind fun k=>(YB l x).bind fun lx=>(YB ((2:Int):Rat) lx).bind fun u=>
 (Wy k u).bind fun q0=>(YB l y).bind fun ly=>(YB ((-4:Int):Rat) ly).bind fun q1=>(Wx k u).bind fun q2=>some [q0,q1,q2]
def Xg (l m x y:Rat):Option (List (RtV×RtV)):=(UR x y).bind fun far=>(QAG l m far).bind fun p=>
 bif decide (0<Qa (p.getD 0 0)) || decide (Qa (p.getD 2 0)<=0)then some []else
  (QAH l m x y far).bind fun q=>(Jo q).bind fun first=>(Jo p).bind fun second=>bif Nat.ble 1 second.length then Jq q p x y second first []else none
def inF (l1 h1 l2 h2:Rat):List (RtV×RtV)->List (RtV×RtV)->Option (List (RtV×RtV))
 | [],acc=>some acc
 | r::t,acc=>(XU r.1 l1 h1).bind fun a=>bif a then(XU r.2 l2 h2).bind fun b=>bif b then inF l1 h1 l2 h2 t (acc++[r])else inF l1 h1 l2 h2 t acc else inF l1 h1 l2 h2 t acc
def VC:List (RtV×RtV)->List (List Sp)->Option (List (List Sp))
 | [],acc=>some acc
 | r::t,acc=>(Jp r.1 1000).bind fun a=>(Jp r.2 1000).bind fun b=>VC t (acc++[[a.s,b.s]])
end Go.Proofs
namespace Go.Proofs
open Go Go.Eng
theorem Kz {N:Int}{D m:Nat}(hD:0<D)(hN:N.natAbs<2^m)(hd:D<2^m):Bd m ((N:Rat)/((D:Int):Rat)):=by
 have e:(N:Rat)/((D:Int):Rat)=mkRat N D:=by rw[Rat.mkRat_eq_div];rfl
 rw[e];refine⟨?_,?_⟩
 ·rw[Rat.num_mkRat,if_neg (by omega)];have:(N/(Nat.gcd D N.natAbs:Int)).natAbs<=N.natAbs:=by
   have hdv:((Nat.gcd D N.natAbs:Nat):Int)∣N:=Int.ofNat_dvd_left.2 (Nat.gcd_dvd_right _ _);have hg:0<Nat.gcd D N.natAbs:=Nat.gcd_pos_of_pos_left _ hD;obtain⟨c,hc⟩:=hdv;generalize Nat.gcd D N.natAbs=g at*;rw[hc,Int.mul_ediv_cancel_left _ (by omega),Zc];have:1*c.natAbs<=(g:Int).natAbs*c.natAbs:=Nat.mul_le_mul_right _ (by omega);omega
  exact Nat.lt_of_le_of_lt this hN
 ·rw[Rat.den_mkRat,if_neg (by omega)];exact Nat.lt_of_le_of_lt (Nat.div_le_self _ _) hd
theorem Qgg (p:Rat):((p.den:Int):Rat)≠0:=fun e=>p.den_nz (by exact_mod_cast Rat.intCast_eq_zero_iff.1 e)
theorem QTa (p q:Rat):(((p.den*q.den:Nat):Int):Rat)≠0:=fun e=>by
 have h:p.den*q.den=0:=by exact_mod_cast Rat.intCast_eq_zero_iff.1 e
 have:=Nat.mul_pos p.den_pos q.den_pos;omega
theorem HR (p:Rat):p*((p.den:Int):Rat)=(p.num:Rat):=by
 have h:(p.num:Rat)/((p.den:Nat):Rat)=p:=by rw[<-Rat.mkRat_eq_div,Rat.mkRat_self]
 have h2:=Rat.div_mul_cancel (a:=(p.num:Rat)) (Qgg p);rw[show(p.num:Rat)/((p.den:Int):Rat)=p from h]at h2;exact h2
theorem QYE {x N D:Rat}(hD:D≠0)(h:x*D=N):x=N/D:=by rw[<-h,Rat.mul_div_cancel hD]
theorem Wt {a b m n:Nat}(h:a<2^m)(k:b<2^n):a*b<2^(m+n):=by
 rw[Nat.pow_add];exact Nat.mul_lt_mul'' h k
theorem Jr {a b:Nat}{p q:Rat}(h:Bd a p)(k:Bd b q):Bd (a+b+1) (p+q):=by
 have e:p+q=((p.num*q.den+q.num*p.den:Int):Rat)/(((p.den*q.den:Nat):Int):Rat):=by
  refine QYE (QTa p q) ?_
  ·have h1:=HR p;have h2:=HR q;push_cast at h1 h2⊢;grind
 rw[e];refine Kz (Nat.mul_pos p.den_pos q.den_pos) ?_ ?_
 ·have h1:=Wt h.1 k.2;have h2:=Wt k.1 h.2;rw[Nat.add_comm b a]at h2;rw[Nat.pow_succ];have e1:(p.num*(q.den:Int)).natAbs=p.num.natAbs*q.den:=by rw[Zc,Zd]
  have e2:(q.num*(p.den:Int)).natAbs=q.num.natAbs*p.den:=by rw[Zc,Zd]
  omega
 ·have h1:=Wt h.2 k.2;rw[Nat.pow_succ];omega
theorem QCu {a:Nat}{p:Rat}(h:Bd a p):Bd a (-p):=⟨by rw[show(-p).num= -p.num from rfl,Int.natAbs_neg];exact h.1,h.2⟩
theorem Wu {a b:Nat}{p q:Rat}(h:Bd a p)(k:Bd b q):Bd (a+b+1) (p-q):=by
 rw[Rat.sub_eq_add_neg];exact Jr h (QCu k)
theorem Q8 {a b:Nat}{p q:Rat}(h:Bd a p)(k:Bd b q):Bd (a+b) (p*q):=by
 have e:p*q=((p.num*q.num:Int):Rat)/(((p.den*q.den:Nat):Int):Rat):=by
  refine QYE (QTa p q) ?_
  ·have h1:=HR p;have h2:=HR q;push_cast at h1 h2⊢;grind
 rw[e];refine Kz (Nat.mul_pos p.den_pos q.den_pos) ?_ (Wt h.2 k.2)
 rw[Zc];exact Wt h.1 k.1
theorem QPr (n:Int):n.sign*n=n.natAbs:=by
 rcases Int.lt_trichotomy n 0 with h | h | h
 ·rw[Za h];omega
 ·subst h;rfl
 ·rw[Zb h];omega
theorem Qdg {a:Nat}{p:Rat}(h:Bd a p)(h0:p≠0):Bd a (p⁻¹):=by
 have hn:p.num≠0:=fun e=>h0 (Rat.num_eq_zero.1 e);have e:p⁻¹=((p.num.sign*p.den:Int):Rat)/(((p.num.natAbs:Nat):Int):Rat):=by
  have h1:=HR p;have h2:p*p⁻¹=1:=Rat.mul_inv_cancel p h0;have h3:((p.num.natAbs:Nat):Int)=p.num.sign*p.num:=(QPr p.num).symm;have h4:p.num.sign*p.num.sign=1:=by
   rcases Int.lt_or_gt_of_ne hn with h | h
   ·rw[Za h];rfl
   ·rw[Zb h];rfl
  refine QYE ?_ ?_
  ·intro e;have:=Rat.intCast_eq_zero_iff.1 e;omega
  ·rw[h3];push_cast;have h4':(p.num.sign:Rat)*(p.num.sign:Rat)=1:=by exact_mod_cast congrArg (fun z:Int=>(z:Rat)) h4
   push_cast at h1;grind
 rw[e];refine Kz (by omega) ?_ h.1
 rw[Zc,Zd];have:p.num.sign.natAbs=1:=by
  rcases Int.lt_or_gt_of_ne hn with h | h
  ·rw[Za h];rfl
  ·rw[Zb h];rfl
 rw[this,Nat.one_mul];exact h.2
theorem Xh {a b:Nat}{p q:Rat}(h:Bd a p)(k:Bd b q)(h0:q≠0):Bd (a+b) (p/q):=by
 rw[Rat.div_def];exact Q8 h (Qdg k h0)
theorem QTb {n:Int}{m:Nat}(h:n.natAbs<2^m)(hm:m≠0):Bd m (n:Rat):=⟨by rw[Rat.num_intCast];exact h,by show 1<2^m;exact Nat.one_lt_two_pow hm⟩
theorem Qdh {n:Nat}{q:Rat}(h:Bd n q):szR q<=n:=by
 unfold szR;have h1:max q.num.natAbs q.den<2^n:=by have:=h.1;have:=h.2;omega
 have hd:=q.den_pos;have:=(Nat.log2_lt (n:=max q.num.natAbs q.den) (k:=n) (by omega)).2 h1;omega
theorem QHW {n:Nat}{q:Rat}(h:Bd n q)(hn:n<=100000):ckZ q=some q:=Y9.2 ⟨Nat.le_trans (Qdh h) hn,rfl⟩
theorem Xs {a b:Nat}{p q:Rat}(h:Bd a p)(k:Bd b q)(hn:a+b+1<=100000):Wx p q=some (p+q):=QHW (Jr h k) hn
theorem YX {a b:Nat}{p q:Rat}(h:Bd a p)(k:Bd b q)(hn:a+b+1<=100000):Wy p q=some (p-q):=QHW (Wu h k) hn
theorem XG {a b:Nat}{p q:Rat}(h:Bd a p)(k:Bd b q)(hn:a+b<=100000):YB p q=some (p*q):=QHW (Q8 h k) hn
theorem HT {a b:Nat}{p q:Rat}(h:Bd a p)(k:Bd b q)(h0:q≠0)(hn:a+b<=100000):QD5 p q=some (p/q):=by
 unfold QD5;have:(q.num==0)=false:=by
  cases hb:q.num==0 with
  | false=>rfl
  | true=>exact absurd (Rat.num_eq_zero.1 (by simpa using hb)) h0
 rw[this];exact QHW (Xh h k h0) hn
end Go.Proofs
