/- Numbers of one size: sums, products, quotients are checked against it. -/
import Derived.Test.YtjdhppdpbkoihaaGreatDoorPD
open Int renaming sign_eq_neg_one_of_neg → Za, sign_eq_one_of_pos → Zb, natAbs_mul → Zc, natAbs_natCast → Zd
namespace Go.Proofs
open Go Go.Eng
def szR (q:Rat):Nat:=Nat.log2 (max q.num.natAbs q.den)+1
def ckZ (q:Rat):Option Rat:=bif Nat.ble (szR q) 100000 then some q else none
def Wr (p q:Rat):Option Rat:=ckZ (p+q)
def W2 (p q:Rat):Option Rat:=ckZ (p-q)
def YV (p q:Rat):Option Rat:=ckZ (p*q)
def GK (p q:Rat):Option Rat:=bif q.num==0 then none else ckZ (p/q)
def QO9:Ctr
 | [.x false [.v (.int .i64 n)]]=>some fun K=>(-9223372036854775808<=n/\n<9223372036854775808)/\K (rA (n:Rat) 100000)
 | _=>none
def QIl:Ctr
 | [.x true [.r p a],.x true [.r q b]]=>some fun K=>a+b+1<=4294967296/\ ∃r,Wr p q=some r/\K (rA r 100000)
 | _=>none
def QIm:Ctr
 | [.x true [.r p a],.x true [.r q b]]=>some fun K=>a+b+1<=4294967296/\ ∃r,W2 p q=some r/\K (rA r 100000)
 | _=>none
def QIn:Ctr
 | [.x true [.r p a],.x true [.r q b]]=>some fun K=>a+b<=4294967296/\ ∃r,YV p q=some r/\K (rA r 100000)
 | _=>none
def QIo:Ctr
 | [.x true [.r p a],.x true [.r q b]]=>some fun K=>a+b<=4294967296/\ ∃r,GK p q=some r/\K (.t [(true,[.r r 100000]),(false,[.v (.int .i64 0)])])
 | _=>none
def QIp:Ctr
 | [.x true [.r p a]]=>some fun K=>a<=100000/\K (rA (-p) 100000)
 | _=>none
def QIq:Ctr
 | [.x true [.r p a]]=>some fun K=>a<=100000/\K (rA (QX p) 100000)
 | _=>none
def QIr:Ctr
 | [.x true [.r p a],.x true [.r q b]]=>some fun K=>(a<=100000/\b<=100000)/\K (rA (Q9 p q) 100000)
 | _=>none
def QIs:Ctr
 | [.x true [.r p a],.x true [.r q b]]=>some fun K=>(a<=100000/\b<=100000)/\K (rA (XL p q) 100000)
 | _=>none
theorem QW3 (q:Rat):Bd (szR q) q:=by
 have h:max q.num.natAbs q.den<2^szR q:=Nat.lt_log2_self;exact⟨by omega,by omega⟩
theorem JH {q r:Rat}:ckZ q=some r↔szR q<=100000/\q=r:=by
 unfold ckZ;cases h:Nat.ble (szR q) 100000 with
 | true=>simp[Nat.le_of_ble_eq_true h]
 | false=>
  have: ¬szR q<=100000:=fun k=>by rw[Nat.ble_eq_true_of_le k]at h;cases h
  simp[this]
theorem QEZ {q r:Rat}(h:ckZ q=some r):Bd 100000 r:=by
 obtain⟨h1,rfl⟩:=JH.1 h;exact(QW3 q).mono h1
theorem K5 {W:World}{O:Nat->Prop}{ρ:Env}{n m:Nat}{q:Rat}(hb:Bd n q){v:Value}(h:ConcV W O ρ (rA q m) v):ConcV W O ρ (rA q n) v:=by
 obtain⟨vals,h1,h2⟩:=h;cases h1 with | r _ h1=>exact⟨_,.r hb h1,h2⟩
theorem QGM {W:World}{O:Nat->Prop}{ρ:Env}{m:Nat}{q:Rat}{v:Value}(h:ConcV W O ρ (rA q m) v):Bd m q:=by
 obtain⟨vals,h1,h2⟩:=h;cases h1 with | r hb _=>exact hb
theorem QW4:QI 8 QO9:=by
 refine⟨ok_rOf.enter,fun l T hT K hK=> ?_⟩;unfold QO9 at hT;split at hT
 ·rename_i n;cases hT
  exact Spec.res (ok_rOf.sound [.x false [.v (.int .i64 n)]] _ rfl (fun av=>av=rA (n:Rat) 64) ⟨hK.1,rfl⟩) fun w O av v e hcv=>⟨_,hK.2,by subst e;exact K5 ((QGM hcv).mono (by omega)) hcv⟩
 ·cases hT
theorem QS2:QI 54 QIl:=by
 refine⟨ok_rAdd.enter,fun l T hT K hK=> ?_⟩;unfold QIl at hT;split at hT
 ·rename_i p a q b;cases hT
  obtain⟨h1,r,hr,hK⟩:=hK;exact Spec.res (ok_rAdd.sound [.x true [.r p a],.x true [.r q b]] _ rfl (fun av=>av=rA (p+q) (a+b+1)) ⟨h1,rfl⟩) fun w O av v e hcv=>⟨_,hK,by subst e;obtain rfl:=(JH.1 hr).2;exact K5 (QEZ hr) hcv⟩
 ·cases hT
theorem QS3:QI 78 QIm:=by
 refine⟨ok_rSub.enter,fun l T hT K hK=> ?_⟩;unfold QIm at hT;split at hT
 ·rename_i p a q b;cases hT
  obtain⟨h1,r,hr,hK⟩:=hK;exact Spec.res (ok_rSub.sound [.x true [.r p a],.x true [.r q b]] _ rfl (fun av=>av=rA (p-q) (a+b+1)) ⟨h1,rfl⟩) fun w O av v e hcv=>⟨_,hK,by subst e;obtain rfl:=(JH.1 hr).2;exact K5 (QEZ hr) hcv⟩
 ·cases hT
theorem QS4:QI 53 QIn:=by
 refine⟨ok_rMul.enter,fun l T hT K hK=> ?_⟩;unfold QIn at hT;split at hT
 ·rename_i p a q b;cases hT
  obtain⟨h1,r,hr,hK⟩:=hK;exact Spec.res (ok_rMul.sound [.x true [.r p a],.x true [.r q b]] _ rfl (fun av=>av=rA (p*q) (a+b)) ⟨h1,rfl⟩) fun w O av v e hcv=>⟨_,hK,by subst e;obtain rfl:=(JH.1 hr).2;exact K5 (QEZ hr) hcv⟩
 ·cases hT
theorem QPA {W:World}{O:Nat->Prop}{ρ:Env}{n m:Nat}{q:Rat}{cs:List Ch}(hb:Bd n q){v:Value}(h:ConcV W O ρ (.t [(true,[.r q m]),(false,cs)]) v):ConcV W O ρ (.t [(true,[.r q n]),(false,cs)]) v:=by
 obtain⟨vs,h1,h2⟩:=h;cases h1 with
 | cons hx ht=>exact⟨_,.cons (K5 hb hx) ht,h2⟩
theorem okz_div:QI 77 QIo:=by
 refine⟨ok_rDiv.enter,fun l T hT K hK=> ?_⟩;unfold QIo at hT;split at hT
 ·rename_i p a q b;cases hT
  obtain⟨h1,r,hr,hK⟩:=hK;unfold GK at hr;cases hq:(q.num==0)with
  | true=>rw[hq]at hr;cases hr
  | false=>
   rw[hq]at hr;have hq0:q≠0:=fun e=>by subst e;simp at hq
   exact Spec.res (ok_rDiv.sound [.x true [.r p a],.x true [.r q b]] _ rfl (fun av=>av= .t [(true,[.r (p/q) (a+b)]),(false,[.v (.int .i64 0)])]) ⟨h1,fun _=>rfl,fun e=>absurd e hq0⟩) fun w O av v e hcv=>⟨_,hK,by subst e;obtain rfl:=(JH.1 hr).2;exact QPA (QEZ hr) hcv⟩
 ·cases hT
theorem QS5:QI 55 QIp:=by
 refine⟨ok_rNeg.enter,fun l T hT K hK=> ?_⟩;unfold QIp at hT;split at hT
 ·rename_i p a;cases hT
  exact Spec.res (ok_rNeg.sound [.x true [.r p a]] _ rfl (fun av=>av=rA (-p) a) ⟨by have:=hK.1;omega,rfl⟩) fun w O av v e hcv=>⟨_,hK.2,by subst e;exact K5 ((QGM hcv).mono hK.1) hcv⟩
 ·cases hT
theorem QS6:QI 58 QIq:=by
 refine⟨ok_rAbs.enter,fun l T hT K hK=> ?_⟩;unfold QIq at hT;split at hT
 ·rename_i p a;cases hT
  exact Spec.res (ok_rAbs.sound [.x true [.r p a]] _ rfl (fun av=>av=rA (QX p) a) ⟨by have:=hK.1;omega,rfl⟩) fun w O av v e hcv=>⟨_,hK.2,by subst e;exact K5 ((QGM hcv).mono hK.1) hcv⟩
 ·cases hT
theorem QS7:QI 31 QIr:=by
 refine⟨ok_rMin.enter,fun l T hT K hK=> ?_⟩;unfold QIr at hT;split at hT
 ·rename_i p a q b;cases hT
  obtain⟨⟨h1,h2⟩,hK⟩:=hK;exact Spec.res (ok_rMin.sound [.x true [.r p a],.x true [.r q b]] _ rfl (fun av=>av=rA (Q9 p q) (max a b)) ⟨by omega,rfl⟩) fun w O av v e hcv=>⟨_,hK,by subst e;exact K5 ((QGM hcv).mono (by omega)) hcv⟩
 ·cases hT
theorem QS8:QI 62 QIs:=by
 refine⟨ok_rMax.enter,fun l T hT K hK=> ?_⟩;unfold QIs at hT;split at hT
 ·rename_i p a q b;cases hT
  obtain⟨⟨h1,h2⟩,hK⟩:=hK;exact Spec.res (ok_rMax.sound [.x true [.r p a],.x true [.r q b]] _ rfl (fun av=>av=rA (XL p q) (max a b)) ⟨by omega,rfl⟩) fun w O av v e hcv=>⟨_,hK,by subst e;exact K5 ((QGM hcv).mono (by omega)) hcv⟩
 ·cases hT
def QS9:LC:=(8,QO9)::(54,QIl)::(78,QIm)::(53,QIn)::(77,QIo)::(55,QIp)::(58,QIq)::(31,QIr)::(62,QIs)::QO1
noncomputable def QW5:Qc:=mkT QS9 M79 X4
theorem QIt:QG QS9:= .cons QW4 (.cons QS2 (.cons QS3 (.cons QS4 (.cons okz_div (.cons QS5 (.cons QS6 (.cons QS7 (.cons QS8 QEW))))))))
theorem QPB:XP QW5:=QV QIt X0 Qo
end Go.Proofs
namespace Go.Proofs
open Go Go.Eng
def FU:Nat:=100000
def XG (p:List Rat):Nat->Nat
 | 0=>0
 | n+1=>bif Qa (p.getD n 0)==0 then XG p n else n+1
def QJ (p:List Rat):List Rat:=p.take (XG p p.length)
def evN (p:List Rat)(x:Rat):Nat->Rat->Option Rat
 | 0,s=>some s
 | i+1,s=>(YV s x).bind fun m=>(Wr m (p.getD i 0)).bind fun a=>evN p x i a
def X7 (p:List Rat)(x:Rat):Option Rat:=evN p x p.length 0
def Kb:List Rat->Nat->List Rat->Option (List Rat)
 | [],_,acc=>some acc
 | c::t,i,acc=>(YV (((i:Int)):Rat) c).bind fun m=>Kb t (i+1) (acc++[m])
def GL (p:List Rat):Option (List Rat):=(Kb (p.drop 1) 1 []).map QJ
def Vr (c:Rat):List Rat->Nat->List Rat->Option (List Rat)
 | [],_,rest=>some rest
 | x::t,j,rest=>(YV c x).bind fun m=>(W2 (rest.getD j 0) m).bind fun v=>Vr c t (j+1) (rest.set j v)
def Qp (p:List Rat):Rat:=p.getD (p.length-1) 0
def KM (q:List Rat):Nat->List Rat->List Rat->Option (List Rat×List Rat)
 | 0,_,_=>none
 | n+1,by',rest=>bif Nat.ble q.length rest.length then
   (GK (Qp rest) (Qp q)).bind fun c=>(Vr c q (rest.length-q.length) rest).bind fun r=>KM q n (by'.set (rest.length-q.length) c) (QJ r)
  else some (by',rest)
def Xu (p q:List Rat):Option (List Rat×List Rat):=KM q FU (List.replicate ((QJ p).length+1-q.length) 0) (QJ p)
def scF (d:Rat):List Rat->List Rat->Option (List Rat)
 | [],acc=>some acc
 | c::t,acc=>(GK c d).bind fun v=>scF d t (acc++[v])
def Y3 (p:List Rat):Option (List Rat):=scF (QX (Qp p)) p []
def Kc:Nat->List Rat->List Rat->Option (List Rat)
 | 0,_,_=>none
 | n+1,a,b=>bif Nat.ble 1 b.length then(Xu a b).bind fun r=>(Y3 b).bind fun s=>Kc n s r.2 else some a
def Ws (p:List Rat):Option (List Rat):=(GL p).bind fun d=>(Kc FU p d).bind fun a=>(Xu p a).bind fun r=>Y3 (QJ r.1)
def chF:Nat->List (List Rat)->List Rat->Option (List (List Rat))
 | 0,_,_=>none
 | n+1,c,q=>bif Nat.ble 1 q.length then(Y3 q).bind fun s=>(Xu (c.getD (c.length-1) []) s).bind fun r=>chF n (c++[s]) (r.2.map fun x=> -x)else some c
def Xm (p:List Rat):Option (List (List Rat)):=(GL p).bind fun q=>chF FU [p] q
def Kd (x:Rat):List (List Rat)->Int->Int->Option Int
 | [],n,_=>some n
 | p::t,n,last=>(X7 p x).bind fun e=>Kd x t (bif decide (Qa e*last<0)then n+1 else n) (bif Qa e==0 then last else Qa e)
def Xs (c:List (List Rat))(x:Rat):Option Int:=Kd x c 0 0
def YQ (c:List (List Rat))(x:Rat):Option Bool:=(X7 (c.getD 0 []) x).bind fun e=>some (Qa e==0)
def YF (c:List (List Rat))(s:Sp):Option Int:=(Xs c s.lo).bind fun a=>(Xs c s.hi).bind fun b=>(YQ c s.lo).bind fun z=>some (bif z then a-b+1 else a-b)
def QGN:Rat:=((1:Int):Rat)/((2:Int):Rat)
def Vs (s:Sp):Option Rat:=(Wr s.lo s.hi).bind fun m=>YV QGN m
def J3 (c:List (List Rat))(s:Sp):Option Sp:=(Vs s).bind fun m=>(YQ c m).bind fun z=>bif z then some ⟨m,m⟩else(YF c ⟨s.lo,m⟩).bind fun n=>bif n==1 then some ⟨s.lo,m⟩else some ⟨m,s.hi⟩
def KC (c:List (List Rat))(m:Rat):Nat->Rat->Option Sp
 | 0,_=>none
 | k+1,b0=>(Vs ⟨0,1⟩).bind fun h=>(YV b0 h).bind fun b=>(W2 m b).bind fun l=>(Wr m b).bind fun u=>(YF c ⟨l,u⟩).bind fun n=>
   bif n==1 then(YQ c l).bind fun z=>bif z then KC c m k b else(YQ c u).bind fun y=>bif y then KC c m k b else some ⟨l,u⟩else KC c m k b
def XM (c:List (List Rat)):Nat->List Sp->Sp->Option (List Sp)
 | 0,_,_=>none
 | k+1,out,s=>(YF c s).bind fun n=>bif n==0 then some out else bif n==1 then some (out++[s])else
   (Vs s).bind fun m=>(YQ c m).bind fun z=>bif z then
    (W2 s.hi m).bind fun b=>(KC c m FU b).bind fun t=>(XM c k out ⟨s.lo,t.lo⟩).bind fun o=>XM c k (o++[⟨m,m⟩]) ⟨t.hi,s.hi⟩
   else(XM c k out ⟨s.lo,m⟩).bind fun o=>XM c k o ⟨m,s.hi⟩
def Xg (p:List Rat):Option (List (List Rat)):=bif Nat.beq (QJ p).length 0 then none else bif Nat.ble (QJ p).length 13 then(Ws (QJ p)).bind Xm else none
def Y4:List Rat->Rat->Option Rat
 | [],s=>some s
 | x::t,s=>(Wr s (QX x)).bind fun a=>Y4 t a
def J4 (c:List (List Rat)):Nat->Sp->Sp->Option (Sp×Sp)
 | 0,_,_=>none
 | k+1,s,t=>bif decide (t.lo<=s.hi)then(J3 c s).bind fun s'=>(J3 c t).bind fun t'=>J4 c k s' t' else some (s,t)
def s0:Sp:=⟨0,0⟩
def Xn (c:List (List Rat)):Nat->Nat->List Sp->Option (List Sp)
  | 0,_,out=>some out
  | k+1,i,out=>(J4 c FU (out.getD (i-1) s0) (out.getD i s0)).bind fun r=>Xn c k (i+1) ((out.set (i-1) r.1).set i r.2)
def Jt (p:List Rat):Option (List Sp):=(Xg p).bind fun c=>(Y4 (c.getD 0 []) 1).bind fun m=>(XM c FU [] ⟨-m,m⟩).bind fun out=>bif Nat.ble out.length 1000 then Xn c (out.length-1) 1 out else none
def J5 (p:List Rat)(s:Sp):Option Int:=(Xg p).bind fun c=>YF c s
def Ke (c:List (List Rat))(w:Rat):Nat->Sp->Option Sp
 | 0,_=>none
 | k+1,s=>(W2 s.hi s.lo).bind fun d=>bif decide (w<d)then(J3 c s).bind fun s'=>Ke c w k s' else some s
def Gl (p:List Rat)(s:Sp)(w:Rat):Option Sp:=(Xg p).bind fun c=>(YF c s).bind fun n=>bif n==1 then Ke c w FU s else none
structure RtV where
 p:List Rat
 s:Sp
def JB (r:RtV)(den:Int):Option RtV:=(Gl r.p r.s (((1:Int):Rat)/(den:Rat))).bind fun s=>some ⟨r.p,s⟩
def XY (r:RtV)(lo hi:Rat):Option Bool:=bif decide (XL r.s.lo lo<=Q9 r.s.hi hi)then(J5 r.p ⟨XL r.s.lo lo,Q9 r.s.hi hi⟩).bind fun n=>some (n==1)else some false
def KD (p:List Rat):Nat->Int->RtV->Option Int
 | 0,_,_=>none
 | k+1,den,r=>(J5 p r.s).bind fun n=>bif n==0 then(X7 p r.s.lo).bind fun e=>some (Qa e)else(JB r den).bind fun r'=>KD p k (den*16) r'
def QGO (r:RtV)(x y:Rat):Option Int:=(YV (((-2:Int)):Rat) x).bind fun m=>KD [y,m,-y] 15 16 r
def Ju (q p:List Rat)(x y:Rat)(second:List Sp):List Sp->List (RtV×RtV)->Option (List (RtV×RtV))
 | [],acc=>some acc
 | s::t,acc=>bif Nat.beq second.length 2 then(QGO ⟨q,s⟩ x y).bind fun n=>Ju q p x y second t (acc++[(⟨q,s⟩,⟨p,bif decide (0<n)then second.getD 1 s0 else second.getD 0 s0⟩)])
  else Ju q p x y second t (acc++[(⟨q,s⟩,⟨p,second.getD 0 s0⟩)])
def sqZ (a:Rat):Option Rat:=YV a a
def Kf (x y:Rat):Option Rat:=(YV x x).bind fun a=>(YV y y).bind fun b=>Wr a b
def Gn (l m far:Rat):Option (List Rat):=(Wr l m).bind fun a=>(sqZ a).bind fun a2=>(W2 far a2).bind fun p0=>(W2 l m).bind fun b=>(sqZ b).bind fun b2=>(W2 far b2).bind fun p2=>some [p0,0,p2]
def Gp (l m x y far:Rat):Option (List Rat):=(sqZ l).bind fun l2=>(Wr far l2).bind fun f=>(sqZ m).bind fun m2=>(W2 f m2).bind fun k=>(YV l x).bind fun lx=>(YV ((2:Int):Rat) lx).bind fun u=>
 (W2 k u).bind fun q0=>(YV l y).bind fun ly=>(YV ((-4:Int):Rat) ly).bind fun q1=>(Wr k u).bind fun q2=>some [q0,q1,q2]
def YW (l m x y:Rat):Option (List (RtV×RtV)):=(Kf x y).bind fun far=>(Gn l m far).bind fun p=>
 bif decide (0<Qa (p.getD 0 0)) || decide (Qa (p.getD 2 0)<=0)then some []else
  (Gp l m x y far).bind fun q=>(Jt q).bind fun first=>(Jt p).bind fun second=>bif Nat.ble 1 second.length then Ju q p x y second first []else none
def inF (l1 h1 l2 h2:Rat):List (RtV×RtV)->List (RtV×RtV)->Option (List (RtV×RtV))
 | [],acc=>some acc
 | r::t,acc=>(XY r.1 l1 h1).bind fun a=>bif a then(XY r.2 l2 h2).bind fun b=>bif b then inF l1 h1 l2 h2 t (acc++[r])else inF l1 h1 l2 h2 t acc else inF l1 h1 l2 h2 t acc
def QPC:List (RtV×RtV)->List (List Sp)->Option (List (List Sp))
 | [],acc=>some acc
 | r::t,acc=>(JB r.1 1000).bind fun a=>(JB r.2 1000).bind fun b=>QPC t (acc++[[a.s,b.s]])
end Go.Proofs
namespace Go.Proofs
open Go Go.Eng
theorem K6 {N:Int}{D m:Nat}(hD:0<D)(hN:N.natAbs<2^m)(hd:D<2^m):Bd m ((N:Rat)/((D:Int):Rat)):=by
 have e:(N:Rat)/((D:Int):Rat)=mkRat N D:=by rw[Rat.mkRat_eq_div];rfl
 rw[e];refine⟨?_,?_⟩
 ·rw[Rat.num_mkRat,if_neg (by omega)];have:(N/(Nat.gcd D N.natAbs:Int)).natAbs<=N.natAbs:=by
   have hdv:((Nat.gcd D N.natAbs:Nat):Int)∣N:=Int.ofNat_dvd_left.2 (Nat.gcd_dvd_right _ _);have hg:0<Nat.gcd D N.natAbs:=Nat.gcd_pos_of_pos_left _ hD;obtain⟨c,hc⟩:=hdv;generalize Nat.gcd D N.natAbs=g at*;rw[hc,Int.mul_ediv_cancel_left _ (by omega),Zc];have:1*c.natAbs<=(g:Int).natAbs*c.natAbs:=Nat.mul_le_mul_right _ (by omega);omega
  exact Nat.lt_of_le_of_lt this hN
 ·rw[Rat.den_mkRat,if_neg (by omega)];exact Nat.lt_of_le_of_lt (Nat.div_le_self _ _) hd
theorem QZH (p:Rat):((p.den:Int):Rat)≠0:=fun e=>p.den_nz (by exact_mod_cast Rat.intCast_eq_zero_iff.1 e)
theorem QPD (p q:Rat):(((p.den*q.den:Nat):Int):Rat)≠0:=fun e=>by
 have h:p.den*q.den=0:=by exact_mod_cast Rat.intCast_eq_zero_iff.1 e
 have:=Nat.mul_pos p.den_pos q.den_pos;omega
theorem HE (p:Rat):p*((p.den:Int):Rat)=(p.num:Rat):=by
 have h:(p.num:Rat)/((p.den:Nat):Rat)=p:=by rw[<-Rat.mkRat_eq_div,Rat.mkRat_self]
 have h2:=Rat.div_mul_cancel (a:=(p.num:Rat)) (QZH p);rw[show(p.num:Rat)/((p.den:Int):Rat)=p from h]at h2;exact h2
theorem QIu {x N D:Rat}(hD:D≠0)(h:x*D=N):x=N/D:=by rw[<-h,Rat.mul_div_cancel hD]
theorem Wt {a b m n:Nat}(h:a<2^m)(k:b<2^n):a*b<2^(m+n):=by
 rw[Nat.pow_add];exact Nat.mul_lt_mul'' h k
theorem XV {a b:Nat}{p q:Rat}(h:Bd a p)(k:Bd b q):Bd (a+b+1) (p+q):=by
 have e:p+q=((p.num*q.den+q.num*p.den:Int):Rat)/(((p.den*q.den:Nat):Int):Rat):=by
  refine QIu (QPD p q) ?_
  ·have h1:=HE p;have h2:=HE q;push_cast at h1 h2⊢;grind
 rw[e];refine K6 (Nat.mul_pos p.den_pos q.den_pos) ?_ ?_
 ·have h1:=Wt h.1 k.2;have h2:=Wt k.1 h.2;rw[Nat.add_comm b a]at h2;rw[Nat.pow_succ];have e1:(p.num*(q.den:Int)).natAbs=p.num.natAbs*q.den:=by rw[Zc,Zd]
  have e2:(q.num*(p.den:Int)).natAbs=q.num.natAbs*p.den:=by rw[Zc,Zd]
  omega
 ·have h1:=Wt h.2 k.2;rw[Nat.pow_succ];omega
theorem QBg {a:Nat}{p:Rat}(h:Bd a p):Bd a (-p):=⟨by rw[show(-p).num= -p.num from rfl,Int.natAbs_neg];exact h.1,h.2⟩
theorem YX {a b:Nat}{p q:Rat}(h:Bd a p)(k:Bd b q):Bd (a+b+1) (p-q):=by
 rw[Rat.sub_eq_add_neg];exact XV h (QBg k)
theorem Qg {a b:Nat}{p q:Rat}(h:Bd a p)(k:Bd b q):Bd (a+b) (p*q):=by
 have e:p*q=((p.num*q.num:Int):Rat)/(((p.den*q.den:Nat):Int):Rat):=by
  refine QIu (QPD p q) ?_
  ·have h1:=HE p;have h2:=HE q;push_cast at h1 h2⊢;grind
 rw[e];refine K6 (Nat.mul_pos p.den_pos q.den_pos) ?_ (Wt h.2 k.2)
 rw[Zc];exact Wt h.1 k.1
theorem QMD (n:Int):n.sign*n=n.natAbs:=by
 rcases Int.lt_trichotomy n 0 with h | h | h
 ·rw[Za h];omega
 ·subst h;rfl
 ·rw[Zb h];omega
theorem QW6 {a:Nat}{p:Rat}(h:Bd a p)(h0:p≠0):Bd a (p⁻¹):=by
 have hn:p.num≠0:=fun e=>h0 (Rat.num_eq_zero.1 e);have e:p⁻¹=((p.num.sign*p.den:Int):Rat)/(((p.num.natAbs:Nat):Int):Rat):=by
  have h1:=HE p;have h2:p*p⁻¹=1:=Rat.mul_inv_cancel p h0;have h3:((p.num.natAbs:Nat):Int)=p.num.sign*p.num:=(QMD p.num).symm;have h4:p.num.sign*p.num.sign=1:=by
   rcases Int.lt_or_gt_of_ne hn with h | h
   ·rw[Za h];rfl
   ·rw[Zb h];rfl
  refine QIu ?_ ?_
  ·intro e;have:=Rat.intCast_eq_zero_iff.1 e;omega
  ·rw[h3];push_cast;have h4':(p.num.sign:Rat)*(p.num.sign:Rat)=1:=by exact_mod_cast congrArg (fun z:Int=>(z:Rat)) h4
   push_cast at h1;grind
 rw[e];refine K6 (by omega) ?_ h.1
 rw[Zc,Zd];have:p.num.sign.natAbs=1:=by
  rcases Int.lt_or_gt_of_ne hn with h | h
  ·rw[Za h];rfl
  ·rw[Zb h];rfl
 rw[this,Nat.one_mul];exact h.2
theorem XR {a b:Nat}{p q:Rat}(h:Bd a p)(k:Bd b q)(h0:q≠0):Bd (a+b) (p/q):=by
 rw[Rat.div_def];exact Qg h (QW6 k h0)
theorem QPE {n:Int}{m:Nat}(h:n.natAbs<2^m)(hm:m≠0):Bd m (n:Rat):=⟨by rw[Rat.num_intCast];exact h,by show 1<2^m;exact Nat.one_lt_two_pow hm⟩
theorem QW7 {n:Nat}{q:Rat}(h:Bd n q):szR q<=n:=by
 unfold szR;have h1:max q.num.natAbs q.den<2^n:=by have:=h.1;have:=h.2;omega
 have hd:=q.den_pos;have:=(Nat.log2_lt (n:=max q.num.natAbs q.den) (k:=n) (by omega)).2 h1;omega
theorem QEa {n:Nat}{q:Rat}(h:Bd n q)(hn:n<=100000):ckZ q=some q:=JH.2 ⟨Nat.le_trans (QW7 h) hn,rfl⟩
theorem Xo {a b:Nat}{p q:Rat}(h:Bd a p)(k:Bd b q)(hn:a+b+1<=100000):Wr p q=some (p+q):=QEa (XV h k) hn
theorem Y5 {a b:Nat}{p q:Rat}(h:Bd a p)(k:Bd b q)(hn:a+b+1<=100000):W2 p q=some (p-q):=QEa (YX h k) hn
theorem XD {a b:Nat}{p q:Rat}(h:Bd a p)(k:Bd b q)(hn:a+b<=100000):YV p q=some (p*q):=QEa (Qg h k) hn
theorem UC {a b:Nat}{p q:Rat}(h:Bd a p)(k:Bd b q)(h0:q≠0)(hn:a+b<=100000):GK p q=some (p/q):=by
 unfold GK;have:(q.num==0)=false:=by
  cases hb:q.num==0 with
  | false=>rfl
  | true=>exact absurd (Rat.num_eq_zero.1 (by simpa using hb)) h0
 rw[this];exact QEa (XR h k h0) hn
end Go.Proofs
