/- Numbers of one size: sums, products, quotients are checked against it. -/
import Derived.Test.YtnbkdgmgbaangaaGreatDoorPD
open Int renaming sign_eq_neg_one_of_neg → Za, sign_eq_one_of_pos → Zb, natAbs_mul → Zc, natAbs_natCast → Zd
namespace Go.Proofs
open Go Go.Eng
def szR (q:Rat):Nat:=Nat.log2 (max q.num.natAbs q.den)+1
def ckZ (q:Rat):Option Rat:=bif Nat.ble (szR q) 100000 then some q else none
def Wf (p q:Rat):Option Rat:=ckZ (p+q)
def Wg (p q:Rat):Option Rat:=ckZ (p-q)
def X2 (p q:Rat):Option Rat:=ckZ (p*q)
def QC7 (p q:Rat):Option Rat:=bif q.num==0 then none else ckZ (p/q)
def QQ1:Ctr:=fun as0=>match as0 with
 | [.x false [.v (.int .i64 n)]]=>some fun K=>(-9223372036854775808<=n/\n<9223372036854775808)/\K (rA (n:Rat) 100000)
 | _=>none
def QKl:Ctr:=fun as0=>match as0 with
 | [.x true [.r p a],.x true [.r q b]]=>some fun K=>a+b+1<=4294967296/\ ∃r,Wf p q=some r/\K (rA r 100000)
 | _=>none
def QKm:Ctr:=fun as0=>match as0 with
 | [.x true [.r p a],.x true [.r q b]]=>some fun K=>a+b+1<=4294967296/\ ∃r,Wg p q=some r/\K (rA r 100000)
 | _=>none
def QKn:Ctr:=fun as0=>match as0 with
 | [.x true [.r p a],.x true [.r q b]]=>some fun K=>a+b<=4294967296/\ ∃r,X2 p q=some r/\K (rA r 100000)
 | _=>none
def QKo:Ctr:=fun as0=>match as0 with
 | [.x true [.r p a],.x true [.r q b]]=>some fun K=>a+b<=4294967296/\ ∃r,QC7 p q=some r/\K (.t [(true,[.r r 100000]),(false,[.v (.int .i64 0)])])
 | _=>none
def QKp:Ctr:=fun as0=>match as0 with
 | [.x true [.r p a]]=>some fun K=>a<=100000/\K (rA (-p) 100000)
 | _=>none
def QKq:Ctr:=fun as0=>match as0 with
 | [.x true [.r p a]]=>some fun K=>a<=100000/\K (rA (QZ p) 100000)
 | _=>none
def QKr:Ctr:=fun as0=>match as0 with
 | [.x true [.r p a],.x true [.r q b]]=>some fun K=>(a<=100000/\b<=100000)/\K (rA (Xi p q) 100000)
 | _=>none
def QKs:Ctr:=fun as0=>match as0 with
 | [.x true [.r p a],.x true [.r q b]]=>some fun K=>(a<=100000/\b<=100000)/\K (rA (JE p q) 100000)
 | _=>none
theorem QZ2 (q:Rat):Bd (szR q) q:=by
 have h:max q.num.natAbs q.den<2^szR q:=Nat.lt_log2_self;exact⟨by omega,by omega⟩
theorem Y5 {q r:Rat}:ckZ q=some r↔szR q<=100000/\q=r:=by
 unfold ckZ;cases h:Nat.ble (szR q) 100000 with
 | true=>simp[Nat.le_of_ble_eq_true h]
 | false=>
  have: ¬szR q<=100000:=fun k=>by rw[Nat.ble_eq_true_of_le k]at h;cases h
  simp[this]
theorem QGF {q r:Rat}(h:ckZ q=some r):Bd 100000 r:=by
 obtain⟨h1,rfl⟩:=Y5.1 h;exact(QZ2 q).mono h1
theorem Ke {W:World}{O:Nat->Prop}{ρ:Env}{n m:Nat}{q:Rat}(hb:Bd n q){v:Value}(h:ConcV W O ρ (rA q m) v):ConcV W O ρ (rA q n) v:=by
 obtain⟨vals,h1,h2⟩:=h;cases h1 with | r _ h1=>exact⟨_,.r hb h1,h2⟩
theorem QIN {W:World}{O:Nat->Prop}{ρ:Env}{m:Nat}{q:Rat}{v:Value}(h:ConcV W O ρ (rA q m) v):Bd m q:=by
 obtain⟨vals,h1,h2⟩:=h;cases h1 with | r hb _=>exact hb
theorem QZ3:CtrOK Tryz.prog QH QG 72 QQ1:=by
 refine⟨ok_rOf.enter,fun l T hT K hK=> ?_⟩;unfold QQ1 at hT;split at hT
 ·rename_i n;cases hT
  exact Spec.res (ok_rOf.sound [.x false [.v (.int .i64 n)]] _ rfl (fun av=>av=rA (n:Rat) 64) ⟨hK.1,rfl⟩) fun w O av v e hcv=>⟨_,hK.2,by subst e;exact Ke ((QIN hcv).mono (by omega)) hcv⟩
 ·cases hT
theorem QU7:CtrOK Tryz.prog QH QG 26 QKl:=by
 refine⟨ok_rAdd.enter,fun l T hT K hK=> ?_⟩;unfold QKl at hT;split at hT
 ·rename_i p a q b;cases hT
  obtain⟨h1,r,hr,hK⟩:=hK;exact Spec.res (ok_rAdd.sound [.x true [.r p a],.x true [.r q b]] _ rfl (fun av=>av=rA (p+q) (a+b+1)) ⟨h1,rfl⟩) fun w O av v e hcv=>⟨_,hK,by subst e;obtain rfl:=(Y5.1 hr).2;exact Ke (QGF hr) hcv⟩
 ·cases hT
theorem QU8:CtrOK Tryz.prog QH QG 73 QKm:=by
 refine⟨ok_rSub.enter,fun l T hT K hK=> ?_⟩;unfold QKm at hT;split at hT
 ·rename_i p a q b;cases hT
  obtain⟨h1,r,hr,hK⟩:=hK;exact Spec.res (ok_rSub.sound [.x true [.r p a],.x true [.r q b]] _ rfl (fun av=>av=rA (p-q) (a+b+1)) ⟨h1,rfl⟩) fun w O av v e hcv=>⟨_,hK,by subst e;obtain rfl:=(Y5.1 hr).2;exact Ke (QGF hr) hcv⟩
 ·cases hT
theorem QU9:CtrOK Tryz.prog QH QG 92 QKn:=by
 refine⟨ok_rMul.enter,fun l T hT K hK=> ?_⟩;unfold QKn at hT;split at hT
 ·rename_i p a q b;cases hT
  obtain⟨h1,r,hr,hK⟩:=hK;exact Spec.res (ok_rMul.sound [.x true [.r p a],.x true [.r q b]] _ rfl (fun av=>av=rA (p*q) (a+b)) ⟨h1,rfl⟩) fun w O av v e hcv=>⟨_,hK,by subst e;obtain rfl:=(Y5.1 hr).2;exact Ke (QGF hr) hcv⟩
 ·cases hT
theorem QQ2 {W:World}{O:Nat->Prop}{ρ:Env}{n m:Nat}{q:Rat}{cs:List Ch}(hb:Bd n q){v:Value}(h:ConcV W O ρ (.t [(true,[.r q m]),(false,cs)]) v):ConcV W O ρ (.t [(true,[.r q n]),(false,cs)]) v:=by
 obtain⟨vs,h1,h2⟩:=h;cases h1 with
 | cons hx ht=>exact⟨_,.cons (Ke hb hx) ht,h2⟩
theorem QVA:CtrOK Tryz.prog QH QG 91 QKo:=by
 refine⟨ok_rDiv.enter,fun l T hT K hK=> ?_⟩;unfold QKo at hT;split at hT
 ·rename_i p a q b;cases hT
  obtain⟨h1,r,hr,hK⟩:=hK;unfold QC7 at hr;cases hq:(q.num==0)with
  | true=>rw[hq]at hr;cases hr
  | false=>
   rw[hq]at hr;have hq0:q≠0:=fun e=>by subst e;simp at hq
   exact Spec.res (ok_rDiv.sound [.x true [.r p a],.x true [.r q b]] _ rfl (fun av=>av= .t [(true,[.r (p/q) (a+b)]),(false,[.v (.int .i64 0)])]) ⟨h1,fun _=>rfl,fun e=>absurd e hq0⟩) fun w O av v e hcv=>⟨_,hK,by subst e;obtain rfl:=(Y5.1 hr).2;exact QQ2 (QGF hr) hcv⟩
 ·cases hT
theorem QVB:CtrOK Tryz.prog QH QG 131 QKp:=by
 refine⟨ok_rNeg.enter,fun l T hT K hK=> ?_⟩;unfold QKp at hT;split at hT
 ·rename_i p a;cases hT
  exact Spec.res (ok_rNeg.sound [.x true [.r p a]] _ rfl (fun av=>av=rA (-p) a) ⟨by have:=hK.1;omega,rfl⟩) fun w O av v e hcv=>⟨_,hK.2,by subst e;exact Ke ((QIN hcv).mono hK.1) hcv⟩
 ·cases hT
theorem QVC:CtrOK Tryz.prog QH QG 25 QKq:=by
 refine⟨ok_rAbs.enter,fun l T hT K hK=> ?_⟩;unfold QKq at hT;split at hT
 ·rename_i p a;cases hT
  exact Spec.res (ok_rAbs.sound [.x true [.r p a]] _ rfl (fun av=>av=rA (QZ p) a) ⟨by have:=hK.1;omega,rfl⟩) fun w O av v e hcv=>⟨_,hK.2,by subst e;exact Ke ((QIN hcv).mono hK.1) hcv⟩
 ·cases hT
theorem QVD:CtrOK Tryz.prog QH QG 176 QKr:=by
 refine⟨ok_rMin.enter,fun l T hT K hK=> ?_⟩;unfold QKr at hT;split at hT
 ·rename_i p a q b;cases hT
  obtain⟨⟨h1,h2⟩,hK⟩:=hK;exact Spec.res (ok_rMin.sound [.x true [.r p a],.x true [.r q b]] _ rfl (fun av=>av=rA (Xi p q) (max a b)) ⟨by omega,rfl⟩) fun w O av v e hcv=>⟨_,hK,by subst e;exact Ke ((QIN hcv).mono (by omega)) hcv⟩
 ·cases hT
theorem QVE:CtrOK Tryz.prog QH QG 177 QKs:=by
 refine⟨ok_rMax.enter,fun l T hT K hK=> ?_⟩;unfold QKs at hT;split at hT
 ·rename_i p a q b;cases hT
  obtain⟨⟨h1,h2⟩,hK⟩:=hK;exact Spec.res (ok_rMax.sound [.x true [.r p a],.x true [.r q b]] _ rfl (fun av=>av=rA (JE p q) (max a b)) ⟨by omega,rfl⟩) fun w O av v e hcv=>⟨_,hK,by subst e;exact Ke ((QIN hcv).mono (by omega)) hcv⟩
 ·cases hT
def QVF:List (Nat×Ctr):=(72,QQ1)::(26,QKl)::(73,QKm)::(92,QKn)::(91,QKo)::(131,QKp)::(25,QKq)::(176,QKr)::(177,QKs)::QU2
noncomputable def QZ4:QU:=mkT QVF M79 X4
theorem QKt:CtrsOK Tryz.prog QH QG QVF:= .cons QZ3 (.cons QU7 (.cons QU8 (.cons QU9 (.cons QVA (.cons QVB (.cons QVC (.cons QVD (.cons QVE QKj))))))))
theorem QQ3:QM Tryz.prog QH QG QZ4:=QY QKt YF Qp
end Go.Proofs
namespace Go.Proofs
open Go Go.Eng
def FU:Nat:=100000
def XA (p:List Rat):Nat->Nat
 | 0=>0
 | n+1=>bif Qf (p.getD n 0)==0 then XA p n else n+1
def QK (p:List Rat):List Rat:=p.take (XA p p.length)
def evN (p:List Rat)(x:Rat):Nat->Rat->Option Rat
 | 0,s=>some s
 | i+1,s=>(X2 s x).bind fun m=>(Wf m (p.getD i 0)).bind fun a=>evN p x i a
def Xv (p:List Rat)(x:Rat):Option Rat:=evN p x p.length 0
def KC:List Rat->Nat->List Rat->Option (List Rat)
 | [],_,acc=>some acc
 | c::t,i,acc=>(X2 (((i:Int)):Rat) c).bind fun m=>KC t (i+1) (acc++[m])
def Hp (p:List Rat):Option (List Rat):=(KC (p.drop 1) 1 []).map QK
def VT (c:Rat):List Rat->Nat->List Rat->Option (List Rat)
 | [],_,rest=>some rest
 | x::t,j,rest=>(X2 c x).bind fun m=>(Wg (rest.getD j 0) m).bind fun v=>VT c t (j+1) (rest.set j v)
def Ql (p:List Rat):Rat:=p.getD (p.length-1) 0
def Wx (q:List Rat):Nat->List Rat->List Rat->Option (List Rat×List Rat)
 | 0,_,_=>none
 | n+1,by',rest=>bif Nat.ble q.length rest.length then
   (QC7 (Ql rest) (Ql q)).bind fun c=>(VT c q (rest.length-q.length) rest).bind fun r=>Wx q n (by'.set (rest.length-q.length) c) (QK r)
  else some (by',rest)
def Xd (p q:List Rat):Option (List Rat×List Rat):=Wx q FU (List.replicate ((QK p).length+1-q.length) 0) (QK p)
def scF (d:Rat):List Rat->List Rat->Option (List Rat)
 | [],acc=>some acc
 | c::t,acc=>(QC7 c d).bind fun v=>scF d t (acc++[v])
def YR (p:List Rat):Option (List Rat):=scF (QZ (Ql p)) p []
def KD:Nat->List Rat->List Rat->Option (List Rat)
 | 0,_,_=>none
 | n+1,a,b=>bif Nat.ble 1 b.length then(Xd a b).bind fun r=>(YR b).bind fun s=>KD n s r.2 else some a
def WZ (p:List Rat):Option (List Rat):=(Hp p).bind fun d=>(KD FU p d).bind fun a=>(Xd p a).bind fun r=>YR (QK r.1)
def chF:Nat->List (List Rat)->List Rat->Option (List (List Rat))
 | 0,_,_=>none
 | n+1,c,q=>bif Nat.ble 1 q.length then(YR q).bind fun s=>(Xd (c.getD (c.length-1) []) s).bind fun r=>chF n (c++[s]) (r.2.map fun x=> -x)else some c
def XZ (p:List Rat):Option (List (List Rat)):=(Hp p).bind fun q=>chF FU [p] q
def KE (x:Rat):List (List Rat)->Int->Int->Option Int
 | [],n,_=>some n
 | p::t,n,last=>(Xv p x).bind fun e=>KE x t (bif decide (Qf e*last<0)then n+1 else n) (bif Qf e==0 then last else Qf e)
def Xc (c:List (List Rat))(x:Rat):Option Int:=KE x c 0 0
def YG (c:List (List Rat))(x:Rat):Option Bool:=(Xv (c.getD 0 []) x).bind fun e=>some (Qf e==0)
def X1 (c:List (List Rat))(s:Sp):Option Int:=(Xc c s.lo).bind fun a=>(Xc c s.hi).bind fun b=>(YG c s.lo).bind fun z=>some (bif z then a-b+1 else a-b)
def QIO:Rat:=((1:Int):Rat)/((2:Int):Rat)
def VU (s:Sp):Option Rat:=(Wf s.lo s.hi).bind fun m=>X2 QIO m
def Jp (c:List (List Rat))(s:Sp):Option Sp:=(VU s).bind fun m=>(YG c m).bind fun z=>bif z then some ⟨m,m⟩else(X1 c ⟨s.lo,m⟩).bind fun n=>bif n==1 then some ⟨s.lo,m⟩else some ⟨m,s.hi⟩
def Wn (c:List (List Rat))(m:Rat):Nat->Rat->Option Sp
 | 0,_=>none
 | k+1,b0=>(VU ⟨0,1⟩).bind fun h=>(X2 b0 h).bind fun b=>(Wg m b).bind fun l=>(Wf m b).bind fun u=>(X1 c ⟨l,u⟩).bind fun n=>
   bif n==1 then(YG c l).bind fun z=>bif z then Wn c m k b else(YG c u).bind fun y=>bif y then Wn c m k b else some ⟨l,u⟩else Wn c m k b
def XG (c:List (List Rat)):Nat->List Sp->Sp->Option (List Sp)
 | 0,_,_=>none
 | k+1,out,s=>(X1 c s).bind fun n=>bif n==0 then some out else bif n==1 then some (out++[s])else
   (VU s).bind fun m=>(YG c m).bind fun z=>bif z then
    (Wg s.hi m).bind fun b=>(Wn c m FU b).bind fun t=>(XG c k out ⟨s.lo,t.lo⟩).bind fun o=>XG c k (o++[⟨m,m⟩]) ⟨t.hi,s.hi⟩
   else(XG c k out ⟨s.lo,m⟩).bind fun o=>XG c k o ⟨m,s.hi⟩
def XM (p:List Rat):Option (List (List Rat)):=bif Nat.beq (QK p).length 0 then none else bif Nat.ble (QK p).length 13 then(WZ (QK p)).bind XZ else none
def YS:List Rat->Rat->Option Rat
 | [],s=>some s
 | x::t,s=>(Wf s (QZ x)).bind fun a=>YS t a
def Jq (c:List (List Rat)):Nat->Sp->Sp->Option (Sp×Sp)
 | 0,_,_=>none
 | k+1,s,t=>bif decide (t.lo<=s.hi)then(Jp c s).bind fun s'=>(Jp c t).bind fun t'=>Jq c k s' t' else some (s,t)
def s0:Sp:=⟨0,0⟩
def Xe (c:List (List Rat)):Nat->Nat->List Sp->Option (List Sp)
  | 0,_,out=>some out
  | k+1,i,out=>(Jq c FU (out.getD (i-1) s0) (out.getD i s0)).bind fun r=>Xe c k (i+1) ((out.set (i-1) r.1).set i r.2)
def Je (p:List Rat):Option (List Sp):=(XM p).bind fun c=>(YS (c.getD 0 []) 1).bind fun m=>(XG c FU [] ⟨-m,m⟩).bind fun out=>bif Nat.ble out.length 1000 then Xe c (out.length-1) 1 out else none
def Wa (p:List Rat)(s:Sp):Option Int:=(XM p).bind fun c=>X1 c s
def KF (c:List (List Rat))(w:Rat):Nat->Sp->Option Sp
 | 0,_=>none
 | k+1,s=>(Wg s.hi s.lo).bind fun d=>bif decide (w<d)then(Jp c s).bind fun s'=>KF c w k s' else some s
def GQ (p:List Rat)(s:Sp)(w:Rat):Option Sp:=(XM p).bind fun c=>(X1 c s).bind fun n=>bif n==1 then KF c w FU s else none
structure RtV where
 p:List Rat
 s:Sp
def J2 (r:RtV)(den:Int):Option RtV:=(GQ r.p r.s (((1:Int):Rat)/(den:Rat))).bind fun s=>some ⟨r.p,s⟩
def Xf (r:RtV)(lo hi:Rat):Option Bool:=bif decide (JE r.s.lo lo<=Xi r.s.hi hi)then(Wa r.p ⟨JE r.s.lo lo,Xi r.s.hi hi⟩).bind fun n=>some (n==1)else some false
def Wb (p:List Rat):Nat->Int->RtV->Option Int
 | 0,_,_=>none
 | k+1,den,r=>(Wa p r.s).bind fun n=>bif n==0 then(Xv p r.s.lo).bind fun e=>some (Qf e)else(J2 r den).bind fun r'=>Wb p k (den*16) r'
def QIP (r:RtV)(x y:Rat):Option Int:=(X2 (((-2:Int)):Rat) x).bind fun m=>Wb [y,m,-y] 15 16 r
def Jf (q p:List Rat)(x y:Rat)(second:List Sp):List Sp->List (RtV×RtV)->Option (List (RtV×RtV))
 | [],acc=>some acc
 | s::t,acc=>bif Nat.beq second.length 2 then(QIP ⟨q,s⟩ x y).bind fun n=>Jf q p x y second t (acc++[(⟨q,s⟩,⟨p,bif decide (0<n)then second.getD 1 s0 else second.getD 0 s0⟩)])
  else Jf q p x y second t (acc++[(⟨q,s⟩,⟨p,second.getD 0 s0⟩)])
def sqZ (a:Rat):Option Rat:=X2 a a
def V8 (x y:Rat):Option Rat:=(X2 x x).bind fun a=>(X2 y y).bind fun b=>Wf a b
def GR (l m far:Rat):Option (List Rat):=(Wf l m).bind fun a=>(sqZ a).bind fun a2=>(Wg far a2).bind fun p0=>(Wg l m).bind fun b=>(sqZ b).bind fun b2=>(Wg far b2).bind fun p2=>some [p0,0,p2]
def GS (l m x y far:Rat):Option (List Rat):=(sqZ l).bind fun l2=>(Wf far l2).bind fun f=>(sqZ m).bind fun m2=>(Wg f m2).bind fun k=>(X2 l x).bind fun lx=>(X2 ((2:Int):Rat) lx).bind fun u=>
 (Wg k u).bind fun q0=>(X2 l y).bind fun ly=>(X2 ((-4:Int):Rat) ly).bind fun q1=>(Wf k u).bind fun q2=>some [q0,q1,q2]
def YN (l m x y:Rat):Option (List (RtV×RtV)):=(V8 x y).bind fun far=>(GR l m far).bind fun p=>
 bif decide (0<Qf (p.getD 0 0)) || decide (Qf (p.getD 2 0)<=0)then some []else
  (GS l m x y far).bind fun q=>(Je q).bind fun first=>(Je p).bind fun second=>bif Nat.ble 1 second.length then Jf q p x y second first []else none
def inF (l1 h1 l2 h2:Rat):List (RtV×RtV)->List (RtV×RtV)->Option (List (RtV×RtV))
 | [],acc=>some acc
 | r::t,acc=>(Xf r.1 l1 h1).bind fun a=>bif a then(Xf r.2 l2 h2).bind fun b=>bif b then inF l1 h1 l2 h2 t (acc++[r])else inF l1 h1 l2 h2 t acc else inF l1 h1 l2 h2 t acc
def Vu:List (RtV×RtV)->List (List Sp)->Option (List (List Sp))
 | [],acc=>some acc
 | r::t,acc=>(J2 r.1 1000).bind fun a=>(J2 r.2 1000).bind fun b=>Vu t (acc++[[a.s,b.s]])
end Go.Proofs
namespace Go.Proofs
open Go Go.Eng
theorem Vk {N:Int}{D m:Nat}(hD:0<D)(hN:N.natAbs<2^m)(hd:D<2^m):Bd m ((N:Rat)/((D:Int):Rat)):=by
 have e:(N:Rat)/((D:Int):Rat)=mkRat N D:=by rw[Rat.mkRat_eq_div];rfl
 rw[e];refine⟨?_,?_⟩
 ·rw[Rat.num_mkRat,if_neg (by omega)];have:(N/(Nat.gcd D N.natAbs:Int)).natAbs<=N.natAbs:=by
   have hdv:((Nat.gcd D N.natAbs:Nat):Int)∣N:=Int.ofNat_dvd_left.2 (Nat.gcd_dvd_right _ _);have hg:0<Nat.gcd D N.natAbs:=Nat.gcd_pos_of_pos_left _ hD;obtain⟨c,hc⟩:=hdv;generalize Nat.gcd D N.natAbs=g at*;rw[hc,Int.mul_ediv_cancel_left _ (by omega),Zc];have:1*c.natAbs<=(g:Int).natAbs*c.natAbs:=Nat.mul_le_mul_right _ (by omega);omega
  exact Nat.lt_of_le_of_lt this hN
 ·rw[Rat.den_mkRat,if_neg (by omega)];exact Nat.lt_of_le_of_lt (Nat.div_le_self _ _) hd
theorem Qc5 (p:Rat):((p.den:Int):Rat)≠0:=fun e=>p.den_nz (by exact_mod_cast Rat.intCast_eq_zero_iff.1 e)
theorem QQ4 (p q:Rat):(((p.den*q.den:Nat):Int):Rat)≠0:=fun e=>by
 have h:p.den*q.den=0:=by exact_mod_cast Rat.intCast_eq_zero_iff.1 e
 have:=Nat.mul_pos p.den_pos q.den_pos;omega
theorem Uv (p:Rat):p*((p.den:Int):Rat)=(p.num:Rat):=by
 have h:(p.num:Rat)/((p.den:Nat):Rat)=p:=by rw[<-Rat.mkRat_eq_div,Rat.mkRat_self]
 have h2:=Rat.div_mul_cancel (a:=(p.num:Rat)) (Qc5 p);rw[show(p.num:Rat)/((p.den:Int):Rat)=p from h]at h2;exact h2
theorem QQ5 {x N D:Rat}(hD:D≠0)(h:x*D=N):x=N/D:=by rw[<-h,Rat.mul_div_cancel hD]
theorem Wc {a b m n:Nat}(h:a<2^m)(k:b<2^n):a*b<2^(m+n):=by
 rw[Nat.pow_add];exact Nat.mul_lt_mul'' h k
theorem X9 {a b:Nat}{p q:Rat}(h:Bd a p)(k:Bd b q):Bd (a+b+1) (p+q):=by
 have e:p+q=((p.num*q.den+q.num*p.den:Int):Rat)/(((p.den*q.den:Nat):Int):Rat):=by
  refine QQ5 (QQ4 p q) ?_
  ·have h1:=Uv p;have h2:=Uv q;push_cast at h1 h2⊢;grind
 rw[e];refine Vk (Nat.mul_pos p.den_pos q.den_pos) ?_ ?_
 ·have h1:=Wc h.1 k.2;have h2:=Wc k.1 h.2;rw[Nat.add_comm b a]at h2;rw[Nat.pow_succ];have e1:(p.num*(q.den:Int)).natAbs=p.num.natAbs*q.den:=by rw[Zc,Zd]
  have e2:(q.num*(p.den:Int)).natAbs=q.num.natAbs*p.den:=by rw[Zc,Zd]
  omega
 ·have h1:=Wc h.2 k.2;rw[Nat.pow_succ];omega
theorem QBv {a:Nat}{p:Rat}(h:Bd a p):Bd a (-p):=⟨by rw[show(-p).num= -p.num from rfl,Int.natAbs_neg];exact h.1,h.2⟩
theorem Jr {a b:Nat}{p q:Rat}(h:Bd a p)(k:Bd b q):Bd (a+b+1) (p-q):=by
 rw[Rat.sub_eq_add_neg];exact X9 h (QBv k)
theorem Qu {a b:Nat}{p q:Rat}(h:Bd a p)(k:Bd b q):Bd (a+b) (p*q):=by
 have e:p*q=((p.num*q.num:Int):Rat)/(((p.den*q.den:Nat):Int):Rat):=by
  refine QQ5 (QQ4 p q) ?_
  ·have h1:=Uv p;have h2:=Uv q;push_cast at h1 h2⊢;grind
 rw[e];refine Vk (Nat.mul_pos p.den_pos q.den_pos) ?_ (Wc h.2 k.2)
 rw[Zc];exact Wc h.1 k.1
theorem QNw (n:Int):n.sign*n=n.natAbs:=by
 rcases Int.lt_trichotomy n 0 with h | h | h
 ·rw[Za h];omega
 ·subst h;rfl
 ·rw[Zb h];omega
theorem QZ5 {a:Nat}{p:Rat}(h:Bd a p)(h0:p≠0):Bd a (p⁻¹):=by
 have hn:p.num≠0:=fun e=>h0 (Rat.num_eq_zero.1 e);have e:p⁻¹=((p.num.sign*p.den:Int):Rat)/(((p.num.natAbs:Nat):Int):Rat):=by
  have h1:=Uv p;have h2:p*p⁻¹=1:=Rat.mul_inv_cancel p h0;have h3:((p.num.natAbs:Nat):Int)=p.num.sign*p.num:=(QNw p.num).symm;have h4:p.num.sign*p.num.sign=1:=by
   rcases Int.lt_or_gt_of_ne hn with h | h
   ·rw[Za h];rfl
   ·rw[Zb h];rfl
  refine QQ5 ?_ ?_
  ·intro e;have:=Rat.intCast_eq_zero_iff.1 e;omega
  ·rw[h3];push_cast;have h4':(p.num.sign:Rat)*(p.num.sign:Rat)=1:=by exact_mod_cast congrArg (fun z:Int=>(z:Rat)) h4
   push_cast at h1;grind
 rw[e];refine Vk (by omega) ?_ h.1
 rw[Zc,Zd];have:p.num.sign.natAbs=1:=by
  rcases Int.lt_or_gt_of_ne hn with h | h
  ·rw[Za h];rfl
  ·rw[Zb h];rfl
 rw[this,Nat.one_mul];exact h.2
theorem XT {a b:Nat}{p q:Rat}(h:Bd a p)(k:Bd b q)(h0:q≠0):Bd (a+b) (p/q):=by
 rw[Rat.div_def];exact Qu h (QZ5 k h0)
theorem QQ6 {n:Int}{m:Nat}(h:n.natAbs<2^m)(hm:m≠0):Bd m (n:Rat):=⟨by rw[Rat.num_intCast];exact h,by show 1<2^m;exact Nat.one_lt_two_pow hm⟩
theorem QZ6 {n:Nat}{q:Rat}(h:Bd n q):szR q<=n:=by
 unfold szR;have h1:max q.num.natAbs q.den<2^n:=by have:=h.1;have:=h.2;omega
 have hd:=q.den_pos;have:=(Nat.log2_lt (n:=max q.num.natAbs q.den) (k:=n) (by omega)).2 h1;omega
theorem QGG {n:Nat}{q:Rat}(h:Bd n q)(hn:n<=100000):ckZ q=some q:=Y5.2 ⟨Nat.le_trans (QZ6 h) hn,rfl⟩
theorem Xp {a b:Nat}{p q:Rat}(h:Bd a p)(k:Bd b q)(hn:a+b+1<=100000):Wf p q=some (p+q):=QGG (X9 h k) hn
theorem YT {a b:Nat}{p q:Rat}(h:Bd a p)(k:Bd b q)(hn:a+b+1<=100000):Wg p q=some (p-q):=QGG (Jr h k) hn
theorem XD {a b:Nat}{p q:Rat}(h:Bd a p)(k:Bd b q)(hn:a+b<=100000):X2 p q=some (p*q):=QGG (Qu h k) hn
theorem Uw {a b:Nat}{p q:Rat}(h:Bd a p)(k:Bd b q)(h0:q≠0)(hn:a+b<=100000):QC7 p q=some (p/q):=by
 unfold QC7;have:(q.num==0)=false:=by
  cases hb:q.num==0 with
  | false=>rfl
  | true=>exact absurd (Rat.num_eq_zero.1 (by simpa using hb)) h0
 rw[this];exact QGG (XT h k h0) hn
end Go.Proofs
