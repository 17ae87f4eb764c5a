/- Numbers of one size: sums, products, quotients are checked against it. -/
import Derived.Test.YtfhfenokfkenoaaGreatDoorPD
open Int renaming sign_eq_neg_one_of_neg → Za, sign_eq_one_of_pos → Zb
namespace Go.Proofs
open Go Go.Eng
def szR (q:Rat):Nat:=Nat.log2 (max q.num.natAbs q.den)+1
def ckZ (q:Rat):Option Rat:=bif Nat.ble (szR q) 100000 then some q else none
def Wn (p q:Rat):Option Rat:=ckZ (p+q)
def Wb (p q:Rat):Option Rat:=ckZ (p-q)
def YM (p q:Rat):Option Rat:=ckZ (p*q)
def QBG (p q:Rat):Option Rat:=bif q.num==0 then none else ckZ (p/q)
def QN2:Ctr
 | [.x false [.v (.int .i64 n)]]=>some fun K=>(-9223372036854775808<=n/\n<9223372036854775808)/\K (rA (n:Rat) 100000)
 | _=>none
def QHV:Ctr
 | [.x true [.r p a],.x true [.r q b]]=>some fun K=>a+b+1<=4294967296/\ ∃r,Wn p q=some r/\K (rA r 100000)
 | _=>none
def QHW:Ctr
 | [.x true [.r p a],.x true [.r q b]]=>some fun K=>a+b+1<=4294967296/\ ∃r,Wb p q=some r/\K (rA r 100000)
 | _=>none
def QHX:Ctr
 | [.x true [.r p a],.x true [.r q b]]=>some fun K=>a+b<=4294967296/\ ∃r,YM p q=some r/\K (rA r 100000)
 | _=>none
def QHY:Ctr
 | [.x true [.r p a],.x true [.r q b]]=>some fun K=>a+b<=4294967296/\ ∃r,QBG p q=some r/\K (.t [(true,[.r r 100000]),(false,[.v (.int .i64 0)])])
 | _=>none
def QHZ:Ctr
 | [.x true [.r p a]]=>some fun K=>a<=100000/\K (rA (-p) 100000)
 | _=>none
def QHa:Ctr
 | [.x true [.r p a]]=>some fun K=>a<=100000/\K (rA (Q5 p) 100000)
 | _=>none
def QHb:Ctr
 | [.x true [.r p a],.x true [.r q b]]=>some fun K=>(a<=100000/\b<=100000)/\K (rA (Y7 p q) 100000)
 | _=>none
def QHc:Ctr
 | [.x true [.r p a],.x true [.r q b]]=>some fun K=>(a<=100000/\b<=100000)/\K (rA (WI p q) 100000)
 | _=>none
theorem QVm (q:Rat):Bd (szR q) q:=by
 have h:max q.num.natAbs q.den<2^szR q:=Nat.lt_log2_self;exact⟨by omega,by omega⟩
theorem YN {q r:Rat}:ckZ q=some r↔szR q<=100000/\q=r:=by
 unfold ckZ;cases h:Nat.ble (szR q) 100000 with
 | true=>simp[Nat.le_of_ble_eq_true h]
 | false=>
  have: ¬szR q<=100000:=fun k=>by rw[Nat.ble_eq_true_of_le k]at h;cases h
  simp[this]
theorem QDX {q r:Rat}(h:ckZ q=some r):Bd 100000 r:=by
 obtain⟨h1,rfl⟩:=YN.1 h;exact(QVm q).mono h1
theorem KG {W:World}{O:Nat->Prop}{ρ:Env}{n m:Nat}{q:Rat}(hb:Bd n q){v:Value}(h:ConcV W O ρ (rA q m) v):ConcV W O ρ (rA q n) v:=by
 obtain⟨vals,h1,h2⟩:=h;cases h1 with | r _ h1=>exact⟨_,.r hb h1,h2⟩
theorem QFI {W:World}{O:Nat->Prop}{ρ:Env}{m:Nat}{q:Rat}{v:Value}(h:ConcV W O ρ (rA q m) v):Bd m q:=by
 obtain⟨vals,h1,h2⟩:=h;cases h1 with | r hb _=>exact hb
theorem QVn:QJ 68 QN2:=by
 refine⟨ok_rOf.enter,fun l T hT K hK=> ?_⟩;unfold QN2 at hT;split at hT
 ·rename_i n;cases hT
  exact Spec.res (ok_rOf.sound [.x false [.v (.int .i64 n)]] _ rfl (fun av=>av=rA (n:Rat) 64) ⟨hK.1,rfl⟩) fun w O av v e hcv=>⟨_,hK.2,by subst e;exact KG ((QFI hcv).mono (by omega)) hcv⟩
 ·cases hT
theorem QRg:QJ 23 QHV:=by
 refine⟨ok_rAdd.enter,fun l T hT K hK=> ?_⟩;unfold QHV at hT;split at hT
 ·rename_i p a q b;cases hT
  obtain⟨h1,r,hr,hK⟩:=hK;exact Spec.res (ok_rAdd.sound [.x true [.r p a],.x true [.r q b]] _ rfl (fun av=>av=rA (p+q) (a+b+1)) ⟨h1,rfl⟩) fun w O av v e hcv=>⟨_,hK,by subst e;obtain rfl:=(YN.1 hr).2;exact KG (QDX hr) hcv⟩
 ·cases hT
theorem QRh:QJ 69 QHW:=by
 refine⟨ok_rSub.enter,fun l T hT K hK=> ?_⟩;unfold QHW at hT;split at hT
 ·rename_i p a q b;cases hT
  obtain⟨h1,r,hr,hK⟩:=hK;exact Spec.res (ok_rSub.sound [.x true [.r p a],.x true [.r q b]] _ rfl (fun av=>av=rA (p-q) (a+b+1)) ⟨h1,rfl⟩) fun w O av v e hcv=>⟨_,hK,by subst e;obtain rfl:=(YN.1 hr).2;exact KG (QDX hr) hcv⟩
 ·cases hT
theorem QRi:QJ 88 QHX:=by
 refine⟨ok_rMul.enter,fun l T hT K hK=> ?_⟩;unfold QHX at hT;split at hT
 ·rename_i p a q b;cases hT
  obtain⟨h1,r,hr,hK⟩:=hK;exact Spec.res (ok_rMul.sound [.x true [.r p a],.x true [.r q b]] _ rfl (fun av=>av=rA (p*q) (a+b)) ⟨h1,rfl⟩) fun w O av v e hcv=>⟨_,hK,by subst e;obtain rfl:=(YN.1 hr).2;exact KG (QDX hr) hcv⟩
 ·cases hT
theorem QN3 {W:World}{O:Nat->Prop}{ρ:Env}{n m:Nat}{q:Rat}{cs:List Ch}(hb:Bd n q){v:Value}(h:ConcV W O ρ (.t [(true,[.r q m]),(false,cs)]) v):ConcV W O ρ (.t [(true,[.r q n]),(false,cs)]) v:=by
 obtain⟨vs,h1,h2⟩:=h;cases h1 with
 | cons hx ht=>exact⟨_,.cons (KG hb hx) ht,h2⟩
theorem QRj:QJ 87 QHY:=by
 refine⟨ok_rDiv.enter,fun l T hT K hK=> ?_⟩;unfold QHY at hT;split at hT
 ·rename_i p a q b;cases hT
  obtain⟨h1,r,hr,hK⟩:=hK;unfold QBG at hr;cases hq:(q.num==0)with
  | true=>rw[hq]at hr;cases hr
  | false=>
   rw[hq]at hr;have hq0:q≠0:=fun e=>by subst e;simp at hq
   exact Spec.res (ok_rDiv.sound [.x true [.r p a],.x true [.r q b]] _ rfl (fun av=>av= .t [(true,[.r (p/q) (a+b)]),(false,[.v (.int .i64 0)])]) ⟨h1,fun _=>rfl,fun e=>absurd e hq0⟩) fun w O av v e hcv=>⟨_,hK,by subst e;obtain rfl:=(YN.1 hr).2;exact QN3 (QDX hr) hcv⟩
 ·cases hT
theorem QRk:QJ 127 QHZ:=by
 refine⟨ok_rNeg.enter,fun l T hT K hK=> ?_⟩;unfold QHZ at hT;split at hT
 ·rename_i p a;cases hT
  exact Spec.res (ok_rNeg.sound [.x true [.r p a]] _ rfl (fun av=>av=rA (-p) a) ⟨by have:=hK.1;omega,rfl⟩) fun w O av v e hcv=>⟨_,hK.2,by subst e;exact KG ((QFI hcv).mono hK.1) hcv⟩
 ·cases hT
theorem QRl:QJ 22 QHa:=by
 refine⟨ok_rAbs.enter,fun l T hT K hK=> ?_⟩;unfold QHa at hT;split at hT
 ·rename_i p a;cases hT
  exact Spec.res (ok_rAbs.sound [.x true [.r p a]] _ rfl (fun av=>av=rA (Q5 p) a) ⟨by have:=hK.1;omega,rfl⟩) fun w O av v e hcv=>⟨_,hK.2,by subst e;exact KG ((QFI hcv).mono hK.1) hcv⟩
 ·cases hT
theorem QRm:QJ 172 QHb:=by
 refine⟨ok_rMin.enter,fun l T hT K hK=> ?_⟩;unfold QHb at hT;split at hT
 ·rename_i p a q b;cases hT
  obtain⟨⟨h1,h2⟩,hK⟩:=hK;exact Spec.res (ok_rMin.sound [.x true [.r p a],.x true [.r q b]] _ rfl (fun av=>av=rA (Y7 p q) (max a b)) ⟨by omega,rfl⟩) fun w O av v e hcv=>⟨_,hK,by subst e;exact KG ((QFI hcv).mono (by omega)) hcv⟩
 ·cases hT
theorem QRn:QJ 173 QHc:=by
 refine⟨ok_rMax.enter,fun l T hT K hK=> ?_⟩;unfold QHc at hT;split at hT
 ·rename_i p a q b;cases hT
  obtain⟨⟨h1,h2⟩,hK⟩:=hK;exact Spec.res (ok_rMax.sound [.x true [.r p a],.x true [.r q b]] _ rfl (fun av=>av=rA (WI p q) (max a b)) ⟨by omega,rfl⟩) fun w O av v e hcv=>⟨_,hK,by subst e;exact KG ((QFI hcv).mono (by omega)) hcv⟩
 ·cases hT
def QRo:LC:=(68,QN2)::(23,QHV)::(69,QHW)::(88,QHX)::(87,QHY)::(127,QHZ)::(22,QHa)::(172,QHb)::(173,QHc)::QRR
noncomputable def QVo:Qa:=mkT QRo M79 X4
theorem QHd:QG QRo:= .cons QVn (.cons QRg (.cons QRh (.cons QRi (.cons QRj (.cons QRk (.cons QRl (.cons QRm (.cons QRn QHT))))))))
theorem QN4:XH QVo:=QV QHd YH Qo
end Go.Proofs
namespace Go.Proofs
open Go Go.Eng
def FU:Nat:=100000
def XI (p:List Rat):Nat->Nat
 | 0=>0
 | n+1=>bif XE (p.getD n 0)==0 then XI p n else n+1
def QM (p:List Rat):List Rat:=p.take (XI p p.length)
def evN (p:List Rat)(x:Rat):Nat->Rat->Option Rat
 | 0,s=>some s
 | i+1,s=>(YM s x).bind fun m=>(Wn m (p.getD i 0)).bind fun a=>evN p x i a
def HX (p:List Rat)(x:Rat):Option Rat:=evN p x p.length 0
def Vo:List Rat->Nat->List Rat->Option (List Rat)
 | [],_,acc=>some acc
 | c::t,i,acc=>(YM (((i:Int)):Rat) c).bind fun m=>Vo t (i+1) (acc++[m])
def QFJ (p:List Rat):Option (List Rat):=(Vo (p.drop 1) 1 []).map QM
def QDY (c:Rat):List Rat->Nat->List Rat->Option (List Rat)
 | [],_,rest=>some rest
 | x::t,j,rest=>(YM c x).bind fun m=>(Wb (rest.getD j 0) m).bind fun v=>QDY c t (j+1) (rest.set j v)
def K5 (p:List Rat):Rat:=p.getD (p.length-1) 0
def Vp (q:List Rat):Nat->List Rat->List Rat->Option (List Rat×List Rat)
 | 0,_,_=>none
 | n+1,by',rest=>bif Nat.ble q.length rest.length then
   (QBG (K5 rest) (K5 q)).bind fun c=>(QDY c q (rest.length-q.length) rest).bind fun r=>Vp q n (by'.set (rest.length-q.length) c) (QM r)
  else some (by',rest)
def YA (p q:List Rat):Option (List Rat×List Rat):=Vp q FU (List.replicate ((QM p).length+1-q.length) 0) (QM p)
def scF (d:Rat):List Rat->List Rat->Option (List Rat)
 | [],acc=>some acc
 | c::t,acc=>(QBG c d).bind fun v=>scF d t (acc++[v])
def YO (p:List Rat):Option (List Rat):=scF (Q5 (K5 p)) p []
def Hk:Nat->List Rat->List Rat->Option (List Rat)
 | 0,_,_=>none
 | n+1,a,b=>bif Nat.ble 1 b.length then(YA a b).bind fun r=>(YO b).bind fun s=>Hk n s r.2 else some a
def QN5 (p:List Rat):Option (List Rat):=(QFJ p).bind fun d=>(Hk FU p d).bind fun a=>(YA p a).bind fun r=>YO (QM r.1)
def chF:Nat->List (List Rat)->List Rat->Option (List (List Rat))
 | 0,_,_=>none
 | n+1,c,q=>bif Nat.ble 1 q.length then(YO q).bind fun s=>(YA (c.getD (c.length-1) []) s).bind fun r=>chF n (c++[s]) (r.2.map fun x=> -x)else some c
def Jh (p:List Rat):Option (List (List Rat)):=(QFJ p).bind fun q=>chF FU [p] q
def Hm (x:Rat):List (List Rat)->Int->Int->Option Int
 | [],n,_=>some n
 | p::t,n,last=>(HX p x).bind fun e=>Hm x t (bif decide (XE e*last<0)then n+1 else n) (bif XE e==0 then last else XE e)
def K6 (c:List (List Rat))(x:Rat):Option Int:=Hm x c 0 0
def Jr (c:List (List Rat))(x:Rat):Option Bool:=(HX (c.getD 0 []) x).bind fun e=>some (XE e==0)
def Y8 (c:List (List Rat))(s:Sp):Option Int:=(K6 c s.lo).bind fun a=>(K6 c s.hi).bind fun b=>(Jr c s.lo).bind fun z=>some (bif z then a-b+1 else a-b)
def QTQ:Rat:=((1:Int):Rat)/((2:Int):Rat)
def UO (s:Sp):Option Rat:=(Wn s.lo s.hi).bind fun m=>YM QTQ m
def WD (c:List (List Rat))(s:Sp):Option Sp:=(UO s).bind fun m=>(Jr c m).bind fun z=>bif z then some ⟨m,m⟩else(Y8 c ⟨s.lo,m⟩).bind fun n=>bif n==1 then some ⟨s.lo,m⟩else some ⟨m,s.hi⟩
def VY (c:List (List Rat))(m:Rat):Nat->Rat->Option Sp
 | 0,_=>none
 | k+1,b0=>(UO ⟨0,1⟩).bind fun h=>(YM b0 h).bind fun b=>(Wb m b).bind fun l=>(Wn m b).bind fun u=>(Y8 c ⟨l,u⟩).bind fun n=>
   bif n==1 then(Jr c l).bind fun z=>bif z then VY c m k b else(Jr c u).bind fun y=>bif y then VY c m k b else some ⟨l,u⟩else VY c m k b
def XK (c:List (List Rat)):Nat->List Sp->Sp->Option (List Sp)
 | 0,_,_=>none
 | k+1,out,s=>(Y8 c s).bind fun n=>bif n==0 then some out else bif n==1 then some (out++[s])else
   (UO s).bind fun m=>(Jr c m).bind fun z=>bif z then
    (Wb s.hi m).bind fun b=>(VY c m FU b).bind fun t=>(XK c k out ⟨s.lo,t.lo⟩).bind fun o=>XK c k (o++[⟨m,m⟩]) ⟨t.hi,s.hi⟩
   else(XK c k out ⟨s.lo,m⟩).bind fun o=>XK c k o ⟨m,s.hi⟩
def X6 (p:List Rat):Option (List (List Rat)):=bif Nat.beq (QM p).length 0 then none else bif Nat.ble (QM p).length 13 then(QN5 (QM p)).bind Jh else none
def WR:List Rat->Rat->Option Rat
 | [],s=>some s
 | x::t,s=>(Wn s (Q5 x)).bind fun a=>WR t a
def Wc (c:List (List Rat)):Nat->Sp->Sp->Option (Sp×Sp)
 | 0,_,_=>none
 | k+1,s,t=>bif decide (t.lo<=s.hi)then(WD c s).bind fun s'=>(WD c t).bind fun t'=>Wc c k s' t' else some (s,t)
def s0:Sp:=⟨0,0⟩
def Xq (c:List (List Rat)):Nat->Nat->List Sp->Option (List Sp)
  | 0,_,out=>some out
  | k+1,i,out=>(Wc c FU (out.getD (i-1) s0) (out.getD i s0)).bind fun r=>Xq c k (i+1) ((out.set (i-1) r.1).set i r.2)
def WE (p:List Rat):Option (List Sp):=(X6 p).bind fun c=>(WR (c.getD 0 []) 1).bind fun m=>(XK c FU [] ⟨-m,m⟩).bind fun out=>bif Nat.ble out.length 1000 then Xq c (out.length-1) 1 out else none
def Vq (p:List Rat)(s:Sp):Option Int:=(X6 p).bind fun c=>Y8 c s
def VZ (c:List (List Rat))(w:Rat):Nat->Sp->Option Sp
 | 0,_=>none
 | k+1,s=>(Wb s.hi s.lo).bind fun d=>bif decide (w<d)then(WD c s).bind fun s'=>VZ c w k s' else some s
def QB2 (p:List Rat)(s:Sp)(w:Rat):Option Sp:=(X6 p).bind fun c=>(Y8 c s).bind fun n=>bif n==1 then VZ c w FU s else none
structure RtV where
 p:List Rat
 s:Sp
def K7 (r:RtV)(den:Int):Option RtV:=(QB2 r.p r.s (((1:Int):Rat)/(den:Rat))).bind fun s=>some ⟨r.p,s⟩
def KH (r:RtV)(lo hi:Rat):Option Bool:=bif decide (WI r.s.lo lo<=Y7 r.s.hi hi)then(Vq r.p ⟨WI r.s.lo lo,Y7 r.s.hi hi⟩).bind fun n=>some (n==1)else some false
def UP (p:List Rat):Nat->Int->RtV->Option Int
 | 0,_,_=>none
 | k+1,den,r=>(Vq p r.s).bind fun n=>bif n==0 then(HX p r.s.lo).bind fun e=>some (XE e)else(K7 r den).bind fun r'=>UP p k (den*16) r'
def QTR (r:RtV)(x y:Rat):Option Int:=(YM (((-2:Int)):Rat) x).bind fun m=>UP [y,m,-y] 15 16 r
def Js (q p:List Rat)(x y:Rat)(second:List Sp):List Sp->List (RtV×RtV)->Option (List (RtV×RtV))
 | [],acc=>some acc
 | s::t,acc=>bif Nat.beq second.length 2 then(QTR ⟨q,s⟩ x y).bind fun n=>Js q p x y second t (acc++[(⟨q,s⟩,⟨p,bif decide (0<n)then second.getD 1 s0 else second.getD 0 s0⟩)])
  else Js q p x y second t (acc++[(⟨q,s⟩,⟨p,second.getD 0 s0⟩)])
def sqZ (a:Rat):Option Rat:=YM a a
def HY (x y:Rat):Option Rat:=(YM x x).bind fun a=>(YM y y).bind fun b=>Wn a b
def QB3 (l m far:Rat):Option (List Rat):=(Wn l m).bind fun a=>(sqZ a).bind fun a2=>(Wb far a2).bind fun p0=>(Wb l m).bind fun b=>(sqZ b).bind fun b2=>(Wb far b2).bind fun p2=>some [p0,0,p2]
def QB4 (l m x y far:Rat):Option (List Rat):=(sqZ l).bind fun l2=>(Wn far l2).bind fun f=>(sqZ m).bind fun m2=>(Wb f m2).bind fun k=>(YM l x).bind fun lx=>(YM ((2:Int):Rat) lx).bind fun u=>
 (Wb k u).bind fun q0=>(YM l y).bind fun ly=>(YM ((-4:Int):Rat) ly).bind fun q1=>(Wn k u).bind fun q2=>some [q0,q1,q2]
def JR (l m x y:Rat):Option (List (RtV×RtV)):=(HY x y).bind fun far=>(QB3 l m far).bind fun p=>
 bif decide (0<XE (p.getD 0 0)) || decide (XE (p.getD 2 0)<=0)then some []else
  (QB4 l m x y far).bind fun q=>(WE q).bind fun first=>(WE p).bind fun second=>bif Nat.ble 1 second.length then Js q p x y second first []else none
def inF (l1 h1 l2 h2:Rat):List (RtV×RtV)->List (RtV×RtV)->Option (List (RtV×RtV))
 | [],acc=>some acc
 | r::t,acc=>(KH r.1 l1 h1).bind fun a=>bif a then(KH r.2 l2 h2).bind fun b=>bif b then inF l1 h1 l2 h2 t (acc++[r])else inF l1 h1 l2 h2 t acc else inF l1 h1 l2 h2 t acc
def Hn:List (RtV×RtV)->List (List Sp)->Option (List (List Sp))
 | [],acc=>some acc
 | r::t,acc=>(K7 r.1 1000).bind fun a=>(K7 r.2 1000).bind fun b=>Hn t (acc++[[a.s,b.s]])
end Go.Proofs
namespace Go.Proofs
open Go Go.Eng
theorem QIl {N:Int}{D m:Nat}(hD:0<D)(hN:N.natAbs<2^m)(hd:D<2^m):Bd m ((N:Rat)/((D:Int):Rat)):=by
 have e:(N:Rat)/((D:Int):Rat)=mkRat N D:=by rw[Rat.mkRat_eq_div];rfl
 rw[e];refine⟨?_,?_⟩
 ·rw[Rat.num_mkRat,if_neg (by omega)];have:(N/(Nat.gcd D N.natAbs:Int)).natAbs<=N.natAbs:=by
   have hdv:((Nat.gcd D N.natAbs:Nat):Int)∣N:=Int.ofNat_dvd_left.2 (Nat.gcd_dvd_right _ _);have hg:0<Nat.gcd D N.natAbs:=Nat.gcd_pos_of_pos_left _ hD;obtain⟨c,hc⟩:=hdv;generalize Nat.gcd D N.natAbs=g at*;rw[hc,Int.mul_ediv_cancel_left _ (by omega),Int.natAbs_mul];have:1*c.natAbs<=(g:Int).natAbs*c.natAbs:=Nat.mul_le_mul_right _ (by omega);omega
  exact Nat.lt_of_le_of_lt this hN
 ·rw[Rat.den_mkRat,if_neg (by omega)];exact Nat.lt_of_le_of_lt (Nat.div_le_self _ _) hd
theorem QXs (p:Rat):((p.den:Int):Rat)≠0:=fun e=>p.den_nz (by exact_mod_cast Rat.intCast_eq_zero_iff.1 e)
theorem QVp (p q:Rat):(((p.den*q.den:Nat):Int):Rat)≠0:=fun e=>by
 have h:p.den*q.den=0:=by exact_mod_cast Rat.intCast_eq_zero_iff.1 e
 have:=Nat.mul_pos p.den_pos q.den_pos;omega
theorem QN6 (p:Rat):p*((p.den:Int):Rat)=(p.num:Rat):=by
 have h:(p.num:Rat)/((p.den:Nat):Rat)=p:=by rw[<-Rat.mkRat_eq_div,Rat.mkRat_self]
 have h2:=Rat.div_mul_cancel (a:=(p.num:Rat)) (QXs p);rw[show(p.num:Rat)/((p.den:Int):Rat)=p from h]at h2;exact h2
theorem QXt {x N D:Rat}(hD:D≠0)(h:x*D=N):x=N/D:=by rw[<-h,Rat.mul_div_cancel hD]
theorem QAf {a b m n:Nat}(h:a<2^m)(k:b<2^n):a*b<2^(m+n):=by
 rw[Nat.pow_add];exact Nat.mul_lt_mul'' h k
theorem QVq {a b:Nat}{p q:Rat}(h:Bd a p)(k:Bd b q):Bd (a+b) (p*q):=by
 have e:p*q=((p.num*q.num:Int):Rat)/(((p.den*q.den:Nat):Int):Rat):=by
  refine QXt (QVp p q) ?_
  ·have h1:=QN6 p;have h2:=QN6 q;push_cast at h1 h2⊢;grind
 rw[e];refine QIl (Nat.mul_pos p.den_pos q.den_pos) ?_ (QAf h.2 k.2)
 rw[Int.natAbs_mul];exact QAf h.1 k.1
theorem QKm (n:Int):n.sign*n=n.natAbs:=by
 rcases Int.lt_trichotomy n 0 with h | h | h
 ·rw[Za h];omega
 ·subst h;rfl
 ·rw[Zb h];omega
theorem QVr {a:Nat}{p:Rat}(h:Bd a p)(h0:p≠0):Bd a (p⁻¹):=by
 have hn:p.num≠0:=fun e=>h0 (Rat.num_eq_zero.1 e);have e:p⁻¹=((p.num.sign*p.den:Int):Rat)/(((p.num.natAbs:Nat):Int):Rat):=by
  have h1:=QN6 p;have h2:p*p⁻¹=1:=Rat.mul_inv_cancel p h0;have h3:((p.num.natAbs:Nat):Int)=p.num.sign*p.num:=(QKm p.num).symm;have h4:p.num.sign*p.num.sign=1:=by
   rcases Int.lt_or_gt_of_ne hn with h | h
   ·rw[Za h];rfl
   ·rw[Zb h];rfl
  refine QXt ?_ ?_
  ·intro e;have:=Rat.intCast_eq_zero_iff.1 e;omega
  ·rw[h3];push_cast;have h4':(p.num.sign:Rat)*(p.num.sign:Rat)=1:=by exact_mod_cast congrArg (fun z:Int=>(z:Rat)) h4
   push_cast at h1;grind
 rw[e];refine QIl (by omega) ?_ h.1
 rw[Int.natAbs_mul,Int.natAbs_natCast];have:p.num.sign.natAbs=1:=by
  rcases Int.lt_or_gt_of_ne hn with h | h
  ·rw[Za h];rfl
  ·rw[Zb h];rfl
 rw[this,Nat.one_mul];exact h.2
theorem QVs {a b:Nat}{p q:Rat}(h:Bd a p)(k:Bd b q)(h0:q≠0):Bd (a+b) (p/q):=by
 rw[Rat.div_def];exact QVq h (QVr k h0)
theorem QN7 {n:Int}{m:Nat}(h:n.natAbs<2^m)(hm:m≠0):Bd m (n:Rat):=⟨by rw[Rat.num_intCast];exact h,by show 1<2^m;exact Nat.one_lt_two_pow hm⟩
theorem QVt {n:Nat}{q:Rat}(h:Bd n q):szR q<=n:=by
 unfold szR;have h1:max q.num.natAbs q.den<2^n:=by have:=h.1;have:=h.2;omega
 have hd:=q.den_pos;have:=(Nat.log2_lt (n:=max q.num.natAbs q.den) (k:=n) (by omega)).2 h1;omega
theorem QVu {n:Nat}{q:Rat}(h:Bd n q)(hn:n<=100000):ckZ q=some q:=YN.2 ⟨Nat.le_trans (QVt h) hn,rfl⟩
theorem QRp {a b:Nat}{p q:Rat}(h:Bd a p)(k:Bd b q)(h0:q≠0)(hn:a+b<=100000):QBG p q=some (p/q):=by
 unfold QBG;have:(q.num==0)=false:=by
  cases hb:q.num==0 with
  | false=>rfl
  | true=>exact absurd (Rat.num_eq_zero.1 (by simpa using hb)) h0
 rw[this];exact QVu (QVs h k h0) hn
end Go.Proofs
