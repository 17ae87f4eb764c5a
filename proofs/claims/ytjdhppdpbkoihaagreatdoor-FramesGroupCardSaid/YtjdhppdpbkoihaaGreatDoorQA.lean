/- Numbers of one size: sums, products, quotients are checked against it. -/
import Derived.Test.YtjdhppdpbkoihaaGreatDoorPD
open Int renaming sign_eq_neg_one_of_neg → Za, sign_eq_one_of_pos → Zb
namespace Go.Proofs
open Go Go.Eng
def szR (q:Rat):Nat:=Nat.log2 (max q.num.natAbs q.den)+1
def ckZ (q:Rat):Option Rat:=bif Nat.ble (szR q) 100000 then some q else none
def Gz (p q:Rat):Option Rat:=ckZ (p+q)
def QB5 (p q:Rat):Option Rat:=ckZ (p-q)
def Ur (p q:Rat):Option Rat:=ckZ (p*q)
def G0 (p q:Rat):Option Rat:=bif q.num==0 then none else ckZ (p/q)
def QLA:Ctr
 | [.x false [.v (.int .i64 n)]]=>some fun K=>(-9223372036854775808<=n/\n<9223372036854775808)/\K (rA (n:Rat) 100000)
 | _=>none
def QFY:Ctr
 | [.x true [.r p a],.x true [.r q b]]=>some fun K=>a+b+1<=4294967296/\ ∃r,Gz p q=some r/\K (rA r 100000)
 | _=>none
def QFZ:Ctr
 | [.x true [.r p a],.x true [.r q b]]=>some fun K=>a+b+1<=4294967296/\ ∃r,QB5 p q=some r/\K (rA r 100000)
 | _=>none
def QFa:Ctr
 | [.x true [.r p a],.x true [.r q b]]=>some fun K=>a+b<=4294967296/\ ∃r,Ur p q=some r/\K (rA r 100000)
 | _=>none
def QFb:Ctr
 | [.x true [.r p a],.x true [.r q b]]=>some fun K=>a+b<=4294967296/\ ∃r,G0 p q=some r/\K (.t [(true,[.r r 100000]),(false,[.v (.int .i64 0)])])
 | _=>none
def QFc:Ctr
 | [.x true [.r p a]]=>some fun K=>a<=100000/\K (rA (-p) 100000)
 | _=>none
def QFd:Ctr
 | [.x true [.r p a]]=>some fun K=>a<=100000/\K (rA (Wq p) 100000)
 | _=>none
def QFe:Ctr
 | [.x true [.r p a],.x true [.r q b]]=>some fun K=>(a<=100000/\b<=100000)/\K (rA (Y4 p q) 100000)
 | _=>none
def QFf:Ctr
 | [.x true [.r p a],.x true [.r q b]]=>some fun K=>(a<=100000/\b<=100000)/\K (rA (UQ p q) 100000)
 | _=>none
theorem QSC (q:Rat):Bd (szR q) q:=by
 have h:max q.num.natAbs q.den<2^szR q:=Nat.lt_log2_self;exact⟨by omega,by omega⟩
theorem Km {q r:Rat}:ckZ q=some r↔szR q<=100000/\q=r:=by
 unfold ckZ;cases h:Nat.ble (szR q) 100000 with
 | true=>simp[Nat.le_of_ble_eq_true h]
 | false=>
  have: ¬szR q<=100000:=fun k=>by rw[Nat.ble_eq_true_of_le k]at h;cases h
  simp[this]
theorem QB6 {q r:Rat}(h:ckZ q=some r):Bd 100000 r:=by
 obtain⟨h1,rfl⟩:=Km.1 h;exact(QSC q).mono h1
theorem Wg {W:World}{O:Nat->Prop}{ρ:Env}{n m:Nat}{q:Rat}(hb:Bd n q){v:Value}(h:ConcV W O ρ (rA q m) v):ConcV W O ρ (rA q n) v:=by
 obtain⟨vals,h1,h2⟩:=h;cases h1 with | r _ h1=>exact⟨_,.r hb h1,h2⟩
theorem QDa {W:World}{O:Nat->Prop}{ρ:Env}{m:Nat}{q:Rat}{v:Value}(h:ConcV W O ρ (rA q m) v):Bd m q:=by
 obtain⟨vals,h1,h2⟩:=h;cases h1 with | r hb _=>exact hb
theorem QSD:QH 8 QLA:=by
 refine⟨ok_rOf.enter,fun l T hT K hK=> ?_⟩;unfold QLA at hT;split at hT
 ·rename_i n;cases hT
  exact Spec.res (ok_rOf.sound [.x false [.v (.int .i64 n)]] _ rfl (fun av=>av=rA (n:Rat) 64) ⟨hK.1,rfl⟩) fun w O av v e hcv=>⟨_,hK.2,by subst e;exact Wg ((QDa hcv).mono (by omega)) hcv⟩
 ·cases hT
theorem QOK:QH 54 QFY:=by
 refine⟨ok_rAdd.enter,fun l T hT K hK=> ?_⟩;unfold QFY at hT;split at hT
 ·rename_i p a q b;cases hT
  obtain⟨h1,r,hr,hK⟩:=hK;exact Spec.res (ok_rAdd.sound [.x true [.r p a],.x true [.r q b]] _ rfl (fun av=>av=rA (p+q) (a+b+1)) ⟨h1,rfl⟩) fun w O av v e hcv=>⟨_,hK,by subst e;obtain rfl:=(Km.1 hr).2;exact Wg (QB6 hr) hcv⟩
 ·cases hT
theorem QOL:QH 78 QFZ:=by
 refine⟨ok_rSub.enter,fun l T hT K hK=> ?_⟩;unfold QFZ at hT;split at hT
 ·rename_i p a q b;cases hT
  obtain⟨h1,r,hr,hK⟩:=hK;exact Spec.res (ok_rSub.sound [.x true [.r p a],.x true [.r q b]] _ rfl (fun av=>av=rA (p-q) (a+b+1)) ⟨h1,rfl⟩) fun w O av v e hcv=>⟨_,hK,by subst e;obtain rfl:=(Km.1 hr).2;exact Wg (QB6 hr) hcv⟩
 ·cases hT
theorem QOM:QH 53 QFa:=by
 refine⟨ok_rMul.enter,fun l T hT K hK=> ?_⟩;unfold QFa at hT;split at hT
 ·rename_i p a q b;cases hT
  obtain⟨h1,r,hr,hK⟩:=hK;exact Spec.res (ok_rMul.sound [.x true [.r p a],.x true [.r q b]] _ rfl (fun av=>av=rA (p*q) (a+b)) ⟨h1,rfl⟩) fun w O av v e hcv=>⟨_,hK,by subst e;obtain rfl:=(Km.1 hr).2;exact Wg (QB6 hr) hcv⟩
 ·cases hT
theorem QLB {W:World}{O:Nat->Prop}{ρ:Env}{n m:Nat}{q:Rat}{cs:List Ch}(hb:Bd n q){v:Value}(h:ConcV W O ρ (.t [(true,[.r q m]),(false,cs)]) v):ConcV W O ρ (.t [(true,[.r q n]),(false,cs)]) v:=by
 obtain⟨vs,h1,h2⟩:=h;cases h1 with
 | cons hx ht=>exact⟨_,.cons (Wg hb hx) ht,h2⟩
theorem QON:QH 77 QFb:=by
 refine⟨ok_rDiv.enter,fun l T hT K hK=> ?_⟩;unfold QFb at hT;split at hT
 ·rename_i p a q b;cases hT
  obtain⟨h1,r,hr,hK⟩:=hK;unfold G0 at hr;cases hq:(q.num==0)with
  | true=>rw[hq]at hr;cases hr
  | false=>
   rw[hq]at hr;have hq0:q≠0:=fun e=>by subst e;simp at hq
   exact Spec.res (ok_rDiv.sound [.x true [.r p a],.x true [.r q b]] _ rfl (fun av=>av= .t [(true,[.r (p/q) (a+b)]),(false,[.v (.int .i64 0)])]) ⟨h1,fun _=>rfl,fun e=>absurd e hq0⟩) fun w O av v e hcv=>⟨_,hK,by subst e;obtain rfl:=(Km.1 hr).2;exact QLB (QB6 hr) hcv⟩
 ·cases hT
theorem QOO:QH 55 QFc:=by
 refine⟨ok_rNeg.enter,fun l T hT K hK=> ?_⟩;unfold QFc at hT;split at hT
 ·rename_i p a;cases hT
  exact Spec.res (ok_rNeg.sound [.x true [.r p a]] _ rfl (fun av=>av=rA (-p) a) ⟨by have:=hK.1;omega,rfl⟩) fun w O av v e hcv=>⟨_,hK.2,by subst e;exact Wg ((QDa hcv).mono hK.1) hcv⟩
 ·cases hT
theorem QOP:QH 58 QFd:=by
 refine⟨ok_rAbs.enter,fun l T hT K hK=> ?_⟩;unfold QFd at hT;split at hT
 ·rename_i p a;cases hT
  exact Spec.res (ok_rAbs.sound [.x true [.r p a]] _ rfl (fun av=>av=rA (Wq p) a) ⟨by have:=hK.1;omega,rfl⟩) fun w O av v e hcv=>⟨_,hK.2,by subst e;exact Wg ((QDa hcv).mono hK.1) hcv⟩
 ·cases hT
theorem QOQ:QH 31 QFe:=by
 refine⟨ok_rMin.enter,fun l T hT K hK=> ?_⟩;unfold QFe at hT;split at hT
 ·rename_i p a q b;cases hT
  obtain⟨⟨h1,h2⟩,hK⟩:=hK;exact Spec.res (ok_rMin.sound [.x true [.r p a],.x true [.r q b]] _ rfl (fun av=>av=rA (Y4 p q) (max a b)) ⟨by omega,rfl⟩) fun w O av v e hcv=>⟨_,hK,by subst e;exact Wg ((QDa hcv).mono (by omega)) hcv⟩
 ·cases hT
theorem QOR:QH 62 QFf:=by
 refine⟨ok_rMax.enter,fun l T hT K hK=> ?_⟩;unfold QFf at hT;split at hT
 ·rename_i p a q b;cases hT
  obtain⟨⟨h1,h2⟩,hK⟩:=hK;exact Spec.res (ok_rMax.sound [.x true [.r p a],.x true [.r q b]] _ rfl (fun av=>av=rA (UQ p q) (max a b)) ⟨by omega,rfl⟩) fun w O av v e hcv=>⟨_,hK,by subst e;exact Wg ((QDa hcv).mono (by omega)) hcv⟩
 ·cases hT
def QOS:LC:=(8,QLA)::(54,QFY)::(78,QFZ)::(53,QFa)::(77,QFb)::(55,QFc)::(58,QFd)::(31,QFe)::(62,QFf)::QK1
noncomputable def QSE:QY:=mkT QOS M79 X4
theorem QFg:QC QOS:= .cons QSD (.cons QOK (.cons QOL (.cons QOM (.cons QON (.cons QOO (.cons QOP (.cons QOQ (.cons QOR QBz))))))))
theorem QLC:XM QSE:=QW QFg XC Q0
end Go.Proofs
namespace Go.Proofs
open Go Go.Eng
def FU:Nat:=100000
def XB (p:List Rat):Nat->Nat
 | 0=>0
 | n+1=>bif Y1 (p.getD n 0)==0 then XB p n else n+1
def QI (p:List Rat):List Rat:=p.take (XB p p.length)
def evN (p:List Rat)(x:Rat):Nat->Rat->Option Rat
 | 0,s=>some s
 | i+1,s=>(Ur s x).bind fun m=>(Gz m (p.getD i 0)).bind fun a=>evN p x i a
def QAh (p:List Rat)(x:Rat):Option Rat:=evN p x p.length 0
def VJ:List Rat->Nat->List Rat->Option (List Rat)
 | [],_,acc=>some acc
 | c::t,i,acc=>(Ur (((i:Int)):Rat) c).bind fun m=>VJ t (i+1) (acc++[m])
def QDb (p:List Rat):Option (List Rat):=(VJ (p.drop 1) 1 []).map QI
def QB7 (c:Rat):List Rat->Nat->List Rat->Option (List Rat)
 | [],_,rest=>some rest
 | x::t,j,rest=>(Ur c x).bind fun m=>(QB5 (rest.getD j 0) m).bind fun v=>QB7 c t (j+1) (rest.set j v)
def KS (p:List Rat):Rat:=p.getD (p.length-1) 0
def VK (q:List Rat):Nat->List Rat->List Rat->Option (List Rat×List Rat)
 | 0,_,_=>none
 | n+1,by',rest=>bif Nat.ble q.length rest.length then
   (G0 (KS rest) (KS q)).bind fun c=>(QB7 c q (rest.length-q.length) rest).bind fun r=>VK q n (by'.set (rest.length-q.length) c) (QI r)
  else some (by',rest)
def Xn (p q:List Rat):Option (List Rat×List Rat):=VK q FU (List.replicate ((QI p).length+1-q.length) 0) (QI p)
def scF (d:Rat):List Rat->List Rat->Option (List Rat)
 | [],acc=>some acc
 | c::t,acc=>(G0 c d).bind fun v=>scF d t (acc++[v])
def Xy (p:List Rat):Option (List Rat):=scF (Wq (KS p)) p []
def Us:Nat->List Rat->List Rat->Option (List Rat)
 | 0,_,_=>none
 | n+1,a,b=>bif Nat.ble 1 b.length then(Xn a b).bind fun r=>(Xy b).bind fun s=>Us n s r.2 else some a
def QLD (p:List Rat):Option (List Rat):=(QDb p).bind fun d=>(Us FU p d).bind fun a=>(Xn p a).bind fun r=>Xy (QI r.1)
def chF:Nat->List (List Rat)->List Rat->Option (List (List Rat))
 | 0,_,_=>none
 | n+1,c,q=>bif Nat.ble 1 q.length then(Xy q).bind fun s=>(Xn (c.getD (c.length-1) []) s).bind fun r=>chF n (c++[s]) (r.2.map fun x=> -x)else some c
def JO (p:List Rat):Option (List (List Rat)):=(QDb p).bind fun q=>chF FU [p] q
def Ut (x:Rat):List (List Rat)->Int->Int->Option Int
 | [],n,_=>some n
 | p::t,n,last=>(QAh p x).bind fun e=>Ut x t (bif decide (Y1 e*last<0)then n+1 else n) (bif Y1 e==0 then last else Y1 e)
def KT (c:List (List Rat))(x:Rat):Option Int:=Ut x c 0 0
def JY (c:List (List Rat))(x:Rat):Option Bool:=(QAh (c.getD 0 []) x).bind fun e=>some (Y1 e==0)
def Jt (c:List (List Rat))(s:Sp):Option Int:=(KT c s.lo).bind fun a=>(KT c s.hi).bind fun b=>(JY c s.lo).bind fun z=>some (bif z then a-b+1 else a-b)
def QUe:Rat:=((1:Int):Rat)/((2:Int):Rat)
def Uu (s:Sp):Option Rat:=(Gz s.lo s.hi).bind fun m=>Ur QUe m
def VL (c:List (List Rat))(s:Sp):Option Sp:=(Uu s).bind fun m=>(JY c m).bind fun z=>bif z then some ⟨m,m⟩else(Jt c ⟨s.lo,m⟩).bind fun n=>bif n==1 then some ⟨s.lo,m⟩else some ⟨m,s.hi⟩
def GQ (c:List (List Rat))(m:Rat):Nat->Rat->Option Sp
 | 0,_=>none
 | k+1,b0=>(Uu ⟨0,1⟩).bind fun h=>(Ur b0 h).bind fun b=>(QB5 m b).bind fun l=>(Gz m b).bind fun u=>(Jt c ⟨l,u⟩).bind fun n=>
   bif n==1 then(JY c l).bind fun z=>bif z then GQ c m k b else(JY c u).bind fun y=>bif y then GQ c m k b else some ⟨l,u⟩else GQ c m k b
def XH (c:List (List Rat)):Nat->List Sp->Sp->Option (List Sp)
 | 0,_,_=>none
 | k+1,out,s=>(Jt c s).bind fun n=>bif n==0 then some out else bif n==1 then some (out++[s])else
   (Uu s).bind fun m=>(JY c m).bind fun z=>bif z then
    (QB5 s.hi m).bind fun b=>(GQ c m FU b).bind fun t=>(XH c k out ⟨s.lo,t.lo⟩).bind fun o=>XH c k (o++[⟨m,m⟩]) ⟨t.hi,s.hi⟩
   else(XH c k out ⟨s.lo,m⟩).bind fun o=>XH c k o ⟨m,s.hi⟩
def Ju (p:List Rat):Option (List (List Rat)):=bif Nat.beq (QI p).length 0 then none else bif Nat.ble (QI p).length 13 then(QLD (QI p)).bind JO else none
def KU:List Rat->Rat->Option Rat
 | [],s=>some s
 | x::t,s=>(Gz s (Wq x)).bind fun a=>KU t a
def KV (c:List (List Rat)):Nat->Sp->Sp->Option (Sp×Sp)
 | 0,_,_=>none
 | k+1,s,t=>bif decide (t.lo<=s.hi)then(VL c s).bind fun s'=>(VL c t).bind fun t'=>KV c k s' t' else some (s,t)
def s0:Sp:=⟨0,0⟩
def YJ (c:List (List Rat)):Nat->Nat->List Sp->Option (List Sp)
  | 0,_,out=>some out
  | k+1,i,out=>(KV c FU (out.getD (i-1) s0) (out.getD i s0)).bind fun r=>YJ c k (i+1) ((out.set (i-1) r.1).set i r.2)
def GR (p:List Rat):Option (List Sp):=(Ju p).bind fun c=>(KU (c.getD 0 []) 1).bind fun m=>(XH c FU [] ⟨-m,m⟩).bind fun out=>bif Nat.ble out.length 1000 then YJ c (out.length-1) 1 out else none
end Go.Proofs
namespace Go.Proofs
open Go Go.Eng
theorem QGc {N:Int}{D m:Nat}(hD:0<D)(hN:N.natAbs<2^m)(hd:D<2^m):Bd m ((N:Rat)/((D:Int):Rat)):=by
 have e:(N:Rat)/((D:Int):Rat)=mkRat N D:=by rw[Rat.mkRat_eq_div];rfl
 rw[e];refine⟨?_,?_⟩
 ·rw[Rat.num_mkRat,if_neg (by omega)];have:(N/(Nat.gcd D N.natAbs:Int)).natAbs<=N.natAbs:=by
   have hdv:((Nat.gcd D N.natAbs:Nat):Int)∣N:=Int.ofNat_dvd_left.2 (Nat.gcd_dvd_right _ _);have hg:0<Nat.gcd D N.natAbs:=Nat.gcd_pos_of_pos_left _ hD;obtain⟨c,hc⟩:=hdv;generalize Nat.gcd D N.natAbs=g at*;rw[hc,Int.mul_ediv_cancel_left _ (by omega),Int.natAbs_mul];have:1*c.natAbs<=(g:Int).natAbs*c.natAbs:=Nat.mul_le_mul_right _ (by omega);omega
  exact Nat.lt_of_le_of_lt this hN
 ·rw[Rat.den_mkRat,if_neg (by omega)];exact Nat.lt_of_le_of_lt (Nat.div_le_self _ _) hd
theorem QUf (p:Rat):((p.den:Int):Rat)≠0:=fun e=>p.den_nz (by exact_mod_cast Rat.intCast_eq_zero_iff.1 e)
theorem QSF (p q:Rat):(((p.den*q.den:Nat):Int):Rat)≠0:=fun e=>by
 have h:p.den*q.den=0:=by exact_mod_cast Rat.intCast_eq_zero_iff.1 e
 have:=Nat.mul_pos p.den_pos q.den_pos;omega
theorem QLE (p:Rat):p*((p.den:Int):Rat)=(p.num:Rat):=by
 have h:(p.num:Rat)/((p.den:Nat):Rat)=p:=by rw[<-Rat.mkRat_eq_div,Rat.mkRat_self]
 have h2:=Rat.div_mul_cancel (a:=(p.num:Rat)) (QUf p);rw[show(p.num:Rat)/((p.den:Int):Rat)=p from h]at h2;exact h2
theorem QUg {x N D:Rat}(hD:D≠0)(h:x*D=N):x=N/D:=by rw[<-h,Rat.mul_div_cancel hD]
theorem GS {a b m n:Nat}(h:a<2^m)(k:b<2^n):a*b<2^(m+n):=by
 rw[Nat.pow_add];exact Nat.mul_lt_mul'' h k
theorem QSG {a b:Nat}{p q:Rat}(h:Bd a p)(k:Bd b q):Bd (a+b) (p*q):=by
 have e:p*q=((p.num*q.num:Int):Rat)/(((p.den*q.den:Nat):Int):Rat):=by
  refine QUg (QSF p q) ?_
  ·have h1:=QLE p;have h2:=QLE q;push_cast at h1 h2⊢;grind
 rw[e];refine QGc (Nat.mul_pos p.den_pos q.den_pos) ?_ (GS h.2 k.2)
 rw[Int.natAbs_mul];exact GS h.1 k.1
theorem QIN (n:Int):n.sign*n=n.natAbs:=by
 rcases Int.lt_trichotomy n 0 with h | h | h
 ·rw[Za h];omega
 ·subst h;rfl
 ·rw[Zb h];omega
theorem QSH {a:Nat}{p:Rat}(h:Bd a p)(h0:p≠0):Bd a (p⁻¹):=by
 have hn:p.num≠0:=fun e=>h0 (Rat.num_eq_zero.1 e);have e:p⁻¹=((p.num.sign*p.den:Int):Rat)/(((p.num.natAbs:Nat):Int):Rat):=by
  have h1:=QLE p;have h2:p*p⁻¹=1:=Rat.mul_inv_cancel p h0;have h3:((p.num.natAbs:Nat):Int)=p.num.sign*p.num:=(QIN p.num).symm;have h4:p.num.sign*p.num.sign=1:=by
   rcases Int.lt_or_gt_of_ne hn with h | h
   ·rw[Za h];rfl
   ·rw[Zb h];rfl
  refine QUg ?_ ?_
  ·intro e;have:=Rat.intCast_eq_zero_iff.1 e;omega
  ·rw[h3];push_cast;have h4':(p.num.sign:Rat)*(p.num.sign:Rat)=1:=by exact_mod_cast congrArg (fun z:Int=>(z:Rat)) h4
   push_cast at h1;grind
 rw[e];refine QGc (by omega) ?_ h.1
 rw[Int.natAbs_mul,Int.natAbs_natCast];have:p.num.sign.natAbs=1:=by
  rcases Int.lt_or_gt_of_ne hn with h | h
  ·rw[Za h];rfl
  ·rw[Zb h];rfl
 rw[this,Nat.one_mul];exact h.2
theorem QSI {a b:Nat}{p q:Rat}(h:Bd a p)(k:Bd b q)(h0:q≠0):Bd (a+b) (p/q):=by
 rw[Rat.div_def];exact QSG h (QSH k h0)
theorem QLF {n:Int}{m:Nat}(h:n.natAbs<2^m)(hm:m≠0):Bd m (n:Rat):=⟨by rw[Rat.num_intCast];exact h,by show 1<2^m;exact Nat.one_lt_two_pow hm⟩
theorem QSJ {n:Nat}{q:Rat}(h:Bd n q):szR q<=n:=by
 unfold szR;have h1:max q.num.natAbs q.den<2^n:=by have:=h.1;have:=h.2;omega
 have hd:=q.den_pos;have:=(Nat.log2_lt (n:=max q.num.natAbs q.den) (k:=n) (by omega)).2 h1;omega
theorem QSK {n:Nat}{q:Rat}(h:Bd n q)(hn:n<=100000):ckZ q=some q:=Km.2 ⟨Nat.le_trans (QSJ h) hn,rfl⟩
theorem QOT {a b:Nat}{p q:Rat}(h:Bd a p)(k:Bd b q)(h0:q≠0)(hn:a+b<=100000):G0 p q=some (p/q):=by
 unfold G0;have:(q.num==0)=false:=by
  cases hb:q.num==0 with
  | false=>rfl
  | true=>exact absurd (Rat.num_eq_zero.1 (by simpa using hb)) h0
 rw[this];exact QSK (QSI h k h0) hn
end Go.Proofs
