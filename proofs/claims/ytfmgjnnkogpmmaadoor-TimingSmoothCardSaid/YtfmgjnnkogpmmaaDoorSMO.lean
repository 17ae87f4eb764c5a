/- timing.Smooth: what it answers, plainly. -/
import Derived.Test.YtfmgjnnkogpmmaaDoorTP
import Derived.Test.YtfmgjnnkogpmmaaDoorTi
open Int renaming ofNat → Za, toNat_natCast → Zr, natAbs_natCast → Zt, sign_eq_neg_one_of_neg → Zw, ofNat_eq_natCast → Zx, sign_eq_one_of_pos → Ya, natAbs_mul → Yb
open List renaming map → Zb, length_map → Ze, getElem?_map → Zf, getElem?_eq_some_iff → Zi, getElem?_eq_getElem → Zj, mem_of_getElem? → Zl, take → Zp, take_of_length_le → Zs, getElem?_eq_none → Zu, getElem?_set → Zz, getElem?_of_mem → Yc, length_set → Yd, getElem?_range → Ye, map_append → Yg, drop_zero → Yh, range → Yi
open Go.IntKind renaming i64 → Zc
open Go.Eng.Ch renaming r → Zd, v → Zm, s → Zv
open Go.Value renaming bool → Zg, string → Zk, slice → Zo, int → Zq
open Nat renaming le_refl → Zh, lt_of_le_of_lt → Zy, zero_le → Yf
open Option renaming map_eq_some_iff → Zn
namespace Go.Proofs
open Go Go.Eng
def YK (p q x:Rat):Rat:=if q<p then-x else x
def smV (p q sp ac:Rat)(n k:Nat):Rat:=p+YK p q (Xi (vP (Qf (q-p)) sp ac n) k)
structure Sm1 (p q sp ac:Rat)(n:Nat):Prop where
 hs:0<sp
 ha:0<ac
 hn:1<=n/\n<=50
 cov:Qf (q-p)<=QM sp ac n
theorem QB7 {N:Int}{D m:Nat}(hD:0<D)(hN:N.natAbs<2^m)(hd:D<2^m):Bd m ((N:Rat)/((D:Int):Rat)):=by
 have e:(N:Rat)/((D:Int):Rat)=mkRat N D:=by rw[Rat.mkRat_eq_div];rfl
 rw[e];refine⟨?_,?_⟩
 ·rw[Rat.num_mkRat,if_neg (by omega)];have:(N/(Nat.gcd D N.natAbs:Int)).natAbs<=N.natAbs:=by
   have hdv:((Nat.gcd D N.natAbs:Nat):Int)∣N:=Int.ofNat_dvd_left.2 (Nat.gcd_dvd_right _ _);have hg:0<Nat.gcd D N.natAbs:=Nat.gcd_pos_of_pos_left _ hD;obtain⟨c,hc⟩:=hdv;generalize Nat.gcd D N.natAbs=g at*;rw[hc,Int.mul_ediv_cancel_left _ (by omega),Yb];have:1*c.natAbs<=(g:Int).natAbs*c.natAbs:=Nat.mul_le_mul_right _ (by omega);omega
  exact Zy this hN
 ·rw[Rat.den_mkRat,if_neg (by omega)];exact Zy (Nat.div_le_self _ _) hd
theorem QRM (p:Rat):((p.den:Int):Rat)≠0:=fun e=>p.den_nz (by exact_mod_cast Rat.intCast_eq_zero_iff.1 e)
theorem QLB (p q:Rat):(((p.den*q.den:Nat):Int):Rat)≠0:=fun e=>by
 have h:p.den*q.den=0:=by exact_mod_cast Rat.intCast_eq_zero_iff.1 e
 have:=Nat.mul_pos p.den_pos q.den_pos;omega
theorem QDl (p:Rat):p*((p.den:Int):Rat)=(p.num:Rat):=by
 have h:(p.num:Rat)/((p.den:Nat):Rat)=p:=by rw[<-Rat.mkRat_eq_div,Rat.mkRat_self]
 have h2:=Rat.div_mul_cancel (a:=(p.num:Rat)) (QRM p);rw[show(p.num:Rat)/((p.den:Int):Rat)=p from h]at h2;exact h2
theorem QP5 {x N D:Rat}(hD:D≠0)(h:x*D=N):x=N/D:=by rw[<-h,Rat.mul_div_cancel hD]
theorem WG {a b m n:Nat}(h:a<2^m)(k:b<2^n):a*b<2^(m+n):=by
 rw[Nat.pow_add];exact Nat.mul_lt_mul'' h k
theorem QFi {a b:Nat}{p q:Rat}(h:Bd a p)(k:Bd b q):Bd (a+b+1) (p+q):=by
 have e:p+q=((p.num*q.den+q.num*p.den:Int):Rat)/(((p.den*q.den:Nat):Int):Rat):=by
  refine QP5 (QLB p q) ?_
  ·have h1:=QDl p;have h2:=QDl q;push_cast at h1 h2⊢;grind
 rw[e];refine QB7 (Nat.mul_pos p.den_pos q.den_pos) ?_ ?_
 ·have h1:=WG h.1 k.2;have h2:=WG k.1 h.2;rw[Nat.add_comm b a]at h2;rw[Nat.pow_succ];have e1:(p.num*(q.den:Int)).natAbs=p.num.natAbs*q.den:=by rw[Yb,Zt]
  have e2:(q.num*(p.den:Int)).natAbs=q.num.natAbs*p.den:=by rw[Yb,Zt]
  omega
 ·have h1:=WG h.2 k.2;rw[Nat.pow_succ];omega
theorem QFj {a:Nat}{p:Rat}(h:Bd a p):Bd a (-p):=⟨by rw[show(-p).num= -p.num from rfl,Int.natAbs_neg];exact h.1,h.2⟩
theorem QP6 {a b:Nat}{p q:Rat}(h:Bd a p)(k:Bd b q):Bd (a+b+1) (p-q):=by
 rw[Rat.sub_eq_add_neg];exact QFi h (QFj k)
theorem QB8 {a b:Nat}{p q:Rat}(h:Bd a p)(k:Bd b q):Bd (a+b) (p*q):=by
 have e:p*q=((p.num*q.num:Int):Rat)/(((p.den*q.den:Nat):Int):Rat):=by
  refine QP5 (QLB p q) ?_
  ·have h1:=QDl p;have h2:=QDl q;push_cast at h1 h2⊢;grind
 rw[e];refine QB7 (Nat.mul_pos p.den_pos q.den_pos) ?_ (WG h.2 k.2)
 rw[Yb];exact WG h.1 k.1
theorem QIJ (n:Int):n.sign*n=n.natAbs:=by
 rcases Int.lt_trichotomy n 0 with h | h | h
 ·rw[Zw h];omega
 ·subst h;rfl
 ·rw[Ya h];omega
theorem QP7 {a:Nat}{p:Rat}(h:Bd a p)(h0:p≠0):Bd a (p⁻¹):=by
 have hn:p.num≠0:=fun e=>h0 (Rat.num_eq_zero.1 e);have e:p⁻¹=((p.num.sign*p.den:Int):Rat)/(((p.num.natAbs:Nat):Int):Rat):=by
  have h1:=QDl p;have h2:p*p⁻¹=1:=Rat.mul_inv_cancel p h0;have h3:((p.num.natAbs:Nat):Int)=p.num.sign*p.num:=(QIJ p.num).symm;have h4:p.num.sign*p.num.sign=1:=by
   rcases Int.lt_or_gt_of_ne hn with h | h
   ·rw[Zw h];rfl
   ·rw[Ya h];rfl
  refine QP5 ?_ ?_
  ·intro e;have:=Rat.intCast_eq_zero_iff.1 e;omega
  ·rw[h3];push_cast;have h4':(p.num.sign:Rat)*(p.num.sign:Rat)=1:=by exact_mod_cast congrArg (fun z:Int=>(z:Rat)) h4
   push_cast at h1;grind
 rw[e];refine QB7 (by omega) ?_ h.1
 rw[Yb,Zt];have:p.num.sign.natAbs=1:=by
  rcases Int.lt_or_gt_of_ne hn with h | h
  ·rw[Zw h];rfl
  ·rw[Ya h];rfl
 rw[this,Nat.one_mul];exact h.2
theorem QP8 {a b:Nat}{p q:Rat}(h:Bd a p)(k:Bd b q)(h0:q≠0):Bd (a+b) (p/q):=by
 rw[Rat.div_def];exact QB8 h (QP7 k h0)
theorem QLC {n:Int}{m:Nat}(h:n.natAbs<2^m)(hm:m≠0):Bd m (n:Rat):=⟨by rw[Rat.num_intCast];exact h,by show 1<2^m;exact Nat.one_lt_two_pow hm⟩
theorem Gl {w:World}{O:Nat->Prop}{ρ:Env}{n:Nat}{qs:List Rat}{v:Value}(h:ConcV w O ρ (sR n qs) v): ∀q∈qs,Bd n q:=by
 obtain⟨vs,h1,h2⟩:=h;intro q hq;obtain⟨i,hi⟩:=Yc hq;have hi':(lR n qs)[i]? =some [.r q n]:=by simp only[lR,Zf,hi];rfl
 generalize lR n qs=X at*;cases h1 with
 | s0 _=>simp at hi'
 | s00 _=>simp at hi'
 | s hr hx hcap h=>
  rename_i f vs';have hc:=hx i _ hi';generalize f i=g at hc;cases hc with
  | r hb _=>exact hb
theorem QLD {p q x y:Rat}:YK p q (x+y)=YK p q x+YK p q y:=by
 unfold YK;split<;>grind
theorem QGg {p q x c:Rat}(h1:x<=c)(h2: -x<=c):Qf (YK p q x)<=c:=by
 refine QPV ?_ ?_<;>unfold YK<;>split<;>grind
theorem Gm {p q sp ac:Rat}{n:Nat}:smV p q sp ac n 0=p:=by
 unfold smV YK Xi;split<;>grind
theorem Gn {p q sp ac:Rat}{n k:Nat}:smV p q sp ac n (k+1)=smV p q sp ac n k+YK p q (vP (Qf (q-p)) sp ac n (k+1)):=by
 unfold smV;rw[show Xi (vP (Qf (q-p)) sp ac n) (k+1)=Xi (vP (Qf (q-p)) sp ac n) k+vP (Qf (q-p)) sp ac n (k+1)from rfl,QLD];grind
theorem Sm1.rests {p q sp ac:Rat}{n:Nat}(h:Sm1 p q sp ac n):QNo (Qf (q-p)) sp ac n (vP (Qf (q-p)) sp ac n):=Go.Proofs.rests (QB2 _) h.hs h.ha h.hn.1 h.cov
theorem Sm1.last {p q sp ac:Rat}{n:Nat}(h:Sm1 p q sp ac n):smV p q sp ac n n=q:=by
 unfold smV YK;rw[h.rests.sum,Vr];split<;>split<;>grind
theorem QGh {f:Nat->Rat}(h: ∀k,0<=f k)(k:Nat): ∀j,Xi f k<=Xi f (k+j):=by
 intro j;induction j with
 | zero=>exact Rat.le_refl
 | succ j ih=>
  have:=h (k+j+1);have e:Xi f (k+(j+1))=Xi f (k+j)+f (k+j+1):=rfl;grind
theorem Sm1.range {p q sp ac:Rat}{n k:Nat}(h:Sm1 p q sp ac n)(hk:k<=n):0<=Xi (vP (Qf (q-p)) sp ac n) k/\Xi (vP (Qf (q-p)) sp ac n) k<=Qf (q-p):=by
 have R:=h.rests;have h1:=QGh R.nn 0 k;have h2:=QGh R.nn k (n-k);rw[Nat.zero_add]at h1;rw[show k+(n-k)=n by omega,R.sum]at h2;exact⟨h1,h2⟩
theorem Sm1.mid {p q sp ac lo hi:Rat}{n k:Nat}(h:Sm1 p q sp ac n)(hk:k<=n)(hp:lo<=p/\p<=hi)(hq:lo<=q/\q<=hi):lo<=smV p q sp ac n k/\smV p q sp ac n k<=hi:=by
 obtain⟨h1,h2⟩:=h.range hk;unfold smV YK;have e:=Vr (q-p);generalize Xi (vP (Qf (q-p)) sp ac n) k=S at*;generalize Qf (q-p)=F at*;split at e<;>split<;>constructor<;>grind
theorem Sm1.step {p q sp ac:Rat}{n k:Nat}(h:Sm1 p q sp ac n):Qf (smV p q sp ac n (k+1)-smV p q sp ac n k)<=sp:=by
 rw[Gn];have R:=h.rests;have h1:=R.nn (k+1);have h2:=R.le (k+1);have h3:=h.hs;have e:smV p q sp ac n k+YK p q (vP (Qf (q-p)) sp ac n (k+1))-smV p q sp ac n k=YK p q (vP (Qf (q-p)) sp ac n (k+1)):=by grind
 rw[e];exact QGg h2 (by grind)
theorem QLE {p q x y:Rat}:YK p q x-YK p q y=YK p q (x-y):=by
 unfold YK;split<;>grind
theorem Sm1.acc {p q sp ac:Rat}{n k:Nat}(h:Sm1 p q sp ac n):Qf (YK p q (vP (Qf (q-p)) sp ac n (k+1))-YK p q (vP (Qf (q-p)) sp ac n k))<=ac:=by
 rw[QLE];have R:=h.rests;have h1:=R.up k;have h2:=R.down k;exact QGg h1 (by grind)
theorem QP9 {sp ac:Rat}{n:Nat}(hn:n<=50): ∀k:Nat,∃A B:Nat,A<=k/\B<=50*k/\Xi (XY sp ac n) k=sp*((A:Int):Rat)+ac*((B:Int):Rat):=by
 intro k;induction k with
 | zero=>
  refine⟨0,0,by omega,by omega,?_⟩;show(0:Rat)=_
  have:(((0:Nat):Int):Rat)=0:=rfl;rw[this];grind
 | succ k ih=>
  obtain⟨A,B,h1,h2,h3⟩:=ih;have e:Xi (XY sp ac n) (k+1)=Xi (XY sp ac n) k+XY sp ac n (k+1):=rfl;rw[e,h3];have hm:min (k+1) (n+1-(k+1))<=50:=by omega
  unfold XY J9;generalize min (k+1) (n+1-(k+1))=m at*;split
  ·refine⟨A+1,B,by omega,by omega,?_⟩;have:(((A+1:Nat):Int):Rat)=((A:Int):Rat)+1:=by push_cast;rfl
   rw[this];grind
  ·refine⟨A,B+m,by omega,by omega,?_⟩;have:(((B+m:Nat):Int):Rat)=((B:Int):Rat)+((m:Nat):Rat):=by push_cast;rfl
   rw[this];grind
theorem QRN {sp ac:Rat}{n k:Nat}(hn:n<=50)(hk:k<=50)(h1:Bd 63 sp)(h2:Bd 63 ac):Bd 151 (Xi (XY sp ac n) k):=by
 obtain⟨A,B,hA,hB,e⟩:=QP9 (sp:=sp) (ac:=ac) hn k;rw[e];have k1:Bd 12 ((A:Int):Rat):=QLC (by rw[Zt];omega) (by decide);have k2:Bd 12 ((B:Int):Rat):=QLC (by rw[Zt];omega) (by decide);exact QFi (QB8 h1 k1) (QB8 h2 k2)
theorem QNb {B:Nat}{q:Rat}(h:Bd B q):Bd B (Qf q):=by
 rw[Vr];split
 ·exact QFj h
 ·exact h
theorem Sm1.bd {p q sp ac:Rat}{n k:Nat}(h:Sm1 p q sp ac n)(hk:k<=n)(b1:Bd 63 p)(b2:Bd 63 q)(b3:Bd 63 sp)(b4:Bd 63 ac):Bd 500 (smV p q sp ac n k):=by
 have hn:=h.hn;have c0:=VJ h.hs h.ha hn.1;have e:Xi (vP (Qf (q-p)) sp ac n) k=Qf (q-p)/QM sp ac n*Xi (XY sp ac n) k:=QCo;have k1:Bd 127 (Qf (q-p)):=QNb (QP6 b2 b1);have k2:Bd 151 (QM sp ac n):=QRN hn.2 hn.2 b3 b4;have k3:Bd 151 (Xi (XY sp ac n) k):=QRN hn.2 (by omega) b3 b4;have k4:Bd 429 (Xi (vP (Qf (q-p)) sp ac n) k):=by rw[e];exact QB8 (QP8 k1 k2 (by grind)) k3
 have k5:Bd 429 (YK p q (Xi (vP (Qf (q-p)) sp ac n) k)):=by
  unfold YK;split
  ·exact QFj k4
  ·exact k4
 exact(QFi b1 k5).mono (by omega)
end Go.Proofs
namespace Go.Proofs
open Go Go.Eng
def spA (a:Qb)(i:Nat):Rat:=((a.links[i]?).map (·.sp)).getD 1
def jV (a:Qb)(ps qs cs:List Rat)(n i k:Nat):Rat:=smV (ps.getD i 0) (qs.getD i 0) (spA a i) (cs.getD i 0) n k
def YN (a:Qb)(ps qs cs:List Rat)(n i c k:Nat):List Rat:=(Yi ps.length).map fun j=>if j<i∨(j=i/\k<=c)then jV a ps qs cs n j k else ps.getD j 0
def QY (a:Qb)(ps qs cs:List Rat)(s:Int)(n i c:Nat):List Qg:=(Yi (n+1)).map fun(k:Nat)=>⟨s+(k:Int),500,YN a ps qs cs n i c k⟩
def WH (ps:List Rat)(s:Int)(k:Nat):List Qg:=(Yi (k+1)).map fun(t:Nat)=>⟨s+(t:Int),63,ps⟩
structure Qw (a:Qb)(ps qs cs:List Rat)(n i:Nat):Prop where
 hn:1<=n/\n<=50
 need: ∀j,j<i-> ∃m,m<=n/\Jq (Qf (qs.getD j 0-ps.getD j 0)) (spA a j) (cs.getD j 0) m
structure Vs (a:Qb)(ps qs cs:List Rat)(s:Int):Prop where
 good:Ql a
 lp:ps.length=a.links.length
 lq:qs.length=a.links.length
 lc:cs.length=a.links.length
 fp:Fit a ps
 fq:Fit a qs
 pos: ∀c∈cs,0<c
 s:0<=s/\s<=1900
structure QNc (ps qs cs:List Rat):Prop where
 bp: ∀q∈ps,Bd 63 q
 bq: ∀q∈qs,Bd 63 q
 bc: ∀q∈cs,Bd 63 q
theorem getD_some {l:List Rat}{i:Nat}(h:i<l.length):l[i]? =some (l.getD i 0):=by
 rw[List.getD_eq_getElem?_getD,Zj h];rfl
theorem Wh {l:List Rat}{i:Nat}(h:i<l.length):l.getD i 0∈l:=Zl (getD_some h)
theorem QB9 {a:Qb}{i:Nat}{L:Qv}(h:a.links[i]? =some L):spA a i=L.sp:=by simp[spA,h]
theorem QNd {q:Rat}(h:Xu q):Bd 63 q:=⟨Zy h.1 (by decide),Zy h.2 (by decide)⟩
theorem Vs.sm1 {a:Qb}{ps qs cs:List Rat}{s:Int}{n i j:Nat}(h:Vs a ps qs cs s)(hn:Qw a ps qs cs n i)(hj:j<i)(hi:i<=a.links.length):Sm1 (ps.getD j 0) (qs.getD j 0) (spA a j) (cs.getD j 0) n:=by
 obtain⟨L,hL⟩: ∃L,a.links[j]? =some L:=⟨_,Zj (by omega)⟩
 have h1:0<spA a j:=by rw[QB9 hL];exact(h.good.links L (Zl hL)).sp
 have h2:0<cs.getD j 0:=h.pos _ (Wh (by rw[h.lc];omega));obtain⟨m,hm,hN⟩:=hn.need j hj;exact⟨h1,h2,hn.hn,Rat.le_trans hN.2.2.1 (Uj h1 h2 hm)⟩
theorem Vs.jbd {a:Qb}{ps qs cs:List Rat}{s:Int}{n i j k:Nat}(h:Vs a ps qs cs s)(hb:QNc ps qs cs)(hn:Qw a ps qs cs n i)(hj:j<i)(hi:i<=a.links.length)(hk:k<=n):Bd 500 (jV a ps qs cs n j k):=by
 obtain⟨L,hL⟩: ∃L,a.links[j]? =some L:=⟨_,Zj (by omega)⟩
 have h1:Bd 63 (spA a j):=by rw[QB9 hL];exact QNd (h.good.links L (Zl hL)).small.2.2.2.1
 exact(h.sm1 hn hj hi).bd hk (hb.bp _ (Wh (by rw[h.lp];omega))) (hb.bq _ (Wh (by rw[h.lq];omega))) h1 (hb.bc _ (Wh (by rw[h.lc];omega)))
theorem Q1 {a:Qb}{ps qs cs:List Rat}{n i c k:Nat}:(YN a ps qs cs n i c k).length=ps.length:=by simp[YN]
theorem X1 {a:Qb}{ps qs cs:List Rat}{n i c k j:Nat}(h:j<ps.length):(YN a ps qs cs n i c k)[j]? =some (if j<i∨(j=i/\k<=c)then jV a ps qs cs n j k else ps.getD j 0):=by
 simp[YN,Zf,Ye h]
theorem Kx {l m:List Rat}(hl:l.length=m.length)(h: ∀j,j<l.length->l[j]? =m[j]?):l=m:=by
 apply List.ext_getElem?
 intro j;by_cases hj:j<l.length
 ·exact h j hj
 ·rw[Zu (by omega),Zu (by omega)]
theorem QDm {a:Qb}{ps qs cs:List Rat}{s:Int}{n i c k:Nat}(h:Vs a ps qs cs s)(hb:QNc ps qs cs)(hn:Qw a ps qs cs n a.links.length)(hk:k<=n): ∀q∈YN a ps qs cs n i c k,Bd 500 q:=by
 intro q hq;obtain⟨j,hj⟩:=Yc hq;have hlt:j<ps.length:=by have:=(Zi.1 hj).1;rw[Q1]at this;exact this
 rw[X1 hlt]at hj;have hl:=h.lp;split at hj
 ·cases hj;exact h.jbd hb hn (by omega) (Zh _) hk
 ·cases hj;exact(hb.bp _ (Wh hlt)).mono (by omega)
theorem smRow_start {a:Qb}{ps qs cs:List Rat}{n k:Nat}:YN a ps qs cs n 0 0 k=ps:=by
 refine Kx Q1 fun j hj=> ?_
 rw[Q1]at hj;rw[X1 hj,getD_some hj];split
 ·rename_i hc;obtain⟨rfl,rfl⟩:j=0/\k=0:=by omega
  rw[jV,Gm]
 ·rfl
theorem QFk {a:Qb}{ps qs cs:List Rat}{n i k:Nat}(hk:k<=n):YN a ps qs cs n i n k=YN a ps qs cs n (i+1) 0 k:=by
 refine Kx (by rw[Q1,Q1]) fun j hj=> ?_
 rw[Q1]at hj;rw[X1 hj,X1 hj];by_cases h1:j<i∨(j=i/\k<=n)
 ·rw[if_pos h1,if_pos (by omega)]
 ·rw[if_neg h1];split
  ·obtain⟨rfl,rfl⟩:j=i+1/\k=0:=by omega
   rw[jV,Gm]
  ·rfl
theorem QIK {a:Qb}{ps qs cs:List Rat}{n i c:Nat}(hi:i<ps.length):YN a ps qs cs n i (c+1) (c+1)=(YN a ps qs cs n i c (c+1)).set i (jV a ps qs cs n i (c+1)):=by
 refine Kx (by rw[Yd,Q1,Q1]) fun j hj=> ?_
 rw[Q1]at hj;rw[Zz,Q1,X1 hj];by_cases e:i=j
 ·subst e;rw[if_pos rfl,if_pos hi,if_pos (by omega)]
 ·rw[if_neg e,X1 hj];by_cases h1:j<i
  ·rw[if_pos (by omega),if_pos (by omega)]
  ·rw[if_neg (by omega),if_neg (by omega)]
theorem QFl {a:Qb}{ps qs cs:List Rat}{n i c k:Nat}(hk:k≠c+1):YN a ps qs cs n i (c+1) k=YN a ps qs cs n i c k:=by
 refine Kx (by rw[Q1,Q1]) fun j hj=> ?_
 rw[Q1]at hj;rw[X1 hj,X1 hj];by_cases h1:j<i∨(j=i/\k<=c)
 ·rw[if_pos h1,if_pos (by omega)]
 ·rw[if_neg h1,if_neg (by omega)]
theorem XU {a:Qb}{ps qs cs:List Rat}{s:Int}{n i c:Nat}:(QY a ps qs cs s n i c).length=n+1:=by simp[QY]
theorem JU {a:Qb}{ps qs cs:List Rat}{s:Int}{n i c k:Nat}(h:k<=n):(QY a ps qs cs s n i c)[k]? =some ⟨s+(k:Int),500,YN a ps qs cs n i c k⟩:=by
 simp only[QY,Zf];rw[Ye (by omega)];rfl
theorem Wx {a:Qb}{ps qs cs:List Rat}{s:Int}{n i c k:Nat}{x:Qg}(h:(QY a ps qs cs s n i c)[k]? =some x):k<=n/\x=⟨s+(k:Int),500,YN a ps qs cs n i c k⟩:=by
 have hk:k<=n:=by have:=(Zi.1 h).1;rw[XU]at this;omega
 rw[JU hk]at h;exact⟨hk,(Option.some.inj h).symm⟩
theorem QDn {a:Qb}{ps qs cs:List Rat}{s:Int}{n i:Nat}:QY a ps qs cs s n i n=QY a ps qs cs s n (i+1) 0:=by
 apply List.ext_getElem?
 intro k;by_cases hk:k<=n
 ·rw[JU hk,JU hk,QFk hk]
 ·rw[Zu (by rw[XU];omega),Zu (by rw[XU];omega)]
theorem Wi {ps:List Rat}{s:Int}{k:Nat}:(WH ps s k).length=k+1:=by simp[WH]
theorem Gp {ps:List Rat}{s:Int}{k t:Nat}(h:t<=k):(WH ps s k)[t]? =some ⟨s+(t:Int),63,ps⟩:=by
 simp only[WH,Zf];rw[Ye (by omega)];rfl
theorem Gq {ps:List Rat}{s:Int}{k t:Nat}{x:Qg}(h:(WH ps s k)[t]? =some x):t<=k/\x=⟨s+(t:Int),63,ps⟩:=by
 have hk:t<=k:=by have:=(Zi.1 h).1;rw[Wi]at this;omega
 rw[Gp hk]at h;exact⟨hk,(Option.some.inj h).symm⟩
theorem Uc {ks ls:List Qg}(hl:ks.length=ls.length)(h: ∀(i:Nat) (k l:Qg),ks[i]? =some k->ls[i]? =some l->k.tick=l.tick/\k.q=l.q/\ ∀q∈l.q,Bd l.n q):YO 3 (ks.map QH) (ls.map QH):=by
 refine⟨by rw[Ze,Ze,hl],fun i x y hx hy=> ?_⟩;simp only[Zf,Zn]at hx hy;obtain⟨k,hk,rfl⟩:=hx;obtain⟨l,hl',rfl⟩:=hy;obtain⟨h1,h2,h3⟩:=h i k l hk hl';refine⟨.int .i64 k.tick,lR k.n k.q,lR l.n l.q,rfl,by rw[h1];rfl,by rw[XE,XE,h2],fun j u v hu hv=> .inr ?_⟩;simp only[lR,Zf,Zn]at hu hv;obtain⟨q,hq,rfl⟩:=hu;obtain⟨r,hr,rfl⟩:=hv;rw[h2,hr]at hq;cases hq
 exact⟨q,_,_,rfl,rfl,h3 q (Zl hr)⟩
theorem QLF {ks ls:List Qg}{m i N:Nat}{kk:Qg}{v:Rat}(hl:ks.length=ls.length)(hm:ks[m]? =some kk)(h: ∀(j:Nat) (k l:Qg),ks[j]? =some k->ls[j]? =some l->k.tick=l.tick/\(∀q∈l.q,Bd l.n q)/\l.q=if j=m then k.q.set i v else k.q):
  YO 3 ((ks.map QH).set m [.v (.int .i64 kk.tick),.s 3 ((lR kk.n kk.q).set i [.r v N])]) (ls.map QH):=by
 refine⟨by rw[Yd,Ze,Ze,hl],fun j x y hx hy=> ?_⟩;simp only[Zf,Zn]at hy;obtain⟨l,hl',rfl⟩:=hy;have hjl:j<ks.length:=by have:=(Zi.1 hl').1;omega
 have hkj:ks[j]? =some ks[j]:=Zj hjl
 generalize ks[j]=k at hkj;obtain⟨h1,h2,h3⟩:=h j k l hkj hl';rw[Zz]at hx;by_cases e:m=j
 ·subst e;rw[hm]at hkj;cases hkj
  rw[if_pos rfl,if_pos (by rw[Ze];exact hjl)]at hx;cases hx
  rw[if_pos rfl]at h3;refine⟨.int .i64 kk.tick,_,lR l.n l.q,rfl,by rw[h1];rfl,by rw[Yd,XE,XE,h3,Yd],fun b u w hu hw=> .inr ?_⟩;simp only[lR,Zf,Zn]at hw;obtain⟨r,hr,rfl⟩:=hw;have hb:=h2 r (Zl hr);rw[h3,Zz]at hr;rw[Zz]at hu;by_cases e2:i=b
  ·subst e2;rw[if_pos rfl]at hr hu;split at hr
   ·rename_i hlt;rw[if_pos (by rw[XE];exact hlt)]at hu;cases hr;cases hu
    exact⟨_,_,_,rfl,rfl,hb⟩
   ·cases hr
  ·rw[if_neg e2]at hr hu;simp only[lR,Zf,hr]at hu;cases hu
   exact⟨_,_,_,rfl,rfl,hb⟩
 ·rw[if_neg e,Zf,hkj]at hx;cases hx
  rw[if_neg (fun h=>e h.symm)]at h3;refine⟨.int .i64 k.tick,lR k.n k.q,lR l.n l.q,rfl,by rw[h1];rfl,by rw[XE,XE,h3],fun b u w hu hw=> .inr ?_⟩;simp only[lR,Zf,Zn]at hu hw;obtain⟨q,hq,rfl⟩:=hu;obtain⟨r,hr,rfl⟩:=hw;have hb:=h2 r (Zl hr);rw[h3,hq]at hr;cases hr
  exact⟨_,_,_,rfl,rfl,hb⟩
theorem QIL {far sp ac:Rat}{m:Nat}(h:Jq far sp ac m)(hn:GX far sp ac):False:=hn m h.1 h.2.1 h.2.2.1
theorem QIM {far sp ac:Rat}{m n:Nat}(h:Jq far sp ac m)(hn:Jq far sp ac n)(hl:m<n):False:=hn.2.2.2 m h.1 hl h.2.2.1
end Go.Proofs
namespace Go.Proofs
open Go Go.Eng
theorem QLG (n:Nat)(qs:List Rat)(hc:n<=1000000/\qs.length<=1000000):QU (JK (X:=Unit) QKy (oF Tryd.f45) (fun _=> .inv ⟨Nat,fun k=>⟨[(3,.x false [.w 500 0 k]),(6,sR n qs),(7,iA .i64 qs.length),(8,iA .i64 k)],[(500,UW (n+65) (qs.take k))]⟩,fun k=>k<=qs.length,fun k=>qs.length-k,fun _=>0⟩) Tryd.f45 [sR n qs] [] (fun _=>True) (fun _=>⟨[(2,.x false [.w 0 0 qs.length])],[(0,UW (n+65) qs)]⟩)):=by
 refine HV (((∃(x:Nat),(x<=qs.length/\OfNat.ofNat 0=0)/\Zo none 0 0=Zo none 0 0/\0=0/\x=0/\3=3/\lR n qs=lR n qs/\Za (lR n qs).length=Za qs.length/\0=Za x/\Zb (fun(q:Rat)=>[Zd q (n+65)]) (Zp x qs)=[]/\True)/\∀(x:Nat),x<=qs.length->OfNat.ofNat 0=0->bif decide (Za x<Za qs.length)then(0<=Za x/\Za x<Za (lR n qs).length)/\∃(q:Rat),∃(n_1:Nat),ldE (lR n qs) (Za x).toNat 0 3=some [Zd q n_1]/\((-9223372036854775808:Int)<=0/\(0:Int)<9223372036854775808)/\n_1+64+1<=4294967296/\((x+1)*40<=140737488355328/\x+1<=9223372036854775807)/\∃(x':Nat),(x'<=qs.length/\OfNat.ofNat 0=0/\qs.length-x'<qs.length-x)/\0=0/\x+1=x'/\3=3/\lR n qs=lR n qs/\Za qs.length=Za qs.length/\Zc.wrap (Za x+1)=Za x'/\27=27/\3=3/\(Zp x (Zb (fun(q:Rat)=>[Zd q (n+65)]) (Zp x qs))++[[Zd (q+↑(0:Int)) (n_1+64+1)]]=Zb (fun(q:Rat)=>[Zd q (n+65)]) (Zp x' qs)∨QG (Zp x (Zb (fun(q:Rat)=>[Zd q (n+65)]) (Zp x qs))++[[Zd (q+↑(0:Int)) (n_1+64+1)]]) (Zb (fun(q:Rat)=>[Zd q (n+65)]) (Zp x' qs)))/\True else ∃(_x_1:Unit),True/\0=0/\x=qs.length/\27=27/\3=3/\(Zb (fun(q:Rat)=>[Zd q (n+65)]) (Zp x qs)=Zb (fun(q:Rat)=>[Zd q (n+65)]) qs∨QG (Zb (fun(q:Rat)=>[Zd q (n+65)]) (Zp x qs)) (Zb (fun(q:Rat)=>[Zd q (n+65)]) qs))/\True)) ?_
 simp only[Zx,R0,R1,R4];refine⟨⟨0,by omega,rfl,by rw[XE],rfl,by simp⟩,fun x hx=>QE (fun hp=> ?_) (fun hp=> ?_)⟩
 ·have hp:x<qs.length:=by have:=R5 hp;omega
  obtain⟨q,hq⟩: ∃q,qs[x]? =some q:=⟨_,Zj hp⟩
  refine⟨by rw[XE];omega,_,_,Xd (by simpa using hq),by omega,by omega,by omega,x+1,⟨by omega,by omega⟩,rfl,by rw[w64 (by omega)];simp,.inl ?_⟩;rw[Zs (by rw[Ze,List.length_take];omega),List.take_add_one,hq,Yg];simp only[Option.toList,List.map_cons,List.map_nil];rw[show q+((0:Int):Rat)=q by rw[Rat.intCast_zero,Rat.add_zero]]
 ·have hp:x=qs.length:=by have:=R6 hp;omega
  subst hp;exact⟨(),rfl,.inl (by rw[List.take_length])⟩
def Gr:YA:=fun as0 H d=>match as0 with
 | [.x false [.s 3 xs]]=>match H d with
  | none=>some fun K=> ∃n qs,xs=lR n qs/\(n<=1000000/\qs.length<=1000000)/\K (.x false [.w d 0 qs.length]) (Xc [(0,d)] (QO [(0,UW (n+65) qs)]) H)
  | some _=>none
 | _=>none
theorem QIN:WE 45 Gr:=by
 refine⟨Qm Tryd.func45 (by kernel_rfl),fun l H d T hT K hK=> ?_⟩;unfold Gr at hT;split at hT
 ·split at hT
  ·rename_i hd;cases hT
   obtain⟨n,qs,rfl,hc,hK⟩:=hK;exact UM QGZ QW Tryd.func45 (by kernel_rfl) (by kernel_rfl) (by rfl) (by rfl) hd (by kernel_rfl) (QLG n qs hc) hK
  ·cases hT
 ·cases hT
def QRO:LC:=(6,UX)::QGW
def QRP:List (Nat×YA):=(45,Gr)::M99
theorem QQA:QN QRO:= .cons QFT QB3
theorem QQB:YI QRP:= .cons QIN Vp
def QNe (ks:List Qg):Blk:= .nst 58 2 1 27 3 (ks.map QH)
def smT (ps qs cs:List Rat)(s:Int):List (Nat×AV):=[(1,sR 63 ps),(2,sR 63 qs),(3,sR 63 cs),(4,iA .i64 s),(5,.x false [.p 5 0])]
def smH (a:Qb):List (Nat×Blk):=[(5,.box 48 (YM a))]
structure SxX where
 n:Nat
 i:Nat
 k:Nat
def smD (n:Nat):Nat:=pfB 127 63 63 n
def QRQ (a:Qb)(n i:Nat):List (Nat×AV):=[(15,iA .i64 n),(20,.x false [.w 500 0 (n+1)]),(121,.x false [.s 16 (a.links.map QC)]),(122,iA .i64 a.links.length),(123,iA .i64 i)]
def QRR (a:Qb)(ps qs cs:List Rat)(x:SxX):List (Nat×AV):=(22,iA .i64 x.i)::(24,.x false [.s 3 (lR (smD x.n) (Q7 (Qf (qs.getD x.i 0-ps.getD x.i 0)) (spA a x.i) (cs.getD x.i 0) x.n x.n))])::(150,iA .i64 x.n)::(151,iA .i64 x.k)::QRQ a x.n x.i
def QFm (a:Qb)(ps qs cs:List Rat)(s:Int):LI:=fun id=>bif id.beq 2 then .unroll 3
 else bif id.beq 12 then .inv ⟨Nat×Nat,fun x=>⟨(15,iA .i64 x.2)::(57,.x false [.s 16 (a.links.map QC)])::(58,iA .i64 a.links.length)::(59,iA .i64 x.1)::smT ps qs cs s,smH a⟩,fun x=>x.1<=a.links.length/\Qw a ps qs cs x.2 x.1,fun x=>a.links.length-x.1,fun _=>0⟩
 else bif id.beq 23 then .inv ⟨Nat×Nat,fun x=>⟨(15,iA .i64 x.1)::(20,.x false [.w 500 0 (x.2+1)])::(101,iA .i64 x.1)::(102,iA .i64 x.2)::smT ps qs cs s,(500,QNe (WH ps s x.2))::smH a⟩,fun x=>x.2<=x.1/\Qw a ps qs cs x.1 a.links.length,fun x=>x.1-x.2,fun _=>0⟩
 else bif id.beq 28 then .inv ⟨Nat×Nat,fun x=>⟨QRQ a x.1 x.2++smT ps qs cs s,(500,QNe (QY a ps qs cs s x.1 x.2 0))::smH a⟩,fun x=>x.2<=a.links.length/\Qw a ps qs cs x.1 a.links.length,fun x=>a.links.length-x.2,fun _=>0⟩
 else bif id.beq 32 then .inv ⟨SxX,fun x=>⟨QRR a ps qs cs x++smT ps qs cs s,(500,QNe (QY a ps qs cs s x.n x.i x.k))::smH a⟩,fun x=>(x.i<a.links.length/\x.k<=x.n)/\Qw a ps qs cs x.n a.links.length,fun x=>(a.links.length-x.i)*100+(x.n-x.k),fun x=>a.links.length-x.i⟩
 else bif id.beq 37 then .cut ⟨SxX,fun x=>⟨(26,iA .i64 x.k)::(27,.x false [.p 27 0])::QRR a ps qs cs x++smT ps qs cs s,(27,.box 27 [.r (YK (ps.getD x.i 0) (qs.getD x.i 0) (vP (Qf (qs.getD x.i 0-ps.getD x.i 0)) (spA a x.i) (cs.getD x.i 0) x.n (x.k+1))) (smD x.n)])::(500,QNe (QY a ps qs cs s x.n x.i x.k))::smH a⟩,fun x=>(x.i<a.links.length/\x.k<x.n)/\Qw a ps qs cs x.n a.links.length,fun _=>0,fun x=>(a.links.length-x.i)*100+(x.n-x.k)⟩
 else bif id.beq 40 then .cutf [500] ⟨Nat,fun n=>⟨[(20,QDb (QY a ps qs cs s n a.links.length 0))],[]⟩,fun n=>Qw a ps qs cs n a.links.length,fun _=>0,fun _=>0⟩
 else .no
theorem QFn {a:Qb}{ps qs cs:List Rat}{n i m:Nat}(h:Qw a ps qs cs n i)(hm:okM (Qf (qs.getD i 0-ps.getD i 0)) (spA a i) (cs.getD i 0) 0 m):Qw a ps qs cs (max m n) (i+1):=by
 obtain⟨r,hr,rfl,_⟩:=hm;have h1:=hr.1;have h2:=hr.2.1;have h3:=h.hn;refine⟨by omega,fun j hj=> ?_⟩;by_cases e:j=i
 ·subst e;exact⟨r,by omega,hr⟩
 ·obtain⟨k,hk,hN⟩:=h.need j (by omega);exact⟨k,by omega,hN⟩
theorem QLH {n:Nat}(h:n<=50):smD n<=10000:=by
 have:n*(max 63 (63+64)+1)<=50*(max 63 (63+64)+1):=Nat.mul_le_mul_right _ h;unfold smD pfB cvB;omega
set_option maxHeartbeats 1000000 in
theorem QLI (a:Qb)(ps qs cs:List Rat)(s:Int)(h:Vs a ps qs cs s)(hb:QNc ps qs cs)(K:AV->Prop)(h1: ∀n,Qw a ps qs cs n a.links.length->K (.t [(false,[.s 2 ((QY a ps qs cs s n a.links.length 0).map QH)]),(false,[.v (.int .i64 0)])]))(h2:K (.t [(false,[.v (.slice none 0 0)]),(false,[.v (.int .i64 19)])])):QU (Qc (mkT QRO QRP X4) (oF Tryd.f25) (QFm a ps qs cs s) Tryd.f25 [WW a,sR 63 ps,sR 63 qs,sR 63 cs,iA .i64 s] K):=by
 refine HV ((((0:Int)<=0/\(0:Int)<2)/\∃(ys:List (List Ch)),some [Zv 3 (lR 63 ps)]=some [Zv 3 ys]/\∃(a_1:Qb),∃(n:Nat),∃(qs_1:List Rat),[Zm (Zk a.name),Zd a.x 63,Zd a.y 63,Zm (Zg a.half),Zd a.t 63,Zv 16 (Zb QC a.links)]=[Zm (Zk a_1.name),Zd a_1.x 63,Zd a_1.y 63,Zm (Zg a_1.half),Zd a_1.t 63,Zv 16 (Zb QC a_1.links)]/\ys=lR n qs_1/\(Ql a_1/\n<=1000000/\qs_1.length=a_1.links.length)/\((∀(i:Nat) (L:Qv) (q:Rat),a_1.links[i]?=some L->qs_1[i]?=some q->L.lo<=q/\q<=L.hi)->((0:Int)<=1/\(1:Int)<2)/\∃(ys:List (List Ch)),some [Zv 3 (lR 63 qs)]=some [Zv 3 ys]/\∃(a_3:Qb),∃(n:Nat),∃(qs_2:List Rat),[Zm (Zk a.name),Zd a.x 63,Zd a.y 63,Zm (Zg a.half),Zd a.t 63,Zv 16 (Zb QC a.links)]=[Zm (Zk a_3.name),Zd a_3.x 63,Zd a_3.y 63,Zm (Zg a_3.half),Zd a_3.t 63,Zv 16 (Zb QC a_3.links)]/\ys=lR n qs_2/\(Ql a_3/\n<=1000000/\qs_2.length=a_3.links.length)/\((∀(i:Nat) (L:Qv) (q:Rat),a_3.links[i]?=some L->qs_2[i]?=some q->L.lo<=q/\q<=L.hi)->bif Za (lR 63 cs).length !=Za (lR 63 ps).length then K (AV.t [(false,[Zm (Zo none 0 0)]),(false,[Zm (Zq Zc 1)])])else bif decide (s<0)then K (AV.t [(false,[Zm (Zo none 0 0)]),(false,[Zm (Zq Zc 1)])])else bif decide (s>2000)then K (AV.t [(false,[Zm (Zo none 0 0)]),(false,[Zm (Zq Zc 1)])])else(∃(x:Nat×Nat),((x.fst<=a.links.length/\Qw a ps qs cs x.snd x.fst)/\OfNat.ofNat 0=0)/\1=Za x.snd/\(16:Nat)=16/\Zb QC a.links=Zb QC a.links/\Za (Zb QC a.links).length=Za a.links.length/\0=Za x.fst/\(3:Nat)=3/\lR 63 ps=lR 63 ps/\(3:Nat)=3/\lR 63 qs=lR 63 qs/\(3:Nat)=3/\lR 63 cs=lR 63 cs/\s=s/\(0:Nat)=0/\(48:Nat)=48/\a.name=a.name/\a.x=a.x/\(63:Nat)<=63/\a.y=a.y/\(63:Nat)<=63/\a.half=a.half/\a.t=a.t/\(63:Nat)<=63/\(16:Nat)=16/\Zb QC a.links=Zb QC a.links/\True)/\∀(x:Nat×Nat),x.fst<=a.links.length/\Qw a ps qs cs x.snd x.fst->OfNat.ofNat 0=0->bif decide (Za x.fst<Za a.links.length)then(0<=Za x.fst/\Za x.fst<Za (Zb QC a.links).length)/\∃(q:Rat),∃(n:Nat),∃(q_1:Rat),∃(n_1:Nat),∃(q_2:Rat),∃(n_2:Nat),∃(q_3:Rat),∃(n_3:Nat),∃(q_4:Rat),∃(n_4:Nat),∃(ys:List (List Ch)),ldE (Zb QC a.links) (Za x.fst).toNat 0 16=some [Zd q n,Zd q_1 n_1,Zd q_2 n_2,Zd q_3 n_3,Zd q_4 n_4,Zv 6 ys]/\(0<=Za x.fst/\Za x.fst<Za (lR 63 qs).length)/\∃(q:Rat),∃(n:Nat),ldE (lR 63 qs) (Za x.fst).toNat 0 3=some [Zd q n]/\(0<=Za x.fst/\Za x.fst<Za (lR 63 ps).length)/\∃(q_5:Rat),∃(n_5:Nat),ldE (lR 63 ps) (Za x.fst).toNat 0 3=some [Zd q_5 n_5]/\(0<=Za x.fst/\Za x.fst<Za (lR 63 cs).length)/\∃(q_6:Rat),∃(n_6:Nat),ldE (lR 63 cs) (Za x.fst).toNat 0 3=some [Zd q_6 n_6]/\n+n_5+1<=4294967296/\n+n_5+1<=4294967296/\(n+n_5+1<=1000000/\n_3<=1000000/\n_6<=1000000)/\(OfNat.ofNat 0<=Qf (q-q_5)/\OfNat.ofNat 0<q_3/\OfNat.ofNat 0<q_6)/\((0:Int)<=0/\(0:Int)<=50)/\(∀(m:Nat),okM (Qf (q-q_5)) q_3 q_6 0 m->∃(x':Nat×Nat),((x'.fst<=a.links.length/\Qw a ps qs cs x'.snd x'.fst)/\OfNat.ofNat 0=0/\a.links.length-x'.fst<a.links.length-x.fst)/\(bif true then if Za (lR (pfB (n+n_5+1) n_3 n_6 m) (Q7 (Qf (q-q_5)) q_3 q_6 m m)).length>Za x.snd then Za (lR (pfB (n+n_5+1) n_3 n_6 m) (Q7 (Qf (q-q_5)) q_3 q_6 m m)).length else Za x.snd else if Za (lR (pfB (n+n_5+1) n_3 n_6 m) (Q7 (Qf (q-q_5)) q_3 q_6 m m)).length<Za x.snd then Za (lR (pfB (n+n_5+1) n_3 n_6 m) (Q7 (Qf (q-q_5)) q_3 q_6 m m)).length else Za x.snd)=Za x'.snd/\(16:Nat)=16/\Zb QC a.links=Zb QC a.links/\Za a.links.length=Za a.links.length/\Zc.wrap (Za x.fst+1)=Za x'.fst/\(3:Nat)=3/\lR 63 ps=lR 63 ps/\(3:Nat)=3/\lR 63 qs=lR 63 qs/\(3:Nat)=3/\lR 63 cs=lR 63 cs/\s=s/\(0:Nat)=0/\(48:Nat)=48/\a.name=a.name/\a.x=a.x/\(63:Nat)<=63/\a.y=a.y/\(63:Nat)<=63/\a.half=a.half/\a.t=a.t/\(63:Nat)<=63/\(16:Nat)=16/\Zb QC a.links=Zb QC a.links/\True)/\(((∀(j:Nat),1<=j->j<=50->¬Qf (q-q_5)<=QM q_3 q_6 j)∨∃(n:Nat),Jq (Qf (q-q_5)) q_3 q_6 n/\0<Za n/\(0:Int)<0)->K (AV.t [(false,[Zm (Zo none 0 0)]),(false,[Zm (Zq Zc 19)])]))else bif decide (Zc.wrap (s+Za x.snd)>2000)then K (AV.t [(false,[Zm (Zo none 0 0)]),(false,[Zm (Zq Zc 19)])])else ∃(n:Nat),∃(qs_3:List Rat),lR 63 ps=lR n qs_3/\(n<=1000000/\qs_3.length<=1000000)/\(qs_3.length=(Zb (fun(q:Rat)=>[Zd q (n+65)]) qs_3).length/\0<qs_3.length)/\(∃(x_1:Nat×Nat),((x_1.snd<=x_1.fst/\Qw a ps qs cs x_1.fst a.links.length)/\OfNat.ofNat 0=0)/\Za x.snd=Za x_1.fst/\(0:Nat)=0/\1=x_1.snd+1/\Za x.snd=Za x_1.fst/\0=Za x_1.snd/\(3:Nat)=3/\lR 63 ps=lR 63 ps/\(3:Nat)=3/\lR 63 qs=lR 63 qs/\(3:Nat)=3/\lR 63 cs=lR 63 cs/\s=s/\(0:Nat)=0/\((58:Nat)=58/\(2:Nat)=2/\(1:Nat)=1/\(27:Nat)=27/\(3:Nat)=3)/\([[Zm (Zq Zc s),Zv 3 (Zb (fun(q:Rat)=>[Zd q (n+65)]) qs_3)]]=Zb QH (WH ps s x_1.snd)∨YO 3 [[Zm (Zq Zc s),Zv 3 (Zb (fun(q:Rat)=>[Zd q (n+65)]) qs_3)]] (Zb QH (WH ps s x_1.snd)))/\(48:Nat)=48/\a.name=a.name/\a.x=a.x/\(63:Nat)<=63/\a.y=a.y/\(63:Nat)<=63/\a.half=a.half/\a.t=a.t/\(63:Nat)<=63/\(16:Nat)=16/\Zb QC a.links=Zb QC a.links/\True)/\∀(x:Nat×Nat),x.snd<=x.fst/\Qw a ps qs cs x.fst a.links.length->OfNat.ofNat 0=0->bif decide (Za x.snd<Za x.fst)then(0<=Za x.snd/\Za x.snd<Za (x.snd+1))/\∃(ys:List (List Ch)),ldE (Zb QH (WH ps s x.snd)) (0+(Za x.snd).toNat) 1 1=some [Zv 3 ys]/\∃(ys_1:List (List Ch)),(ldE (Zb QH (WH ps s x.snd)) (0+(Za x.snd).toNat) 1 1=some [Zv 3 ys_1]/\ys.length=ys_1.length)/\∃(n:Nat),∃(qs_4:List Rat),ys_1=lR n qs_4/\(n<=1000000/\qs_4.length<=1000000)/\(∀(z:List Ch),z∈Zb (fun(q:Rat)=>[Zd q (n+65)]) qs_4->QGv z=true)/\(qs_4.length=(Zb (fun(q:Rat)=>[Zd q (n+65)]) qs_4).length/\0<qs_4.length)/\(x.snd+1=(Zb QH (WH ps s x.snd)).length/\(1:Nat)=1/\0<x.snd+1/\0<1/\(x.snd+1+1)*32<=140737488355328/\x.snd+1+1<=9223372036854775807)/\∃(x':Nat×Nat),((x'.snd<=x'.fst/\Qw a ps qs cs x'.fst a.links.length)/\OfNat.ofNat 0=0/\x'.fst-x'.snd<x.fst-x.snd)/\Za x.fst=Za x'.fst/\(0:Nat)=0/\x.snd+1+1=x'.snd+1/\Za x.fst=Za x'.fst/\Zc.wrap (Za x.snd+1)=Za x'.snd/\(3:Nat)=3/\lR 63 ps=lR 63 ps/\(3:Nat)=3/\lR 63 qs=lR 63 qs/\(3:Nat)=3/\lR 63 cs=lR 63 cs/\s=s/\(0:Nat)=0/\((58:Nat)=58/\(2:Nat)=2/\(1:Nat)=1/\(27:Nat)=27/\(3:Nat)=3)/\(Zb QH (WH ps s x.snd)++[[Zm (Zq Zc (Zc.wrap (Zc.wrap (s+Za x.snd)+1))),Zv 3 (Zb (fun(q:Rat)=>[Zd q (n+65)]) qs_4)]]=Zb QH (WH ps s x'.snd)∨YO 3 (Zb QH (WH ps s x.snd)++[[Zm (Zq Zc (Zc.wrap (Zc.wrap (s+Za x.snd)+1))),Zv 3 (Zb (fun(q:Rat)=>[Zd q (n+65)]) qs_4)]]) (Zb QH (WH ps s x'.snd)))/\(48:Nat)=48/\a.name=a.name/\a.x=a.x/\(63:Nat)<=63/\a.y=a.y/\(63:Nat)<=63/\a.half=a.half/\a.t=a.t/\(63:Nat)<=63/\(16:Nat)=16/\Zb QC a.links=Zb QC a.links/\True else((∃(x_1:Nat×Nat),((x_1.snd<=a.links.length/\Qw a ps qs cs x_1.fst a.links.length)/\OfNat.ofNat 0=0)/\Za x.fst=Za x_1.fst/\(0:Nat)=0/\x.snd+1=x_1.fst+1/\(16:Nat)=16/\Zb QC a.links=Zb QC a.links/\Za (Zb QC a.links).length=Za a.links.length/\0=Za x_1.snd/\(3:Nat)=3/\lR 63 ps=lR 63 ps/\(3:Nat)=3/\lR 63 qs=lR 63 qs/\(3:Nat)=3/\lR 63 cs=lR 63 cs/\s=s/\(0:Nat)=0/\((58:Nat)=58/\(2:Nat)=2/\(1:Nat)=1/\(27:Nat)=27/\(3:Nat)=3)/\(Zb QH (WH ps s x.snd)=Zb QH (QY a ps qs cs s x_1.fst x_1.snd 0)∨YO 3 (Zb QH (WH ps s x.snd)) (Zb QH (QY a ps qs cs s x_1.fst x_1.snd 0)))/\(48:Nat)=48/\a.name=a.name/\a.x=a.x/\(63:Nat)<=63/\a.y=a.y/\(63:Nat)<=63/\a.half=a.half/\a.t=a.t/\(63:Nat)<=63/\(16:Nat)=16/\Zb QC a.links=Zb QC a.links/\True)/\∀(x:Nat×Nat),x.snd<=a.links.length/\Qw a ps qs cs x.fst a.links.length->OfNat.ofNat 0=0->bif decide (Za x.snd<Za a.links.length)then(0<=Za x.snd/\Za x.snd<Za (Zb QC a.links).length)/\∃(q:Rat),∃(n:Nat),∃(q_1:Rat),∃(n_1:Nat),∃(q_2:Rat),∃(n_2:Nat),∃(q_3:Rat),∃(n_3:Nat),∃(q_4:Rat),∃(n_4:Nat),∃(ys:List (List Ch)),ldE (Zb QC a.links) (Za x.snd).toNat 0 16=some [Zd q n,Zd q_1 n_1,Zd q_2 n_2,Zd q_3 n_3,Zd q_4 n_4,Zv 6 ys]/\(0<=Za x.snd/\Za x.snd<Za (lR 63 qs).length)/\∃(q:Rat),∃(n:Nat),ldE (lR 63 qs) (Za x.snd).toNat 0 3=some [Zd q n]/\(0<=Za x.snd/\Za x.snd<Za (lR 63 ps).length)/\∃(q_5:Rat),∃(n_5:Nat),ldE (lR 63 ps) (Za x.snd).toNat 0 3=some [Zd q_5 n_5]/\(0<=Za x.snd/\Za x.snd<Za (lR 63 cs).length)/\∃(q_6:Rat),∃(n_6:Nat),ldE (lR 63 cs) (Za x.snd).toNat 0 3=some [Zd q_6 n_6]/\n+n_5+1<=4294967296/\n+n_5+1<=4294967296/\(n+n_5+1<=1000000/\n_3<=1000000/\n_6<=1000000)/\(OfNat.ofNat 0<=Qf (q-q_5)/\OfNat.ofNat 0<q_3/\OfNat.ofNat 0<q_6)/\(0<=Za x.fst/\Za x.fst<=50)/\(∀(m:Nat),okM (Qf (q-q_5)) q_3 q_6 (Za x.fst) m->(∃(x_1:SxX),(((x_1.i<a.links.length/\x_1.k<=x_1.n)/\Qw a ps qs cs x_1.n a.links.length)/\a.links.length-x_1.i=a.links.length-x.snd)/\Za x.snd=Za x_1.i/\(3:Nat)=3/\lR (pfB (n+n_5+1) n_3 n_6 m) (Q7 (Qf (q-q_5)) q_3 q_6 m m)=lR (smD x_1.n) (Q7 (Qf (qs.getD x_1.i (OfNat.ofNat 0)-ps.getD x_1.i (OfNat.ofNat 0))) (spA a x_1.i) (cs.getD x_1.i (OfNat.ofNat 0)) x_1.n x_1.n)/\Za (lR (pfB (n+n_5+1) n_3 n_6 m) (Q7 (Qf (q-q_5)) q_3 q_6 m m)).length=Za x_1.n/\0=Za x_1.k/\Za x.fst=Za x_1.n/\(0:Nat)=0/\x.fst+1=x_1.n+1/\(16:Nat)=16/\Zb QC a.links=Zb QC a.links/\Za a.links.length=Za a.links.length/\Za x.snd=Za x_1.i/\(3:Nat)=3/\lR 63 ps=lR 63 ps/\(3:Nat)=3/\lR 63 qs=lR 63 qs/\(3:Nat)=3/\lR 63 cs=lR 63 cs/\s=s/\(0:Nat)=0/\((58:Nat)=58/\(2:Nat)=2/\(1:Nat)=1/\(27:Nat)=27/\(3:Nat)=3)/\(Zb QH (QY a ps qs cs s x.fst x.snd 0)=Zb QH (QY a ps qs cs s x_1.n x_1.i x_1.k)∨YO 3 (Zb QH (QY a ps qs cs s x.fst x.snd 0)) (Zb QH (QY a ps qs cs s x_1.n x_1.i x_1.k)))/\(48:Nat)=48/\a.name=a.name/\a.x=a.x/\(63:Nat)<=63/\a.y=a.y/\(63:Nat)<=63/\a.half=a.half/\a.t=a.t/\(63:Nat)<=63/\(16:Nat)=16/\Zb QC a.links=Zb QC a.links/\True)/\∀(x_1:SxX),(x_1.i<a.links.length/\x_1.k<=x_1.n)/\Qw a ps qs cs x_1.n a.links.length->a.links.length-x_1.i=a.links.length-x.snd->bif decide (Za x_1.k<Za x_1.n)then(0<=Za x_1.k/\Za x_1.k<Za (lR (smD x_1.n) (Q7 (Qf (qs.getD x_1.i (OfNat.ofNat 0)-ps.getD x_1.i (OfNat.ofNat 0))) (spA a x_1.i) (cs.getD x_1.i (OfNat.ofNat 0)) x_1.n x_1.n)).length)/\∃(q:Rat),∃(n:Nat),ldE (lR (smD x_1.n) (Q7 (Qf (qs.getD x_1.i (OfNat.ofNat 0)-ps.getD x_1.i (OfNat.ofNat 0))) (spA a x_1.i) (cs.getD x_1.i (OfNat.ofNat 0)) x_1.n x_1.n)) (Za x_1.k).toNat 0 3=some [Zd q n]/\((0<=Za x_1.i/\Za x_1.i<Za (lR 63 qs).length)/\∃(q_7:Rat),∃(n_7:Nat),ldE (lR 63 qs) (Za x_1.i).toNat 0 3=some [Zd q_7 n_7]/\(0<=Za x_1.i/\Za x_1.i<Za (lR 63 ps).length)/\∃(q_8:Rat),∃(n_8:Nat),ldE (lR 63 ps) (Za x_1.i).toNat 0 3=some [Zd q_8 n_8]/\n_7+n_8<=4294967296/\bif decide (JS q_7 q_8<0)then n<=4294967296/\∃(x:SxX),(((x.i<a.links.length/\x.k<x.n)/\Qw a ps qs cs x.n a.links.length)/\(a.links.length-x.i)*100+(x.n-x.k)=(a.links.length-x_1.i)*100+(x_1.n-x_1.k))/\Za x_1.k=Za x.k/\(0:Nat)=0/\Za x_1.i=Za x.i/\(3:Nat)=3/\lR (smD x_1.n) (Q7 (Qf (qs.getD x_1.i (OfNat.ofNat 0)-ps.getD x_1.i (OfNat.ofNat 0))) (spA a x_1.i) (cs.getD x_1.i (OfNat.ofNat 0)) x_1.n x_1.n)=lR (smD x.n) (Q7 (Qf (qs.getD x.i (OfNat.ofNat 0)-ps.getD x.i (OfNat.ofNat 0))) (spA a x.i) (cs.getD x.i (OfNat.ofNat 0)) x.n x.n)/\Za x_1.n=Za x.n/\Za x_1.k=Za x.k/\Za x_1.n=Za x.n/\(0:Nat)=0/\x_1.n+1=x.n+1/\(16:Nat)=16/\Zb QC a.links=Zb QC a.links/\Za a.links.length=Za a.links.length/\Za x_1.i=Za x.i/\(3:Nat)=3/\lR 63 ps=lR 63 ps/\(3:Nat)=3/\lR 63 qs=lR 63 qs/\(3:Nat)=3/\lR 63 cs=lR 63 cs/\s=s/\(0:Nat)=0/\(27:Nat)=27/\ -q=YK (ps.getD x.i (OfNat.ofNat 0)) (qs.getD x.i (OfNat.ofNat 0)) (vP (Qf (qs.getD x.i (OfNat.ofNat 0)-ps.getD x.i (OfNat.ofNat 0))) (spA a x.i) (cs.getD x.i (OfNat.ofNat 0)) x.n (x.k+1))/\n<=smD x.n/\((58:Nat)=58/\(2:Nat)=2/\(1:Nat)=1/\(27:Nat)=27/\(3:Nat)=3)/\(Zb QH (QY a ps qs cs s x_1.n x_1.i x_1.k)=Zb QH (QY a ps qs cs s x.n x.i x.k)∨YO 3 (Zb QH (QY a ps qs cs s x_1.n x_1.i x_1.k)) (Zb QH (QY a ps qs cs s x.n x.i x.k)))/\(48:Nat)=48/\a.name=a.name/\a.x=a.x/\(63:Nat)<=63/\a.y=a.y/\(63:Nat)<=63/\a.half=a.half/\a.t=a.t/\(63:Nat)<=63/\(16:Nat)=16/\Zb QC a.links=Zb QC a.links/\True else ∃(x:SxX),(((x.i<a.links.length/\x.k<x.n)/\Qw a ps qs cs x.n a.links.length)/\(a.links.length-x.i)*100+(x.n-x.k)=(a.links.length-x_1.i)*100+(x_1.n-x_1.k))/\Za x_1.k=Za x.k/\(0:Nat)=0/\Za x_1.i=Za x.i/\(3:Nat)=3/\lR (smD x_1.n) (Q7 (Qf (qs.getD x_1.i (OfNat.ofNat 0)-ps.getD x_1.i (OfNat.ofNat 0))) (spA a x_1.i) (cs.getD x_1.i (OfNat.ofNat 0)) x_1.n x_1.n)=lR (smD x.n) (Q7 (Qf (qs.getD x.i (OfNat.ofNat 0)-ps.getD x.i (OfNat.ofNat 0))) (spA a x.i) (cs.getD x.i (OfNat.ofNat 0)) x.n x.n)/\Za x_1.n=Za x.n/\Za x_1.k=Za x.k/\Za x_1.n=Za x.n/\(0:Nat)=0/\x_1.n+1=x.n+1/\(16:Nat)=16/\Zb QC a.links=Zb QC a.links/\Za a.links.length=Za a.links.length/\Za x_1.i=Za x.i/\(3:Nat)=3/\lR 63 ps=lR 63 ps/\(3:Nat)=3/\lR 63 qs=lR 63 qs/\(3:Nat)=3/\lR 63 cs=lR 63 cs/\s=s/\(0:Nat)=0/\(27:Nat)=27/\q=YK (ps.getD x.i (OfNat.ofNat 0)) (qs.getD x.i (OfNat.ofNat 0)) (vP (Qf (qs.getD x.i (OfNat.ofNat 0)-ps.getD x.i (OfNat.ofNat 0))) (spA a x.i) (cs.getD x.i (OfNat.ofNat 0)) x.n (x.k+1))/\n<=smD x.n/\((58:Nat)=58/\(2:Nat)=2/\(1:Nat)=1/\(27:Nat)=27/\(3:Nat)=3)/\(Zb QH (QY a ps qs cs s x_1.n x_1.i x_1.k)=Zb QH (QY a ps qs cs s x.n x.i x.k)∨YO 3 (Zb QH (QY a ps qs cs s x_1.n x_1.i x_1.k)) (Zb QH (QY a ps qs cs s x.n x.i x.k)))/\(48:Nat)=48/\a.name=a.name/\a.x=a.x/\(63:Nat)<=63/\a.y=a.y/\(63:Nat)<=63/\a.half=a.half/\a.t=a.t/\(63:Nat)<=63/\(16:Nat)=16/\Zb QC a.links=Zb QC a.links/\True)/\∀(x_2:SxX),(x_2.i<a.links.length/\x_2.k<x_2.n)/\Qw a ps qs cs x_2.n a.links.length->(a.links.length-x_2.i)*100+(x_2.n-x_2.k)=(a.links.length-x_1.i)*100+(x_1.n-x_1.k)->(0<=Zc.wrap (Za x_2.k+1)/\Zc.wrap (Za x_2.k+1)<Za (x_2.n+1))/\∃(ys:List (List Ch)),ldE (Zb QH (QY a ps qs cs s x_2.n x_2.i x_2.k)) (0+(Zc.wrap (Za x_2.k+1)).toNat) 1 1=some [Zv 3 ys]/\(0<=Za x_2.k/\Za x_2.k<Za (x_2.n+1))/\∃(ys_1:List (List Ch)),ldE (Zb QH (QY a ps qs cs s x_2.n x_2.i x_2.k)) (0+(Za x_2.k).toNat) 1 1=some [Zv 3 ys_1]/\(0<=Za x_2.i/\Za x_2.i<Za ys_1.length)/\∃(ys_2:List (List Ch)),ldE (Zb QH (QY a ps qs cs s x_2.n x_2.i x_2.k)) (0+(Za x_2.k).toNat) 1 1=some [Zv 3 ys_2]/\∃(q:Rat),∃(n:Nat),ldE ys_2 (Za x_2.i).toNat 0 3=some [Zd q n]/\n+smD x_2.n+1<=4294967296/\(0<=Za x_2.i/\Za x_2.i<Za ys.length)/\∃(tv:Value),∃(ys:List (List Ch)),(Zb QH (QY a ps qs cs s x_2.n x_2.i x_2.k))[0+(Zc.wrap (Za x_2.k+1)).toNat]?=some [Zm tv,Zv 3 ys]/\(Za x_2.i).toNat<ys.length/\∃(x':SxX),(((x'.i<a.links.length/\x'.k<=x'.n)/\Qw a ps qs cs x'.n a.links.length)/\a.links.length-x'.i=a.links.length-x.snd/\(a.links.length-x'.i)*100+(x'.n-x'.k)<(a.links.length-x_1.i)*100+(x_1.n-x_1.k))/\Za x_2.i=Za x'.i/\(3:Nat)=3/\lR (smD x_2.n) (Q7 (Qf (qs.getD x_2.i (OfNat.ofNat 0)-ps.getD x_2.i (OfNat.ofNat 0))) (spA a x_2.i) (cs.getD x_2.i (OfNat.ofNat 0)) x_2.n x_2.n)=lR (smD x'.n) (Q7 (Qf (qs.getD x'.i (OfNat.ofNat 0)-ps.getD x'.i (OfNat.ofNat 0))) (spA a x'.i) (cs.getD x'.i (OfNat.ofNat 0)) x'.n x'.n)/\Za x_2.n=Za x'.n/\Zc.wrap (Za x_2.k+1)=Za x'.k/\Za x_2.n=Za x'.n/\(0:Nat)=0/\x_2.n+1=x'.n+1/\(16:Nat)=16/\Zb QC a.links=Zb QC a.links/\Za a.links.length=Za a.links.length/\Za x_2.i=Za x'.i/\(3:Nat)=3/\lR 63 ps=lR 63 ps/\(3:Nat)=3/\lR 63 qs=lR 63 qs/\(3:Nat)=3/\lR 63 cs=lR 63 cs/\s=s/\(0:Nat)=0/\((58:Nat)=58/\(2:Nat)=2/\(1:Nat)=1/\(27:Nat)=27/\(3:Nat)=3)/\((Zb QH (QY a ps qs cs s x_2.n x_2.i x_2.k)).set (0+(Zc.wrap (Za x_2.k+1)).toNat) [Zm tv,Zv 3 (ys.set (Za x_2.i).toNat [Zd (q+YK (ps.getD x_2.i (OfNat.ofNat 0)) (qs.getD x_2.i (OfNat.ofNat 0)) (vP (Qf (qs.getD x_2.i (OfNat.ofNat 0)-ps.getD x_2.i (OfNat.ofNat 0))) (spA a x_2.i) (cs.getD x_2.i (OfNat.ofNat 0)) x_2.n (x_2.k+1))) (n+smD x_2.n+1)])]=Zb QH (QY a ps qs cs s x'.n x'.i x'.k)∨YO 3 ((Zb QH (QY a ps qs cs s x_2.n x_2.i x_2.k)).set (0+(Zc.wrap (Za x_2.k+1)).toNat) [Zm tv,Zv 3 (ys.set (Za x_2.i).toNat [Zd (q+YK (ps.getD x_2.i (OfNat.ofNat 0)) (qs.getD x_2.i (OfNat.ofNat 0)) (vP (Qf (qs.getD x_2.i (OfNat.ofNat 0)-ps.getD x_2.i (OfNat.ofNat 0))) (spA a x_2.i) (cs.getD x_2.i (OfNat.ofNat 0)) x_2.n (x_2.k+1))) (n+smD x_2.n+1)])]) (Zb QH (QY a ps qs cs s x'.n x'.i x'.k)))/\(48:Nat)=48/\a.name=a.name/\a.x=a.x/\(63:Nat)<=63/\a.y=a.y/\(63:Nat)<=63/\a.half=a.half/\a.t=a.t/\(63:Nat)<=63/\(16:Nat)=16/\Zb QC a.links=Zb QC a.links/\True else ∃(x':Nat×Nat),((x'.snd<=a.links.length/\Qw a ps qs cs x'.fst a.links.length)/\OfNat.ofNat 0=0/\a.links.length-x'.snd<a.links.length-x.snd)/\Za x_1.n=Za x'.fst/\(0:Nat)=0/\x_1.n+1=x'.fst+1/\(16:Nat)=16/\Zb QC a.links=Zb QC a.links/\Za a.links.length=Za a.links.length/\Zc.wrap (Za x_1.i+1)=Za x'.snd/\(3:Nat)=3/\lR 63 ps=lR 63 ps/\(3:Nat)=3/\lR 63 qs=lR 63 qs/\(3:Nat)=3/\lR 63 cs=lR 63 cs/\s=s/\(0:Nat)=0/\((58:Nat)=58/\(2:Nat)=2/\(1:Nat)=1/\(27:Nat)=27/\(3:Nat)=3)/\(Zb QH (QY a ps qs cs s x_1.n x_1.i x_1.k)=Zb QH (QY a ps qs cs s x'.fst x'.snd 0)∨YO 3 (Zb QH (QY a ps qs cs s x_1.n x_1.i x_1.k)) (Zb QH (QY a ps qs cs s x'.fst x'.snd 0)))/\(48:Nat)=48/\a.name=a.name/\a.x=a.x/\(63:Nat)<=63/\a.y=a.y/\(63:Nat)<=63/\a.half=a.half/\a.t=a.t/\(63:Nat)<=63/\(16:Nat)=16/\Zb QC a.links=Zb QC a.links/\True)/\(((∀(j:Nat),1<=j->j<=50->¬Qf (q-q_5)<=QM q_3 q_6 j)∨∃(n:Nat),Jq (Qf (q-q_5)) q_3 q_6 n/\Za x.fst<Za n/\0<Za x.fst)->(∃(x_1:SxX),(((x_1.i<a.links.length/\x_1.k<=x_1.n)/\Qw a ps qs cs x_1.n a.links.length)/\a.links.length-x_1.i=a.links.length-x.snd)/\Za x.snd=Za x_1.i/\False)/\∀(x_1:SxX),(x_1.i<a.links.length/\x_1.k<=x_1.n)/\Qw a ps qs cs x_1.n a.links.length->a.links.length-x_1.i=a.links.length-x.snd->bif decide (Za x_1.k<Za x_1.n)then(0<=Za x_1.k/\Za x_1.k<Za (lR (smD x_1.n) (Q7 (Qf (qs.getD x_1.i (OfNat.ofNat 0)-ps.getD x_1.i (OfNat.ofNat 0))) (spA a x_1.i) (cs.getD x_1.i (OfNat.ofNat 0)) x_1.n x_1.n)).length)/\∃(q:Rat),∃(n:Nat),ldE (lR (smD x_1.n) (Q7 (Qf (qs.getD x_1.i (OfNat.ofNat 0)-ps.getD x_1.i (OfNat.ofNat 0))) (spA a x_1.i) (cs.getD x_1.i (OfNat.ofNat 0)) x_1.n x_1.n)) (Za x_1.k).toNat 0 3=some [Zd q n]/\((0<=Za x_1.i/\Za x_1.i<Za (lR 63 qs).length)/\∃(q_7:Rat),∃(n_7:Nat),ldE (lR 63 qs) (Za x_1.i).toNat 0 3=some [Zd q_7 n_7]/\(0<=Za x_1.i/\Za x_1.i<Za (lR 63 ps).length)/\∃(q_8:Rat),∃(n_8:Nat),ldE (lR 63 ps) (Za x_1.i).toNat 0 3=some [Zd q_8 n_8]/\n_7+n_8<=4294967296/\bif decide (JS q_7 q_8<0)then n<=4294967296/\∃(x:SxX),(((x.i<a.links.length/\x.k<x.n)/\Qw a ps qs cs x.n a.links.length)/\(a.links.length-x.i)*100+(x.n-x.k)=(a.links.length-x_1.i)*100+(x_1.n-x_1.k))/\Za x_1.k=Za x.k/\(0:Nat)=0/\Za x_1.i=Za x.i/\(3:Nat)=3/\lR (smD x_1.n) (Q7 (Qf (qs.getD x_1.i (OfNat.ofNat 0)-ps.getD x_1.i (OfNat.ofNat 0))) (spA a x_1.i) (cs.getD x_1.i (OfNat.ofNat 0)) x_1.n x_1.n)=lR (smD x.n) (Q7 (Qf (qs.getD x.i (OfNat.ofNat 0)-ps.getD x.i (OfNat.ofNat 0))) (spA a x.i) (cs.getD x.i (OfNat.ofNat 0)) x.n x.n)/\Za x_1.n=Za x.n/\Za x_1.k=Za x.k/\Za x_1.n=Za x.n/\(0:Nat)=0/\x_1.n+1=x.n+1/\(16:Nat)=16/\Zb QC a.links=Zb QC a.links/\Za a.links.length=Za a.links.length/\Za x_1.i=Za x.i/\(3:Nat)=3/\lR 63 ps=lR 63 ps/\(3:Nat)=3/\lR 63 qs=lR 63 qs/\(3:Nat)=3/\lR 63 cs=lR 63 cs/\s=s/\(0:Nat)=0/\(27:Nat)=27/\ -q=YK (ps.getD x.i (OfNat.ofNat 0)) (qs.getD x.i (OfNat.ofNat 0)) (vP (Qf (qs.getD x.i (OfNat.ofNat 0)-ps.getD x.i (OfNat.ofNat 0))) (spA a x.i) (cs.getD x.i (OfNat.ofNat 0)) x.n (x.k+1))/\n<=smD x.n/\((58:Nat)=58/\(2:Nat)=2/\(1:Nat)=1/\(27:Nat)=27/\(3:Nat)=3)/\(Zb QH (QY a ps qs cs s x_1.n x_1.i x_1.k)=Zb QH (QY a ps qs cs s x.n x.i x.k)∨YO 3 (Zb QH (QY a ps qs cs s x_1.n x_1.i x_1.k)) (Zb QH (QY a ps qs cs s x.n x.i x.k)))/\(48:Nat)=48/\a.name=a.name/\a.x=a.x/\(63:Nat)<=63/\a.y=a.y/\(63:Nat)<=63/\a.half=a.half/\a.t=a.t/\(63:Nat)<=63/\(16:Nat)=16/\Zb QC a.links=Zb QC a.links/\True else ∃(x:SxX),(((x.i<a.links.length/\x.k<x.n)/\Qw a ps qs cs x.n a.links.length)/\(a.links.length-x.i)*100+(x.n-x.k)=(a.links.length-x_1.i)*100+(x_1.n-x_1.k))/\Za x_1.k=Za x.k/\(0:Nat)=0/\Za x_1.i=Za x.i/\(3:Nat)=3/\lR (smD x_1.n) (Q7 (Qf (qs.getD x_1.i (OfNat.ofNat 0)-ps.getD x_1.i (OfNat.ofNat 0))) (spA a x_1.i) (cs.getD x_1.i (OfNat.ofNat 0)) x_1.n x_1.n)=lR (smD x.n) (Q7 (Qf (qs.getD x.i (OfNat.ofNat 0)-ps.getD x.i (OfNat.ofNat 0))) (spA a x.i) (cs.getD x.i (OfNat.ofNat 0)) x.n x.n)/\Za x_1.n=Za x.n/\Za x_1.k=Za x.k/\Za x_1.n=Za x.n/\(0:Nat)=0/\x_1.n+1=x.n+1/\(16:Nat)=16/\Zb QC a.links=Zb QC a.links/\Za a.links.length=Za a.links.length/\Za x_1.i=Za x.i/\(3:Nat)=3/\lR 63 ps=lR 63 ps/\(3:Nat)=3/\lR 63 qs=lR 63 qs/\(3:Nat)=3/\lR 63 cs=lR 63 cs/\s=s/\(0:Nat)=0/\(27:Nat)=27/\q=YK (ps.getD x.i (OfNat.ofNat 0)) (qs.getD x.i (OfNat.ofNat 0)) (vP (Qf (qs.getD x.i (OfNat.ofNat 0)-ps.getD x.i (OfNat.ofNat 0))) (spA a x.i) (cs.getD x.i (OfNat.ofNat 0)) x.n (x.k+1))/\n<=smD x.n/\((58:Nat)=58/\(2:Nat)=2/\(1:Nat)=1/\(27:Nat)=27/\(3:Nat)=3)/\(Zb QH (QY a ps qs cs s x_1.n x_1.i x_1.k)=Zb QH (QY a ps qs cs s x.n x.i x.k)∨YO 3 (Zb QH (QY a ps qs cs s x_1.n x_1.i x_1.k)) (Zb QH (QY a ps qs cs s x.n x.i x.k)))/\(48:Nat)=48/\a.name=a.name/\a.x=a.x/\(63:Nat)<=63/\a.y=a.y/\(63:Nat)<=63/\a.half=a.half/\a.t=a.t/\(63:Nat)<=63/\(16:Nat)=16/\Zb QC a.links=Zb QC a.links/\True)/\∀(x_2:SxX),(x_2.i<a.links.length/\x_2.k<x_2.n)/\Qw a ps qs cs x_2.n a.links.length->(a.links.length-x_2.i)*100+(x_2.n-x_2.k)=(a.links.length-x_1.i)*100+(x_1.n-x_1.k)->(0<=Zc.wrap (Za x_2.k+1)/\Zc.wrap (Za x_2.k+1)<Za (x_2.n+1))/\∃(ys:List (List Ch)),ldE (Zb QH (QY a ps qs cs s x_2.n x_2.i x_2.k)) (0+(Zc.wrap (Za x_2.k+1)).toNat) 1 1=some [Zv 3 ys]/\(0<=Za x_2.k/\Za x_2.k<Za (x_2.n+1))/\∃(ys_1:List (List Ch)),ldE (Zb QH (QY a ps qs cs s x_2.n x_2.i x_2.k)) (0+(Za x_2.k).toNat) 1 1=some [Zv 3 ys_1]/\(0<=Za x_2.i/\Za x_2.i<Za ys_1.length)/\∃(ys_2:List (List Ch)),ldE (Zb QH (QY a ps qs cs s x_2.n x_2.i x_2.k)) (0+(Za x_2.k).toNat) 1 1=some [Zv 3 ys_2]/\∃(q:Rat),∃(n:Nat),ldE ys_2 (Za x_2.i).toNat 0 3=some [Zd q n]/\n+smD x_2.n+1<=4294967296/\(0<=Za x_2.i/\Za x_2.i<Za ys.length)/\∃(tv:Value),∃(ys:List (List Ch)),(Zb QH (QY a ps qs cs s x_2.n x_2.i x_2.k))[0+(Zc.wrap (Za x_2.k+1)).toNat]?=some [Zm tv,Zv 3 ys]/\(Za x_2.i).toNat<ys.length/\∃(x':SxX),(((x'.i<a.links.length/\x'.k<=x'.n)/\Qw a ps qs cs x'.n a.links.length)/\a.links.length-x'.i=a.links.length-x.snd/\(a.links.length-x'.i)*100+(x'.n-x'.k)<(a.links.length-x_1.i)*100+(x_1.n-x_1.k))/\Za x_2.i=Za x'.i/\(3:Nat)=3/\lR (smD x_2.n) (Q7 (Qf (qs.getD x_2.i (OfNat.ofNat 0)-ps.getD x_2.i (OfNat.ofNat 0))) (spA a x_2.i) (cs.getD x_2.i (OfNat.ofNat 0)) x_2.n x_2.n)=lR (smD x'.n) (Q7 (Qf (qs.getD x'.i (OfNat.ofNat 0)-ps.getD x'.i (OfNat.ofNat 0))) (spA a x'.i) (cs.getD x'.i (OfNat.ofNat 0)) x'.n x'.n)/\Za x_2.n=Za x'.n/\Zc.wrap (Za x_2.k+1)=Za x'.k/\Za x_2.n=Za x'.n/\(0:Nat)=0/\x_2.n+1=x'.n+1/\(16:Nat)=16/\Zb QC a.links=Zb QC a.links/\Za a.links.length=Za a.links.length/\Za x_2.i=Za x'.i/\(3:Nat)=3/\lR 63 ps=lR 63 ps/\(3:Nat)=3/\lR 63 qs=lR 63 qs/\(3:Nat)=3/\lR 63 cs=lR 63 cs/\s=s/\(0:Nat)=0/\((58:Nat)=58/\(2:Nat)=2/\(1:Nat)=1/\(27:Nat)=27/\(3:Nat)=3)/\((Zb QH (QY a ps qs cs s x_2.n x_2.i x_2.k)).set (0+(Zc.wrap (Za x_2.k+1)).toNat) [Zm tv,Zv 3 (ys.set (Za x_2.i).toNat [Zd (q+YK (ps.getD x_2.i (OfNat.ofNat 0)) (qs.getD x_2.i (OfNat.ofNat 0)) (vP (Qf (qs.getD x_2.i (OfNat.ofNat 0)-ps.getD x_2.i (OfNat.ofNat 0))) (spA a x_2.i) (cs.getD x_2.i (OfNat.ofNat 0)) x_2.n (x_2.k+1))) (n+smD x_2.n+1)])]=Zb QH (QY a ps qs cs s x'.n x'.i x'.k)∨YO 3 ((Zb QH (QY a ps qs cs s x_2.n x_2.i x_2.k)).set (0+(Zc.wrap (Za x_2.k+1)).toNat) [Zm tv,Zv 3 (ys.set (Za x_2.i).toNat [Zd (q+YK (ps.getD x_2.i (OfNat.ofNat 0)) (qs.getD x_2.i (OfNat.ofNat 0)) (vP (Qf (qs.getD x_2.i (OfNat.ofNat 0)-ps.getD x_2.i (OfNat.ofNat 0))) (spA a x_2.i) (cs.getD x_2.i (OfNat.ofNat 0)) x_2.n (x_2.k+1))) (n+smD x_2.n+1)])]) (Zb QH (QY a ps qs cs s x'.n x'.i x'.k)))/\(48:Nat)=48/\a.name=a.name/\a.x=a.x/\(63:Nat)<=63/\a.y=a.y/\(63:Nat)<=63/\a.half=a.half/\a.t=a.t/\(63:Nat)<=63/\(16:Nat)=16/\Zb QC a.links=Zb QC a.links/\True else ∃(x':Nat×Nat),((x'.snd<=a.links.length/\Qw a ps qs cs x'.fst a.links.length)/\OfNat.ofNat 0=0/\a.links.length-x'.snd<a.links.length-x.snd)/\Za x_1.n=Za x'.fst/\(0:Nat)=0/\x_1.n+1=x'.fst+1/\(16:Nat)=16/\Zb QC a.links=Zb QC a.links/\Za a.links.length=Za a.links.length/\Zc.wrap (Za x_1.i+1)=Za x'.snd/\(3:Nat)=3/\lR 63 ps=lR 63 ps/\(3:Nat)=3/\lR 63 qs=lR 63 qs/\(3:Nat)=3/\lR 63 cs=lR 63 cs/\s=s/\(0:Nat)=0/\((58:Nat)=58/\(2:Nat)=2/\(1:Nat)=1/\(27:Nat)=27/\(3:Nat)=3)/\(Zb QH (QY a ps qs cs s x_1.n x_1.i x_1.k)=Zb QH (QY a ps qs cs s x'.fst x'.snd 0)∨YO 3 (Zb QH (QY a ps qs cs s x_1.n x_1.i x_1.k)) (Zb QH (QY a ps qs cs s x'.fst x'.snd 0)))/\(48:Nat)=48/\a.name=a.name/\a.x=a.x/\(63:Nat)<=63/\a.y=a.y/\(63:Nat)<=63/\a.half=a.half/\a.t=a.t/\(63:Nat)<=63/\(16:Nat)=16/\Zb QC a.links=Zb QC a.links/\True)else ∃(x_1:Nat),(Qw a ps qs cs x_1 a.links.length/\OfNat.ofNat 0=0)/\(2:Nat)=2/\Zp (x.fst+1) (List.drop 0 (Zb QH (QY a ps qs cs s x.fst x.snd 0)))=Zb QH (QY a ps qs cs s x_1 a.links.length 0)/\True)/\∀(x:Nat),Qw a ps qs cs x a.links.length->OfNat.ofNat 0=0->K (AV.t [(false,[Zv 2 (Zb QH (QY a ps qs cs s x a.links.length 0))]),(false,[Zm (Zq Zc 0)])]))/\(¬Fit a_3 qs_2->K (AV.t [(false,[Zm (Zo none 0 0)]),(false,[Zm (Zq Zc 17)])])))/\(¬Fit a_1 qs_1->K (AV.t [(false,[Zm (Zo none 0 0)]),(false,[Zm (Zq Zc 17)])])))) ?_
 simp only[Zx,R0,R1,Nat.zero_add,Zh,R4];have hg:=h.good;have hgn:=hg.n;have lp:=h.lp;have lq:=h.lq;have lc:=h.lc;have hs:=h.s;have fetch: ∀i,i<a.links.length-> ∃L,a.links[i]? =some L/\spA a i=L.sp/\0<L.sp/\qs[i]? =some (qs.getD i 0)/\ps[i]? =some (ps.getD i 0)/\cs[i]? =some (cs.getD i 0)/\0<cs.getD i 0:=fun i hi=>by
  obtain⟨L,hL⟩: ∃L,a.links[i]? =some L:=⟨_,Zj hi⟩
  exact⟨L,hL,QB9 hL,(hg.links L (Zl hL)).sp,getD_some (by omega),getD_some (by omega),getD_some (by omega),h.pos _ (Wh (by omega))⟩
 simp only[Ze,XE,R0];refine⟨by omega,_,rfl,a,63,ps,rfl,rfl,⟨hg,by omega,lp⟩,fun _=>⟨by omega,_,rfl,a,63,qs,rfl,rfl,⟨hg,by omega,lq⟩,fun _=>QE (fun e=> ?_) (fun _=>QE (fun e=> ?_) (fun _=>QE (fun e=> ?_) (fun _=>⟨⟨(0,1),⟨by omega,⟨by omega,fun j hj=>by omega⟩⟩,rfl,rfl⟩,fun x hx=>QE (fun hi=> ?_) (fun hi=>QE (fun e=> ?_) (fun _=> ?_))⟩))),fun e=>absurd h.fq e⟩,fun e=>absurd h.fp e⟩
 ·rw[lp,lc]at e;simp at e
 ·have:=R5 e;omega
 ·have:=R5 e;omega
 ·have hi:x.1<a.links.length:=by have:=R5 hi;omega
  obtain⟨L,hL,hsp,hL0,hq,hp,hc,hc0⟩:=fetch x.1 hi;have hx2:=hx.2.hn;refine⟨by omega,_,_,_,_,_,_,_,_,_,_,_,Ww (by simpa using hL),by omega,_,_,Xd (by simpa using hq),by omega,_,_,Xd (by simpa using hp),by omega,_,_,Xd (by simpa using hc),by omega,by omega,⟨by omega,by omega,by omega⟩,⟨QB2 _,hL0,hc0⟩,by omega,fun m hm=> ?_,fun _=>h2⟩;rw[<-hsp]at hm;refine⟨(x.1+1,max m x.2),⟨⟨by omega,QFn hx.2 hm⟩,by simp only;omega⟩,?_,by rw[w64 (by omega)];simp⟩;rw[Wg];simp only[R7];split<;>omega
 ·have:=R5 e;have hx2:=hx.2.hn;rw[w64 (by omega)]at this;omega
 ·have hx1:x.1=a.links.length:=by have:=R6 hi;omega
  obtain⟨xi,n0⟩:=x;simp only at hx1 hx⊢;subst hx1;have hn0:=hx.2;have pq0: ∀q∈ps,Bd 63 q:=hb.bp;refine⟨63,ps,rfl,⟨by omega,by omega⟩,by omega,⟨(n0,0),⟨by omega,hn0⟩,rfl,rfl,rfl,rfl,.inr (Uc (ks:=[⟨s,63+65,ps⟩]) (by simp[WH]) fun i k l hk hl=> ?_)⟩,fun x hx=>QE (fun hi=> ?_) (fun hi=>⟨⟨⟨(x.1,0),⟨by omega,hx.2⟩,rfl,by have:=R6 hi;simp only;omega,rfl,.inr (Uc ?_ fun i k l hk hl=> ?_)⟩,fun x hx=>QE (fun hi=> ?_) (fun hi=> ?_)⟩,fun n hn=>h1 n hn⟩)⟩
  ·have hl':=Gq hl;obtain⟨i0,rfl⟩:=hl';have:i=0:=by omega
   subst this;cases hk
   exact⟨by simp,rfl,pq0⟩
  ·have hi:x.2<x.1:=by have:=R5 hi;omega
   have hx2:=hx.2.hn;have e1:Zc.wrap (Zc.wrap (s+(x.2:Int))+1)=s+((x.2+1:Nat):Int):=by
    rw[w64 (n:=s+(x.2:Int)) (by omega),w64 (by omega)];omega
   have ld:=Kv (Gp (ps:=ps) (s:=s) (Zh x.2));rw[Zr,e1];refine⟨by omega,_,ld,_,⟨ld,rfl⟩,63,ps,rfl,⟨by omega,by omega⟩,fun z hz=> ?_,by omega,⟨by rw[Wi],by omega,by omega,by omega,by omega⟩,(x.1,x.2+1),⟨⟨by simp only;omega,hx.2⟩,by simp only;omega⟩,rfl,rfl,rfl,by rw[w64 (by omega)];simp,.inr ?_⟩
   ·obtain⟨q,_,rfl⟩:=List.mem_map.1 hz;rfl
   ·have:=Uc (ks:=WH ps s x.2++[⟨s+((x.2+1:Nat):Int),63+65,ps⟩]) (ls:=WH ps s (x.2+1)) (by simp[WH]) fun i k l hk hl=> ?_
    ·rw[Yg]at this;exact this
    ·obtain⟨i0,rfl⟩:=Gq hl;by_cases e:i<=x.2
     ·rw[List.getElem?_append_left (by rw[Wi];omega),Gp e]at hk;cases hk;exact⟨rfl,rfl,pq0⟩
     ·have:i=x.2+1:=by omega
      subst this;rw[List.getElem?_append_right (by rw[Wi];omega),Wi,Nat.sub_self]at hk;cases hk;exact⟨rfl,rfl,pq0⟩
  ·rw[Wi,XU];have:=R6 hi;simp only;omega
  ·obtain⟨i0,rfl⟩:=Wx hl;obtain⟨i1,rfl⟩:=Gq hk;exact⟨rfl,smRow_start.symm,QDm h hb hx.2 i0⟩
  ·have hil:x.2<a.links.length:=by have:=R5 hi;omega
   clear hi;obtain⟨n,i⟩:=x;have hi:i<a.links.length:=hil;simp only at hx⊢;obtain⟨L,hL,hsp,hL0,hq,hp,hc,hc0⟩:=fetch i hi;have hn:=hx.2;have hx2:=hn.hn;obtain⟨m0,hm0,hN⟩:=hn.need i hi;refine⟨by omega,_,_,_,_,_,_,_,_,_,_,_,Ww (by simpa using hL),by omega,_,_,Xd (by simpa using hq),by omega,_,_,Xd (by simpa using hp),by omega,_,_,Xd (by simpa using hc),by omega,by omega,⟨by omega,by omega,by omega⟩,⟨QB2 _,hL0,hc0⟩,by omega,fun m hm=> ?_,fun e=> ?_⟩
   ·rw[<-hsp]at hm⊢;have em:m=n:=by
     obtain⟨r,hr,rfl,hr2⟩:=hm;have:=hr2 (by omega);omega
    subst em;refine⟨⟨⟨m,i,0⟩,⟨⟨⟨hi,Yf _⟩,hn⟩,rfl⟩,rfl,rfl,by rw[Wg],rfl,rfl,rfl,rfl,.inl rfl⟩,fun y hy ty=>QE (fun hk=> ?_) (fun hk=> ?_)⟩
    ·obtain⟨n,i',k⟩:=y;simp only at hy ty hk⊢;have ei:i'=i:=by omega
     subst ei;have hk:k<n:=by have:=R5 hk;omega
     have hn:=hy.2;have hx2:=hn.hn;have hD:=QLH hx2.2;refine⟨by rw[Wg];omega,_,_,Xd (by rw[Zr];exact QKG hk),⟨by omega,_,_,Xd (by simpa using hq),by omega,_,_,Xd (by simpa using hp),by omega,QE (fun e=> ?_) (fun e=> ?_)⟩,fun z hz tz=> ?_⟩
     ·have e:=QKp.1 (R5 e);refine⟨by omega,⟨n,i',k⟩,⟨⟨⟨hi,hk⟩,hn⟩,rfl⟩,rfl,rfl,rfl,rfl,rfl,rfl,rfl,rfl,?_,Zh _,.inl rfl⟩;exact(if_pos e).symm
     ·have e: ¬qs.getD i' 0<ps.getD i' 0:=fun h=>by have:=R6 e;exact this (QKp.2 h)
      refine⟨⟨n,i',k⟩,⟨⟨⟨hi,hk⟩,hn⟩,rfl⟩,rfl,rfl,rfl,rfl,rfl,rfl,rfl,rfl,?_,Zh _,.inl rfl⟩;exact(if_neg e).symm
     ·obtain⟨n',i2,k'⟩:=z;simp only at hz tz⊢;have hn':=hz.2;have hx3:=hn'.hn;have hD':=QLH hx3.2;have ei:i2=i'/\n'-k'=n-k:=by omega
      obtain⟨rfl,ek⟩:=ei;have hk':k'<n':=hz.1.2;have e1:Zc.wrap ((k':Int)+1)=((k'+1:Nat):Int):=by rw[w64 (by omega)];omega
      rw[e1];simp only[Zr];have g0:=JU (a:=a) (ps:=ps) (qs:=qs) (cs:=cs) (s:=s) (n:=n') (i:=i2) (c:=k') (k:=k') (by omega);have g1:=JU (a:=a) (ps:=ps) (qs:=qs) (cs:=cs) (s:=s) (n:=n') (i:=i2) (c:=k') (k:=k'+1) (by omega);have r0:=X1 (a:=a) (ps:=ps) (qs:=qs) (cs:=cs) (n:=n') (i:=i2) (c:=k') (k:=k') (j:=i2) (by omega);rw[if_pos (.inr ⟨rfl,Zh _⟩)]at r0;refine⟨by omega,_,Kv g1,by omega,_,Kv g0,by simp only[XE,Q1];omega,_,Kv g0,_,_,Xd r0,by simp only;omega,by simp only[XE,Q1];omega,_,_,by rw[Zf,g1];rfl,by simp only[XE,Q1];omega,⟨n',i2,k'+1⟩,⟨⟨⟨hi,by simp only;omega⟩,hn'⟩,rfl,by simp only;omega⟩,rfl,rfl,rfl,rfl,rfl,rfl,rfl,.inr ?_⟩
      simp only;rw[show jV a ps qs cs n' i2 k'+YK (ps.getD i2 0) (qs.getD i2 0) (vP (Qf (qs.getD i2 0-ps.getD i2 0)) (spA a i2) (cs.getD i2 0) n' (k'+1))=jV a ps qs cs n' i2 (k'+1)from(Gn).symm];refine QLF (by rw[XU,XU]) g1 fun j kk l hkk hl=> ?_
      obtain⟨j0,rfl⟩:=Wx hkk;obtain⟨_,rfl⟩:=Wx hl;refine⟨rfl,QDm h hb hn' j0,?_⟩;by_cases e:j=k'+1
      ·subst e;rw[if_pos rfl];exact QIK (by omega)
      ·rw[if_neg e];exact QFl e
    ·obtain⟨n,i',k⟩:=y;simp only at hy ty hk⊢;have ei:i'=i:=by omega
     subst ei;have hk:k=n:=by have:=R6 hk;omega
     subst hk;refine⟨(k,i'+1),⟨⟨by simp only;omega,hy.2⟩,by simp only;omega⟩,rfl,rfl,by rw[w64 (by omega)];simp,.inl ?_⟩;rw[QDn]
   ·exfalso;rw[<-hsp]at e;rcases e with e | ⟨r,hr,hr1,_⟩
    ·exact QIL hN e
    ·exact QIM hN hr (by omega)
  ·obtain⟨n,i⟩:=x;simp only at hi hx⊢;have hi:i=a.links.length:=by have:=R6 hi;omega
   subst hi;exact⟨n,hx.2,by rw[Yh,Zs (by rw[Ze,XU];exact Zh _)]⟩
def Gs:Ctr
 | [.x true xs,.x false [.s 3 ys],.x false [.s 3 zs],.x false [.s 3 us],.x false [.v (.int .i64 s)]]=>some fun K=> ∃(a:Qb) (ps qs cs:List Rat),xs=YM a/\ys=lR 63 ps/\zs=lR 63 qs/\us=lR 63 cs/\Vs a ps qs cs s/\
   (∀n,Qw a ps qs cs n a.links.length->K (.t [(false,[.s 2 ((QY a ps qs cs s n a.links.length 0).map QH)]),(false,[.v (.int .i64 0)])]))/\K (.t [(false,[.v (.slice none 0 0)]),(false,[.v (.int .i64 19)])])
 | _=>none
theorem QRS {w:World}{O:Nat->Prop}{vals:List Value}{a:Qb}{ps qs cs:List Rat}{s:Int}(h:Qo w O XT [WW a,sR 63 ps,sR 63 qs,sR 63 cs,iA .i64 s] vals):QNc ps qs cs:=by
 cases h with
 | cons _ h=>cases h with
  | cons h2 h=>cases h with
   | cons h3 h=>cases h with
    | cons h4 _=>exact⟨Gl h2,Gl h3,Gl h4⟩
theorem QIO:QT 25 Gs:=by
 refine⟨Qm Tryd.func25 (by kernel_rfl),fun l T hT K hK=> ?_⟩;unfold Gs at hT;split at hT
 ·cases hT
  obtain⟨a,ps,qs,cs,rfl,rfl,rfl,rfl,h,h1,h2⟩:=hK;intro w O vals k1 k2 k3;have hS:=Qn (Qq QQA QQB XP) QW Tryd.func25 (by kernel_rfl) (by kernel_rfl) (by rfl) (QLI a ps qs cs _ h (QRS k3) K h1 h2);exact hS w O vals k1 k2 k3
 ·cases hT
end Go.Proofs
namespace Go.Proofs
open Go Go.Eng
def smF (a:Qb)(ps qs cs:List Rat)(s:Int)(n:Nat):List Qg:=QY a ps qs cs s n a.links.length 0
theorem HC {a:Qb}{ps qs cs:List Rat}{s:Int}{n k:Nat}(h:k<=n):(smF a ps qs cs s n)[k]? =some ⟨s+(k:Int),500,YN a ps qs cs n a.links.length 0 k⟩:=JU h
theorem Vt {a:Qb}{ps qs cs:List Rat}{s:Int}{n k:Nat}{x:Qg}(h:(smF a ps qs cs s n)[k]? =some x):k<=n/\x=⟨s+(k:Int),500,YN a ps qs cs n a.links.length 0 k⟩:=Wx h
theorem Ky {a:Qb}{ps qs cs:List Rat}{n k j:Nat}(hp:ps.length=a.links.length)(hj:j<a.links.length):(YN a ps qs cs n a.links.length 0 k)[j]? =some (jV a ps qs cs n j k):=by
 rw[X1 (by omega),if_pos (.inl hj)]
theorem QIP {a:Qb}{ps qs cs:List Rat}{n:Nat}(hp:ps.length=a.links.length):YN a ps qs cs n a.links.length 0 0=ps:=by
 refine Kx Q1 fun j hj=> ?_
 rw[Q1]at hj;rw[Ky hp (by omega),jV,Gm,getD_some hj]
theorem QLJ {a:Qb}{ps qs cs:List Rat}{s:Int}{n:Nat}(h:Vs a ps qs cs s)(hn:Qw a ps qs cs n a.links.length):YN a ps qs cs n a.links.length 0 n=qs:=by
 have h1:=h.lp;have h2:=h.lq;refine Kx (by rw[Q1];omega) fun j hj=> ?_
 rw[Q1]at hj;rw[Ky h1 (by omega),jV,(h.sm1 hn (show j<a.links.length by omega) (Zh _)).last,getD_some (by omega)]
theorem QDo {a:Qb}{ps qs cs:List Rat}{s:Int}{n:Nat}(h:Vs a ps qs cs s)(hn:Qw a ps qs cs n a.links.length):XD (smF a ps qs cs s n) a.links.length 500/\Kw a (smF a ps qs cs s n):=by
 have h1:=h.lp;have h2:=h.lq;have hn1:=hn.hn;have hs:=h.s;have mem: ∀x∈smF a ps qs cs s n,∃k,k<=n/\x=⟨s+(k:Int),500,YN a ps qs cs n a.links.length 0 k⟩:=fun x hx=>by
  obtain⟨k,hk⟩:=Yc hx;exact⟨k,Vt hk⟩
 have hk:XD (smF a ps qs cs s n) a.links.length 500:=by
  refine⟨fun x hx=> ?_,fun x hx=> ?_,fun x hx=> ?_,fun i x y hx hy=> ?_⟩
  ·obtain⟨k,hk,rfl⟩:=mem x hx;simp only;rw[Q1];exact h1
  ·obtain⟨k,hk,rfl⟩:=mem x hx;exact Zh _
  ·obtain⟨k,hk,rfl⟩:=mem x hx;simp only;omega
  ·obtain⟨_,rfl⟩:=Vt hx;obtain⟨_,rfl⟩:=Vt hy;simp only;omega
 refine⟨hk,h.good,?_,⟨500,by omega,hk⟩,fun x hx=> ?_,fun i x y hx hy=> ?_⟩
 ·unfold smF;rw[XU];omega
 ·obtain⟨k,hk,rfl⟩:=mem x hx;intro j L q hL hq;have hj:j<a.links.length:=(Zi.1 hL).1;simp only at hq;rw[Ky h1 hj]at hq;cases hq
  exact(h.sm1 hn hj (Zh _)).mid hk (h.fp j L _ hL (getD_some (by omega))) (h.fq j L _ hL (getD_some (by omega)))
 ·obtain⟨hi,rfl⟩:=Vt hx;obtain⟨hi2,rfl⟩:=Vt hy;intro j L p q hL hp hq;have hj:j<a.links.length:=(Zi.1 hL).1;simp only at hp hq⊢;rw[Ky h1 hj]at hp hq;cases hp;cases hq
  have e:((s+((i+1:Nat):Int)-(s+(i:Int)):Int):Rat)=1:=by
   rw[show s+((i+1:Nat):Int)-(s+(i:Int))=1 by omega];rfl
  rw[e,Rat.mul_one,<-QB9 hL];exact(h.sm1 hn hj (Zh _)).step
theorem QQC {ks:List Qg}{a:Qg}{t:Int}(ha:ks[0]? =some a)(h:t<=a.tick):(atR ks t).1=a.q:=by rw[QDc ha h]
theorem QNf {m N:Nat}{ks:List Qg}{t:Int}{z:Qg}(h:XD ks m N)(hne:ks≠[])(hz:ks[ks.length-1]? =some z)(ht:z.tick<=t):(atR ks t).1=z.q:=by
 rcases QJO h hne t with⟨a,ha,h1,_⟩ | ⟨i,x,y,hx,hy,h1,h2,_⟩ | ⟨w,hw,_,h2,_⟩
 ·have:=h.mono (by omega) ha hz;omega
 ·have hl:=(Zi.1 hy).1;have:=h.mono (by omega) hy hz;omega
 ·rw[hz]at hw;cases hw;exact h2
structure QRi (a:Qb)(ps qs cs:List Rat)(s:Int)(n:Nat):Prop where
 low: ∀t,t<=s->(atR (smF a ps qs cs s n) t).1=ps
 high: ∀t,s+(n:Int)<=t->(atR (smF a ps qs cs s n) t).1=qs
 mid: ∀k,k<=n->(atR (smF a ps qs cs s n) (s+(k:Int))).1=YN a ps qs cs n a.links.length 0 k
theorem QOU {a:Qb}{ps qs cs:List Rat}{s:Int}{n:Nat}(h:Vs a ps qs cs s)(hn:Qw a ps qs cs n a.links.length):QRi a ps qs cs s n:=by
 have hk:=(QDo h hn).1;have hl:(smF a ps qs cs s n).length=n+1:=XU;have hne:smF a ps qs cs s n≠[]:=fun e=>by rw[e]at hl;simp at hl
 refine⟨fun t ht=> ?_,fun t ht=> ?_,fun k hk'=> ?_⟩
 ·rw[QQC (HC (Yf n)) (by simp only;omega)];exact QIP h.lp
 ·rw[QNf hk hne (z:=⟨s+(n:Int),500,_⟩) (by rw[hl];exact HC (Zh n)) ht];exact QLJ h hn
 ·exact QP4 hk (HC hk')
theorem QCA {ks:List Qg}{t:Int}{j:Nat}{x y:Rat}(hx:(atR ks t).1[j]? =some x)(hy:(atR ks (t+1)).1[j]? =some y):(XZ ks t)[j]? =some (y-x):=by
 simp[XZ,List.getElem?_zipWith,hx,hy]
def smW (a:Qb)(ps qs cs:List Rat)(n j k:Nat):Rat:=YK (ps.getD j 0) (qs.getD j 0) (vP (Qf (qs.getD j 0-ps.getD j 0)) (spA a j) (cs.getD j 0) n k)
theorem QLK {a:Qb}{ps qs cs:List Rat}{s:Int}{n j k:Nat}(h:Vs a ps qs cs s)(hn:Qw a ps qs cs n a.links.length)(hj:j<a.links.length)(hk:k<=n+1):(XZ (smF a ps qs cs s n) (s+(k:Int)-1))[j]? =some (smW a ps qs cs n j k):=by
 have A:=QOU h hn;have R:=(h.sm1 hn hj (Zh _)).rests;have h1:=h.lp;have h2:=h.lq;have d0: ∀{x y:Rat},YK x y 0=0:=fun {x y}=>by unfold YK;split<;>grind
 by_cases k0:k=0
 ·subst k0;have e1:=A.low (s+((0:Nat):Int)-1) (by omega);have e2:=A.low (s+((0:Nat):Int)-1+1) (by omega);rw[QCA (by rw[e1];exact getD_some (show j<ps.length by omega)) (by rw[e2];exact getD_some (show j<ps.length by omega))];unfold smW;rw[R.zero,d0,Rat.sub_self]
 ·obtain⟨m,rfl⟩: ∃m,k=m+1:=⟨k-1,by omega⟩;have et:s+((m+1:Nat):Int)-1=s+(m:Int):=by omega
  rw[et];by_cases kn:m=n
  ·subst kn;have e1:=A.high (s+(m:Int)) (by omega);have e2:=A.high (s+(m:Int)+1) (by omega);rw[QCA (by rw[e1];exact getD_some (show j<qs.length by omega)) (by rw[e2];exact getD_some (show j<qs.length by omega))];unfold smW;rw[R.last,d0,Rat.sub_self]
  ·have e1:=A.mid m (by omega);have e2:=A.mid (m+1) (by omega);rw[show s+((m+1:Nat):Int)=s+(m:Int)+1 by omega]at e2;rw[QCA (by rw[e1];exact Ky h1 hj) (by rw[e2];exact Ky h1 hj)];unfold smW jV;rw[Gn];congr 1;grind
theorem QQD {a:Qb}{ps qs cs:List Rat}{s:Int}{n j k:Nat}(h:Vs a ps qs cs s)(hn:Qw a ps qs cs n a.links.length)(hj:j<a.links.length):Qf (smW a ps qs cs n j (k+1)-smW a ps qs cs n j k)<=cs.getD j 0:=(h.sm1 hn hj (Zh _)).acc
end Go.Proofs
namespace Go.Proofs
open Go Go.Eng
def QQE:LC:=(25,Gs)::QRL
theorem QLL:QN QQE:= .cons QIO QP3
theorem QNg (l:List Int)(hc:(l.length<=9223372036854775807))(K:AV->Prop)(hK: ∀a:Qb,Ql a->K (WW a)):QU (Qc (mkT QQE M99 X4) (oF Tryd.f23) noL Tryd.f23 [.x false [.s 1 (ints l)]] K):=by
 refine HV ((∃(l_1:List Int),ints l=ints l_1/\l_1.length<=9223372036854775807/\∀(a:Qb),Made a/\1<=a.links.length->((0:Int)<=0/\(0<=bif false then if 2>Za (Zb QC a.links).length then 2 else Za (Zb QC a.links).length else if 2<Za (Zb QC a.links).length then 2 else Za (Zb QC a.links).length)/\(bif false then if 2>Za (Zb QC a.links).length then 2 else Za (Zb QC a.links).length else if 2<Za (Zb QC a.links).length then 2 else Za (Zb QC a.links).length)<=Za (Zb QC a.links).length)/\K (AV.x true [Zm (Zk a.name),Zd a.x 63,Zd a.y 63,Zm (Zg a.half),Zd a.t 63,Zv 16 (Zp ((bif false then if 2>Za (Zb QC a.links).length then 2 else Za (Zb QC a.links).length else if 2<Za (Zb QC a.links).length then 2 else Za (Zb QC a.links).length).toNat-0) (List.drop 0 (Zb QC a.links)))]))) ?_
 try simp only[Zx]
 refine⟨l,rfl,hc,fun a ha=> ?_⟩;have g1:=MadeA.good ha;have n1:=g1.n;have e:(bif false then if 2>((a.links.map QC).length:Int)then 2 else((a.links.map QC).length:Int)else if 2<((a.links.map QC).length:Int)then 2 else((a.links.map QC).length:Int))=((min a.links.length 2:Nat):Int):=by
  simp only[R8,Ze];split<;>omega
 rw[e,Zr,Nat.sub_zero,Yh,<-List.map_take,Ze];refine⟨⟨by omega,by omega,by omega⟩,hK ⟨a.name,a.x,a.y,a.half,a.t,a.links.take (min a.links.length 2)⟩ ⟨g1.name,by simp only[List.length_take];omega,g1.small,g1.half,fun L hL=>g1.links L (List.mem_of_mem_take hL)⟩⟩
def QCB:Ctr
 | [.x false [.s 1 xs]]=>some fun K=> ∃(l:List Int),xs=ints l/\((l.length<=9223372036854775807))/\(∀a:Qb,Ql a->K (WW a))
 | _=>none
theorem QLM:QT 23 QCB:=by
 refine okL Tryd.func23 fun l T hT K hK=> ?_
 unfold QCB at hT;split at hT<;>cases hT
 obtain⟨l,rfl,hc,hK⟩:=hK;exact spL (Qq QLL Vp XP) QW Tryd.func23 (QNg _ hc K hK)
def QOV:LC:=(23,QCB)::QQE
theorem QNh:QN QOV:= .cons QLM QLL
def Vu (x:Int)(k:Nat):List Rat:=(Yi k).map fun(i:Nat)=>mkRat (1+(Zc.wrap (x+(i:Int))) % 6) 24
structure SlX where
 a:Qb
 p:List Rat
 q:List Rat
 n:Nat
 k:Nat
 i:Nat
structure SlI (x:SlX):Prop where
 good:Ql x.a
 lp:x.p.length=x.a.links.length
 lq:x.q.length=x.a.links.length
 fp:Fit x.a x.p
 fq:Fit x.a x.q
def slA (x0:Int)(x:SlX):List Rat:=Vu x0 x.a.links.length
def slK (x0:Int)(x:SlX):List Qg:=smF x.a x.p x.q (slA x0 x) 3 x.n
structure SlJ (x0:Int)(x:SlX):Prop where
 i:SlI x
 need:Qw x.a x.p x.q (slA x0 x) x.n x.a.links.length
 k:x.k<=x.n+1
def spB (ks:List Qg)(t:Int):Nat:=(atR ks (t+1)).2+(atR ks t).2+1
def slS (ks:List Qg)(t:Int):AV:=sR (spB ks t) (XZ ks t)
def slT (x0:Int)(x:SlX):List (Nat×AV):=[(12,sR 63 (slA x0 x)),(14,QDb (slK x0 x)),(16,slS (slK x0 x) (2+(x.k:Int))),(17,iA .i64 (3+(x.k:Int)))]
def QNi (x0:Int):LI:=fun id=>bif id.beq 7 then .inv ⟨SlX,fun x=>⟨[(3,iA .i64 x0),(9,.x false [.p 9 0]),(10,sR 63 x.p),(11,sR 63 x.q),(12,.x false [.w 500 0 x.i]),(31,iA .i64 x.a.links.length),(32,iA .i64 x.i)],[(9,.box 48 (YM x.a)),(500,UW 63 (Vu x0 x.i))]⟩,fun x=>SlI x/\x.i<=x.a.links.length,fun x=>x.a.links.length-x.i,fun _=>0⟩
 else bif id.beq 11 then .cutf [500] ⟨SlX,fun x=>⟨[(9,.x false [.p 9 0]),(10,sR 63 x.p),(11,sR 63 x.q),(12,sR 63 (slA x0 x))],[(9,.box 48 (YM x.a))]⟩,SlI,fun _=>0,fun _=>0⟩
 else bif id.beq 18 then .inv ⟨SlX,fun x=>⟨slT x0 x,[]⟩,SlJ x0,fun x=>x.n+1-x.k,fun _=>0⟩
 else bif id.beq 22 then .inv ⟨SlX,fun x=>⟨(18,slS (slK x0 x) (3+(x.k:Int)))::(97,iA .i64 x.a.links.length)::(98,iA .i64 x.i)::slT x0 x,[]⟩,fun x=>SlJ x0 x/\x.i<=x.a.links.length/\x.k<=x.n,fun x=>x.a.links.length-x.i,fun x=>x.n+1-x.k⟩
 else .no
theorem Vv {x:Int}{k:Nat}:(Vu x k).length=k:=by simp[Vu]
theorem QLN {x:Int}{k:Nat}: ∀c∈Vu x k,0<c:=by
 intro c hc;obtain⟨i,_,rfl⟩:=List.mem_map.1 hc;exact YJ (by omega) (by decide)
theorem QIQ {x:Int}{k:Nat}:Vu x (k+1)=Vu x k++[mkRat (1+(Zc.wrap (x+(k:Int))) % 6) 24]:=by
 simp[Vu,List.range_succ]
theorem SlI.ok {x0:Int}{x:SlX}(h:SlI x):Vs x.a x.p x.q (slA x0 x) 3:=⟨h.good,h.lp,h.lq,Vv,h.fp,h.fq,QLN,by omega⟩
structure SlF (x0:Int)(x:SlX):Prop where
 keys:XD (slK x0 x) x.a.links.length 500
 trk:Kw x.a (slK x0 x)
 len:(slK x0 x).length=x.n+1
 n:1<=x.n/\x.n<=50
 sl: ∀t,(XZ (slK x0 x) t).length=x.a.links.length
 sb: ∀t,spB (slK x0 x) t<=10000
theorem SlJ.f {x0:Int}{x:SlX}(h:SlJ x0 x):SlF x0 x:=by
 obtain⟨h1,h2⟩:=QDo h.i.ok h.need;have hl:(slK x0 x).length=x.n+1:=XU;have hne:slK x0 x≠[]:=fun e=>by rw[e]at hl;simp at hl
 have hb: ∀t,(atR (slK x0 x) t).2<=3*500+260/\(atR (slK x0 x) t).1.length=x.a.links.length:=fun t=>H6 h1 hne;refine⟨h1,h2,hl,h.need.hn,fun t=> ?_,fun t=> ?_⟩
 ·simp[XZ,(hb t).2,(hb (t+1)).2]
 ·have:=(hb t).1;have:=(hb (t+1)).1;unfold spB;omega
set_option maxHeartbeats 1000000 in
theorem QRT (l m k:List Int)(x:Int)(hl:l.length<=9223372036854775807)(hm:m.length<=9223372036854775807)(hk:k.length<=9223372036854775807)(K:AV->Prop)(hK:K (.x false [.v (.bool true)])):QU (Qc (mkT QOV M99 X4) (oF Tryd.f5) (QNi x) Tryd.f5 [inT l,inT m,inT k,iA .i64 x] K):=by
 refine HV ((True/\∃(l_1:List Int),ints l=ints l_1/\l_1.length<=9223372036854775807/\∀(a:Qb),Ql a->∃(a_2:Qb),∃(l:List Int),[Zm (Zk a.name),Zd a.x 63,Zd a.y 63,Zm (Zg a.half),Zd a.t 63,Zv 16 (Zb QC a.links)]=[Zm (Zk a_2.name),Zd a_2.x 63,Zd a_2.y 63,Zm (Zg a_2.half),Zd a_2.t 63,Zv 16 (Zb QC a_2.links)]/\ints m=ints l/\(Ql a_2/\l.length<=9223372036854775807)/\∀(qs:List Rat),(∀(i:Nat) (L:Qv) (q:Rat),a_2.links[i]?=some L->qs[i]?=some q->L.lo<=q/\q<=L.hi)->qs.length=a_2.links.length->∃(a_5:Qb),∃(l:List Int),[Zm (Zk a.name),Zd a.x 63,Zd a.y 63,Zm (Zg a.half),Zd a.t 63,Zv 16 (Zb QC a.links)]=[Zm (Zk a_5.name),Zd a_5.x 63,Zd a_5.y 63,Zm (Zg a_5.half),Zd a_5.t 63,Zv 16 (Zb QC a_5.links)]/\ints k=ints l/\(Ql a_5/\l.length<=9223372036854775807)/\∀(qs_1:List Rat),(∀(i:Nat) (L:Qv) (q:Rat),a_5.links[i]?=some L->qs_1[i]?=some q->L.lo<=q/\q<=L.hi)->qs_1.length=a_5.links.length->((∃(x_1:SlX),((SlI x_1/\x_1.i<=x_1.a.links.length)/\OfNat.ofNat 0=0)/\x=x/\0=0/\3=3/\lR 63 qs=lR 63 x_1.p/\3=3/\lR 63 qs_1=lR 63 x_1.q/\Zo none 0 0=Zo none 0 0/\0=0/\x_1.i=0/\Za (lR 63 qs).length=Za x_1.a.links.length/\0=Za x_1.i/\48=48/\a.name=x_1.a.name/\a.x=x_1.a.x/\63<=63/\a.y=x_1.a.y/\63<=63/\a.half=x_1.a.half/\a.t=x_1.a.t/\63<=63/\16=16/\Zb QC a.links=Zb QC x_1.a.links/\Zb (fun(q:Rat)=>[Zd q 63]) (Vu x x_1.i)=[]/\True)/\∀(x_1:SlX),SlI x_1/\x_1.i<=x_1.a.links.length->OfNat.ofNat 0=0->bif decide (Za x_1.i<Za x_1.a.links.length)then((0:Int)<6/\(6:Int)<9223372036854775808)/\((-9223372036854775808<Zc.wrap (1+Zc.wrap (x+Za x_1.i)%6)/\Zc.wrap (1+Zc.wrap (x+Za x_1.i)%6)<9223372036854775808)/\(0:Int)<24/\(24:Int)<9223372036854775808)/\((x_1.i+1)*40<=140737488355328/\x_1.i+1<=9223372036854775807)/\∃(x':SlX),((SlI x'/\x'.i<=x'.a.links.length)/\OfNat.ofNat 0=0/\x'.a.links.length-x'.i<x_1.a.links.length-x_1.i)/\x=x/\0=0/\3=3/\lR 63 x_1.p=lR 63 x'.p/\3=3/\lR 63 x_1.q=lR 63 x'.q/\0=0/\x_1.i+1=x'.i/\Za x_1.a.links.length=Za x'.a.links.length/\Zc.wrap (Za x_1.i+1)=Za x'.i/\48=48/\x_1.a.name=x'.a.name/\x_1.a.x=x'.a.x/\63<=63/\x_1.a.y=x'.a.y/\63<=63/\x_1.a.half=x'.a.half/\x_1.a.t=x'.a.t/\63<=63/\16=16/\Zb QC x_1.a.links=Zb QC x'.a.links/\27=27/\3=3/\(Zp x_1.i (Zb (fun(q:Rat)=>[Zd q 63]) (Vu x x_1.i))++[[Zd (mkRat (Zc.wrap (1+Zc.wrap (x+Za x_1.i)%6)) 24) 63]]=Zb (fun(q:Rat)=>[Zd q 63]) (Vu x x'.i)∨QG (Zp x_1.i (Zb (fun(q:Rat)=>[Zd q 63]) (Vu x x_1.i))++[[Zd (mkRat (Zc.wrap (1+Zc.wrap (x+Za x_1.i)%6)) 24) 63]]) (Zb (fun(q:Rat)=>[Zd q 63]) (Vu x x'.i)))/\True else ∃(x_2:SlX),(SlI x_2/\OfNat.ofNat 0=0)/\0=0/\3=3/\lR 63 x_1.p=lR 63 x_2.p/\3=3/\lR 63 x_1.q=lR 63 x_2.q/\3=3/\Zp x_1.i (List.drop 0 (Zb (fun(q:Rat)=>[Zd q 63]) (Vu x x_1.i)))=lR 63 (slA x x_2)/\48=48/\x_1.a.name=x_2.a.name/\x_1.a.x=x_2.a.x/\63<=63/\x_1.a.y=x_2.a.y/\63<=63/\x_1.a.half=x_2.a.half/\x_1.a.t=x_2.a.t/\63<=63/\16=16/\Zb QC x_1.a.links=Zb QC x_2.a.links/\True)/\∀(x_1:SlX),SlI x_1->OfNat.ofNat 0=0->∃(a:Qb),∃(ps:List Rat),∃(qs:List Rat),∃(cs:List Rat),[Zm (Zk x_1.a.name),Zd x_1.a.x 63,Zd x_1.a.y 63,Zm (Zg x_1.a.half),Zd x_1.a.t 63,Zv 16 (Zb QC x_1.a.links)]=[Zm (Zk a.name),Zd a.x 63,Zd a.y 63,Zm (Zg a.half),Zd a.t 63,Zv 16 (Zb QC a.links)]/\lR 63 x_1.p=lR 63 ps/\lR 63 x_1.q=lR 63 qs/\lR 63 (slA x x_1)=lR 63 cs/\Vs a ps qs cs 3/\(∀(n:Nat),Qw a ps qs cs n a.links.length->bif Za (Zb QH (QY a ps qs cs 3 n a.links.length 0)).length==0 then K (AV.x false [Zm (Zg false)])else ∃(a_9:Qb),∃(ks:List Qg),∃(r:Int),[Zm (Zk x_1.a.name),Zd x_1.a.x 63,Zd x_1.a.y 63,Zm (Zg x_1.a.half),Zd x_1.a.t 63,Zv 16 (Zb QC x_1.a.links)]=[Zm (Zk a_9.name),Zd a_9.x 63,Zd a_9.y 63,Zm (Zg a_9.half),Zd a_9.t 63,Zv 16 (Zb QC a_9.links)]/\Zb QH (QY a ps qs cs 3 n a.links.length 0)=Zb QH ks/\(Kw a_9 ks/\r=0∨∃(x:Qg),∃(y:Qg),ks=[x,y]/\r=19/\Ql a_9/\((x.q.length=a_9.links.length/\y.q.length=a_9.links.length)/\x.n<=10000/\y.n<=10000)/\((0<=x.tick/\x.tick<y.tick/\y.tick<=2000)/\(∀(i:Nat) (L:Qv) (q:Rat),a_9.links[i]?=some L->x.q[i]?=some q->L.lo<=q/\q<=L.hi)/\∀(i:Nat) (L:Qv) (q:Rat),a_9.links[i]?=some L->y.q[i]?=some q->L.lo<=q/\q<=L.hi)/\¬VB a_9 x y)/\bif r !=0 then K (AV.x false [Zm (Zg false)])else ∃(ks:List Qg),∃(m:Nat),∃(N:Nat),Zb QH (QY a ps qs cs 3 n a.links.length 0)=Zb QH ks/\(XD ks m N/\(N<=10000/\m<=100000/\1<=ks.length/\ks.length<=100000)/\(-4611686018427387904:Int)<=3/\(3:Int)<4611686018427387904)/\∃(a_10:Nat),∃(ps_1:List Rat),∃(b:Nat),∃(qs_2:List Rat),lR (atR ks 3).snd (atR ks 3).fst=lR a_10 ps_1/\lR 63 x_1.p=lR b qs_2/\(ps_1.length<=1000000000/\qs_2.length<=1000000000)/\bif !decide (ps_1=qs_2)then K (AV.x false [Zm (Zg false)])else ∃(ks:List Qg),∃(m:Nat),∃(N:Nat),Zb QH (QY a ps qs cs 3 n a.links.length 0)=Zb QH ks/\(XD ks m N/\(N<=10000/\m<=100000/\1<=ks.length/\ks.length<=100000)/\(-4611686018427387904:Int)<=2000/\(2000:Int)<4611686018427387904)/\∃(a_11:Nat),∃(ps_2:List Rat),∃(b:Nat),∃(qs_3:List Rat),lR (atR ks 2000).snd (atR ks 2000).fst=lR a_11 ps_2/\lR 63 x_1.q=lR b qs_3/\(ps_2.length<=1000000000/\qs_3.length<=1000000000)/\bif !decide (ps_2=qs_3)then K (AV.x false [Zm (Zg false)])else ∃(ks:List Qg),∃(m:Nat),∃(N:Nat),Zb QH (QY a ps qs cs 3 n a.links.length 0)=Zb QH ks/\(XD ks m N/\(N<=10000/\m<=100000/\1<=ks.length/\ks.length<=100000)/\(-4611686018427387904:Int)<=2/\(3:Int)<4611686018427387904)/\(∃(x_2:SlX),(SlJ x x_2/\OfNat.ofNat 0=0)/\3=3/\lR 63 (slA x x_1)=lR 63 (slA x x_2)/\2=2/\Zb QH (QY a ps qs cs 3 n a.links.length 0)=Zb QH (slK x x_2)/\3=3/\lR ((atR ks 3).snd+(atR ks 2).snd+1) (XZ ks 2)=lR (spB (slK x x_2) (2+Za x_2.k)) (XZ (slK x x_2) (2+Za x_2.k))/\3=3+Za x_2.k/\True)/\∀(x_2:SlX),SlJ x x_2->OfNat.ofNat 0=0->(0<=Zc.wrap (Za (Zb QH (slK x x_2)).length-1)/\Zc.wrap (Za (Zb QH (slK x x_2)).length-1)<Za (Zb QH (slK x x_2)).length)/\∃(d:Int),ldE (Zb QH (slK x x_2)) (Zc.wrap (Za (Zb QH (slK x x_2)).length-1)).toNat 0 1=some [Zm (Zq Zc d)]/\bif decide (3+Za x_2.k<=d)then ∃(ks:List Qg),∃(m:Nat),∃(N:Nat),Zb QH (slK x x_2)=Zb QH ks/\(XD ks m N/\(N<=10000/\m<=100000/\1<=ks.length/\ks.length<=100000)/\ -4611686018427387904<=3+Za x_2.k/\3+Za x_2.k+1<4611686018427387904)/\(∃(x_3:SlX),((SlJ x x_3/\x_3.i<=x_3.a.links.length/\x_3.k<=x_3.n)/\x_3.n+1-x_3.k=x_2.n+1-x_2.k)/\3=3/\lR ((atR ks (3+Za x_2.k+1)).snd+(atR ks (3+Za x_2.k)).snd+1) (XZ ks (3+Za x_2.k))=lR (spB (slK x x_3) (3+Za x_3.k)) (XZ (slK x x_3) (3+Za x_3.k))/\Za (lR ((atR ks (3+Za x_2.k+1)).snd+(atR ks (3+Za x_2.k)).snd+1) (XZ ks (3+Za x_2.k))).length=Za x_3.a.links.length/\0=Za x_3.i/\3=3/\lR 63 (slA x x_2)=lR 63 (slA x x_3)/\2=2/\Zb QH (slK x x_2)=Zb QH (slK x x_3)/\3=3/\lR (spB (slK x x_2) (2+Za x_2.k)) (XZ (slK x x_2) (2+Za x_2.k))=lR (spB (slK x x_3) (2+Za x_3.k)) (XZ (slK x x_3) (2+Za x_3.k))/\3+Za x_2.k=3+Za x_3.k/\True)/\∀(x_3:SlX),SlJ x x_3/\x_3.i<=x_3.a.links.length/\x_3.k<=x_3.n->x_3.n+1-x_3.k=x_2.n+1-x_2.k->bif decide (Za x_3.i<Za x_3.a.links.length)then bif decide (Za x_3.i≥Za (lR (spB (slK x x_3) (2+Za x_3.k)) (XZ (slK x x_3) (2+Za x_3.k))).length)then K (AV.x false [Zm (Zg false)])else bif decide (Za x_3.i≥Za (lR 63 (slA x x_3)).length)then K (AV.x false [Zm (Zg false)])else(0<=Za x_3.i/\Za x_3.i<Za (lR (spB (slK x x_3) (3+Za x_3.k)) (XZ (slK x x_3) (3+Za x_3.k))).length)/\∃(q:Rat),∃(n:Nat),ldE (lR (spB (slK x x_3) (3+Za x_3.k)) (XZ (slK x x_3) (3+Za x_3.k))) (Za x_3.i).toNat 0 3=some [Zd q n]/\(0<=Za x_3.i/\Za x_3.i<Za (lR (spB (slK x x_3) (2+Za x_3.k)) (XZ (slK x x_3) (2+Za x_3.k))).length)/\∃(q_1:Rat),∃(n_1:Nat),ldE (lR (spB (slK x x_3) (2+Za x_3.k)) (XZ (slK x x_3) (2+Za x_3.k))) (Za x_3.i).toNat 0 3=some [Zd q_1 n_1]/\(0<=Za x_3.i/\Za x_3.i<Za (lR 63 (slA x x_3)).length)/\∃(q_2:Rat),∃(n_2:Nat),ldE (lR 63 (slA x x_3)) (Za x_3.i).toNat 0 3=some [Zd q_2 n_2]/\n+n_1+1<=4294967296/\n+n_1+1<=4294967296/\n+n_1+1+n_2<=4294967296/\bif decide (JS (Qf (q-q_1)) q_2>0)then K (AV.x false [Zm (Zg false)])else ∃(x':SlX),((SlJ x x'/\x'.i<=x'.a.links.length/\x'.k<=x'.n)/\x'.n+1-x'.k=x_2.n+1-x_2.k/\x'.a.links.length-x'.i<x_3.a.links.length-x_3.i)/\3=3/\lR (spB (slK x x_3) (3+Za x_3.k)) (XZ (slK x x_3) (3+Za x_3.k))=lR (spB (slK x x') (3+Za x'.k)) (XZ (slK x x') (3+Za x'.k))/\Za x_3.a.links.length=Za x'.a.links.length/\Zc.wrap (Za x_3.i+1)=Za x'.i/\3=3/\lR 63 (slA x x_3)=lR 63 (slA x x')/\2=2/\Zb QH (slK x x_3)=Zb QH (slK x x')/\3=3/\lR (spB (slK x x_3) (2+Za x_3.k)) (XZ (slK x x_3) (2+Za x_3.k))=lR (spB (slK x x') (2+Za x'.k)) (XZ (slK x x') (2+Za x'.k))/\3+Za x_3.k=3+Za x'.k/\True else ∃(x':SlX),(SlJ x x'/\OfNat.ofNat 0=0/\x'.n+1-x'.k<x_2.n+1-x_2.k)/\3=3/\lR 63 (slA x x_3)=lR 63 (slA x x')/\2=2/\Zb QH (slK x x_3)=Zb QH (slK x x')/\3=3/\lR (spB (slK x x_3) (3+Za x_3.k)) (XZ (slK x x_3) (3+Za x_3.k))=lR (spB (slK x x') (2+Za x'.k)) (XZ (slK x x') (2+Za x'.k))/\Zc.wrap (3+Za x_3.k+1)=3+Za x'.k/\True else K (AV.x false [Zm (Zg true)]))/\K (AV.x false [Zm (Zg true)]))) ?_
 simp only[Zx,R0,R1,Zh,R4];refine⟨l,rfl,hl,fun a hg=>⟨a,m,rfl,rfl,⟨hg,hm⟩,fun p fp lp=>⟨a,k,rfl,rfl,⟨hg,hk⟩,fun q fq lq=>⟨⟨⟨⟨a,p,q,0,0,0⟩,⟨⟨hg,lp,lq,fp,fq⟩,Yf _⟩,rfl,rfl,rfl,by rw[XE,lp],rfl,rfl,rfl,rfl,rfl,rfl,rfl,rfl⟩,fun x1 hx1=>QE (fun hi=> ?_) (fun hi=> ?_)⟩,fun x1 hx1=> ?_⟩⟩⟩⟩
 ·have hi:x1.i<x1.a.links.length:=by have:=R5 hi;omega
  have hgn:=hx1.1.good.n;have e:Zc.wrap (1+Zc.wrap (x+(x1.i:Int)) % 6)=1+Zc.wrap (x+(x1.i:Int)) % 6:=w64 (by omega);rw[e];refine⟨by omega,⟨by omega,by omega,by omega⟩,⟨by omega,by omega⟩,⟨x1.a,x1.p,x1.q,x1.n,x1.k,x1.i+1⟩,⟨⟨⟨hx1.1.good,hx1.1.lp,hx1.1.lq,hx1.1.fp,hx1.1.fq⟩,hi⟩,by simp only;omega⟩,rfl,rfl,rfl,rfl,by rw[w64 (by omega)];simp,rfl,rfl,rfl,rfl,rfl,rfl,.inl ?_⟩;rw[Zs (by rw[Ze,Vv];exact Zh _),QIQ,Yg];rfl
 ·have hi:x1.i=x1.a.links.length:=by have:=R6 hi;omega
  refine⟨x1,hx1.1,rfl,rfl,?_,rfl,rfl,rfl,rfl,rfl,rfl⟩;rw[Yh,Zs (by rw[Ze,Vv];exact Zh _),hi];rfl
 ·refine⟨x1.a,x1.p,x1.q,slA x x1,rfl,rfl,rfl,rfl,hx1.ok,fun n hn=> ?_,hK⟩;have hJ:SlJ x ⟨x1.a,x1.p,x1.q,n,0,0⟩:=⟨⟨hx1.good,hx1.lp,hx1.lq,hx1.fp,hx1.fq⟩,hn,Yf _⟩;have F:=hJ.f;have Fn:=F.n;have Fl:=F.len;have A:=QOU hx1.ok hn;have lo:(atR (slK x ⟨x1.a,x1.p,x1.q,n,0,0⟩) 3).1=x1.p:=A.low 3 (Int.le_refl _);have hh:(atR (slK x ⟨x1.a,x1.p,x1.q,n,0,0⟩) 2000).1=x1.q:=A.high 2000 (by simp only at Fn;omega);have hgn:=hx1.good.n;have hlp:=hx1.lp;have hlq:=hx1.lq;simp only at Fn Fl;refine QE (fun e=> ?_) (fun _=>⟨x1.a,slK x ⟨x1.a,x1.p,x1.q,n,0,0⟩,0,rfl,rfl,.inl ⟨F.trk,rfl⟩,QE (fun e=>by simp at e) (fun _=>⟨slK x ⟨x1.a,x1.p,x1.q,n,0,0⟩,_,_,rfl,⟨F.keys,⟨by omega,by simp only;omega,by omega,by omega⟩,by omega⟩,_,_,63,x1.p,rfl,rfl,⟨by rw[lo];omega,by omega⟩,QE (fun e=>by rw[lo]at e;simp at e) (fun _=>⟨slK x ⟨x1.a,x1.p,x1.q,n,0,0⟩,_,_,rfl,⟨F.keys,⟨by omega,by simp only;omega,by omega,by omega⟩,by omega⟩,_,_,63,x1.q,rfl,rfl,⟨by rw[hh];omega,by omega⟩,QE (fun e=>by rw[hh]at e;simp at e) (fun _=>⟨slK x ⟨x1.a,x1.p,x1.q,n,0,0⟩,_,_,rfl,⟨F.keys,⟨by omega,by simp only;omega,by omega,by omega⟩,by omega,by omega⟩,⟨⟨x1.a,x1.p,x1.q,n,0,0⟩,hJ,rfl,rfl,?_,rfl⟩,fun x2 hx2=> ?_⟩)⟩)⟩)⟩)
  ·rw[Ze,XU]at e;simp at e;omega
  ·show _=lR (spB _ (2+((0:Nat):Int))) (XZ _ (2+((0:Nat):Int)))
   rw[show(2:Int)+((0:Nat):Int)=2 from rfl];rfl
  ·clear hh lo A Fl Fn F hJ hn hlp hlq hgn;have F:=hx2.f;have Fn:=F.n;have hgn:=hx2.i.good.n;have e1:Zc.wrap (((x2.n+1:Nat):Int)-1)=((x2.n:Nat):Int):=by rw[w64 (by omega)];omega
   rw[Ze,F.len,e1,Zr];have hk:=hx2.k;refine⟨by omega,_,Ku (HC (Zh x2.n)),QE (fun hp=> ?_) (fun _=>hK)⟩;have hp:x2.k<=x2.n:=by have:=R5 hp;simp only at this;omega
   have hJ:SlJ x ⟨x2.a,x2.p,x2.q,x2.n,x2.k,0⟩:=⟨⟨hx2.i.good,hx2.i.lp,hx2.i.lq,hx2.i.fp,hx2.i.fq⟩,hx2.need,hk⟩;refine⟨slK x x2,_,_,rfl,⟨F.keys,⟨by omega,by omega,by rw[F.len];omega,by rw[F.len];omega⟩,by omega,by omega⟩,⟨⟨x2.a,x2.p,x2.q,x2.n,x2.k,0⟩,⟨⟨hJ,Yf _,hp⟩,rfl⟩,rfl,by rw[XE,F.sl],rfl,rfl,rfl,rfl,rfl⟩,fun x3 ⟨h3,hi3,hk3⟩ tie=>QE (fun hp=> ?_) (fun hp=> ?_)⟩
   ·have hp:x3.i<x3.a.links.length:=by have:=R5 hp;omega
    have F3:=h3.f;have k3:=h3.f.n;have g3:=h3.i.good.n;have b1:=F3.sb (3+(x3.k:Int));have b2:=F3.sb (2+(x3.k:Int));have hJ:SlJ x ⟨x3.a,x3.p,x3.q,x3.n,x3.k,x3.i+1⟩:=⟨⟨h3.i.good,h3.i.lp,h3.i.lq,h3.i.fp,h3.i.fq⟩,h3.need,h3.k⟩;have v1:=QLK h3.i.ok h3.need hp (k:=x3.k+1) (by omega);have v0:=QLK h3.i.ok h3.need hp (k:=x3.k) (by omega);have acc:=QQD h3.i.ok h3.need hp (k:=x3.k);rw[show(3:Int)+((x3.k+1:Nat):Int)-1=3+(x3.k:Int)by omega]at v1;rw[show(3:Int)+(x3.k:Int)-1=2+(x3.k:Int)by omega]at v0;have lc:(slA x x3).length=x3.a.links.length:=Vv;simp only[XE,F3.sl,lc,Zr];refine QE (fun e=>by have:=R5 e;omega) (fun _=>QE (fun e=>by have:=R5 e;omega) (fun _=>⟨by omega,_,_,Xd v1,by omega,_,_,Xd v0,by omega,_,_,Xd (getD_some (by omega)),by omega,by omega,by omega,QE (fun e=> ?_) (fun _=>⟨⟨x3.a,x3.p,x3.q,x3.n,x3.k,x3.i+1⟩,⟨⟨hJ,hp,hk3⟩,tie,by simp only;omega⟩,rfl,rfl,by rw[w64 (by omega)];simp,rfl,rfl,rfl,rfl⟩)⟩))
    have:=QKq.1 (R5 e);exact absurd acc (Rat.not_le.2 this)
   ·have hJ:SlJ x ⟨x3.a,x3.p,x3.q,x3.n,x3.k+1,0⟩:=⟨⟨h3.i.good,h3.i.lp,h3.i.lq,h3.i.fp,h3.i.fq⟩,h3.need,by simp only;omega⟩;have k3:=h3.f.n;refine⟨⟨x3.a,x3.p,x3.q,x3.n,x3.k+1,0⟩,⟨hJ,by simp only;omega⟩,rfl,rfl,?_,by rw[w64 (by omega)];simp only;omega⟩;show _=lR (spB _ (2+((x3.k+1:Nat):Int))) (XZ _ (2+((x3.k+1:Nat):Int)))
    rw[show(2:Int)+((x3.k+1:Nat):Int)=3+(x3.k:Int)by omega];rfl
theorem QLO (l m k:List Int)(x:Int)(hl:l.length<=9223372036854775807)(hm:m.length<=9223372036854775807)(hk:k.length<=9223372036854775807):Eng.Spec Tryd.prog QDC G9 5 [.x false [.s 1 (ints l)],.x false [.s 1 (ints m)],.x false [.s 1 (ints k)],iA .i64 x] (fun v=>v= .x false [.v (.bool true)]):=
 Qn (Qq QNh Vp XP) QW Tryd.func5 (by kernel_rfl) (by kernel_rfl) (by rfl) (QRT l m k x hl hm hk _ rfl)
end Go.Proofs
