/- Natural numbers: long division, plain facts. -/
import Derived.Test.YtfmgjnnkogpmmaaDoorN1
open Int renaming ofNat → Za, toNat_natCast → Zm, natCast_nonneg → Zx, ofNat_eq_natCast → Yg
open Go.IntKind renaming i64 → Zb, u64 → Zc, u32 → Zd
open Go.Value renaming int → Ze, string → Yu
open List renaming getD_eq_getElem?_getD → Zf, getElem?_eq_getElem → Zi, drop_eq_getElem_cons → Zo, drop_zero → Ya, drop_of_length_le → Yd, replicate → Yf, getElem?_take → Yk, take_append_of_le_length → Yp, drop_set_of_lt → Yq, getElem?_drop → Yr, getElem?_set → Ys, length_take → Yt, take_take → Xa, take → Xb
open Nat renaming mul_le_mul_right → Zg, mul_le_mul_left → Zh, pow_le_pow_right → Zj, mul_lt_mul_of_pos_right → Zk, mul_comm → Zl, div_lt_of_lt_mul → Zn, pow_pos → Zp, pow_succ → Zq, mod_lt → Zr, lt_of_le_of_lt → Zs, mod_eq_of_lt → Zt, add_zero → Zu, pow_add → Zv, lt_of_lt_of_le → Zw, mul_assoc → Zz, mul_add → Yb, eq_zero_or_pos → Yc, le_sub_one_of_lt → Ye, mul_zero → Yh, min_eq_left → Yi, div_add_mod → Yj, le_div_iff_mul_le → Yl, eq_of_beq_eq_true → Ym, div_eq_of_lt → Yn, add_mul → Yo, zero_add → Yv, add_comm → Yw, div_le_self → Yx, one_mul → Yy, le_refl → Yz
open Go.Eng.Ch renaming v → Zy
namespace Go.Proofs
open Go Go.Eng
theorem QBV {B m:Nat}{l:List Nat}(hm:m<=l.length):B^m*QF B (l.drop m)<=QF B l:=by
 rw[XN (B:=B) hm];omega
theorem QBW {B m:Nat}{l:List Nat}(hd:Dig B l)(hm:m<=l.length):QF B l<B^m*(QF B (l.drop m)+1):=by
 have:=YY (hd.take (i:=m));rw[Yt,Yi hm]at this;conv=>lhs;rw[XN (B:=B) hm]
 rw[Yb];omega
theorem GI {l:List Nat}{m:Nat}(h:l.length=m+1):l.drop m=[l.getD m 0]:=by
 rw[Zo (by omega),Yd (by omega)];simp[Zf,Zi (show m<l.length by omega)]
theorem QC4 {l:List Nat}{m:Nat}(h:l.length=m+2):l.drop m=[l.getD m 0,l.getD (m+1) 0]:=by
 rw[Zo (by omega),GI (m:=m+1) h];simp[Zf,Zi (show m<l.length by omega)]
theorem QEx {l:List Nat}{m:Nat}(h:l.length=m+3):l.drop m=[l.getD m 0,l.getD (m+1) 0,l.getD (m+2) 0]:=by
 rw[Zo (by omega),QC4 (m:=m+1) h];simp[Zf,Zi (show m<l.length by omega)]
theorem GJ {us:List Nat}{o n i:Nat}(hi:i<n):(win us o n).getD i 0=us.getD (o+i) 0:=by
 simp only[win,Zf,Yk,if_pos hi,Yr]
theorem QAb {B:Nat}{us w:List Nat}{o:Nat}(h:o+w.length<=us.length):QF B (spl us o w)=QF B (us.take o)+B^o*(QF B w+B^w.length*QF B (us.drop (o+w.length))):=by
 unfold spl;rw[JF,JF,Yt,Yi (by omega)]
theorem QAc {B:Nat}{us:List Nat}{o n:Nat}(h:o+n<=us.length):QF B us=QF B (us.take o)+B^o*(QF B (win us o n)+B^n*QF B (us.drop (o+n))):=by
 have:=QAb (B:=B) (us:=us) (w:=win us o n) (o:=o) (by rw[WQ h];exact h);rw[QBS h,WQ h]at this;exact this
structure QD (B:Nat)(V W v1 v2 top u3 n2:Nat):Prop where
  v_lo:(v1*B+v2)*B^n2<=V
  v_hi:V<(v1*B+v2+1)*B^n2
  w_lo:(top*B+u3)*B^n2<=W
  w_hi:W<(top*B+u3+1)*B^n2
  v1_lo:2147483648<=v1
  v1_hi:v1<B
  v2_hi:v2<B
  u3_hi:u3<B
  W_hi:W<V*B
  top_hi:top<=v1*B+(B-1)
theorem QD.pos {V W v1 v2 top u3 n2:Nat}(h:QD 4294967296 V W v1 v2 top u3 n2):0<V:=by
 have:=h.v_lo;have h1:0<(v1*4294967296+v2)*4294967296^n2:=Nat.mul_pos (by have:=h.v1_lo;omega) (Zp (by omega));omega
theorem QD.q_lt {V W v1 v2 top u3 n2:Nat}(h:QD 4294967296 V W v1 v2 top u3 n2):W/V<4294967296:=by
 apply Zn;exact h.W_hi
theorem QD.start {V W v1 v2 top u3 n2:Nat}(h:QD 4294967296 V W v1 v2 top u3 n2):W/V<=top/v1:=by
 refine QCn (B:=4294967296) (V:=V) (U:=W) (n1:=n2+1) ?_ ?_ (Nat.div_mul_le_self _ _) (by have:=h.v1_lo;omega)
 ·have:=h.v_lo;rw[Zq];rw[Yo]at this;have e:v1*(4294967296^n2*4294967296)=v1*4294967296*4294967296^n2:=by grind
  omega
 ·have:=h.w_hi;rw[Zq];have e:(top+1)*(4294967296^n2*4294967296)=(top*4294967296+4294967296)*4294967296^n2:=by grind
  rw[e];exact Zw this (Zg _ (by have:=h.u3_hi;omega))
theorem QD.step {V W v1 v2 top u3 n2 d r:Nat}(h:QD 4294967296 V W v1 v2 top u3 n2)(hs:d*v1+r=top)(hd:4294967296<=d∨r*4294967296+u3<d*v2):W/V<d:=by
 rcases hd with hd | hd
 ·have:=h.q_lt;omega
 ·exact QEe (B:=4294967296) (V:=V) (U:=W) h.v_lo h.w_hi (Nat.div_mul_le_self _ _) hs hd
theorem QD.fin {V W v1 v2 top u3 n2 d r:Nat}(h:QD 4294967296 V W v1 v2 top u3 n2)(hs:d*v1+r=top)(hd:d<4294967296)(ht:d*v2<=r*4294967296+u3):d<=W/V+1:=by
 have h1:=QHQ (B:=4294967296) (V:=V) (U:=W) (n2:=n2) h.v_hi h.w_lo hs ht (by have:=h.v1_lo;omega);have:=(Yl h.pos).2 h1;omega
theorem QD.brk {V W v1 v2 top u3 n2 d r:Nat}(h:QD 4294967296 V W v1 v2 top u3 n2)(hs:d*v1+r=top)(hr:4294967296<=r):d<4294967296/\d*v2<=r*4294967296+u3:=by
  have h1:=h.top_hi;have hd:d<4294967296:=by
    rcases Nat.lt_or_ge d 4294967296 with h' | h'
    · exact h'
    · have:4294967296*v1<=d*v1:=Zg _ h';omega
  refine⟨hd,?_⟩;have h2:=h.v2_hi;have:d*v2<=4294967296*4294967296:=Nat.mul_le_mul (by omega) (by omega);have:4294967296*4294967296<=r*4294967296:=Zg _ hr;omega
end Go.Proofs
namespace Go.Proofs
open Go Go.Eng
structure Qz where
 xs:List Nat
 ys:List Nat
 s:Nat
def Qz.n (c:Qz):Nat:=c.ys.length
def Qz.Q (c:Qz):Nat:=c.xs.length+1-c.ys.length
def Qz.V (c:Qz):Nat:=QF 4294967296 c.ys*2^c.s
def Qz.vs (c:Qz):List Nat:=fd 4294967296 (c.ys.length+1) (QF 4294967296 c.ys*2^c.s)
def Qz.U (c:Qz):Nat:=QF 4294967296 c.xs*2^c.s
def Qz.v1 (c:Qz):Nat:=c.vs.getD (c.n-1) 0
def Qz.v2 (c:Qz):Nat:=c.vs.getD (c.n-2) 0
structure Qu where
 us:List Nat
 qs:List Nat
 j:Nat
structure XR (c:Qz)(x:Qu):Prop where
 du:Dig 4294967296 x.us
 lu:x.us.length=c.xs.length+1
 dq:Dig 4294967296 x.qs
 lq:x.qs.length=c.Q
 hj:x.j<=c.Q
 sum:c.U=c.V*4294967296^x.j*QF 4294967296 (x.qs.drop x.j)+QF 4294967296 x.us
 lt:QF 4294967296 x.us<c.V*4294967296^x.j
def Qu.W (c:Qz)(x:Qu):Nat:=QF 4294967296 (win x.us (x.j-1) (c.n+1))
def Qu.top (c:Qz)(x:Qu):Nat:=x.us.getD (x.j-1+c.n) 0*4294967296+x.us.getD (x.j-1+c.n-1) 0
def Qu.u3 (c:Qz)(x:Qu):Nat:=x.us.getD (x.j-1+c.n-2) 0
structure GK (c:Qz)(x:Qu)(d r:Nat):Prop where
 main:XR c x
 jp:0<x.j
 sum:d*c.v1+r=x.top c
 ge:x.W c/c.V<=d
 rlt:r<4294967296
def QF8 (c:Qz)(j:Nat):List (Nat×AV):=[(4,wA 36 c.Q),(6,iA .i64 c.s),(7,iA .i64 c.n),(8,wA 26 (c.xs.length+1)),(9,wA 29 c.n),(10,iA .i64 ((j:Int)-1))]
def QF9 (c:Qz)(us qs:List Nat):List (Nat×Blk):=[(1000,Qr c.xs),(1001,Qr c.ys),(26,Qr us),(29,Qr c.vs),(36,Qr qs)]
structure Wv (c:Qz)(us:List Nat)(x:List Nat×Nat):Prop where
 dw:Dig 4294967296 x.1
 lw:x.1.length=c.xs.length+1
 hi:x.2<=c.n
 rest:x.1.drop x.2=us.drop x.2
 inv:QF 4294967296 (x.1.take x.2)*2^c.s+us.getD 0 0 % 2^c.s=QF 4294967296 (us.take x.2)+4294967296^x.2*(us.getD x.2 0 % 2^c.s)
structure Vi (c:Qz)(x:Qu):Prop where
 main:XR c x
 j0:x.j=0
structure US where
 x:Qu
 wd:List Nat
 i:Nat
structure GL (c:Qz)(y:US):Prop where
 main:Vi c y.x
 sh:Wv c y.x.us (y.wd,y.i)
def QJa (c:Qz):LI:=fun id=>bif id.beq 6 then .inv ⟨Qu,fun x=>⟨QF8 c x.j,QF9 c x.us x.qs⟩,XR c,fun x=>x.j,fun _=>0⟩
 else bif id.beq 10 then .inv ⟨Qu×Nat×Nat,fun x=>⟨(12,iA .u64 x.2.1)::(13,iA .u64 x.2.2)::QF8 c x.1.j,QF9 c x.1.us x.1.qs⟩,fun x=>GK c x.1 x.2.1 x.2.2,fun x=>x.2.1,fun x=>x.1.j⟩
 else bif id.beq 14 then .cut ⟨Qu×Nat,fun x=>⟨(12,iA .u64 x.2)::QF8 c x.1.j,QF9 c x.1.us x.1.qs⟩,fun x=>XR c x.1/\0<x.1.j/\x.2<4294967296/\x.1.W c/c.V<=x.2/\x.2<=x.1.W c/c.V+1,fun _=>0,fun x=>x.1.j⟩
 else bif id.beq 17 then .cut ⟨Qu,fun x=>⟨(12,iA .u64 (x.W c/c.V:Nat))::QF8 c x.j,QF9 c (spl x.us (x.j-1) (fd 4294967296 (c.n+1) (x.W c % c.V))) x.qs⟩,fun x=>XR c x/\0<x.j,fun _=>0,fun x=>x.j⟩
 else .inv ⟨US,fun y=>⟨[(4,wA 36 c.Q),(5,wA 26 c.n),(6,iA .i64 c.s),(7,iA .i64 c.n),(8,wA 26 (c.xs.length+1)),(145,iA .i64 c.n),(146,iA .i64 y.i)],[(1000,Qr c.xs),(1001,Qr c.ys),(26,Qr y.wd),(36,Qr y.x.qs)]⟩,GL c,fun y=>c.n-y.i,fun _=>0⟩
structure Xz (c:Qz):Prop where
  dx:Dig 4294967296 c.xs
  dy:Dig 4294967296 c.ys
  n2:2<=c.ys.length
  nx:c.ys.length<=c.xs.length
  lx:c.xs.length<=1099511627776
  s32:c.s<32
  lo:2147483648<=c.ys.getD (c.ys.length-1) 0*2^c.s
  hi:c.ys.getD (c.ys.length-1) 0*2^c.s<4294967296
variable {c:Qz}
theorem Xz.pow (h:Xz c): ∃p q,2^c.s=p/\2^(32-c.s)=q/\p*q=4294967296/\0<p/\0<q:=by
 have:=h.s32;exact⟨_,_,rfl,rfl,by rw[<-Zv,show c.s+(32-c.s)=32 by omega],Zp (by omega),Zp (by omega)⟩
theorem Xz.top (h:Xz c):c.V<4294967296^c.n/\2147483648*4294967296^(c.n-1)<=c.V:=by
 have hn:=h.n2;have d1:=GI (l:=c.ys) (m:=c.ys.length-1) (by omega);have l1:=QBV (B:=4294967296) (l:=c.ys) (m:=c.ys.length-1) (by omega);have l2:=QBW (l:=c.ys) (m:=c.ys.length-1) h.dy (by omega);rw[d1]at l1 l2;simp only[QF,Yh,Zu]at l1 l2;have lo:=h.lo;have hi:=h.hi;obtain⟨p,q,hp,hq,hpq,hp0,hq0⟩:=h.pow;rw[hp]at lo hi;unfold Qz.V Qz.n;rw[hp];generalize c.ys.getD (c.ys.length-1) 0=t at lo hi l1 l2;have e:(4294967296:Nat)^c.ys.length=4294967296^(c.ys.length-1)*4294967296:=by rw[<-Zq];congr 1;omega
 rw[e];generalize (4294967296:Nat)^(c.ys.length-1)=m at l1 l2;have ht:(t+1)*p<=4294967296:=by
  have:t<q:=by
   rw[<-hpq,Zl p q]at hi;exact Nat.lt_of_mul_lt_mul_right hi
  rw[<-hpq,Zl p q];exact Zg _ this
 constructor
 ·have h1:QF 4294967296 c.ys*p<m*(t+1)*p:=Zk l2 hp0;have h2:m*(t+1)*p<=m*4294967296:=by rw[Zz];exact Zh _ ht
  omega
 ·have h1:m*t*p<=QF 4294967296 c.ys*p:=Zg _ l1;have h2:2147483648*m<=m*t*p:=by rw[Zz,Zl];exact Zh _ lo
  omega
theorem Xz.vs (h:Xz c):Dig 4294967296 c.vs/\c.vs.length=c.n+1/\QF 4294967296 (c.vs.take c.n)=c.V:=by
 have hlt:=h.top.1;have h1:c.V<4294967296^(c.n+1):=Zw hlt (Zj (by omega) (by omega));have hl:c.vs.length=c.n+1:=Qj;have hv:QF 4294967296 c.vs=c.V:=Qt h1;refine⟨Dig.fd (by omega),hl,?_⟩;have d1:=GI (l:=c.vs) (m:=c.n) hl;have sp:=XN (B:=4294967296) (l:=c.vs) (i:=c.n) (by omega);rw[d1,hv]at sp;simp only[QF,Yh,Zu]at sp;have:c.vs.getD c.n 0=0:=by
  rcases Yc (c.vs.getD c.n 0)with h' | h'
  ·exact h'
  ·have:4294967296^c.n*1<=4294967296^c.n*c.vs.getD c.n 0:=Zh _ h';omega
 rw[this]at sp;omega
theorem Xz.pos (h:Xz c):0<c.V:=by
 have:=h.top.2;have h1:0<2147483648*4294967296^(c.n-1):=Nat.mul_pos (by omega) (Zp (by omega));omega
theorem XR.W_lt (hc:Xz c){x:Qu}(h:XR c x)(hj:0<x.j):x.W c<c.V*4294967296/\QF 4294967296 (x.us.drop (x.j-1+(c.n+1)))=0:=by
 have hlu:=h.lu;have hjq:=h.hj;have hn:=hc.n2;have hnx:=hc.nx;have ho:x.j-1+(c.n+1)<=x.us.length:=by unfold Qz.Q at hjq;unfold Qz.n;omega
 have sp:=QAc (B:=4294967296) ho;have lt:=h.lt;have hj':4294967296^x.j=4294967296^(x.j-1)*4294967296:=by rw[<-Zq];congr 1;omega
 rw[hj']at lt;show QF 4294967296 (win x.us (x.j-1) (c.n+1))<_/\_
 generalize (4294967296:Nat)^(x.j-1)=m at sp lt;have hm:QF 4294967296 x.us<m*(c.V*4294967296):=by
  have:c.V*(m*4294967296)=m*(c.V*4294967296):=by grind
  omega
 have h1:QF 4294967296 (win x.us (x.j-1) (c.n+1))+4294967296^(c.n+1)*QF 4294967296 (x.us.drop (x.j-1+(c.n+1)))<c.V*4294967296:=by
  have:m*(QF 4294967296 (win x.us (x.j-1) (c.n+1))+4294967296^(c.n+1)*QF 4294967296 (x.us.drop (x.j-1+(c.n+1))))<m*(c.V*4294967296):=by omega
  exact Nat.lt_of_mul_lt_mul_left this
 refine⟨by omega,?_⟩;rcases Yc (QF 4294967296 (x.us.drop (x.j-1+(c.n+1))))with h' | h'
 ·exact h'
 ·have h2:4294967296^(c.n+1)*1<=4294967296^(c.n+1)*QF 4294967296 (x.us.drop (x.j-1+(c.n+1))):=Zh _ h';have h3:c.V*4294967296<4294967296^(c.n+1):=by rw[Zq];exact Zk hc.top.1 (by omega)
  omega
theorem XR.qd (hc:Xz c){x:Qu}(h:XR c x)(hj:0<x.j):QD 4294967296 c.V (x.W c) c.v1 c.v2 (x.top c) (x.u3 c) (c.n-2):=by
 have hlu:=h.lu;have hjq:=h.hj;have hn:2<=c.n:=hc.n2;have hnx:=hc.nx;have ho:x.j-1+(c.n+1)<=x.us.length:=by unfold Qz.Q at hjq;unfold Qz.n;omega
 obtain⟨dv,lv,vv⟩:=hc.vs;have hB:(0:Nat)<4294967296:=by omega
 -- the divisor
 have lvt:(c.vs.take c.n).length=c.n:=by simp;omega
 have d2:=QC4 (l:=c.vs.take c.n) (m:=c.n-2) (by omega);have g1:(c.vs.take c.n).getD (c.n-2) 0=c.v2:=by unfold Qz.v2;simp only[Zf,Yk];rw[if_pos (by omega)]
 have g2:(c.vs.take c.n).getD (c.n-2+1) 0=c.v1:=by unfold Qz.v1;simp only[Zf,Yk];rw[if_pos (by omega),show c.n-2+1=c.n-1 by omega]
 have l1:=QBV (B:=4294967296) (l:=c.vs.take c.n) (m:=c.n-2) (by omega);have l2:=QBW (l:=c.vs.take c.n) (m:=c.n-2) dv.take (by omega);rw[d2,g1,g2,vv]at l1 l2;simp only[QF,Yh,Zu]at l1 l2;-- the window
 have lw:=WQ ho;have dw:Dig 4294967296 (win x.us (x.j-1) (c.n+1)):=JY h.du;have d3:=QEx (l:=win x.us (x.j-1) (c.n+1)) (m:=c.n-2) (by omega);rw[GJ (by omega),GJ (by omega),GJ (by omega)]at d3;have k1:=QBV (B:=4294967296) (l:=win x.us (x.j-1) (c.n+1)) (m:=c.n-2) (by omega);have k2:=QBW (l:=win x.us (x.j-1) (c.n+1)) (m:=c.n-2) dw (by omega);rw[d3]at k1 k2;simp only[QF,Yh,Zu]at k1 k2;have e1:x.top c=x.us.getD (x.j-1+(c.n-2)+2) 0*4294967296+x.us.getD (x.j-1+(c.n-2)+1) 0:=by
  unfold Qu.top;rw[show x.j-1+c.n-1=x.j-1+(c.n-2)+1 by omega,show x.j-1+c.n=x.j-1+(c.n-2)+2 by omega]
 have e2:x.u3 c=x.us.getD (x.j-1+(c.n-2)) 0:=by
  unfold Qu.u3;rw[show x.j-1+c.n-2=x.j-1+(c.n-2)by omega]
 have b1:=h.du.getD (i:=x.j-1+(c.n-2)) hB;have b2:=h.du.getD (i:=x.j-1+(c.n-2)+1) hB;have W1:=(h.W_lt hc hj).1;have hW:QF 4294967296 (win x.us (x.j-1) (c.n+1))=x.W c:=rfl;rw[hW]at k1 k2;have a1:x.j-1+(c.n-2+1)=x.j-1+(c.n-2)+1:=rfl;have a2:x.j-1+(c.n-2+2)=x.j-1+(c.n-2)+2:=rfl;rw[a1,a2]at k1 k2;have v1lo:2147483648<=c.v1:=by
  have ht:=hc.top.2;have e:(4294967296:Nat)^(c.n-1)=4294967296^(c.n-2)*4294967296:=by rw[<-Zq];congr 1;omega
  rw[e]at ht;have h3:4294967296^(c.n-2)*(2147483648*4294967296)<4294967296^(c.n-2)*(c.v2+4294967296*c.v1+1):=by
   have:2147483648*(4294967296^(c.n-2)*4294967296)=4294967296^(c.n-2)*(2147483648*4294967296):=by grind
   omega
  have h4:=Nat.lt_of_mul_lt_mul_left h3;have:c.v2<4294967296:=dv.getD hB;omega
 have v2hi:c.v2<4294967296:=dv.getD hB;have v1hi:c.v1<4294967296:=dv.getD hB;rw[Zl]at l1 l2 k1 k2;generalize x.us.getD (x.j-1+(c.n-2)+2) 0=w3 at e1 k1 k2;generalize x.us.getD (x.j-1+(c.n-2)+1) 0=w2 at e1 k1 k2 b2;generalize x.us.getD (x.j-1+(c.n-2)) 0=w1 at e2 k1 k2 b1;rw[e1,e2];have m1:(w3*4294967296+w2)*4294967296+w1=w1+4294967296*(w2+4294967296*w3):=by omega
 have m2:c.v1*4294967296+c.v2=c.v2+4294967296*c.v1:=by rw[Yw,Zl]
 refine⟨by rw[m2];exact l1,by rw[m2];exact l2,by rw[m1];exact k1,by rw[m1];exact k2,v1lo,v1hi,v2hi,b1,W1,?_⟩;-- the first digit
 have h5:(w1+4294967296*(w2+4294967296*w3))*4294967296^(c.n-2)<(c.v2+4294967296*c.v1+1)*4294967296^(c.n-2)*4294967296:=by
  have:c.V*4294967296<(c.v2+4294967296*c.v1+1)*4294967296^(c.n-2)*4294967296:=Zk l2 (by omega);omega
 have h6:(w1+4294967296*(w2+4294967296*w3))<(c.v2+4294967296*c.v1+1)*4294967296:=by
  have:(c.v2+4294967296*c.v1+1)*4294967296^(c.n-2)*4294967296=(c.v2+4294967296*c.v1+1)*4294967296*4294967296^(c.n-2):=by grind
  rw[this]at h5;exact Nat.lt_of_mul_lt_mul_right h5
 omega
theorem XR.init (hc:Xz c):XR c ⟨fd 4294967296 (c.xs.length+1) (QF 4294967296 c.xs*2^c.s),Yf c.Q 0,c.Q⟩:=by
 obtain⟨p,q,hp,hq,hpq,hp0,hq0⟩:=hc.pow;have hx:=YY hc.dx;have hple:p<=4294967296:=by rw[<-hpq];exact Nat.le_mul_of_pos_right _ hq0
 have hlt:QF 4294967296 c.xs*2^c.s<4294967296^(c.xs.length+1):=by
  rw[hp,Zq];exact Zw (Zk hx hp0) (Zh _ hple)
 have hv:QF 4294967296 (fd 4294967296 (c.xs.length+1) (QF 4294967296 c.xs*2^c.s))=c.U:=Qt hlt;refine⟨Dig.fd (by omega),Qj,Dig.zeros (by omega),by simp,Yz _,?_,?_⟩
 ·simp only;rw[hv,Yd (by simp)];simp[QF]
 ·simp only;rw[hv];have ht:=hc.top.2;have hnx:=hc.nx;have hn:=hc.n2;have e:(4294967296:Nat)^(c.xs.length+1)=4294967296^(c.n-1)*4294967296^c.Q*4294967296:=by
   rw[<-Zv,<-Zq];congr 1;unfold Qz.n Qz.Q;omega
  have hU:c.U<4294967296^c.xs.length*p:=by
   show QF 4294967296 c.xs*2^c.s<_
   rw[hp];exact Zk hx hp0
  have hp31:p<=2147483648:=by
   rw[<-hp];exact Zj (by omega) (show c.s<=31 by have:=hc.s32;omega)
  have e2:(4294967296:Nat)^c.xs.length=4294967296^(c.n-1)*4294967296^c.Q:=by
   rw[<-Zv];congr 1;unfold Qz.n Qz.Q;omega
  have h3:2147483648*4294967296^(c.n-1)*4294967296^c.Q<=c.V*4294967296^c.Q:=Zg _ ht;have h4:4294967296^c.xs.length*p<=4294967296^(c.n-1)*4294967296^c.Q*2147483648:=by rw[e2];exact Zh _ hp31
  have h5:2147483648*4294967296^(c.n-1)*4294967296^c.Q=4294967296^(c.n-1)*4294967296^c.Q*2147483648:=by grind
  omega
theorem QJb {U V m B q t w d r:Nat}(h:U=V*(m*B)*q+(t+m*w))(hw:V*d+r=w):U=V*m*(d+B*q)+(t+m*r):=by
 subst hw;grind
theorem QMN {U V P Q S m B t W:Nat}(h0:U=V*P*Q+S)(e:P=m*B)(v0:S=t+m*W):U=V*(m*B)*Q+(t+m*W):=by
 subst e v0;exact h0
theorem VN (B d:Nat)(l:List Nat):QF B (d::l)=d+B*QF B l:=rfl
theorem QMO {V m t r:Nat}(ht:t<m)(hr:r<V):t+m*r<V*m:=by
 have h1:m*(r+1)<=m*V:=Zh _ hr;rw[Yb,Nat.mul_one]at h1;rw[Zl V];omega
theorem QJc {S t m w p z:Nat}(h:S=t+m*(w+p*z))(hz:z=0):S=t+m*w:=by
 subst hz;rw[Yh,Zu]at h;exact h
theorem XR.split (hc:Xz c){x:Qu}(h:XR c x)(hj:0<x.j):QF 4294967296 x.us=QF 4294967296 (x.us.take (x.j-1))+4294967296^(x.j-1)*x.W c:=by
 have hlu:=h.lu;have hjq:=h.hj;have hn:2<=c.n:=hc.n2;have hnx:=hc.nx;have ho:x.j-1+(c.n+1)<=x.us.length:=by unfold Qz.Q at hjq;unfold Qz.n;omega
 obtain⟨_,hz⟩:=h.W_lt hc hj;exact QJc (QAc (B:=4294967296) ho) hz
theorem XR.next (hc:Xz c){x:Qu}(h:XR c x)(hj:0<x.j):XR c ⟨spl x.us (x.j-1) (fd 4294967296 (c.n+1) (x.W c % c.V)),x.qs.set (x.j-1) (x.W c/c.V),x.j-1⟩:=by
 have hlu:=h.lu;have hjq:=h.hj;have hn:2<=c.n:=hc.n2;have hnx:=hc.nx;have ho:x.j-1+(c.n+1)<=x.us.length:=by unfold Qz.Q at hjq;unfold Qz.n;omega
 have hq:=(h.qd hc hj).q_lt;obtain⟨_,hz⟩:=h.W_lt hc hj;have hVp:=hc.pos;have hmod:x.W c % c.V<c.V:=Zr _ hVp;have hmlt:x.W c % c.V<4294967296^(c.n+1):=Nat.lt_trans hmod (Zw hc.top.1 (Zj (by omega) (by omega)));have lf:(fd 4294967296 (c.n+1) (x.W c % c.V)).length=c.n+1:=Qj;have vf:QF 4294967296 (fd 4294967296 (c.n+1) (x.W c % c.V))=x.W c % c.V:=Qt hmlt;have lsp:(spl x.us (x.j-1) (fd 4294967296 (c.n+1) (x.W c % c.V))).length=x.us.length:=Kr (by rw[lf];exact ho);have v1:=QAb (B:=4294967296) (us:=x.us) (w:=fd 4294967296 (c.n+1) (x.W c % c.V)) (o:=x.j-1) (by rw[lf];exact ho);rw[lf,vf]at v1
 replace v1:=QJc v1 hz;have v0:=h.split hc hj;have lt0:=YY (h.du.take (i:=x.j-1));rw[Yt,Yi (by omega)]at lt0;have lq:=h.lq;have gq:(x.qs.set (x.j-1) (x.W c/c.V)).drop (x.j-1)=x.W c/c.V::x.qs.drop x.j:=by
  rw[Zo (by simp;omega),List.getElem_set_self,Yq (by omega),show x.j-1+1=x.j by omega]
 have hdm:=Yj (x.W c) c.V;have e1:QF 4294967296 ((x.qs.set (x.j-1) (x.W c/c.V)).drop (x.j-1))=x.W c/c.V+4294967296*QF 4294967296 (x.qs.drop x.j):=(congrArg (QF 4294967296) gq).trans (VN _ _ _);have e:(4294967296:Nat)^x.j=4294967296^(x.j-1)*4294967296:=by rw[<-Zq];congr 1;omega
 have hsum:=QMN h.sum e v0;have hdig:Dig 4294967296 (spl x.us (x.j-1) (fd 4294967296 (c.n+1) (x.W c % c.V))):=by
  simp only[spl];exact h.du.take.append ((Dig.fd (by omega)).append h.du.drop)
 exact⟨hdig,lsp.trans hlu,h.dq.set hq,by simpa using lq,Nat.le_trans (Nat.sub_le _ _) hjq,
  (QJb hsum hdm).trans (congr (congrArg HAdd.hAdd (congrArg (c.V*4294967296^(x.j-1)* ·) e1.symm)) v1.symm),Zs (Nat.le_of_eq v1) (QMO lt0 hmod)⟩
theorem Vi.res (hc:Xz c){x:Qu}(h:Vi c x):QF 4294967296 x.qs=QF 4294967296 c.xs/QF 4294967296 c.ys/\QF 4294967296 x.us/2^c.s=QF 4294967296 c.xs % QF 4294967296 c.ys/\QF 4294967296 x.us<c.V:=by
 obtain⟨hm,hj⟩:=h;have hs:=hm.sum;have hl:=hm.lt;rw[hj,Nat.pow_zero,Nat.mul_one]at hs hl;simp only[Ya]at hs;have hVp:=hc.pos;obtain⟨p,q,hp,hq,hpq,hp0,hq0⟩:=hc.pow;unfold Qz.U at hs;have hV:c.V=QF 4294967296 c.ys*p:=by unfold Qz.V;rw[hp]
 rw[hp]at hs⊢;generalize QF 4294967296 c.xs=X at hs⊢;have hY:0<QF 4294967296 c.ys:=by
  rcases Yc (QF 4294967296 c.ys)with h' | h'
  ·rw[h',Nat.zero_mul]at hV;omega
  ·exact h'
 have e1:QF 4294967296 x.qs=X*p/c.V:=by
  rw[hs,Zl,Yw,Nat.add_mul_div_right _ _ hVp,Yn hl,Yv]
 have e2:QF 4294967296 x.us=X*p % c.V:=by
  rw[hs,Zl,Yw,Nat.add_mul_mod_self_right,Zt hl]
 refine⟨?_,?_,hl⟩
 ·rw[e1,hV,Nat.mul_div_mul_right _ _ hp0]
 ·rw[e2,hV,Nat.mul_mod_mul_right,Nat.mul_div_cancel _ hp0]
theorem Wv.init (_hc:Xz c){x:Qu}(h:XR c x):Wv c x.us (x.us,0):=
 ⟨h.du,h.lu,by simp,rfl,by simp[QF]⟩
theorem Wv.step (hc:Xz c){us:List Nat}(du:Dig 4294967296 us)(lu:us.length=c.xs.length+1){wd:List Nat}{i:Nat}(h:Wv c us (wd,i))(hi:i<c.n):Wv c us (wd.set i (us.getD i 0/2^c.s+us.getD (i+1) 0 % 2^c.s*2^(32-c.s)),i+1):=by
 obtain⟨dw,lw,_,rest,inv⟩:=h;simp only at dw lw rest inv;have hnx:=hc.nx;obtain⟨p,q,hp,hq,hpq,hp0,hq0⟩:=hc.pow;have b1:=du.getD (i:=i) (by omega);have hil:i<us.length:=by unfold Qz.n at hi;omega
 have gu:us[i]? =some (us.getD i 0):=by rw[Zf,Zi hil];rfl
 rw[hp]at inv⊢;rw[hq];have h1:us.getD i 0/p<q:=by
  apply Zn;rw[hpq];exact b1
 have h2:us.getD (i+1) 0 % p<p:=Zr _ hp0;have hv:us.getD i 0/p+us.getD (i+1) 0 % p*q<4294967296:=by
  have:(us.getD (i+1) 0 % p+1)*q<=p*q:=Zg _ h2;rw[hpq,Yo,Yy]at this;omega
 have gz:(wd.set i (us.getD i 0/p+us.getD (i+1) 0 % p*q))[i]? =some (us.getD i 0/p+us.getD (i+1) 0 % p*q):=by rw[Ys];simp;omega
 refine⟨dw.set hv,by simpa using lw,hi,?_,?_⟩
 ·simp only;rw[Yq (by omega)];have:=congrArg (List.drop 1) rest;rwa [List.drop_drop,List.drop_drop]at this
 ·simp only;rw[hp,QS gz,XM,QS gu,Zq,Yo];generalize us.getD i 0=u at inv b1 h1⊢;generalize us.getD (i+1) 0=u' at h2⊢;generalize (4294967296:Nat)^i=m at inv⊢;have e1:(u/p+u' % p*q)*p=(u-u % p)+u' % p*4294967296:=by
   rw[Yo,Zz,Zl q p,hpq];have:=Yj u p;rw[Zl]at this;omega
  have hle:u % p<=u:=Nat.mod_le _ _;have e2:m*(u/p+u' % p*q)*p=m*(u-u % p)+m*4294967296*(u' % p):=by
   rw[Zz,e1,Yb,Zz,Zl 4294967296]
  have e3:m*(u-u % p)+m*(u % p)=m*u:=by rw[<-Yb];congr 1;omega
  omega
theorem Wv.fin (hc:Xz c){x:Qu}(hx:Vi c x){wd:List Nat}(h:Wv c x.us (wd,c.n)):wd=fd 4294967296 (c.xs.length+1) (QF 4294967296 c.xs % QF 4294967296 c.ys):=by
 obtain⟨r1,r2,r3⟩:=hx.res hc;obtain⟨dw,lw,_,rest,inv⟩:=h;simp only at dw lw rest inv;have hnx:=hc.nx;have hlu:=hx.main.lu;have hVn:=hc.top.1;obtain⟨p,q,hp,hq,hpq,hp0,hq0⟩:=hc.pow;have hnl:c.n<=x.us.length:=by unfold Qz.n;omega
 have sp:=XN (B:=4294967296) (l:=x.us) (i:=c.n) hnl;have hz:QF 4294967296 (x.us.drop c.n)=0:=by
  rcases Yc (QF 4294967296 (x.us.drop c.n))with h' | h'
  ·exact h'
  ·have:4294967296^c.n*1<=4294967296^c.n*QF 4294967296 (x.us.drop c.n):=Zh _ h';omega
 rw[hz,Yh,Zu]at sp;have hun:x.us.getD c.n 0=0:=by
  cases hg:x.us[c.n]? with
  | none=>simp[Zf,hg]
  | some d=>
   have hg':(x.us.drop c.n)[0]? =some d:=by simpa using hg
   have:=W0 (B:=4294967296) hg';rw[hz]at this;rw[X9 hg];omega
 rw[hun,Nat.zero_mod,Yh,Zu,<-sp,hp]at inv;rw[hp]at r2;have hmod:x.us.getD 0 0 % p<p:=Zr _ hp0;have hval:QF 4294967296 (wd.take c.n)=QF 4294967296 c.xs % QF 4294967296 c.ys:=by
  rw[<-r2,<-inv,Zl,Nat.mul_add_div hp0,Yn hmod,Zu]
 have hw:QF 4294967296 wd=QF 4294967296 c.xs % QF 4294967296 c.ys:=by
  rw[XN (B:=4294967296) (l:=wd) (i:=c.n) (by omega),rest,hz,hval];simp
 rw[<-hw,<-lw,We dw (by omega)]
theorem Vi.q (hc:Xz c){x:Qu}(hx:Vi c x):x.qs=fd 4294967296 c.Q (QF 4294967296 c.xs/QF 4294967296 c.ys):=by
 rw[<-(hx.res hc).1,<-hx.main.lq,We hx.main.dq (by omega)]
theorem QEy {t r s:Nat}(h:K9 t r)(lo:2147483648<=t*2^s)(hi:t*2^s<4294967296):32-r=s:=by
 obtain⟨_,h1,h2⟩:=h;have hp:0<2^s:=Zp (by omega);have a1:2^31<2^(r+s):=by
  rw[Zv];exact Zs (show 2^31<=t*2^s from lo) (Zk h1 hp)
 have b1:=(Nat.pow_lt_pow_iff_right (by omega)).1 a1;rcases h2 with h2 | ⟨h2,h3⟩
 ·subst h2;omega
 ·have a2:2^(r-1+s)<2^32:=by
   rw[Zv];exact Zs (Zg _ h3) (show t*2^s<2^32 from hi)
  have b2:=(Nat.pow_lt_pow_iff_right (by omega)).1 a2;omega
theorem Xt {ds:List Nat}{i:Nat}(h:i<ds.length):ldE (W ds) i 0 1=some [.v (.int .u32 ((ds.getD i 0:Nat):Int))]:=X8 (by rw[Zf,Zi h];rfl)
theorem QJd {a b:Nat}(ha:a<4294967296)(hb:b<4294967296):orI .u64 (Xh .u64 (Zc.wrap (a:Int)) 32) (Zc.wrap (b:Int))=((a*4294967296+b:Nat):Int):=by
 have e1:Xh .u64 (Zc.wrap (a:Int)) 32=((2^32*a:Nat):Int):=by
  rw[XV (by omega),KU (by decide)];rw[show(a:Int)*2^(32:Int).toNat=((2^32*a:Nat):Int)by simp only[show(32:Int).toNat=32 from rfl];omega];exact XV (by omega)
 rw[e1,XV (n:=(b:Int)) (by omega),Ve (s:=32) (by omega) (by omega)];congr 1;omega
theorem QJe {W V P d:Nat}(hV:0<V)(hW:W<P)(h: ¬W<d*V)(hge:W/V<=d):d=W/V/\(W+P-d*V) % P=W % V:=by
 have h1:d<=W/V:=(Yl hV).2 (by omega);have hd:d=W/V:=by omega
 refine⟨hd,?_⟩;have:=Yj W V;rw[Zl,<-hd]at this;rw[show W+P-d*V=W % V+P by omega,Nat.add_mod_right,Zt (Zs (Nat.mod_le _ _) hW)]
theorem QMP {W V P d:Nat}(hV:0<V)(hVP:V<=P)(_hW:W<P)(h:W<d*V)(hle:d<=W/V+1):d=W/V+1/\((W+P-d*V) % P+V) % P=W % V:=by
 have h0: ¬d<=W/V:=fun h'=>by have:=(Yl hV).1 h';omega
 have hd:d=W/V+1:=by omega
 refine⟨hd,?_⟩;have:=Yj W V;rw[Zl]at this;have h2:=Zr W hV;rw[hd,Yo,Yy,show W+P-(W/V*V+V)=W % V+P-V by omega,Zt (show W % V+P-V<P by omega),show W % V+P-V+V=W % V+P by omega,Nat.add_mod_right,Zt (by omega)]
theorem QMQ {us w w':List Nat}{o:Nat}(h:o+w.length<=us.length)(hl:w'.length=w.length):spl (spl us o w) o w'=spl us o w':=by
 unfold spl;rw[Yp (by simp;omega),Xa,Nat.min_self];congr 1;congr 1;rw[hl,<-List.append_assoc];exact List.drop_left' (by simp;omega)
theorem QMR {us w:List Nat}{o:Nat}(h:o+w.length<=us.length):win (spl us o w) o w.length=w:=by
 unfold win spl;rw[List.drop_append];have:(us.take o).length=o:=by simp;omega
 rw[Yd (by omega),this,Nat.sub_self,Ya,List.nil_append,Yp (Yz _),List.take_length]
theorem XR.taken (hc:Xz c){x:Qu}(h:XR c x)(hj:0<x.j){d:Nat}(h1: ¬QF 4294967296 (win x.us (x.j-1) (c.n+1))<d*QF 4294967296 (c.vs.take c.n))(hge:x.W c/c.V<=d):d=x.W c/c.V/\YT x.us c.vs (x.j-1) c.n d=x.W c % c.V:=by
 obtain⟨dv,lv,vv⟩:=hc.vs;have ho:x.j-1+(c.n+1)<=x.us.length:=by have:=h.lu;have:=h.hj;have:=hc.nx;unfold Qz.Q at*;unfold Qz.n;omega
 have hW:=YY (JY (o:=x.j-1) (n:=c.n+1) h.du);rw[WQ ho]at hW;unfold YT;rw[vv]at h1⊢;exact QJe hc.pos hW h1 hge
theorem XR.putted (hc:Xz c){x:Qu}(h:XR c x)(hj:0<x.j){d:Nat}(h1:QF 4294967296 (win x.us (x.j-1) (c.n+1))<d*QF 4294967296 (c.vs.take c.n))(hle:d<=x.W c/c.V+1):
  d=x.W c/c.V+1/\G7 (spl x.us (x.j-1) (fd 4294967296 (c.n+1) (YT x.us c.vs (x.j-1) c.n d))) c.vs (x.j-1) c.n=x.W c % c.V:=by
 obtain⟨dv,lv,vv⟩:=hc.vs;have ho:x.j-1+(c.n+1)<=x.us.length:=by have:=h.lu;have:=h.hj;have:=hc.nx;unfold Qz.Q at*;unfold Qz.n;omega
 have hW:=YY (JY (o:=x.j-1) (n:=c.n+1) h.du);rw[WQ ho]at hW;have lf:(fd 4294967296 (c.n+1) (YT x.us c.vs (x.j-1) c.n d)).length=c.n+1:=Qj;have hw:=QMR (us:=x.us) (o:=x.j-1) (w:=fd 4294967296 (c.n+1) (YT x.us c.vs (x.j-1) c.n d)) (by rw[lf];exact ho);rw[lf]at hw;have hP:0<4294967296^(c.n+1):=Zp (by decide);have ht:YT x.us c.vs (x.j-1) c.n d<4294967296^(c.n+1):=Zr _ hP;unfold G7;rw[hw,Qt ht];unfold YT;rw[vv]at h1⊢;exact QMP hc.pos (Nat.le_of_lt (Zw hc.top.1 (Zj (by decide) (by omega)))) hW h1 hle
theorem Vi.un (hc:Xz c){x:Qu}(hx:Vi c x):x.us.getD c.n 0=0:=by
 obtain⟨r1,r2,r3⟩:=hx.res hc;have hnx:=hc.nx;have hlu:=hx.main.lu;have hVn:=hc.top.1;have hnl:c.n<=x.us.length:=by unfold Qz.n;omega
 have sp:=XN (B:=4294967296) (l:=x.us) (i:=c.n) hnl;have hz:QF 4294967296 (x.us.drop c.n)=0:=by
  rcases Yc (QF 4294967296 (x.us.drop c.n))with h' | h'
  ·exact h'
  ·have:4294967296^c.n*1<=4294967296^c.n*QF 4294967296 (x.us.drop c.n):=Zh _ h';omega
 cases hg:x.us[c.n]? with
 | none=>simp[Zf,hg]
 | some d=>
  have hg':(x.us.drop c.n)[0]? =some d:=by simpa using hg
  have:=W0 (B:=4294967296) hg';rw[hz]at this;rw[X9 hg];omega
theorem QMS {u s:Nat}(hu:u<4294967296)(hs:s<32):Zd.wrap (Xh .u64 (Zc.wrap (u:Int)) ((32-s:Nat):Int))=((u % 2^s*2^(32-s):Nat):Int):=by
 have hpq:2^s*2^(32-s)=4294967296:=by rw[<-Zv,show s+(32-s)=32 by omega]
 have hq:(2:Nat)^(32-s)<=2^32:=Zj (by omega) (by omega);have hm:u*2^(32-s)<=4294967295*2^32:=Nat.mul_le_mul (by omega) hq;have e1:Xh .u64 (Zc.wrap (u:Int)) ((32-s:Nat):Int)=((u*2^(32-s):Nat):Int):=by
  rw[XV (by omega),KU (by simp[IntKind.bits];omega),Zm];have:(u:Int)*2^(32-s)=((u*2^(32-s):Nat):Int):=by simp
  rw[this];exact XV (by omega)
 rw[e1,IntKind.wrap_u32];have e2:u*2^(32-s) % 4294967296=u % 2^s*2^(32-s):=by rw[<-hpq,Nat.mul_mod_mul_right]
 omega
theorem QJf {u u' s:Nat}(hu:u<4294967296)(hs:s<32):orI .u32 ((u/2^s:Nat):Int) ((u' % 2^s*2^(32-s):Nat):Int)=((u/2^s+u' % 2^s*2^(32-s):Nat):Int):=by
 have hpq:2^s*2^(32-s)=4294967296:=by rw[<-Zv,show s+(32-s)=32 by omega]
 have hp0:0<2^s:=Zp (by omega);have h1:u/2^s<2^(32-s):=by apply Zn;rw[hpq];exact hu
 have h2:u' % 2^s<2^s:=Zr _ hp0;have h3:(u' % 2^s+1)*2^(32-s)<=4294967296:=by rw[<-hpq];exact Zg _ h2
 rw[Yo,Yy]at h3;rw[Wc,Zl (u' % 2^s),QBJ h1 (by rw[Zl (2^(32-s))];omega)];congr 1;rw[Yw]
end Go.Proofs
namespace Go.Proofs
open Go Go.Eng
set_option maxHeartbeats 1000000 in
theorem QO9 (c:Qz)(hc:Xz c):QU (JK (X:=Unit) T11 (oF Tryd.f78) (QJa c) Tryd.f78 [wA 1000 c.xs.length,wA 1001 c.ys.length] [(1000,Qr c.xs),(1001,Qr c.ys)] (fun _=>True)
 (fun _=>⟨[(4,wA 1002 c.Q),(5,wA 1003 c.n)],[(1000,Qr c.xs),(1001,Qr c.ys),(1002,Qr (fd 4294967296 c.Q (QF 4294967296 c.xs/QF 4294967296 c.ys))),(1003,Qr (fd 4294967296 (c.xs.length+1) (QF 4294967296 c.xs % QF 4294967296 c.ys)))]⟩)):=by
 refine HV (((0<=Zb.wrap (Za c.ys.length-1)/\Zb.wrap (Za c.ys.length-1)<Za c.ys.length)/\∃(d:Int),ldE (W c.ys) (0+(Zb.wrap (Za c.ys.length-1)).toNat) 0 1=some [Zy (Ze Zd d)]/\(0<=d/\d<4294967296)/\∀(r:Nat),r<=32/\d.toNat<2^r/\(d.toNat=0∨1<=r/\2^(r-1)<=d.toNat)->∃(ds:List Nat),W c.xs=W ds/\c.xs.length=ds.length/\(∀(d:Nat),d∈ds->d<4294967296)/\ds.length<=1099511627776/\(0<=Za (32-r)/\Za (32-r)<32)/\∃(ds_1:List Nat),W c.ys=W ds_1/\c.ys.length=ds_1.length/\(∀(d:Nat),d∈ds_1->d<4294967296)/\ds_1.length<=1099511627776/\(0<=Za (32-r)/\Za (32-r)<32)/\((0:Int)<=0/\0<=Za c.ys.length/\Za c.ys.length<=Za (ds_1.length+1))/\(0<=Zb.wrap (Za (ds.length+1)-Za c.ys.length)/\Zb.wrap (Za (ds.length+1)-Za c.ys.length)<=Zb.wrap (Za (ds.length+1)-Za c.ys.length)/\4*Zb.wrap (Za (ds.length+1)-Za c.ys.length)<=281474976710656/\Zb.wrap (Za (ds.length+1)-Za c.ys.length)<=9223372036854775807)/\(∃(x:Qu),(XR c x/\OfNat.ofNat 0=0)/\(0:Nat)=0/\(Zb.wrap (Za (ds.length+1)-Za c.ys.length)).toNat=c.Q/\Za (32-r)=Za c.s/\Za c.ys.length=Za c.n/\(0:Nat)=0/\ds.length+1=c.xs.length+1/\(0:Nat)=0/\(Za c.ys.length).toNat-0=c.n/\Zb.wrap (Za (Zb.wrap (Za (ds.length+1)-Za c.ys.length)).toNat-1)=Za x.j-1/\(98:Nat)=98/\(1:Nat)=1/\(W ds=W c.xs∨QG (W ds) (W c.xs))/\(98:Nat)=98/\(1:Nat)=1/\(W ds_1=W c.ys∨QG (W ds_1) (W c.ys))/\(98:Nat)=98/\(1:Nat)=1/\(W (fd 4294967296 (ds.length+1) (QF 4294967296 ds*2^(Za (32-r)).toNat))=W x.us∨QG (W (fd 4294967296 (ds.length+1) (QF 4294967296 ds*2^(Za (32-r)).toNat))) (W x.us))/\(98:Nat)=98/\(1:Nat)=1/\(W (fd 4294967296 (ds_1.length+1) (QF 4294967296 ds_1*2^(Za (32-r)).toNat))=W c.vs∨QG (W (fd 4294967296 (ds_1.length+1) (QF 4294967296 ds_1*2^(Za (32-r)).toNat))) (W c.vs))/\(98:Nat)=98/\(1:Nat)=1/\(Yf (Zb.wrap (Za (ds.length+1)-Za c.ys.length)).toNat [Zy (Ze Zd 0)]=W x.qs∨QG (Yf (Zb.wrap (Za (ds.length+1)-Za c.ys.length)).toNat [Zy (Ze Zd 0)]) (W x.qs))/\True)/\∀(x:Qu),XR c x->OfNat.ofNat 0=0->bif decide (Za x.j-1≥0)then(0<=Zb.wrap (Za x.j-1+Za c.n)/\Zb.wrap (Za x.j-1+Za c.n)<Za (c.xs.length+1))/\∃(d:Int),ldE (W x.us) (0+(Zb.wrap (Za x.j-1+Za c.n)).toNat) 0 1=some [Zy (Ze Zd d)]/\(0:Int)<=32/\(0<=Zb.wrap (Zb.wrap (Za x.j-1+Za c.n)-1)/\Zb.wrap (Zb.wrap (Za x.j-1+Za c.n)-1)<Za (c.xs.length+1))/\∃(d_1:Int),ldE (W x.us) (0+(Zb.wrap (Zb.wrap (Za x.j-1+Za c.n)-1)).toNat) 0 1=some [Zy (Ze Zd d_1)]/\(0<=Zb.wrap (Za c.n-1)/\Zb.wrap (Za c.n-1)<Za c.n)/\∃(d_2:Int),ldE (W c.vs) (0+(Zb.wrap (Za c.n-1)).toNat) 0 1=some [Zy (Ze Zd d_2)]/\Zc.wrap d_2≠0/\(0<=Zb.wrap (Za c.n-1)/\Zb.wrap (Za c.n-1)<Za c.n)/\∃(d_3:Int),ldE (W c.vs) (0+(Zb.wrap (Za c.n-1)).toNat) 0 1=some [Zy (Ze Zd d_3)]/\Zc.wrap d_3≠0/\((∃(x_1:Qu×Nat×Nat),(GK c x_1.fst x_1.snd.fst x_1.snd.snd/\x_1.fst.j=x.j)/\Zc.wrap ((orI Zc (Xh Zc (Zc.wrap d) 32) (Zc.wrap d_1)).tdiv (Zc.wrap d_2))=Za x_1.snd.fst/\(orI Zc (Xh Zc (Zc.wrap d) 32) (Zc.wrap d_1)).tmod (Zc.wrap d_3)=Za x_1.snd.snd/\(0:Nat)=0/\c.Q=c.Q/\Za c.s=Za c.s/\Za c.n=Za c.n/\(0:Nat)=0/\c.xs.length+1=c.xs.length+1/\(0:Nat)=0/\c.n=c.n/\Za x.j-1=Za x_1.fst.j-1/\(98:Nat)=98/\(1:Nat)=1/\(W c.xs=W c.xs∨QG (W c.xs) (W c.xs))/\(98:Nat)=98/\(1:Nat)=1/\(W c.ys=W c.ys∨QG (W c.ys) (W c.ys))/\(98:Nat)=98/\(1:Nat)=1/\(W x.us=W x_1.fst.us∨QG (W x.us) (W x_1.fst.us))/\(98:Nat)=98/\(1:Nat)=1/\(W c.vs=W c.vs∨QG (W c.vs) (W c.vs))/\(98:Nat)=98/\(1:Nat)=1/\(W x.qs=W x_1.fst.qs∨QG (W x.qs) (W x_1.fst.qs))/\True)/\∀(x_1:Qu×Nat×Nat),GK c x_1.fst x_1.snd.fst x_1.snd.snd->x_1.fst.j=x.j->(0:Int)<=32/\bif decide (Q0 Zc (Za x_1.snd.fst) 32>0)then(0<=Zb.wrap (Za c.n-1)/\Zb.wrap (Za c.n-1)<Za c.n)/\∃(d:Int),ldE (W c.vs) (0+(Zb.wrap (Za c.n-1)).toNat) 0 1=some [Zy (Ze Zd d)]/\(0:Int)<=32/\bif decide (Q0 Zc (Zc.wrap (Za x_1.snd.snd+Zc.wrap d)) 32>0)then ∃(x_2:Qu×Nat),((XR c x_2.fst/\0<x_2.fst.j/\x_2.snd<4294967296/\Qu.W c x_2.fst/c.V<=x_2.snd/\x_2.snd<=Qu.W c x_2.fst/c.V+1)/\x_2.fst.j=x.j)/\Zc.wrap (Za x_1.snd.fst-1)=Za x_2.snd/\(0:Nat)=0/\c.Q=c.Q/\Za c.s=Za c.s/\Za c.n=Za c.n/\(0:Nat)=0/\c.xs.length+1=c.xs.length+1/\(0:Nat)=0/\c.n=c.n/\Za x_1.fst.j-1=Za x_2.fst.j-1/\(98:Nat)=98/\(1:Nat)=1/\(W c.xs=W c.xs∨QG (W c.xs) (W c.xs))/\(98:Nat)=98/\(1:Nat)=1/\(W c.ys=W c.ys∨QG (W c.ys) (W c.ys))/\(98:Nat)=98/\(1:Nat)=1/\(W x_1.fst.us=W x_2.fst.us∨QG (W x_1.fst.us) (W x_2.fst.us))/\(98:Nat)=98/\(1:Nat)=1/\(W c.vs=W c.vs∨QG (W c.vs) (W c.vs))/\(98:Nat)=98/\(1:Nat)=1/\(W x_1.fst.qs=W x_2.fst.qs∨QG (W x_1.fst.qs) (W x_2.fst.qs))/\True else ∃(x':Qu×Nat×Nat),(GK c x'.fst x'.snd.fst x'.snd.snd/\x'.fst.j=x.j/\x'.snd.fst<x_1.snd.fst)/\Zc.wrap (Za x_1.snd.fst-1)=Za x'.snd.fst/\Zc.wrap (Za x_1.snd.snd+Zc.wrap d)=Za x'.snd.snd/\(0:Nat)=0/\c.Q=c.Q/\Za c.s=Za c.s/\Za c.n=Za c.n/\(0:Nat)=0/\c.xs.length+1=c.xs.length+1/\(0:Nat)=0/\c.n=c.n/\Za x_1.fst.j-1=Za x'.fst.j-1/\(98:Nat)=98/\(1:Nat)=1/\(W c.xs=W c.xs∨QG (W c.xs) (W c.xs))/\(98:Nat)=98/\(1:Nat)=1/\(W c.ys=W c.ys∨QG (W c.ys) (W c.ys))/\(98:Nat)=98/\(1:Nat)=1/\(W x_1.fst.us=W x'.fst.us∨QG (W x_1.fst.us) (W x'.fst.us))/\(98:Nat)=98/\(1:Nat)=1/\(W c.vs=W c.vs∨QG (W c.vs) (W c.vs))/\(98:Nat)=98/\(1:Nat)=1/\(W x_1.fst.qs=W x'.fst.qs∨QG (W x_1.fst.qs) (W x'.fst.qs))/\True else(0<=Zb.wrap (Za c.n-2)/\Zb.wrap (Za c.n-2)<Za c.n)/\∃(d:Int),ldE (W c.vs) (0+(Zb.wrap (Za c.n-2)).toNat) 0 1=some [Zy (Ze Zd d)]/\(0:Int)<=32/\(0<=Zb.wrap (Zb.wrap (Za x_1.fst.j-1+Za c.n)-2)/\Zb.wrap (Zb.wrap (Za x_1.fst.j-1+Za c.n)-2)<Za (c.xs.length+1))/\∃(d_4:Int),ldE (W x_1.fst.us) (0+(Zb.wrap (Zb.wrap (Za x_1.fst.j-1+Za c.n)-2)).toNat) 0 1=some [Zy (Ze Zd d_4)]/\bif decide (Zc.wrap (Za x_1.snd.fst*Zc.wrap d)>orI Zc (Xh Zc (Za x_1.snd.snd) 32) (Zc.wrap d_4))then(0<=Zb.wrap (Za c.n-1)/\Zb.wrap (Za c.n-1)<Za c.n)/\∃(d:Int),ldE (W c.vs) (0+(Zb.wrap (Za c.n-1)).toNat) 0 1=some [Zy (Ze Zd d)]/\(0:Int)<=32/\bif decide (Q0 Zc (Zc.wrap (Za x_1.snd.snd+Zc.wrap d)) 32>0)then ∃(x_2:Qu×Nat),((XR c x_2.fst/\0<x_2.fst.j/\x_2.snd<4294967296/\Qu.W c x_2.fst/c.V<=x_2.snd/\x_2.snd<=Qu.W c x_2.fst/c.V+1)/\x_2.fst.j=x.j)/\Zc.wrap (Za x_1.snd.fst-1)=Za x_2.snd/\(0:Nat)=0/\c.Q=c.Q/\Za c.s=Za c.s/\Za c.n=Za c.n/\(0:Nat)=0/\c.xs.length+1=c.xs.length+1/\(0:Nat)=0/\c.n=c.n/\Za x_1.fst.j-1=Za x_2.fst.j-1/\(98:Nat)=98/\(1:Nat)=1/\(W c.xs=W c.xs∨QG (W c.xs) (W c.xs))/\(98:Nat)=98/\(1:Nat)=1/\(W c.ys=W c.ys∨QG (W c.ys) (W c.ys))/\(98:Nat)=98/\(1:Nat)=1/\(W x_1.fst.us=W x_2.fst.us∨QG (W x_1.fst.us) (W x_2.fst.us))/\(98:Nat)=98/\(1:Nat)=1/\(W c.vs=W c.vs∨QG (W c.vs) (W c.vs))/\(98:Nat)=98/\(1:Nat)=1/\(W x_1.fst.qs=W x_2.fst.qs∨QG (W x_1.fst.qs) (W x_2.fst.qs))/\True else ∃(x':Qu×Nat×Nat),(GK c x'.fst x'.snd.fst x'.snd.snd/\x'.fst.j=x.j/\x'.snd.fst<x_1.snd.fst)/\Zc.wrap (Za x_1.snd.fst-1)=Za x'.snd.fst/\Zc.wrap (Za x_1.snd.snd+Zc.wrap d)=Za x'.snd.snd/\(0:Nat)=0/\c.Q=c.Q/\Za c.s=Za c.s/\Za c.n=Za c.n/\(0:Nat)=0/\c.xs.length+1=c.xs.length+1/\(0:Nat)=0/\c.n=c.n/\Za x_1.fst.j-1=Za x'.fst.j-1/\(98:Nat)=98/\(1:Nat)=1/\(W c.xs=W c.xs∨QG (W c.xs) (W c.xs))/\(98:Nat)=98/\(1:Nat)=1/\(W c.ys=W c.ys∨QG (W c.ys) (W c.ys))/\(98:Nat)=98/\(1:Nat)=1/\(W x_1.fst.us=W x'.fst.us∨QG (W x_1.fst.us) (W x'.fst.us))/\(98:Nat)=98/\(1:Nat)=1/\(W c.vs=W c.vs∨QG (W c.vs) (W c.vs))/\(98:Nat)=98/\(1:Nat)=1/\(W x_1.fst.qs=W x'.fst.qs∨QG (W x_1.fst.qs) (W x'.fst.qs))/\True else ∃(x_2:Qu×Nat),((XR c x_2.fst/\0<x_2.fst.j/\x_2.snd<4294967296/\Qu.W c x_2.fst/c.V<=x_2.snd/\x_2.snd<=Qu.W c x_2.fst/c.V+1)/\x_2.fst.j=x.j)/\Za x_1.snd.fst=Za x_2.snd/\(0:Nat)=0/\c.Q=c.Q/\Za c.s=Za c.s/\Za c.n=Za c.n/\(0:Nat)=0/\c.xs.length+1=c.xs.length+1/\(0:Nat)=0/\c.n=c.n/\Za x_1.fst.j-1=Za x_2.fst.j-1/\(98:Nat)=98/\(1:Nat)=1/\(W c.xs=W c.xs∨QG (W c.xs) (W c.xs))/\(98:Nat)=98/\(1:Nat)=1/\(W c.ys=W c.ys∨QG (W c.ys) (W c.ys))/\(98:Nat)=98/\(1:Nat)=1/\(W x_1.fst.us=W x_2.fst.us∨QG (W x_1.fst.us) (W x_2.fst.us))/\(98:Nat)=98/\(1:Nat)=1/\(W c.vs=W c.vs∨QG (W c.vs) (W c.vs))/\(98:Nat)=98/\(1:Nat)=1/\(W x_1.fst.qs=W x_2.fst.qs∨QG (W x_1.fst.qs) (W x_2.fst.qs))/\True)/\∀(x_1:Qu×Nat),XR c x_1.fst/\0<x_1.fst.j/\x_1.snd<4294967296/\Qu.W c x_1.fst/c.V<=x_1.snd/\x_1.snd<=Qu.W c x_1.fst/c.V+1->x_1.fst.j=x.j->((0<=Za x_1.fst.j-1/\Za x_1.fst.j-1<=Zb.wrap (Zb.wrap (Za x_1.fst.j-1+Za c.n)+1)/\Zb.wrap (Zb.wrap (Za x_1.fst.j-1+Za c.n)+1)<=Za (c.xs.length+1))/\∃(us:List Nat),∃(vs:List Nat),W x_1.fst.us=W us/\W c.vs=W vs/\(Zb.wrap (Zb.wrap (Za x_1.fst.j-1+Za c.n)+1)).toNat-(Za x_1.fst.j-1).toNat=c.n+1/\(∀(d:Nat),d∈us->d<4294967296)/\(∀(d:Nat),d∈vs->d<4294967296)/\(0<=Za x_1.snd/\Za x_1.snd<4294967296)/\0+(Za x_1.fst.j-1).toNat+(c.n+1)<=us.length/\c.n<=vs.length/\us.length<=2199023255552/\bif decide (QF 4294967296 (win us (0+(Za x_1.fst.j-1).toNat) (c.n+1))<(Za x_1.snd).toNat*QF 4294967296 (Xb c.n vs))then(0<=Za x_1.fst.j-1/\Za x_1.fst.j-1<=Zb.wrap (Zb.wrap (Za x_1.fst.j-1+Za c.n)+1)/\Zb.wrap (Zb.wrap (Za x_1.fst.j-1+Za c.n)+1)<=Za (c.xs.length+1))/\∃(us_1:List Nat),∃(vs_1:List Nat),W (spl us (0+(Za x_1.fst.j-1).toNat) (fd 4294967296 (c.n+1) (YT us vs (0+(Za x_1.fst.j-1).toNat) c.n (Za x_1.snd).toNat)))=W us_1/\W vs=W vs_1/\(Zb.wrap (Zb.wrap (Za x_1.fst.j-1+Za c.n)+1)).toNat-(Za x_1.fst.j-1).toNat=c.n+1/\(∀(d:Nat),d∈us_1->d<4294967296)/\(∀(d:Nat),d∈vs_1->d<4294967296)/\0+(Za x_1.fst.j-1).toNat+(c.n+1)<=us_1.length/\c.n<=vs_1.length/\us_1.length<=2199023255552/\∃(x_2:Qu),((XR c x_2/\0<x_2.j)/\x_2.j=x.j)/\Zc.wrap (Za x_1.snd-1)=Za (Qu.W c x_2/c.V)/\(0:Nat)=0/\c.Q=c.Q/\Za c.s=Za c.s/\Za c.n=Za c.n/\(0:Nat)=0/\c.xs.length+1=c.xs.length+1/\(0:Nat)=0/\c.n=c.n/\Za x_1.fst.j-1=Za x_2.j-1/\(98:Nat)=98/\(1:Nat)=1/\(W c.xs=W c.xs∨QG (W c.xs) (W c.xs))/\(98:Nat)=98/\(1:Nat)=1/\(W c.ys=W c.ys∨QG (W c.ys) (W c.ys))/\(98:Nat)=98/\(1:Nat)=1/\(W (spl us_1 (0+(Za x_1.fst.j-1).toNat) (fd 4294967296 (c.n+1) (G7 us_1 vs_1 (0+(Za x_1.fst.j-1).toNat) c.n)))=W (spl x_2.us (x_2.j-1) (fd 4294967296 (c.n+1) (Qu.W c x_2%c.V)))∨QG (W (spl us_1 (0+(Za x_1.fst.j-1).toNat) (fd 4294967296 (c.n+1) (G7 us_1 vs_1 (0+(Za x_1.fst.j-1).toNat) c.n)))) (W (spl x_2.us (x_2.j-1) (fd 4294967296 (c.n+1) (Qu.W c x_2%c.V)))))/\(98:Nat)=98/\(1:Nat)=1/\(W vs_1=W c.vs∨QG (W vs_1) (W c.vs))/\(98:Nat)=98/\(1:Nat)=1/\(W x_1.fst.qs=W x_2.qs∨QG (W x_1.fst.qs) (W x_2.qs))/\True else ∃(x_2:Qu),((XR c x_2/\0<x_2.j)/\x_2.j=x.j)/\Za x_1.snd=Za (Qu.W c x_2/c.V)/\(0:Nat)=0/\c.Q=c.Q/\Za c.s=Za c.s/\Za c.n=Za c.n/\(0:Nat)=0/\c.xs.length+1=c.xs.length+1/\(0:Nat)=0/\c.n=c.n/\Za x_1.fst.j-1=Za x_2.j-1/\(98:Nat)=98/\(1:Nat)=1/\(W c.xs=W c.xs∨QG (W c.xs) (W c.xs))/\(98:Nat)=98/\(1:Nat)=1/\(W c.ys=W c.ys∨QG (W c.ys) (W c.ys))/\(98:Nat)=98/\(1:Nat)=1/\(W (spl us (0+(Za x_1.fst.j-1).toNat) (fd 4294967296 (c.n+1) (YT us vs (0+(Za x_1.fst.j-1).toNat) c.n (Za x_1.snd).toNat)))=W (spl x_2.us (x_2.j-1) (fd 4294967296 (c.n+1) (Qu.W c x_2%c.V)))∨QG (W (spl us (0+(Za x_1.fst.j-1).toNat) (fd 4294967296 (c.n+1) (YT us vs (0+(Za x_1.fst.j-1).toNat) c.n (Za x_1.snd).toNat)))) (W (spl x_2.us (x_2.j-1) (fd 4294967296 (c.n+1) (Qu.W c x_2%c.V)))))/\(98:Nat)=98/\(1:Nat)=1/\(W vs=W c.vs∨QG (W vs) (W c.vs))/\(98:Nat)=98/\(1:Nat)=1/\(W x_1.fst.qs=W x_2.qs∨QG (W x_1.fst.qs) (W x_2.qs))/\True)/\∀(x_2:Qu),XR c x_2/\0<x_2.j->x_2.j=x.j->(0<=Za x_2.j-1/\Za x_2.j-1<Za c.Q)/\0+(Za x_2.j-1).toNat<(W x_2.qs).length/\∃(x':Qu),(XR c x'/\OfNat.ofNat 0=0/\x'.j<x.j)/\(0:Nat)=0/\c.Q=c.Q/\Za c.s=Za c.s/\Za c.n=Za c.n/\(0:Nat)=0/\c.xs.length+1=c.xs.length+1/\(0:Nat)=0/\c.n=c.n/\Zb.wrap (Za x_2.j-1-1)=Za x'.j-1/\(98:Nat)=98/\(1:Nat)=1/\(W c.xs=W c.xs∨QG (W c.xs) (W c.xs))/\(98:Nat)=98/\(1:Nat)=1/\(W c.ys=W c.ys∨QG (W c.ys) (W c.ys))/\(98:Nat)=98/\(1:Nat)=1/\(W (spl x_2.us (x_2.j-1) (fd 4294967296 (c.n+1) (Qu.W c x_2%c.V)))=W x'.us∨QG (W (spl x_2.us (x_2.j-1) (fd 4294967296 (c.n+1) (Qu.W c x_2%c.V)))) (W x'.us))/\(98:Nat)=98/\(1:Nat)=1/\(W c.vs=W c.vs∨QG (W c.vs) (W c.vs))/\(98:Nat)=98/\(1:Nat)=1/\((W x_2.qs).set (0+(Za x_2.j-1).toNat) [Zy (Ze Zd (Zd.wrap (Za (Qu.W c x_2/c.V))))]=W x'.qs∨QG ((W x_2.qs).set (0+(Za x_2.j-1).toNat) [Zy (Ze Zd (Zd.wrap (Za (Qu.W c x_2/c.V))))]) (W x'.qs))/\True else((0:Int)<=0/\0<=Za c.n/\Za c.n<=Za (c.xs.length+1))/\(∃(x_1:US),(GL c x_1/\OfNat.ofNat 0=0)/\(0:Nat)=0/\c.Q=c.Q/\(0:Nat)=0/\(Za c.n).toNat-0=c.n/\Za c.s=Za c.s/\Za c.n=Za c.n/\(0:Nat)=0/\c.xs.length+1=c.xs.length+1/\Za ((Za c.n).toNat-0)=Za c.n/\0=Za x_1.i/\(98:Nat)=98/\(1:Nat)=1/\(W c.xs=W c.xs∨QG (W c.xs) (W c.xs))/\(98:Nat)=98/\(1:Nat)=1/\(W c.ys=W c.ys∨QG (W c.ys) (W c.ys))/\(98:Nat)=98/\(1:Nat)=1/\(W x.us=W x_1.wd∨QG (W x.us) (W x_1.wd))/\(98:Nat)=98/\(1:Nat)=1/\(W x.qs=W x_1.x.qs∨QG (W x.qs) (W x_1.x.qs))/\True)/\∀(x:US),GL c x->OfNat.ofNat 0=0->bif decide (Za x.i<Za c.n)then(0<=Za x.i/\Za x.i<Za c.n)/\∃(d:Int),ldE (W x.wd) (0+(Za x.i).toNat) 0 1=some [Zy (Ze Zd d)]/\0<=Za c.s/\(0<=Za x.i/\Za x.i<Za c.n)/\0+(Za x.i).toNat<(W x.wd).length/\bif decide (Zb.wrap (Za x.i+1)<Za c.n)then(0<=Za x.i/\Za x.i<Za c.n)/\∃(d_1:Int),ldE ((W x.wd).set (0+(Za x.i).toNat) [Zy (Ze Zd (Q0 Zd d (Za c.s)))]) (0+(Za x.i).toNat) 0 1=some [Zy (Ze Zd d_1)]/\(0<=Zb.wrap (Za x.i+1)/\Zb.wrap (Za x.i+1)<Za (c.xs.length+1))/\∃(d_2:Int),ldE ((W x.wd).set (0+(Za x.i).toNat) [Zy (Ze Zd (Q0 Zd d (Za c.s)))]) (0+(Zb.wrap (Za x.i+1)).toNat) 0 1=some [Zy (Ze Zd d_2)]/\0<=Zb.wrap (32-Za c.s)/\(0<=Za x.i/\Za x.i<Za c.n)/\0+(Za x.i).toNat<((W x.wd).set (0+(Za x.i).toNat) [Zy (Ze Zd (Q0 Zd d (Za c.s)))]).length/\∃(x':US),(GL c x'/\OfNat.ofNat 0=0/\c.n-x'.i<c.n-x.i)/\(0:Nat)=0/\c.Q=c.Q/\(0:Nat)=0/\c.n=c.n/\Za c.s=Za c.s/\Za c.n=Za c.n/\(0:Nat)=0/\c.xs.length+1=c.xs.length+1/\Za c.n=Za c.n/\Zb.wrap (Za x.i+1)=Za x'.i/\(98:Nat)=98/\(1:Nat)=1/\(W c.xs=W c.xs∨QG (W c.xs) (W c.xs))/\(98:Nat)=98/\(1:Nat)=1/\(W c.ys=W c.ys∨QG (W c.ys) (W c.ys))/\(98:Nat)=98/\(1:Nat)=1/\(((W x.wd).set (0+(Za x.i).toNat) [Zy (Ze Zd (Q0 Zd d (Za c.s)))]).set (0+(Za x.i).toNat) [Zy (Ze Zd (orI Zd d_1 (Zd.wrap (Xh Zc (Zc.wrap d_2) (Zb.wrap (32-Za c.s))))))]=W x'.wd∨QG (((W x.wd).set (0+(Za x.i).toNat) [Zy (Ze Zd (Q0 Zd d (Za c.s)))]).set (0+(Za x.i).toNat) [Zy (Ze Zd (orI Zd d_1 (Zd.wrap (Xh Zc (Zc.wrap d_2) (Zb.wrap (32-Za c.s))))))]) (W x'.wd))/\(98:Nat)=98/\(1:Nat)=1/\(W x.x.qs=W x'.x.qs∨QG (W x.x.qs) (W x'.x.qs))/\True else ∃(x':US),(GL c x'/\OfNat.ofNat 0=0/\c.n-x'.i<c.n-x.i)/\(0:Nat)=0/\c.Q=c.Q/\(0:Nat)=0/\c.n=c.n/\Za c.s=Za c.s/\Za c.n=Za c.n/\(0:Nat)=0/\c.xs.length+1=c.xs.length+1/\Za c.n=Za c.n/\Zb.wrap (Za x.i+1)=Za x'.i/\(98:Nat)=98/\(1:Nat)=1/\(W c.xs=W c.xs∨QG (W c.xs) (W c.xs))/\(98:Nat)=98/\(1:Nat)=1/\(W c.ys=W c.ys∨QG (W c.ys) (W c.ys))/\(98:Nat)=98/\(1:Nat)=1/\((W x.wd).set (0+(Za x.i).toNat) [Zy (Ze Zd (Q0 Zd d (Za c.s)))]=W x'.wd∨QG ((W x.wd).set (0+(Za x.i).toNat) [Zy (Ze Zd (Q0 Zd d (Za c.s)))]) (W x'.wd))/\(98:Nat)=98/\(1:Nat)=1/\(W x.x.qs=W x'.x.qs∨QG (W x.x.qs) (W x'.x.qs))/\True else ∃(_x_1:Unit),True/\(0:Nat)=0/\c.Q=c.Q/\(0:Nat)=0/\c.n=c.n/\(98:Nat)=98/\(1:Nat)=1/\(W c.xs=W c.xs∨QG (W c.xs) (W c.xs))/\(98:Nat)=98/\(1:Nat)=1/\(W c.ys=W c.ys∨QG (W c.ys) (W c.ys))/\(98:Nat)=98/\(1:Nat)=1/\(W x.x.qs=W (fd 4294967296 c.Q (QF 4294967296 c.xs/QF 4294967296 c.ys))∨QG (W x.x.qs) (W (fd 4294967296 c.Q (QF 4294967296 c.xs/QF 4294967296 c.ys))))/\(98:Nat)=98/\(1:Nat)=1/\(W x.wd=W (fd 4294967296 (c.xs.length+1) (QF 4294967296 c.xs%QF 4294967296 c.ys))∨QG (W x.wd) (W (fd 4294967296 (c.xs.length+1) (QF 4294967296 c.xs%QF 4294967296 c.ys))))/\True)) ?_
 have hn:2<=c.n:=hc.n2;have hny:c.ys.length=c.n:=rfl;have hnx:c.n<=c.xs.length:=hc.nx;have hlx:=hc.lx;have hQ:c.Q=c.xs.length+1-c.n:=rfl;have hs32:=hc.s32;obtain⟨dv,lv,vv⟩:=hc.vs;have ht:=hc.dy.getD (i:=c.n-1) (by decide);simp only[Yg,R0,R1,Yv,R4,R2];rw[hny];rw[w64 (n:=(c.n:Int)-1) (by omega),show((c.n:Int)-1).toNat=c.n-1 by omega];refine⟨by omega,_,Xt (by omega),by omega,fun r hr=> ?_⟩;have hrs:32-r=c.s:=QEy (t:=c.ys.getD (c.n-1) 0) (by simpa [K9]using hr) hc.lo hc.hi;rw[hrs];refine⟨c.xs,rfl,rfl,hc.dx,by omega,by omega,c.ys,rfl,rfl,hc.dy,by omega,by omega,by omega,?_,?_,fun x hx=>QE (fun hp=> ?_) (fun hp=> ?_)⟩
 ·rw[w64 (by omega)];omega
 ·have e1:(Zb.wrap (((c.xs.length+1:Nat):Int)-c.n)).toNat=c.Q:=by rw[w64 (by omega)];omega
  refine⟨_,XR.init hc,?_⟩;simp only[e1,Zm];rw[w64 (by omega)];simp only[R0,R2,U5];exact⟨by omega,.inl rfl,trivial⟩
 ·have hp:=R5 hp;have hj:0<x.j:=by omega
  have hlu:=hx.lu;have hjq:=hx.hj;have qd:=hx.qd hc hj;have v1lo:=qd.v1_lo;have v1hi:=qd.v1_hi;have f1:Zb.wrap ((x.j:Int)-1+c.n)=((x.j-1+c.n:Nat):Int):=by rw[w64 (by omega)];omega
  have f2:Zb.wrap (((x.j-1+c.n:Nat):Int)-1)=((x.j-1+c.n-1:Nat):Int):=by rw[w64 (by omega)];omega
  have f3:Zb.wrap ((c.n:Int)-1)=((c.n-1:Nat):Int):=by rw[w64 (by omega)];omega
  have hv1:Zc.wrap ((c.vs.getD (c.n-1) 0:Nat):Int)=((c.v1:Nat):Int):=XV (show(0:Int)<=((c.v1:Nat):Int)/\((c.v1:Nat):Int)<18446744073709551616 by omega);simp only[f1,f2,Zm];refine⟨by omega,_,Xt (by omega),by omega,by omega,_,Xt (by omega),by omega,_,Xt (i:=c.n-1) (by omega),?_,by omega,_,Xt (i:=c.n-1) (by omega),?_,⟨?_,?_⟩,?_⟩
  ·rw[hv1];omega
  ·rw[hv1];omega
  ·have b1:=hx.du.getD (i:=x.j-1+c.n) (by decide);have b2:=hx.du.getD (i:=x.j-1+c.n-1) (by decide);have htop:=qd.top_hi;have hsum:x.top c/c.v1*c.v1+x.top c % c.v1=x.top c:=Nat.div_add_mod' _ _;have hr:x.top c % c.v1<c.v1:=Zr _ (by omega);refine⟨(x,x.top c/c.v1,x.top c % c.v1),⟨⟨hx,hj,hsum,qd.start,Nat.lt_trans hr v1hi⟩,rfl⟩,?_⟩;have ht:orI .u64 (Xh .u64 (Zc.wrap ((x.us.getD (x.j-1+c.n) 0:Nat):Int)) 32) (Zc.wrap ((x.us.getD (x.j-1+c.n-1) 0:Nat):Int))=((x.top c:Nat):Int):=QJd b1 b2;rw[ht,hv1];have hle:x.top c/c.v1<=x.top c:=Yx _ _;generalize x.top c=t at*;generalize c.v1=v at*;have e1:(t:Int).tdiv v=((t/v:Nat):Int):=by rw[te (Zx t)];simp
   have e2:(t:Int).tmod v=((t % v:Nat):Int):=by rw[tm (Zx t)];simp
   have e3:Zc.wrap ((t/v:Nat):Int)=((t/v:Nat):Int):=by
    generalize t/v=y at hle⊢;exact XV (by omega)
   rw[e1,e2,e3];simp
  ·intro x1 hg hj1;obtain⟨x1,d,r⟩:=x1;have qd1:QD 4294967296 c.V (x1.W c) c.v1 c.v2 (x1.top c) (x1.u3 c) (c.n-2):=hg.main.qd hc hg.jp;have hsum:=hg.sum;have hge:=hg.ge;have hrl:=hg.rlt;have hlu1:=hg.main.lu;have hjq1:=hg.main.hj;have hjp1:=hg.jp;have htop:=qd1.top_hi;simp only at hsum hge hrl hlu1 hjq1 hjp1 htop hj1⊢;have hdtop:d<=x1.top c:=by
    have:d*1<=d*c.v1:=Zh _ (by omega);omega
   have decs:0<d->(d-1)*c.v1+(r+c.v1)=x1.top c:=fun h=>by
    rw[Nat.sub_mul,Yy];have:1*c.v1<=d*c.v1:=Zg _ h;omega
   refine⟨by omega,QE (fun h1=> ?_) (fun h1=> ?_)⟩
   ·have h1:=R5 h1;rw[X2 (by decide) (by omega)]at h1;simp only[show(32:Int).toNat=32 from rfl]at h1;have hd:4294967296<=d:=by omega
    have hlt:=qd1.step hsum (.inl hd);have hdp:0<d:=Zs (Nat.zero_le _) hlt;have hsum':=decs hdp;refine⟨by omega,_,Xt (i:=c.n-1) (by omega),by omega,QE (fun h3=> ?_) (fun h3=> ?_)⟩
    ·have h3:=R5 h3;rw[hv1,XV (n:=(r:Int)+c.v1) (by omega),X2 (by decide) (by omega)]at h3;simp only[show(32:Int).toNat=32 from rfl]at h3;have hr3:4294967296<=r+c.v1:=by omega
     obtain⟨b1,b2⟩:=qd1.brk hsum' hr3;refine⟨(x1,d-1),⟨⟨hg.main,hg.jp,b1,Ye hlt,qd1.fin hsum' b1 b2⟩,hj1⟩,?_,rfl,.inl rfl,.inl rfl⟩;rw[XV (by omega)];omega
    ·have h3:=R6 h3;rw[hv1,XV (n:=(r:Int)+c.v1) (by omega),X2 (by decide) (by omega)]at h3;simp only[show(32:Int).toNat=32 from rfl]at h3;refine⟨(x1,d-1,r+c.v1),⟨⟨hg.main,hg.jp,hsum',Ye hlt,by simp only;omega⟩,hj1,by simp only;omega⟩,?_,?_,rfl,.inl rfl,.inl rfl⟩
     ·rw[XV (by omega)];simp only;omega
     ·rw[hv1,XV (by omega)];simp
   ·have h1:=R6 h1;rw[X2 (by decide) (by omega)]at h1;simp only[show(32:Int).toNat=32 from rfl]at h1;have hd:d<4294967296:=by omega
    have g1:Zb.wrap ((c.n:Int)-2)=((c.n-2:Nat):Int):=by rw[w64 (by omega)];omega
    have g2:Zb.wrap (Zb.wrap ((x1.j:Int)-1+c.n)-2)=((x1.j-1+c.n-2:Nat):Int):=by rw[w64 (n:=(x1.j:Int)-1+c.n) (by omega),w64 (by omega)];omega
    simp only[g1,g2,Zm];have v2hi:=qd1.v2_hi;have u3hi:=qd1.u3_hi;have m1:d*c.v2<=4294967295*4294967295:=Nat.mul_le_mul (by omega) (by omega);have g3:Zc.wrap ((d:Int)*Zc.wrap ((c.vs.getD (c.n-2) 0:Nat):Int))=((d*c.v2:Nat):Int):=by
     rw[show Zc.wrap ((c.vs.getD (c.n-2) 0:Nat):Int)=((c.v2:Nat):Int)from XV (show(0:Int)<=((c.v2:Nat):Int)/\((c.v2:Nat):Int)<18446744073709551616 by omega)];rw[show((d:Int)*(c.v2:Nat))=((d*c.v2:Nat):Int)by simp];exact XV (by omega)
    have g4:orI .u64 (Xh .u64 (r:Int) 32) (Zc.wrap ((x1.us.getD (x1.j-1+c.n-2) 0:Nat):Int))=((r*4294967296+x1.u3 c:Nat):Int):=by
     have:=QJd hrl u3hi;rw[XV (n:=(r:Int)) (by omega)]at this;exact this
    refine⟨by omega,_,Xt (i:=c.n-2) (by omega),by omega,by omega,_,Xt (i:=x1.j-1+c.n-2) (by omega),QE (fun h2=> ?_) (fun h2=> ?_)⟩
    ·have h2:=R5 h2;rw[g3,g4]at h2;have hlt:=qd1.step hsum (.inr (by omega));have hdp:0<d:=Zs (Nat.zero_le _) hlt;have hsum':=decs hdp;refine⟨by omega,_,Xt (i:=c.n-1) (by omega),by omega,QE (fun h3=> ?_) (fun h3=> ?_)⟩
     ·have h3:=R5 h3;rw[hv1,XV (n:=(r:Int)+c.v1) (by omega),X2 (by decide) (by omega)]at h3;simp only[show(32:Int).toNat=32 from rfl]at h3;have hr3:4294967296<=r+c.v1:=by omega
      obtain⟨b1,b2⟩:=qd1.brk hsum' hr3;refine⟨(x1,d-1),⟨⟨hg.main,hg.jp,b1,Ye hlt,qd1.fin hsum' b1 b2⟩,hj1⟩,?_,rfl,.inl rfl,.inl rfl⟩;rw[XV (by omega)];omega
     ·have h3:=R6 h3;rw[hv1,XV (n:=(r:Int)+c.v1) (by omega),X2 (by decide) (by omega)]at h3;simp only[show(32:Int).toNat=32 from rfl]at h3;refine⟨(x1,d-1,r+c.v1),⟨⟨hg.main,hg.jp,hsum',Ye hlt,by simp only;omega⟩,hj1,by simp only;omega⟩,?_,?_,rfl,.inl rfl,.inl rfl⟩
      ·rw[XV (by omega)];simp only;omega
      ·rw[hv1,XV (by omega)];simp
    ·have h2:=R6 h2;rw[g3,g4]at h2;have hfin:d*c.v2<=r*4294967296+x1.u3 c:=by omega
     exact⟨(x1,d),⟨⟨hg.main,hg.jp,hd,hge,qd1.fin hsum hd hfin⟩,hj1⟩,rfl,rfl,.inl rfl,.inl rfl⟩
  ·intro x1 hx1 hj1;obtain⟨x1,d⟩:=x1;obtain⟨hl,hj1p,hd,hge,hle⟩:=hx1;have hlu1:=hl.lu;have hjq1:=hl.hj;simp only at hl hj1p hd hge hle hlu1 hjq1 hj1⊢;have k0:((x1.j:Int)-1).toNat=x1.j-1:=by omega
   have k1:Zb.wrap (Zb.wrap ((x1.j:Int)-1+c.n)+1)=((x1.j-1+(c.n+1):Nat):Int):=by rw[w64 (n:=(x1.j:Int)-1+c.n) (by omega),w64 (by omega)];omega
   simp only[k0,k1,Zm];have ho:x1.j-1+(c.n+1)<=x1.us.length:=by omega
   have spd: ∀m,Dig 4294967296 (spl x1.us (x1.j-1) (fd 4294967296 (c.n+1) m)):=fun m=>hl.du.take.append ((Dig.fd (by decide)).append hl.du.drop);have spn: ∀m,(spl x1.us (x1.j-1) (fd 4294967296 (c.n+1) m)).length=x1.us.length:=fun m=>Kr (by rw[Qj];exact ho);refine⟨⟨by omega,x1.us,c.vs,rfl,rfl,by omega,hl.du,dv,by omega,ho,by omega,by omega,QE (fun h=> ?_) (fun h=> ?_)⟩,fun x2 hx2 hj2=> ?_⟩
   ·have h:=R5 h;obtain⟨r1,r2⟩:=hl.putted hc hj1p h hle;refine⟨by omega,_,c.vs,rfl,rfl,by omega,spd _,dv,by rw[spn];exact ho,by omega,by rw[spn];omega,x1,⟨⟨hl,hj1p⟩,hj1⟩,?_,rfl,.inl ?_,.inl rfl,.inl rfl⟩
    ·have hdp:1<=d:=by rw[r1];exact Nat.le_add_left _ _
     have hdm:d-1=x1.W c/c.V:=by rw[r1];exact Nat.add_sub_cancel _ _
     rw[XV (by omega),<-hdm];omega
    ·rw[r2,QMQ (by rw[Qj];exact ho) (by rw[Qj,Qj])]
   ·have h:=R6 h;obtain⟨r1,r2⟩:=hl.taken hc hj1p h hge;refine⟨x1,⟨⟨hl,hj1p⟩,hj1⟩,by rw[r1],rfl,.inl (by rw[r2]),.inl rfl,.inl rfl⟩
   ·obtain⟨hl2,hj2p⟩:=hx2;have hjq2:=hl2.hj;have lq2:=hl2.lq;have hq:=(hl2.qd hc hj2p).q_lt;have k2:((x2.j:Int)-1).toNat=x2.j-1:=by omega
    have hq0:Zd.wrap ((x2.W c/c.V:Nat):Int)=((x2.W c/c.V:Nat):Int):=by
     generalize x2.W c/c.V=y at hq⊢;exact QEd (by omega)
    rw[k2,hq0,w64 (by omega),Js];exact⟨by omega,by rw[Jg];omega,_,⟨hl2.next hc hj2p,by simp only;omega⟩,by simp only;omega,.inl rfl,.inl rfl⟩
 ·have hp:=R6 hp;have hj0:x.j=0:=by omega
  have hd:Vi c x:=⟨hx,hj0⟩;have hlu:=hx.lu;simp only[Zm,Nat.sub_zero];refine⟨by omega,⟨⟨x,x.us,0⟩,⟨hd,Wv.init hc hx⟩,?_⟩,fun y hy=>QE (fun hp=> ?_) (fun hp=> ?_)⟩
  ·simp
  ·obtain⟨x,wd,i⟩:=y;have hp:i<c.n:=by simpa using hp
   have hxm:=hy.main.main;have hst:=hy.sh.step hc hxm.du hxm.lu hp;have lw:=hy.sh.lw;have rest:=hy.sh.rest;have hlu:=hxm.lu;simp only at hst lw rest hlu⊢;have hud:=hxm.du.getD (i:=i) (by decide);have hud1:=hxm.du.getD (i:=i+1) (by decide);have hil:i<x.us.length:=by omega
   have gwd:wd[i]? =some (x.us.getD i 0):=by
    have h0:=congrArg (fun l:List Nat=>l[0]?) rest;simp only[Yr,Zu]at h0;rw[h0,Zf,Zi hil];rfl
   have gwd1:wd[i+1]? =some (x.us.getD (i+1) 0):=by
    have h0:=congrArg (fun l:List Nat=>l[1]?) rest;simp only[Yr]at h0;rw[h0,Zf,Zi (by omega)];rfl
   have f5:Zb.wrap ((i:Int)+1)=((i+1:Nat):Int):=by rw[w64 (by omega)];simp
   have f6:Zb.wrap (32-(c.s:Int))=((32-c.s:Nat):Int):=by rw[w64 (by omega)];omega
   have f7:Q0 .u32 ((x.us.getD i 0:Nat):Int) (c.s:Int)=((x.us.getD i 0/2^c.s:Nat):Int):=QF7 (by omega);simp only[f5,f6,Zm];refine⟨by omega,_,X8 gwd,by omega,by omega,by rw[Jg];omega,?_⟩;rw[f7,Js];have gs:(wd.set i (x.us.getD i 0/2^c.s))[i]? =some (x.us.getD i 0/2^c.s):=by rw[Ys];simp;omega
   have gs1:(wd.set i (x.us.getD i 0/2^c.s))[i+1]? =some (x.us.getD (i+1) 0):=by rw[Ys,if_neg (by omega)];exact gwd1
   refine QE (fun h=> ?_) (fun h=> ?_)
   ·refine⟨by omega,_,X8 gs,by omega,_,X8 gs1,by omega,by omega,by rw[Jg,List.length_set];omega,⟨x,_,i+1⟩,⟨⟨hy.main,hst⟩,by simp only;omega⟩,rfl,.inl ?_,.inl rfl⟩;rw[QMS hud1 hs32,QJf hud hs32,Js,List.set_set]
   ·have h:=R6 h;have hin:i+1=c.n:=by omega
    have hz:=hy.main.un hc;rw[hin]at hst;simp only at hz;rw[hz,Nat.zero_mod,Nat.zero_mul,Zu,<-hin]at hst;exact⟨⟨x,_,i+1⟩,⟨⟨hy.main,hst⟩,by simp only;omega⟩,rfl,.inl rfl,.inl rfl⟩
  ·obtain⟨x,wd,i⟩:=y;have hp: ¬i<c.n:=by simpa using hp
   have hi:=hy.sh.hi;have hsh:=hy.sh;simp only at hi hsh⊢;have:i=c.n:=by omega
   subst this;have e1:=hsh.fin hc hy.main;have e2:=hy.main.q hc;simp only at e1 e2;exact⟨(),.inl (by rw[e2]),.inl (by rw[e1])⟩
end Go.Proofs
namespace Go.Proofs
open Go Go.Eng
def QEz:YA:=fun as0 H d=>match as0 with
 | [.x false [.w k 0 n1],.x false [.w k2 0 n2]]=>match H k,H k2,H (d+1000),H (d+2000)with
  | some (.row t 1 xs0),some (.row t2 1 ys0),none,none=>bif t.beq 98&&t2.beq 98&& !(k.beq k2)then
    some fun K=> ∃xs ys s,xs0=W xs/\ys0=W ys/\n1=xs.length/\n2=ys.length/\Xz ⟨xs,ys,s⟩/\
     K (.t [(false,[.w (d+1000) 0 (xs.length+1-ys.length)]),(false,[.w (d+2000) 0 ys.length])])
      (Xc [(1000,k),(1001,k2),(1002,d+1000),(1003,d+2000)] (QO [(1000,Qr xs),(1001,Qr ys),(1002,Qr (fd 4294967296 (xs.length+1-ys.length) (QF 4294967296 xs/QF 4294967296 ys))),(1003,Qr (fd 4294967296 (xs.length+1) (QF 4294967296 xs % QF 4294967296 ys)))]) H)
    else none
  | _,_,_,_=>none
 | _=>none
theorem QMT {g:Nat}{tab:List Value}:J8 Tryd.prog g tab 78 QEz:=by
 refine⟨Qm Tryd.func78 (by kernel_rfl),fun l H d T hT K hK=> ?_⟩;unfold QEz at hT;split at hT
 ·rename_i k n1 k2 n2;split at hT
  ·rename_i t xs0 t2 ys0 e1 e2 e3 e4;cases hb:t.beq 98&&t2.beq 98&& !(k.beq k2)with
   | false=>rw[hb]at hT;cases hT
   | true=>
    rw[hb]at hT;cases hT
    simp only[Bool.and_eq_true,Bool.not_eq_true']at hb;obtain⟨⟨ht,ht2⟩,hk⟩:=hb;have ht:=Ym ht;have ht2:=Ym ht2;have hk:k≠k2:=fun e=>by subst e;simp at hk
    subst ht ht2;obtain⟨xs,ys,s,rfl,rfl,rfl,rfl,hc,hK⟩:=hK;refine Xp (R:=[(1000,k),(1001,k2)]) (N:=[(1002,d+1000),(1003,d+2000)]) (Hl:=[(1000,Qr xs),(1001,Qr ys)]) QQo QW Tryd.func78 (by kernel_rfl) (by kernel_rfl) (by rfl)
     (as0:=[wA 1000 xs.length,wA 1001 ys.length]) ?_ (QCv e1 e2 hk rfl rfl rfl rfl) rfl (by simp) (by simp) (fun p hp=> ?_) (fun x=>⟨fun p hp=> ?_,fun p hp b hb=> ?_⟩) (QO9 ⟨xs,ys,s⟩ hc) (fun x _=> ?_)
    ·simp[Jf,Je,JJ,(G5 hk).1,(G5 hk).2,wA]
    ·simp at hp;rcases hp with rfl | rfl
     ·exact e3
     ·exact e4
    ·simp at hp;rcases hp with rfl | rfl
     ·exact fun h=>by have h':some (Qr _)=none:=h;cases h'
     ·exact fun h=>by have h':some (Qr _)=none:=h;cases h'
    ·simp at hp;rcases hp with rfl | rfl | rfl | rfl
     ·have h':some (Qr _)=some b:=hb;cases h';rfl
     ·have h':some (Qr _)=some b:=hb;cases h';rfl
     ·have h':some (Qr _)=some b:=hb;cases h';rfl
     ·have h':some (Qr _)=some b:=hb;cases h';rfl
    ·exact⟨_,rfl,hK⟩
  ·cases hT
 ·cases hT
def M12:List (Nat×YA):=(78,QEz)::M10
noncomputable def T12:Qh:=mkT L11 M12 X3
theorem QJg {g:Nat}{tab:List Value}:CtrMsOK Tryd.prog g tab M12:= .cons QMT QJY
theorem QQp {g:Nat}{tab:List Value}:Q5 Tryd.prog g tab T12:=Qq QJZ QJg Uw
end Go.Proofs
namespace Go.Proofs
open Go Go.Eng
structure QHh where
 cur:List Nat
 rest:Nat
 j:Nat
structure QE0 (xs:List Nat)(y:Nat)(x:QHh):Prop where
 dc:Dig 4294967296 x.cur
 lc:x.cur.length=xs.length
 hj:x.j<=xs.length
 hr:x.rest<y
 low:x.cur.take x.j=xs.take x.j
 inv:QF 4294967296 (xs.drop x.j)=y*QF 4294967296 (x.cur.drop x.j)+x.rest
def QMU (m a n b:Nat):LI:=fun id=>bif id.beq 8 then .cut ⟨Unit,fun _=>⟨[(0,bA m a),(1,bA n b)],[]⟩,fun _=>n≠0/\n<=m,fun _=>0,fun _=>0⟩
 else .inv ⟨QHh,fun x=>⟨[(7,wA 48 (wl m)),(8,wA 50 (wl n)),(9,iA .u64 x.rest),(10,iA .i64 ((x.j:Int)-1))],[(48,Qr x.cur),(50,Qr (fd 4294967296 (wl n) n))]⟩,QE0 (fd 4294967296 (wl m) m) n,fun x=>x.j,fun _=>0⟩
def QC5 (m a n b:Nat)(K:AV->Prop):Prop:=Qc T12 (oF Tryd.f63) (QMU m a n b) Tryd.f63 [bA m a,bA n b] K
theorem QC6 (m:Nat)(a:Nat)(n:Nat)(b:Nat)(K:AV->Prop):QC5 m a n b K=((bif decide (QA n=[])then K (AV.t [(false,[Zy (Yu (ByteArray.mk (Array.mk [])))]),(false,[Zy (Yu (ByteArray.mk (Array.mk [])))]),(false,[Zy (Ze Zb 12)])])else bif decide (Za (QA m).length<=8)then bif decide (Za (QA n).length<=8)then m<18446744073709551616/\n<18446744073709551616/\Za n≠0/\(0<=Zc.wrap ((Za m).tdiv (Za n))/\Zc.wrap ((Za m).tdiv (Za n))<18446744073709551616)/\m<18446744073709551616/\n<18446744073709551616/\Za n≠0/\(0<=(Za m).tmod (Za n)/\(Za m).tmod (Za n)<18446744073709551616)/\K (AV.t [(false,[Ch.b (Zc.wrap ((Za m).tdiv (Za n))).toNat 64]),(false,[Ch.b ((Za m).tmod (Za n)).toNat 64]),(false,[Zy (Ze Zb 0)])])else bif decide (YR m n<0)then K (AV.t [(false,[Zy (Yu (ByteArray.mk (Array.mk [])))]),(false,[Ch.b m a]),(false,[Zy (Ze Zb 0)])])else ∃(_x:Unit),((n≠0/\n<=m)/\OfNat.ofNat 0=0)/\m=m/\a<=a/\n=n/\b<=b/\True else bif decide (YR m n<0)then K (AV.t [(false,[Zy (Yu (ByteArray.mk (Array.mk [])))]),(false,[Ch.b m a]),(false,[Zy (Ze Zb 0)])])else ∃(_x:Unit),((n≠0/\n<=m)/\OfNat.ofNat 0=0)/\m=m/\a<=a/\n=n/\b<=b/\True)/\∀(_x:Unit),n≠0/\n<=m->OfNat.ofNat 0=0->a<=1099511627776/\b<=1099511627776/\bif Za (wl n)==1 then(∃(x:QHh),(QE0 (fd 4294967296 (wl m) m) n x/\OfNat.ofNat 0=0)/\0=0/\wl m=wl m/\0=0/\wl n=wl n/\0=Za x.rest/\Zb.wrap (Za (wl m)-1)=Za x.j-1/\98=98/\1=1/\(W (fd 4294967296 (wl m) m)=W x.cur∨QG (W (fd 4294967296 (wl m) m)) (W x.cur))/\98=98/\1=1/\(W (fd 4294967296 (wl n) n)=W (fd 4294967296 (wl n) n)∨QG (W (fd 4294967296 (wl n) n)) (W (fd 4294967296 (wl n) n)))/\True)/\∀(x:QHh),QE0 (fd 4294967296 (wl m) m) n x->OfNat.ofNat 0=0->bif decide (Za x.j-1≥0)then(0:Int)<=32/\(0<=Za x.j-1/\Za x.j-1<Za (wl m))/\∃(d:Int),ldE (W x.cur) (0+(Za x.j-1).toNat) 0 1=some [Zy (Ze Zd d)]/\((0:Int)<=0/\0<Za (wl n))/\∃(d_1:Int),ldE (W (fd 4294967296 (wl n) n)) 0 0 1=some [Zy (Ze Zd d_1)]/\Zc.wrap d_1≠0/\((0:Int)<=0/\0<Za (wl n))/\∃(d_2:Int),ldE (W (fd 4294967296 (wl n) n)) 0 0 1=some [Zy (Ze Zd d_2)]/\Zc.wrap d_2≠0/\(0<=Za x.j-1/\Za x.j-1<Za (wl m))/\0+(Za x.j-1).toNat<(W x.cur).length/\∃(x':QHh),(QE0 (fd 4294967296 (wl m) m) n x'/\OfNat.ofNat 0=0/\x'.j<x.j)/\0=0/\wl m=wl m/\0=0/\wl n=wl n/\(orI Zc (Xh Zc (Za x.rest) 32) (Zc.wrap d)).tmod (Zc.wrap d_2)=Za x'.rest/\Zb.wrap (Za x.j-1-1)=Za x'.j-1/\98=98/\1=1/\((W x.cur).set (0+(Za x.j-1).toNat) [Zy (Ze Zd (Zd.wrap (Zc.wrap ((orI Zc (Xh Zc (Za x.rest) 32) (Zc.wrap d)).tdiv (Zc.wrap d_1)))))]=W x'.cur∨QG ((W x.cur).set (0+(Za x.j-1).toNat) [Zy (Ze Zd (Zd.wrap (Zc.wrap ((orI Zc (Xh Zc (Za x.rest) 32) (Zc.wrap d)).tdiv (Zc.wrap d_1)))))]) (W x'.cur))/\98=98/\1=1/\(W (fd 4294967296 (wl n) n)=W (fd 4294967296 (wl n) n)∨QG (W (fd 4294967296 (wl n) n)) (W (fd 4294967296 (wl n) n)))/\True else ∃(ds:List Nat),Xb (wl m) (List.drop 0 (W x.cur))=W ds/\(∀(d:Nat),d∈ds->d<4294967296)/\ds.length<=1099511627776/\(0<=Za x.rest/\Za x.rest<18446744073709551616)/\K (AV.t [(false,[Ch.b (QF 4294967296 ds) (32*ds.length)]),(false,[Ch.b (Za x.rest).toNat 64]),(false,[Zy (Ze Zb 0)])])else ∃(xs:List Nat)(ys:List Nat)(s:Nat),W (fd 4294967296 (wl m) m)=W xs/\W (fd 4294967296 (wl n) n)=W ys/\wl m=xs.length/\wl n=ys.length/\Xz (Qz.mk xs ys s)/\∃(ds:List Nat),Xb (xs.length+1-ys.length) (List.drop 0 (W (fd 4294967296 (xs.length+1-ys.length) (QF 4294967296 xs/QF 4294967296 ys))))=W ds/\(∀(d:Nat),d∈ds->d<4294967296)/\ds.length<=1099511627776/\∃(ds_1:List Nat),Xb ys.length (List.drop 0 (W (fd 4294967296 (xs.length+1) (QF 4294967296 xs%QF 4294967296 ys))))=W ds_1/\(∀(d:Nat),d∈ds_1->d<4294967296)/\ds_1.length<=1099511627776/\K (AV.t [(false,[Ch.b (QF 4294967296 ds) (32*ds.length)]),(false,[Ch.b (QF 4294967296 ds_1) (32*ds_1.length)]),(false,[Zy (Ze Zb 0)])])):=by kernel_rfl
theorem QE0.step {xs:List Nat}{y:Nat}{x:QHh}(h:QE0 xs y x)(dx:Dig 4294967296 xs)(hy:y<4294967296)(hj:0<x.j){d:Nat}(hd:xs[x.j-1]? =some d):QE0 xs y ⟨x.cur.set (x.j-1) ((x.rest*4294967296+d)/y),(x.rest*4294967296+d) % y,x.j-1⟩:=by
 obtain⟨dc,lc,hjl,hr,low,inv⟩:=h;have dd:=dx.get hd;have hq:(x.rest*4294967296+d)/y<4294967296:=by
  apply Zn;have:(x.rest+1)*4294967296<=y*4294967296:=Zg _ hr;omega
 have gx:xs.drop (x.j-1)=d::xs.drop x.j:=by
  have hlt:=(List.getElem?_eq_some_iff.1 hd).1;rw[Zo hlt,(List.getElem?_eq_some_iff.1 hd).2,show x.j-1+1=x.j by omega]
 have gq:(x.cur.set (x.j-1) ((x.rest*4294967296+d)/y)).drop (x.j-1)=(x.rest*4294967296+d)/y::x.cur.drop x.j:=by
  rw[Zo (by simp;omega),List.getElem_set_self,Yq (by omega),show x.j-1+1=x.j by omega]
 refine⟨dc.set hq,by simpa using lc,by simp only;omega,Zr _ (by omega),?_,?_⟩
 ·simp only;rw[XM];have:=congrArg (Xb (x.j-1)) low;rwa [Xa,Xa,Yi (by omega)]at this
 ·simp only;rw[gx,gq,VN,VN,inv];have:=Yj (x.rest*4294967296+d) y;generalize (x.rest*4294967296+d)/y=q at this⊢;generalize (x.rest*4294967296+d) % y=r at this⊢;generalize QF 4294967296 (x.cur.drop x.j)=v;rw[Yb,Yb];have e:y*(4294967296*v)=4294967296*(y*v):=by rw[<-Zz,Zl y,Zz]
  omega
def NatRes (q a r b:Nat)(e:Int)(av:AV):Prop:= ∃x y,av= .t [(false,[x]),(false,[y]),(false,[.v (.int .i64 e)])]/\NatIs q a (.x false [x])/\NatIs r b (.x false [y])
theorem QJh {n:Nat}(h:n≠0):0<wl n/\4294967296^(wl n-1)<=n:=by
 have hl:(QA n).length≠0:=fun h'=>h (Qk.1 (List.eq_nil_of_length_eq_zero h'));have h1: ¬n<256^((QA n).length-1):=fun h'=>by have:=Qa.2 h';omega
 refine⟨by unfold wl;omega,?_⟩;rw[show(4294967296:Nat)=256^4 from rfl,<-Nat.pow_mul];have:(256:Nat)^(4*(wl n-1))<=256^((QA n).length-1):=Zj (by decide) (by unfold wl;omega);omega
theorem QMV {t:Nat}(h0:t≠0)(h:t<4294967296): ∃s,s<32/\2147483648<=t*2^s/\t*2^s<4294967296:=by
 have h1:=Nat.log2_self_le h0;have h2:= @Nat.lt_log2_self t;have h3:t.log2<32:=(Nat.log2_lt h0).2 (show t<2^32 from h);refine⟨31-t.log2,by omega,?_,?_⟩
 ·have e:2^t.log2*2^(31-t.log2)=2147483648:=by rw[<-Zv,show t.log2+(31-t.log2)=31 by omega]
  rw[<-e];exact Zg _ h1
 ·have e:2^(t.log2+1)*2^(31-t.log2)=4294967296:=by rw[<-Zv,show t.log2+1+(31-t.log2)=32 by omega]
  rw[<-e];exact Zk h2 (Zp (by decide))
theorem QPA {n:Nat}(h:n≠0):(fd 4294967296 (wl n) n).getD (wl n-1) 0=n/4294967296^(wl n-1)/\n/4294967296^(wl n-1)≠0/\n/4294967296^(wl n-1)<4294967296:=by
 obtain⟨h1,h2⟩:=QJh h;have hp:=X5 n;refine⟨X9 (QCm h1 hp),?_,?_⟩
 ·have:=Nat.div_pos h2 (Zp (by decide));exact Nat.ne_of_gt this
 ·apply Zn;rw[<-Zq,show(wl n-1).succ=wl n by omega];exact hp
theorem QMW {B L k v:Nat}(h:k<=L):(fd B L v).take k=fd B k v:=by
 simp only[fd,<-List.map_take,List.take_range,Yi h]
theorem QPB {m n:Nat}(hn:n≠0)(hle:n<=m):m/n<4294967296^(wl m+1-wl n):=by
 obtain⟨h1,h2⟩:=QJh hn;have h3:=U8 hle;have hp:=X5 m;apply Zn;have e:(4294967296:Nat)^wl m=4294967296^(wl n-1)*4294967296^(wl m+1-wl n):=by rw[<-Zv];congr 1;omega
 rw[e]at hp;exact Zw hp (Zg _ h2)
theorem QJi {m n:Nat}(hn:n≠0)(hle:n<=m)(h2:2<=wl n)(hm:wl m<=1099511627776): ∃s,Xz ⟨fd 4294967296 (wl m) m,fd 4294967296 (wl n) n,s⟩:=by
 obtain⟨e,h3,h4⟩:=QPA hn;obtain⟨s,s1,s2,s3⟩:=QMV h3 h4;refine⟨s,Dig.fd (by decide),Dig.fd (by decide),by simpa [Qj]using h2,by simpa [Qj]using U8 hle,by simpa [Qj]using hm,s1,?_,?_⟩
 ·simp only[Qj,e];exact s2
 ·simp only[Qj,e];exact s3
theorem QQq (m a n b:Nat)(ha:a<=549755813888)(hb:b<=549755813888)(hm:m<2^a)(hn:n<2^b):QU (QC5 m a n b (NatRes (m/n) a (bif decide (n=0)then 0 else m % n) b (bif decide (n=0)then 12 else 0))):=by
 refine⟨?_⟩;rw[QC6];have hwm:=GA hm;have hwn:=GA hn;have hpb:0<2^b:=Zp (by decide);have hpa:0<2^a:=Zp (by decide);have hqa:m/n<2^a:=Zs (Yx _ _) hm;simp only[Yg,R0,R1,Yv,Yz,R4,R2];have small:n≠0->decide (YR m n<0)=true->NatRes (m/n) a (bif decide (n=0)then 0 else m % n) b (bif decide (n=0)then 12 else 0) (.t [(false,[.v (.string ⟨⟨[]⟩⟩)]),(false,[.b m a]),(false,[.v (.int .i64 0)])]):=by
  intro h0 h;have hlt:m<n:=by
   have h:=R5 h;unfold YR at h;rcases Nat.lt_or_ge m n with h' | h'
   ·exact h'
   ·rw[if_neg (by omega)]at h;split at h<;>simp at h
  simp only[h0,decide_false,R8];rw[Yn hlt,Zt hlt];exact⟨_,_,rfl,⟨hpa,.inr ⟨[],rfl,rfl⟩⟩,.b (by omega)⟩
 have big:n≠0->decide (YR m n<0)=false-> ∃_x:Unit,n≠0/\n<=m:=by
  intro h0 h;have h:=R6 h;refine⟨(),h0,?_⟩;unfold YR at h;rcases Nat.lt_or_ge m n with h' | h'
  ·rw[if_pos h']at h;simp at h
  ·exact h'
 refine⟨QE (fun h=> ?_) (fun h=> ?_),fun _ hx=>⟨by omega,by omega,QE (fun h=> ?_) (fun h=> ?_)⟩⟩
 ·have h0:n=0:=Qk.1 (R5 h);subst h0;simp only[Nat.div_zero,decide_true,R7];exact⟨_,_,rfl,⟨hpa,.inr ⟨[],rfl,rfl⟩⟩,⟨hpb,.inr ⟨[],rfl,rfl⟩⟩⟩
 ·have h0:n≠0:=fun h'=>(R6 h) (Qk.2 h');refine QE (fun h1=>QE (fun h2=> ?_) (fun h2=>QE (fun h3=>small h0 h3) (fun h3=>big h0 h3))) (fun h1=>QE (fun h3=>small h0 h3) (fun h3=>big h0 h3));have h1:=R5 h1;have h2:=R5 h2;have m8:=Qa (m:=m) (k:=8) |>.1 (by omega)
  have n8:=Qa (m:=n) (k:=8) |>.1 (by omega)
  have e1:(m:Int).tdiv n=((m/n:Nat):Int):=by rw[te (Zx m)];simp
  have e2:(m:Int).tmod n=((m % n:Nat):Int):=by rw[tm (Zx m)];simp
  have q1:m/n<=m:=Yx _ _;have r1:m % n<=m:=Nat.mod_le _ _;have r2:m % n<n:=Zr _ (by omega);rw[e1,e2];simp only[h0,decide_false,R8];generalize m/n=q at q1 hqa⊢;generalize m % n=r at r1 r2⊢;rw[XV (by omega),Zm,Zm];exact⟨by omega,by omega,by omega,by omega,by omega,by omega,by omega,by omega,_,_,rfl,.b hqa,.b (by omega)⟩
 ·obtain⟨h0,hle⟩:=hx;have hw1:wl n=1:=by have h:=(by simpa using h:(wl n:Int)=1);omega
  have hnB:n<4294967296:=by have:=X5 n;rw[hw1,Nat.pow_one]at this;exact this
  have gy:(fd 4294967296 (wl n) n)[0]? =some n:=by rw[JE (by omega),Nat.pow_zero,Nat.div_one,Zt hnB]
  have wn:Zc.wrap (n:Int)=(n:Int):=XV (by omega);have vm:=Qt (X5 m);have dx:Dig 4294967296 (fd 4294967296 (wl m) m):=Dig.fd (by decide);have lx:(fd 4294967296 (wl m) m).length=wl m:=Qj;generalize fd 4294967296 (wl m) m=xs at vm dx lx⊢;generalize fd 4294967296 (wl n) n=ys at gy⊢;refine⟨⟨⟨xs,0,wl m⟩,⟨dx,rfl,by simp only;omega,by simp only;omega,rfl,?_⟩,rfl,?_,.inl rfl⟩,fun x hx=>QE (fun hp=> ?_) (fun hp=> ?_)⟩
  ·simp only;rw[Yd (by omega)];simp[QF]
  ·rw[w64 (by omega)]
  ·have hp:=R5 hp;have hj:0<x.j:=by omega
   have hjl:=hx.hj;have lc:=hx.lc;have hr:=hx.hr;obtain⟨d,hd⟩: ∃d,xs[x.j-1]? =some d:=⟨_,Zi (by omega)⟩
   have dd:=dx.get hd;have hcd:x.cur[x.j-1]? =some d:=by
    have h1:=congrArg (fun l:List Nat=>l[x.j-1]?) hx.low;simp only[Yk]at h1;rw[if_pos (by omega),if_pos (by omega)]at h1;rw[h1];exact hd
   have hs:=hx.step dx hnB hj hd;have k0:((x.j:Int)-1).toNat=x.j-1:=by omega
   have k1:orI .u64 (Xh .u64 (x.rest:Int) 32) (Zc.wrap (d:Int))=((x.rest*4294967296+d:Nat):Int):=by
    have:=QJd (a:=x.rest) (b:=d) (by omega) dd;rw[XV (n:=(x.rest:Int)) (by omega)]at this;exact this
   have hq:(x.rest*4294967296+d)/n<4294967296:=by
    apply Zn;have:(x.rest+1)*4294967296<=n*4294967296:=Zg _ hr;omega
   rw[k0];refine⟨by omega,by omega,d,X8 hcd,by omega,n,X8 gy,by omega,by omega,n,X8 gy,by omega,by omega,by rw[Jg];omega,_,⟨hs,by simp only;omega⟩,?_,?_,?_⟩
   ·rw[k1,wn,tm (Zx _)];simp
   ·rw[w64 (by omega)];simp only;omega
   ·have e1:((x.rest*4294967296+d:Nat):Int).tdiv (n:Int)=(((x.rest*4294967296+d)/n:Nat):Int):=by rw[te (Zx _)];simp
    rw[k1,wn,e1];generalize (x.rest*4294967296+d)/n=q at hq⊢;rw[XV (by omega),QEd (by omega),Js];exact .inl rfl
  ·have hp:=R6 hp;have hj:x.j=0:=by omega
   have lc:=hx.lc;have hr:=hx.hr;have inv:=hx.inv;rw[hj,Ya,Ya,vm]at inv;have hq:QF 4294967296 x.cur=m/n:=by
    rw[inv,Nat.mul_add_div (by omega),Yn hr,Zu]
   have hm2:x.rest=m % n:=by rw[inv,Nat.mul_add_mod,Zt hr]
   refine⟨x.cur,by rw[Ya,UN,List.take_of_length_le (by omega)],hx.dc,by omega,by omega,?_⟩;simp only[h0,decide_false,R8];rw[hq,Zm,<-hm2];exact⟨_,_,rfl,.b hqa,.b (by omega)⟩
 ·obtain⟨h0,hle⟩:=hx;have hw2:2<=wl n:=by
   have:=(QJh h0).1;have h:=(by simpa using h: ¬(wl n:Int)=1);omega
  obtain⟨s,hs⟩:=QJi h0 hle hw2 (by omega);have vm:=Qt (X5 m);have vn:=Qt (X5 n);refine⟨_,_,s,rfl,rfl,by rw[Qj],by rw[Qj],hs,?_⟩;rw[vm,vn,Qj,Qj];simp only[h0,decide_false,R8];have hq:=QPB h0 hle;have hr:m % n<n:=Zr _ (by omega);refine⟨fd 4294967296 (wl m+1-wl n) (m/n),by rw[Ya,UN,List.take_of_length_le (by rw[Qj];omega)],Dig.fd (by decide),by rw[Qj];omega,fd 4294967296 (wl n) (m % n),?_,Dig.fd (by decide),by rw[Qj];omega,?_⟩
  ·have:=U8 hle;rw[Ya,UN,QMW (by omega)]
  ·rw[Qt hq,Qt (Nat.lt_trans hr (X5 n))];exact⟨_,_,rfl,.b hqa,.b (by omega)⟩
theorem NatRes.conc {w:World}{O:Nat->Prop}{ρ:Env}{q a r b:Nat}{e:Int}{av:AV}{v:Value}(h:NatRes q a r b e av)(hc:ConcV w O ρ av v):ConcV w O ρ (.t [(false,[.b q a]),(false,[.b r b]),(false,[.v (.int .i64 e)])]) v:=by
 obtain⟨x,y,rfl,hx,hy⟩:=h;obtain⟨vs,h1,h2⟩:=hc;cases h1 with
 | cons h1 h3=>cases h3 with
  | cons h3 h4=>exact⟨_,.cons (hx.conc (av:= .x false [x]) h1) (.cons (hy.conc (av:= .x false [y]) h3) h4),h2⟩
def QGA:Ctr
 | [.x false [.b m a],.x false [.b n b]]=>some fun K=>(a<=549755813888/\b<=549755813888)/\K (.t [(false,[.b (m/n) a]),(false,[.b (bif decide (n=0)then 0 else m % n) b]),(false,[.v (.int .i64 (bif decide (n=0)then 12 else 0))])])
 | _=>none
theorem ok_Div {g:Nat}{tab:List Value}:CtrOK Tryd.prog g tab 63 QGA:=by
 refine⟨Qm Tryd.func63 (by kernel_rfl),fun l T hT K hK=> ?_⟩;unfold QGA at hT;split at hT
 ·rename_i m a n b;cases hT
  refine YZ fun w O ρ vals hc=>Eng.Spec.res (Qn QQp QW Tryd.func63 (by kernel_rfl) (by kernel_rfl) (by rfl) (QQq m a n b hK.1.1 hK.1.2 (Jw hc) (JI hc))) fun _ _ _ _ hn hc=>⟨_,hK.2,hn.conc hc⟩
 ·cases hT
def L13:LC:=(63,QGA)::L11
noncomputable def T13:Qh:=mkT L13 M12 X3
theorem QNt {g:Nat}{tab:List Value}:CtrsOK Tryd.prog g tab L13:= .cons ok_Div QJZ
theorem QNu {g:Nat}{tab:List Value}:Q5 Tryd.prog g tab T13:=Qq QNt QJg Uw
end Go.Proofs
namespace Go.Proofs
open Go Go.Eng
theorem QHi {m x L:Nat}(hx:x<8*L):(fd 18446744073709551616 L (m % 256^x)).set (x/8) ((m % 256^x)/18446744073709551616^(x/8) % 18446744073709551616+256^(x % 8)*(m/256^x % 256))=fd 18446744073709551616 L (m % 256^(x+1)):=by
 have hj:x/8<L:=by omega
 have hBx: ∀y,(18446744073709551616:Nat)^y=256^(8*y):=fun y=>by rw[show(18446744073709551616:Nat)=256^8 from rfl,<-Nat.pow_mul]
 have e4:256^x=18446744073709551616^(x/8)*256^(x % 8):=by
  rw[hBx,<-Zv];congr 1;omega
 have hm1:m % 256^x<256^x:=Zr _ (Zp (by omega));have hm2:m % 256^(x+1)<256^(x+1):=Zr _ (Zp (by omega));have hl1:(256:Nat)^x<=18446744073709551616^L:=by rw[hBx];exact Zj (by omega) (by omega)
 have hl2:(256:Nat)^(x+1)<=18446744073709551616^L:=by rw[hBx];exact Zj (by omega) (by omega)
 have hd:(m % 256^x)/18446744073709551616^(x/8)<256^(x % 8):=by
  apply Zn;rw[<-e4];exact hm1
 have hr:x % 8<8:=Zr _ (by omega);have hp:256^(x % 8)*256<=18446744073709551616:=by
  have:(256:Nat)^(x % 8)*256=256^(x % 8+1):=by rw[Zq]
  rw[this,show(18446744073709551616:Nat)=256^8 from rfl];exact Zj (by omega) (by omega)
 have hb:m/256^x % 256<256:=Zr _ (by omega);have hdm:(m % 256^x)/18446744073709551616^(x/8) % 18446744073709551616=(m % 256^x)/18446744073709551616^(x/8):=Zt (by omega);have hv:(m % 256^x)/18446744073709551616^(x/8) % 18446744073709551616+256^(x % 8)*(m/256^x % 256)<18446744073709551616:=by
  rw[hdm];have:256^(x % 8)*(m/256^x % 256+1)<=256^(x % 8)*256:=Zh _ hb;rw[Yb]at this;omega
 apply Wd ((Dig.fd (by omega)).set hv) (Dig.fd (by omega)) (by simp[Qj]);have h1:=Kq (B:=18446744073709551616) (v:=(m % 256^x)/18446744073709551616^(x/8) % 18446744073709551616+256^(x % 8)*(m/256^x % 256)) (JE (B:=18446744073709551616) (m:=m % 256^x) hj);rw[Qt (by omega),Yb,<-Zz,<-e4]at h1;rw[Qt (by omega),Vg];omega
theorem QE1 {L:Nat}:fd 18446744073709551616 L 0=Yf L 0:=
 Wd (Dig.fd (by omega)) (Dig.zeros (by omega)) (by simp[Qj]) (by rw[Qt (Zp (by omega)),KV])
theorem QHj (m x:Nat):m % 256^x/18446744073709551616^(x/8) % 18446744073709551616<256^(x % 8):=by
 have hBx:(18446744073709551616:Nat)^(x/8)=256^(8*(x/8)):=by rw[show(18446744073709551616:Nat)=256^8 from rfl,<-Nat.pow_mul]
 have e4:256^x=18446744073709551616^(x/8)*256^(x % 8):=by
  rw[hBx,<-Zv];congr 1;omega
 have hm1:m % 256^x<256^x:=Zr _ (Zp (by omega));refine Zs (Nat.mod_le _ _) (Zn ?_);rw[<-e4];exact hm1
def V (ds:List Nat):List (List Ch):=ds.map fun(d:Nat)=>[.v (.int .u64 (d:Int))]
theorem Ul (ds:List Nat):(V ds).length=ds.length:=by simp[V]
theorem QQr {ds:List Nat}{i d:Nat}(h:ds[i]? =some d):(V ds)[i]? =some [.v (.int .u64 (d:Int))]:=by simp[V,h]
theorem WD {ds:List Nat}{i d:Nat}(h:ds[i]? =some d):ldE (V ds) i 0 1=some [.v (.int .u64 (d:Int))]:=by simp only[ldE,QQr h];rfl
theorem QAd (ds:List Nat)(i v:Nat):(V ds).set i [.v (.int .u64 (v:Int))]=V (ds.set i v):=by simp[V,List.map_set]
theorem GM (ds:List Nat)(i:Nat):(V ds).take i=V (ds.take i):=by simp[V,List.map_take]
theorem QE2 (ds:List Nat)(i:Nat):(V ds).drop i=V (ds.drop i):=by simp[V,List.map_drop]
end Go.Proofs
namespace Go.Proofs
open Go Go.Eng
def vl (m:Nat):Nat:=((QA m).length+7)/8
def QHk (m n:Nat):LI:=fun _=> .inv ⟨Nat,fun i=>⟨[(0,bA m n),(3,.x false [.w 9 0 (vl m)]),(11,iA .i64 (QA m).length),(12,iA .i64 i)],[(9,.row 94 1 (V (fd 18446744073709551616 (vl m) (m % 256^i))))]⟩,
 fun i=>i<=(QA m).length,fun i=>(QA m).length-i,fun _=>0⟩
theorem or_byte64 {d b r:Nat}(hd:d<256^r)(hr:r<8)(hb:b<256):orI .u64 (d:Int) (Xh .u64 (Zc.wrap (b:Int)) ((r:Int)*8))=((d+256^r*b:Nat):Int):=by
 have hp:(256:Nat)^r*256<=18446744073709551616:=by
  have:(256:Nat)^r*256=256^(r+1):=by rw[Zq]
  rw[this,show(18446744073709551616:Nat)=256^8 from rfl];exact Zj (by omega) (by omega)
 have h2:256^r*(b+1)<=256^r*256:=Zh _ hb;rw[Yb]at h2;have e1:Xh .u64 (Zc.wrap (b:Int)) ((r:Int)*8)=((2^(8*r)*b:Nat):Int):=by
  have e0:((r:Int)*8).toNat=8*r:=by omega
  rw[XV (by omega),KU (by rw[e0];simp only[IntKind.bits];omega),e0];have:(b:Int)*2^(8*r)=((2^(8*r)*b:Nat):Int):=by rw[Int.natCast_mul,Int.mul_comm];simp
  rw[this];refine XV ⟨by omega,?_⟩;rw[<-JG];omega
 rw[e1,Wc,Ve (by rw[<-JG];exact hd) (by rw[<-JG];omega),<-JG];congr 1;omega
set_option maxHeartbeats 1000000 in
theorem QMX (m n:Nat)(hn:n<=1099511627776)(hm:m<2^n):QU (JK (X:=Unit) T13 (oF Tryd.f83) (QHk m n) Tryd.f83 [bA m n] [] (fun _=>True) (fun _=>⟨[(2,.x false [.w 0 0 (vl m)])],[(0,.row 94 1 (V (fd 18446744073709551616 (vl m) m)))]⟩)):=by
 refine HV (((8:Int)≠0/\(0<=Zb.wrap ((Zb.wrap (Za (QA m).length+7)).tdiv 8)/\Zb.wrap ((Zb.wrap (Za (QA m).length+7)).tdiv 8)<=Zb.wrap ((Zb.wrap (Za (QA m).length+7)).tdiv 8)/\8*Zb.wrap ((Zb.wrap (Za (QA m).length+7)).tdiv 8)<=281474976710656/\Zb.wrap ((Zb.wrap (Za (QA m).length+7)).tdiv 8)<=9223372036854775807)/\(∃(x:Nat),(x<=(QA m).length/\OfNat.ofNat 0=0)/\m=m/\n<=n/\0=0/\(Zb.wrap ((Zb.wrap (Za (QA m).length+7)).tdiv 8)).toNat=vl m/\Za (QA m).length=Za (QA m).length/\0=Za x/\94=94/\1=1/\(Yf (Zb.wrap ((Zb.wrap (Za (QA m).length+7)).tdiv 8)).toNat [Zy (Ze Zc 0)]=V (fd 18446744073709551616 (vl m) (m%256^x))∨QG (Yf (Zb.wrap ((Zb.wrap (Za (QA m).length+7)).tdiv 8)).toNat [Zy (Ze Zc 0)]) (V (fd 18446744073709551616 (vl m) (m%256^x))))/\True)/\∀(x:Nat),x<=(QA m).length->OfNat.ofNat 0=0->bif decide (Za x<Za (QA m).length)then(8:Int)≠0/\(0<=Zb.wrap ((Za x).tdiv 8)/\Zb.wrap ((Za x).tdiv 8)<Za (vl m))/\∃(d:Int),ldE (V (fd 18446744073709551616 (vl m) (m%256^x))) (0+(Zb.wrap ((Za x).tdiv 8)).toNat) 0 1=some [Zy (Ze Zc d)]/\∃(b:UInt8),(0<=Zb.wrap (Zb.wrap (Za (QA m).length-1)-Za x)/\(QA m)[(Zb.wrap (Zb.wrap (Za (QA m).length-1)-Za x)).toNat]?=some b)/\(8:Int)≠0/\0<=Zb.wrap ((Za x).tmod 8*8)/\(0<=Zb.wrap ((Za x).tdiv 8)/\Zb.wrap ((Za x).tdiv 8)<Za (vl m))/\0+(Zb.wrap ((Za x).tdiv 8)).toNat<(V (fd 18446744073709551616 (vl m) (m%256^x))).length/\∃(x':Nat),(x'<=(QA m).length/\OfNat.ofNat 0=0/\(QA m).length-x'<(QA m).length-x)/\m=m/\n<=n/\0=0/\vl m=vl m/\Za (QA m).length=Za (QA m).length/\Zb.wrap (Za x+1)=Za x'/\94=94/\1=1/\((V (fd 18446744073709551616 (vl m) (m%256^x))).set (0+(Zb.wrap ((Za x).tdiv 8)).toNat) [Zy (Ze Zc (orI Zc d (Xh Zc (Zc.wrap (Za b.toNat)) (Zb.wrap ((Za x).tmod 8*8)))))]=V (fd 18446744073709551616 (vl m) (m%256^x'))∨QG ((V (fd 18446744073709551616 (vl m) (m%256^x))).set (0+(Zb.wrap ((Za x).tdiv 8)).toNat) [Zy (Ze Zc (orI Zc d (Xh Zc (Zc.wrap (Za b.toNat)) (Zb.wrap ((Za x).tmod 8*8)))))]) (V (fd 18446744073709551616 (vl m) (m%256^x'))))/\True else ∃(_x_1:Unit),True/\0=0/\vl m=vl m/\94=94/\1=1/\(V (fd 18446744073709551616 (vl m) (m%256^x))=V (fd 18446744073709551616 (vl m) m)∨QG (V (fd 18446744073709551616 (vl m) (m%256^x))) (V (fd 18446744073709551616 (vl m) m)))/\True)) ?_
 have hl:=XB hm;have hw: ∀x:Nat,x<=(QA m).length->(x:Int)<9223372036854775807:=fun x hx=>by omega
 generalize hlen:(QA m).length=len at hl hw;have hwl:vl m=(len+7)/8:=by unfold vl;rw[hlen]
 simp only[hwl];simp only[Yg,R0,R1,Yv,Yz,R4];simp(disch:=omega) only[w64,te,tm];have e1:(((len:Int)+7)/8).toNat=(len+7)/8:=by omega
 rw[e1];simp only[R0];refine⟨by omega,⟨by omega,by omega,by omega,by omega⟩,⟨0,by omega,rfl,.inl ?_⟩,fun x hx=>QE (fun hp=> ?_) (fun hp=> ?_)⟩
 ·rw[Nat.pow_zero,Nat.mod_one,QE1,V,List.map_replicate];rfl
 ·have hp:x<len:=by simpa using hp
  simp(disch:=omega) only[w64];have e2:((x:Int)/8).toNat=x/8:=by omega
  have e3:((len:Int)-1-x).toNat=len-1-x:=by omega
  have hj:x/8<(len+7)/8:=by omega
  rw[e2,e3];refine⟨by omega,by omega,_,WD (JE hj),_,⟨by omega,Jv (by omega)⟩,by omega,by omega,by omega,by rw[Ul,Qj];exact hj,x+1,by omega,by omega,.inl ?_⟩;rw[hlen,show len-1-(len-1-x)=x by omega,UInt8.toNat_ofNat',Nat.mod_mod,<-QHi (by omega),<-QAd];congr 4;rw[show((x:Int) % 8)=((x % 8:Nat):Int)by omega];exact or_byte64 (QHj m x) (by omega) (Zr _ (by omega))
 ·have hp: ¬x<len:=by simpa using hp
  have:x=len:=by omega
  subst this;exact⟨(),.inl (by rw[Zt (by rw[<-hlen];exact Q8 m)])⟩
def QBX:YA:=fun as0 H d=>match as0 with
  | [.x false [.b m n]]=>match H d with
    | none=>some fun K=>n<=1099511627776/\K (.x false [.w d 0 (vl m)]) (Xc [(0,d)] (QO [(0,.row 94 1 (V (fd 18446744073709551616 (vl m) m)))]) H)
    | some _=>none
  | _=>none
theorem QJj {g:Nat}{tab:List Value}:J8 Tryd.prog g tab 83 QBX:=by
 refine⟨Qm Tryd.func83 (by kernel_rfl),fun l H d T hT K hK=> ?_⟩;unfold QBX at hT;split at hT
 ·split at hT
  ·rename_i hd;cases hT
   exact SpecM.pre fun w O ρ vals hc=>UM QNu QW Tryd.func83 (by kernel_rfl) (by kernel_rfl) (by rfl) (by rfl) hd (by kernel_rfl) (QMX _ _ hK.1 (Jw hc)) hK.2
  ·cases hT
 ·cases hT
end Go.Proofs
namespace Go.Proofs
open Go Go.Eng
def YU (ds:List Nat):Blk:= .row 94 1 (V ds)
def WU (us:List Nat)(o:Nat):Nat->Nat
  | 0=>0
  | n+1=>if us[o+n]?.getD 0=0 then WU us o n else n+1
def QMY (us:List Nat)(o n:Nat):LI:=fun _=> .inv ⟨Nat,fun i=>⟨[(0,wO 1000 o i)],[(1000,YU us)]⟩,
 fun i=>i<=n/\WU us o i=WU us o n,fun i=>i,fun _=>0⟩
theorem QQs (us:List Nat)(o n:Nat)(ho:o+n<=us.length)(hl:us.length<=2199023255552):QU (JK (X:=Unit) T13 (oF Tryd.f96) (QMY us o n) Tryd.f96 [wO 1000 o n] [(1000,YU us)] (fun _=>True)
 (fun _=>⟨[(2,wO 1000 o (WU us o n))],[(1000,YU us)]⟩)):=by
 refine HV (((∃(x:Nat),((x<=n/\WU us o x=WU us o n)/\OfNat.ofNat 0=0)/\o=o/\n=x/\94=94/\1=1/\(V us=V us∨QG (V us) (V us))/\True)/\∀(x:Nat),x<=n/\WU us o x=WU us o n->OfNat.ofNat 0=0->bif decide (Za x>0)then(0<=Zb.wrap (Za x-1)/\Zb.wrap (Za x-1)<Za x)/\∃(d:Int),ldE (V us) (o+(Zb.wrap (Za x-1)).toNat) 0 1=some [Zy (Ze Zc d)]/\bif d==0 then((0:Int)<=0/\0<=Zb.wrap (Za x-1)/\Zb.wrap (Za x-1)<=Za x)/\∃(x':Nat),((x'<=n/\WU us o x'=WU us o n)/\OfNat.ofNat 0=0/\x'<x)/\o+0=o/\(Zb.wrap (Za x-1)).toNat-0=x'/\94=94/\1=1/\(V us=V us∨QG (V us) (V us))/\True else ∃(_x_1:Unit),True/\o=o/\x=WU us o n/\94=94/\1=1/\(V us=V us∨QG (V us) (V us))/\True else ∃(_x_1:Unit),True/\o=o/\x=WU us o n/\94=94/\1=1/\(V us=V us∨QG (V us) (V us))/\True)) ?_
 simp only[Yg,R0,R1,R4,R2];refine⟨⟨n,⟨by omega,rfl⟩,rfl⟩,fun x hx=>QE (fun hp=> ?_) (fun hp=> ?_)⟩
 ·have hp:0<x:=by simpa using hp
  obtain⟨y,rfl⟩: ∃y,x=y+1:=⟨x-1,by omega⟩;have hy:o+y<us.length:=by omega
  have e1:Zb.wrap (((y+1:Nat):Int)-1)=(y:Int):=by
   rw[w64 (by omega)];omega
  have eg:us[o+y]? =some us[o+y]:=Zi hy
  rw[e1];refine⟨by omega,((us[o+y]:Nat):Int),by rw[Zm];exact WD eg,QE (fun hd=> ?_) (fun hd=> ?_)⟩
  ·have hd:us[o+y]=0:=by simpa using hd
   refine⟨by omega,y,⟨⟨by omega,?_⟩,by omega⟩,rfl,by simp⟩;rw[<-hx.2,WU,if_pos (by rw[eg];exact hd)]
  ·have hd: ¬us[o+y]=0:=by simpa using hd
   refine⟨(),?_⟩;rw[<-hx.2,WU,if_neg (by rw[eg];exact hd)]
 ·have hp: ¬0<x:=by simpa using hp
  have:x=0:=by omega
  subst this;exact⟨(),by rw[<-hx.2];rfl⟩
def QJk:YA:=fun as0 H _=>match as0 with
 | [.x false [.w k o n]]=>match H k with
  | some (.row t 1 xs)=>bif t.beq 94 then
    some fun K=> ∃us,xs=V us/\o+n<=us.length/\us.length<=2199023255552/\
     K (.x false [.w k o (WU us o n)]) (Xc [(1000,k)] (QO [(1000,YU us)]) H)
    else none
  | _=>none
 | _=>none
theorem QPC {g:Nat}{tab:List Value}:J8 Tryd.prog g tab 96 QJk:=by
 refine⟨Qm Tryd.func96 (by kernel_rfl),fun l H d T hT K hK=> ?_⟩;unfold QJk at hT;split at hT
 ·rename_i k o n;split at hT
  ·rename_i t xs e1;cases hb:t.beq 94 with
   | false=>rw[hb]at hT;cases hT
   | true=>
    rw[hb]at hT;cases hT
    have ht:=Ym hb;subst ht;obtain⟨us,rfl,ho,hl,hK⟩:=hK;refine Xp (R:=[(1000,k)]) (N:=[]) (Hl:=[(1000,YU us)]) QNu QW Tryd.func96 (by kernel_rfl) (by kernel_rfl) (by rfl)
     (as0:=[wO 1000 o n]) ?_ (GB e1 rfl rfl) rfl (by simp) (by simp) (fun _ h=>by cases h) (fun x=>⟨fun p hp=> ?_,fun p hp b hb=> ?_⟩) (QQs us o n ho hl) (fun x _=> ?_)
    ·simp[Jf,Je,JJ,lkB,wO]
    ·simp at hp;subst hp;exact fun h=>by have h':some (YU _)=none:=h;cases h'
    ·simp at hp;subst hp;have h':some (YU _)=some b:=hb;cases h';rfl
    ·exact⟨_,rfl,hK⟩
  ·cases hT
 ·cases hT
end Go.Proofs
