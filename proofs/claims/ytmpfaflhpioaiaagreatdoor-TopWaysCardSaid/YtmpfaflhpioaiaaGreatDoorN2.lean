/- Natural numbers: long division, plain facts. -/
import Derived.Test.YtmpfaflhpioaiaaGreatDoorN1
open _root_ renaming Nat → A, Int → C, List → D, True → J, congrArg → K, Unit → N, decide_false → O, if_pos → R, ByteArray → T, OfNat → X
open Bool renaming false → E
open Int renaming ofNat → F, toNat_natCast → h, natCast_nonneg → Zx, ofNat_eq_natCast → Yg
open Option renaming some → G, none → S
open List renaming length → H, getD_eq_getElem?_getD → k, getElem?_eq_getElem → Zi, drop_zero → Ya, drop_eq_getElem_cons → Zo, replicate → Yf, take → Xb, drop_of_length_le → Yd, getElem?_take → Yk, length_take → Yt, getElem?_drop → Yr, drop_set_of_lt → Yq, getElem?_set → Ys, take_take → Xa, take_append_of_le_length → Yp
open Go.IntKind renaming u64 → I, i64 → M, u32 → Z
open Nat renaming mul_comm → Y, mod_lt → f, pow_pos → e, mul_le_mul_right → p, pow_succ → a, pow_add → v, mul_le_mul_left → u, add_zero → Zu, pow_le_pow_right → Zj, mul_add → Yb, div_lt_of_lt_mul → Zn, mod_eq_of_lt → Zt, mul_assoc → Zz, lt_of_le_of_lt → Zs, mul_zero → Yh, mul_lt_mul_of_pos_right → Zk, add_mul → Yo, lt_of_lt_of_le → Zw, min_eq_left → Yi, eq_zero_or_pos → Yc, div_add_mod → Yj, add_comm → Yw, le_refl → Yz, div_eq_of_lt → Yn, zero_add → Yv, one_mul → Yy, le_sub_one_of_lt → Ye, le_div_iff_mul_le → Yl, div_le_self → Yx, eq_of_beq_eq_true → Ym, pow_add → Zv
open Go.Eng.Ch renaming v → z
open Go.Value renaming int → Ze, string → Yu
set_option maxHeartbeats 1000000
set_option maxRecDepth 100000
namespace Go.Proofs
open Go Go.Eng Tryz
variable{l:D A}{B m:A}
theorem qS(h:m<=H l):B^m*QI B (l.drop m)<=QI B l:=by
 rw[X1 (B:=B) h];omega
theorem fM(a:Dig B l)(h:m<=H l):QI B l<B^m*(QI B (l.drop m)+1):=by
 have:=Jl (a.take (i:=m));rw[Yt,Yi h]at this;conv=>lhs;rw[X1 (B:=B) h]
 rw[Yb];omega
theorem drop_one(h:l.length=m+1):l.drop m=[l.getD m 0]:=by
 rw[Zo o3,Yd o3];simp[k,Zi (o3:m<H l)]
theorem QI0(h:l.length=m+2):l.drop m=[l.getD m 0,l.getD (m+1) 0]:=by
 rw[Zo o3,drop_one (m:=m+1) h];simp[k,Zi (o3:m<H l)]
theorem QLS(h:l.length=m+3):l.drop m=[l.getD m 0,l.getD (m+1) 0,l.getD (m+2) 0]:=by
 rw[Zo o3,QI0 (m:=m+1) h];simp[k,Zi (o3:m<H l)]
variable{us:D A}{i o:A}
theorem gr{n:A}(h:i<n):(win us o n).getD i 0=us.getD (o+i) 0:=by
 simp only[win,k,Yk,R h,Yr]
variable{w:D A}
theorem QE2(h:o+H w<=H us):QI B (spl us o w)=QI B (us.take o)+B^o*(QI B w+B^w.length*QI B (us.drop (o+H w))):=by
 unfold spl;rw[J7,J7,Yt,Yi o3]
theorem uI{n:A}(h:o+n<=H us):QI B us=QI B (us.take o)+B^o*(QI B (win us o n)+B^n*QI B (us.drop (o+n))):=by
 have:=QE2 (B:=B) (us:=us) (w:=win us o n) (o:=o) (by rw[Kl h];exact h);rw[fV h,Kl h]at this;exact this
structure QD (B:A)(V W v1 v2 top u3 n2:A):Prop where
  v_lo:(v1*B+v2)*B^n2<=V
  v_hi:V<(v1*B+v2+1)*B^n2
  w_lo:(top*B+u3)*B^n2<=W
  w_hi:W<(top*B+u3+1)*B^n2
  v1_lo:2147483648<=v1
  v1_hi:v1<B
  v2_hi:v2<B
  u3_hi:u3<B
  W_hi:W<V*B
  top_hi:top<=v1*B+(B-1)
variable{n2:A}
theorem QD.pos{V W v f a u:A}(h:QD 4294967296 V W v f a u n2):0<V:=by
 have:=h.v_lo;have j:0<(v*4294967296+f)*4294967296^n2:=A.mul_pos (by have:=h.v1_lo;omega) (e o3);omega
theorem QD.q_lt{V W v e a u:A}(h:QD 4294967296 V W v e a u n2):W/V<4294967296:=by
 apply Zn;exact h.W_hi
theorem QD.start{V W v j f u:A}(h:QD 4294967296 V W v j f u n2):W/V<=f/v:=by
 refine QIj (B:=4294967296) (V:=V) (U:=W) (n1:=n2+1) ?_ ?_ (A.div_mul_le_self _ _) (by have:=h.v1_lo;omega)
 ·have:=h.v_lo;rw[a];rw[Yo]at this;have e:v*(4294967296^n2*4294967296)=v*4294967296*4294967296^n2:=j4
  omega
 ·have:=h.w_hi;rw[a];have e:(f+1)*(4294967296^n2*4294967296)=(f*4294967296+4294967296)*4294967296^n2:=j4
  rw[e];exact Zw this (p _ (by have:=h.u3_hi;omega))
variable{d r:A}
theorem QD.step{V W v f a u:A}(h:QD 4294967296 V W v f a u n2)(j:d*v+r=a)(e:4294967296<=d\/r*4294967296+u<d*f):W/V<d:=by
 rcases e with e | e
 ·have:=h.q_lt;omega
 ·exact QLA (B:=4294967296) (V:=V) (U:=W) h.v_lo h.w_hi (A.div_mul_le_self _ _) j e
theorem QD.fin{V W v e a u:A}(h:QD 4294967296 V W v e a u n2)(j:d*v+r=a)(n:d<4294967296)(k:d*e<=r*4294967296+u):d<=W/V+1:=by
 have f:=QQF (B:=4294967296) (V:=V) (U:=W) (n2:=n2) h.v_hi h.w_lo j k (by have:=h.v1_lo;omega);have:=(Yl h.pos).2 f;omega
theorem QD.brk{V W v f a u:A}(h:QD 4294967296 V W v f a u n2)(y:d*v+r=a)(k:4294967296<=r):d<4294967296/\d*f<=r*4294967296+u:=by
  have n:=h.top_hi;have j:d<4294967296:=by
    rcases A.lt_or_ge d 4294967296 with e | e
    · exact e
    · have:4294967296*v<=d*v:=p _ e;omega
  refine⟨j,?_⟩;have q:=h.v2_hi;have:d*f<=4294967296*4294967296:=A.mul_le_mul o3 o3;have:4294967296*4294967296<=r*4294967296:=p _ k;omega
structure XB where
 xs:D A
 ys:D A
 s:A
def XB.n (c:XB):A:=c.ys.length
def XB.Q (c:XB):A:=H c.xs+1-c.ys.length
def XB.V (c:XB):A:=QI 4294967296 c.ys*2^c.s
def XB.vs (c:XB):D A:=fd 4294967296 (H c.ys+1) (QI 4294967296 c.ys*2^c.s)
def XB.U (c:XB):A:=QI 4294967296 c.xs*2^c.s
def XB.v1 (c:XB):A:=c.vs.getD (c.n-1) 0
def XB.v2 (c:XB):A:=c.vs.getD (c.n-2) 0
structure Q0 where
 us:D A
 qs:D A
 j:A
structure X8 (c:XB)(x:Q0):Prop where
 du:Dig 4294967296 x.us
 lu:x.us.length=H c.xs+1
 dq:Dig 4294967296 x.qs
 lq:x.qs.length=c.Q
 hj:x.j<=c.Q
 sum:c.U=c.V*4294967296^x.j*QI 4294967296 (x.qs.drop x.j)+QI 4294967296 x.us
 lt:QI 4294967296 x.us<c.V*4294967296^x.j
def Q0.W (c:XB)(x:Q0):A:=QI 4294967296 (win x.us (x.j-1) (c.n+1))
def Q0.top (c:XB)(x:Q0):A:=x.us.getD (x.j-1+c.n) 0*4294967296+x.us.getD (x.j-1+c.n-1) 0
def Q0.u3 (c:XB)(x:Q0):A:=x.us.getD (x.j-1+c.n-2) 0
structure QCy (c:XB)(x:Q0)(d r:A):Prop where
 main:X8 c x
 jp:0<x.j
 sum:d*c.v1+r=x.top c
 ge:x.W c/c.V<=d
 rlt:r<4294967296
def cR (c:XB)(j:A):D (A×AV):=[(4,wA 36 c.Q),(6,iA .i64 c.s),(7,iA .i64 c.n),(8,wA 26 (H c.xs+1)),(9,wA 29 c.n),(10,iA .i64 ((j:C)-1))]
def eZ (c:XB)(us q:D A):D (A×Blk):=[(1000,Qs c.xs),(1001,Qs c.ys),(26,Qs us),(29,Qs c.vs),(36,Qs q)]
structure Ve (c:XB)(us:D A)(x:D A×A):Prop where
 dw:Dig 4294967296 x.1
 lw:x.1.length=H c.xs+1
 hi:x.2<=c.n
 rest:x.1.drop x.2=us.drop x.2
 inv:QI 4294967296 (x.1.take x.2)*2^c.s+us.getD 0 0 % 2^c.s=QI 4294967296 (us.take x.2)+4294967296^x.2*(us.getD x.2 0 % 2^c.s)
structure GC (c:XB)(x:Q0):Prop where
 main:X8 c x
 j0:x.j=0
structure TR where
 x:Q0
 wd:D A
 i:A
structure bB (c:XB)(y:TR):Prop where
 main:GC c y.x
 sh:Ve c y.x.us (y.wd,y.i)
def QTO (c:XB):LI:=fun a=>bif a.beq 6 then .inv ⟨Q0,fun x=>⟨cR c x.j,eZ c x.us x.qs⟩,X8 c,fun x=>x.j,fun _=>0⟩
 else bif a.beq 10 then .inv ⟨Q0×A×A,fun x=>⟨(12,iA .u64 x.2.1)::(13,iA .u64 x.2.2)::cR c x.1.j,eZ c x.1.us x.1.qs⟩,fun x=>QCy c x.1 x.2.1 x.2.2,fun x=>x.2.1,fun x=>x.1.j⟩
 else bif a.beq 14 then .cut ⟨Q0×A,fun x=>⟨(12,iA .u64 x.2)::cR c x.1.j,eZ c x.1.us x.1.qs⟩,fun x=>X8 c x.1/\0<x.1.j/\x.2<4294967296/\x.1.W c/c.V<=x.2/\x.2<=x.1.W c/c.V+1,fun _=>0,fun x=>x.1.j⟩
 else bif a.beq 17 then .cut ⟨Q0,fun x=>⟨(12,iA .u64 (x.W c/c.V:A))::cR c x.j,eZ c (spl x.us (x.j-1) (fd 4294967296 (c.n+1) (x.W c % c.V))) x.qs⟩,fun x=>X8 c x/\0<x.j,fun _=>0,fun x=>x.j⟩
 else .inv ⟨TR,fun y=>⟨[(4,wA 36 c.Q),(5,wA 26 c.n),(6,iA .i64 c.s),(7,iA .i64 c.n),(8,wA 26 (H c.xs+1)),(145,iA .i64 c.n),(146,iA .i64 y.i)],[(1000,Qs c.xs),(1001,Qs c.ys),(26,Qs y.wd),(36,Qs y.x.qs)]⟩,bB c,fun y=>c.n-y.i,fun _=>0⟩
structure Y6 (c:XB):Prop where
  dx:Dig 4294967296 c.xs
  dy:Dig 4294967296 c.ys
  n2:2<=c.ys.length
  nx:c.ys.length<=c.xs.length
  lx:c.xs.length<=1099511627776
  s32:c.s<32
  lo:2147483648<=c.ys.getD (H c.ys-1) 0*2^c.s
  hi:c.ys.getD (H c.ys-1) 0*2^c.s<4294967296
variable {c:XB}
theorem Y6.pow (h:Y6 c): ∃p q,2^c.s=p/\2^(32-c.s)=q/\p*q=4294967296/\0<p/\0<q:=by
 have:=h.s32;exact⟨_,_,rfl,rfl,by rw[<-v,(o3:c.s+(32-c.s)=32)],e o3,e o3⟩
theorem Y6.top (h:Y6 c):c.V<4294967296^c.n/\2147483648*4294967296^(c.n-1)<=c.V:=by
 have R:=h.n2;have J:=drop_one (l:=c.ys) (m:=H c.ys-1) o3;have k:=qS (B:=4294967296) (l:=c.ys) (m:=H c.ys-1) o3;have n:=fM (l:=c.ys) (m:=H c.ys-1) h.dy o3;rw[J]at k n;simp only[QI,Yh,Zu]at k n;have C:=h.lo;have v:=h.hi;obtain⟨f,q,D,T,j,y,O⟩:=h.pow;rw[D]at C v;unfold XB.V XB.n;rw[D];generalize c.ys.getD (H c.ys-1) 0=t at C v k n;have e:(4294967296:A)^c.ys.length=4294967296^(H c.ys-1)*4294967296:=by rw[<-a];congr 1;omega
 rw[e];generalize (4294967296:A)^(H c.ys-1)=m at k n;have Q:(t+1)*f<=4294967296:=by
  have:t<q:=by
   rw[<-j,Y f q]at v;exact A.lt_of_mul_lt_mul_right v
  rw[<-j,Y f q];exact p _ this
 constructor
 ·have K:QI 4294967296 c.ys*f<m*(t+1)*f:=Zk n y;have N:m*(t+1)*f<=m*4294967296:=by rw[Zz];exact u _ Q
  omega
 ·have K:m*t*f<=QI 4294967296 c.ys*f:=p _ k;have N:2147483648*m<=m*t*f:=by rw[Zz,Y];exact u _ C
  omega
theorem Y6.vs (h:Y6 c):Dig 4294967296 c.vs/\c.vs.length=c.n+1/\QI 4294967296 (c.vs.take c.n)=c.V:=by
 have a:=h.top.1;have k:c.V<4294967296^(c.n+1):=Zw a (Zj o3 o3);have f:c.vs.length=c.n+1:=Qn;have n:QI 4294967296 c.vs=c.V:=Qz k;refine⟨Dig.fd o3,f,?_⟩;have j:=drop_one (l:=c.vs) (m:=c.n) f;have e:=X1 (B:=4294967296) (l:=c.vs) (i:=c.n) o3;rw[j,n]at e;simp only[QI,Yh,Zu]at e;have:c.vs.getD c.n 0=0:=by
  rcases Yc (c.vs.getD c.n 0)with h' | h'
  ·exact h'
  ·have:4294967296^c.n*1<=4294967296^c.n*c.vs.getD c.n 0:=u _ h';omega
 rw[this]at e;omega
theorem Y6.pos (h:Y6 c):0<c.V:=by
 have:=h.top.2;have a:0<2147483648*4294967296^(c.n-1):=A.mul_pos o3 (e o3);omega
variable{x:Q0}
theorem X8.W_lt (e:Y6 c)(h:X8 c x)(J:0<x.j):x.W c<c.V*4294967296/\QI 4294967296 (x.us.drop (x.j-1+(c.n+1)))=0:=by
 have n:=h.lu;have j:=h.hj;have N:=e.n2;have p:=e.nx;have q:x.j-1+(c.n+1)<=H x.us:=by unfold XB.Q at j;unfold XB.n;omega
 have v:=uI (B:=4294967296) q;have k:=h.lt;have f:4294967296^x.j=4294967296^(x.j-1)*4294967296:=by rw[<-a];congr 1;omega
 rw[f]at k;show QI 4294967296 (win x.us (x.j-1) (c.n+1))<_/\_
 generalize (4294967296:A)^(x.j-1)=m at v k;have K:QI 4294967296 x.us<m*(c.V*4294967296):=by
  have:c.V*(m*4294967296)=m*(c.V*4294967296):=j4
  omega
 have y:QI 4294967296 (win x.us (x.j-1) (c.n+1))+4294967296^(c.n+1)*QI 4294967296 (x.us.drop (x.j-1+(c.n+1)))<c.V*4294967296:=by
  have:m*(QI 4294967296 (win x.us (x.j-1) (c.n+1))+4294967296^(c.n+1)*QI 4294967296 (x.us.drop (x.j-1+(c.n+1))))<m*(c.V*4294967296):=o3
  exact A.lt_of_mul_lt_mul_left this
 refine⟨o3,?_⟩;rcases Yc (QI 4294967296 (x.us.drop (x.j-1+(c.n+1))))with h' | h'
 ·exact h'
 ·have C:4294967296^(c.n+1)*1<=4294967296^(c.n+1)*QI 4294967296 (x.us.drop (x.j-1+(c.n+1))):=u _ h';have D:c.V*4294967296<4294967296^(c.n+1):=by rw[a];exact Zk e.top.1 o3
  omega
theorem X8.qd (p:Y6 c)(h:X8 c x)(hj:0<x.j):QD 4294967296 c.V (x.W c) c.v1 c.v2 (x.top c) (x.u3 c) (c.n-2):=by
 have At:=h.lu;have Q:=h.hj;have hn:2<=c.n:=p.n2;have Lm:=p.nx;have ho:x.j-1+(c.n+1)<=H x.us:=by unfold XB.Q at Q;unfold XB.n;omega
 obtain⟨C,lv,vv⟩:=p.vs;have n:(0:A)<4294967296:=o3
 -- the divisor
 have be:(c.vs.take c.n).length=c.n:=o9
 have d2:=QI0 (l:=c.vs.take c.n) (m:=c.n-2) o3;have g1:(c.vs.take c.n).getD (c.n-2) 0=c.v2:=by unfold XB.v2;simp only[k,Yk];rw[R o3]
 have g2:(c.vs.take c.n).getD (c.n-2+1) 0=c.v1:=by unfold XB.v1;simp only[k,Yk];rw[R o3,(o3:c.n-2+1=c.n-1)]
 have D:=qS (B:=4294967296) (l:=c.vs.take c.n) (m:=c.n-2) o3;have q:=fM (l:=c.vs.take c.n) (m:=c.n-2) C.take o3;rw[d2,g1,g2,vv]at D q;simp only[QI,Yh,Zu]at D q;-- the window
 have lw:=Kl ho;have dw:Dig 4294967296 (win x.us (x.j-1) (c.n+1)):=Wc h.du;have U:=QLS (l:=win x.us (x.j-1) (c.n+1)) (m:=c.n-2) o3;rw[gr o3,gr o3,gr o3]at U;have f:=qS (B:=4294967296) (l:=win x.us (x.j-1) (c.n+1)) (m:=c.n-2) o3;have j:=fM (l:=win x.us (x.j-1) (c.n+1)) (m:=c.n-2) dw o3;rw[U]at f j;simp only[QI,Yh,Zu]at f j;have O:x.top c=x.us.getD (x.j-1+(c.n-2)+2) 0*4294967296+x.us.getD (x.j-1+(c.n-2)+1) 0:=by
  unfold Q0.top;rw[(o3:x.j-1+c.n-1=x.j-1+(c.n-2)+1),(o3:x.j-1+c.n=x.j-1+(c.n-2)+2)]
 have V:x.u3 c=x.us.getD (x.j-1+(c.n-2)) 0:=by
  unfold Q0.u3;rw[(o3:x.j-1+c.n-2=x.j-1+(c.n-2))]
 have T:=h.du.getD (i:=x.j-1+(c.n-2)) n;have b2:=h.du.getD (i:=x.j-1+(c.n-2)+1) n;have W1:=(h.W_lt p hj).1;have hW:QI 4294967296 (win x.us (x.j-1) (c.n+1))=x.W c:=rfl;rw[hW]at f j;have a1:x.j-1+(c.n-2+1)=x.j-1+(c.n-2)+1:=rfl;have a2:x.j-1+(c.n-2+2)=x.j-1+(c.n-2)+2:=rfl;rw[a1,a2]at f j;have u:2147483648<=c.v1:=by
  have ht:=p.top.2;have e:(4294967296:A)^(c.n-1)=4294967296^(c.n-2)*4294967296:=by rw[<-a];congr 1;omega
  rw[e]at ht;have h3:4294967296^(c.n-2)*(2147483648*4294967296)<4294967296^(c.n-2)*(c.v2+4294967296*c.v1+1):=by
   have:2147483648*(4294967296^(c.n-2)*4294967296)=4294967296^(c.n-2)*(2147483648*4294967296):=j4
   omega
  have h4:=A.lt_of_mul_lt_mul_left h3;have:c.v2<4294967296:=C.getD n;omega
 have y:c.v2<4294967296:=C.getD n;have v:c.v1<4294967296:=C.getD n;rw[Y]at D q f j;generalize x.us.getD (x.j-1+(c.n-2)+2) 0=N at O f j;generalize x.us.getD (x.j-1+(c.n-2)+1) 0=K at O f j b2;generalize x.us.getD (x.j-1+(c.n-2)) 0=J at V f j T;rw[O,V];have X:(N*4294967296+K)*4294967296+J=J+4294967296*(K+4294967296*N):=o3
 have m2:c.v1*4294967296+c.v2=c.v2+4294967296*c.v1:=by rw[Yw,Y]
 refine⟨by rw[m2];exact D,by rw[m2];exact q,by rw[X];exact f,by rw[X];exact j,u,v,y,T,W1,?_⟩;-- the first digit
 have W:(J+4294967296*(K+4294967296*N))*4294967296^(c.n-2)<(c.v2+4294967296*c.v1+1)*4294967296^(c.n-2)*4294967296:=by
  have:c.V*4294967296<(c.v2+4294967296*c.v1+1)*4294967296^(c.n-2)*4294967296:=Zk q o3;omega
 have h6:(J+4294967296*(K+4294967296*N))<(c.v2+4294967296*c.v1+1)*4294967296:=by
  have:(c.v2+4294967296*c.v1+1)*4294967296^(c.n-2)*4294967296=(c.v2+4294967296*c.v1+1)*4294967296*4294967296^(c.n-2):=j4
  rw[this]at W;exact A.lt_of_mul_lt_mul_right W
 omega
theorem X8.init (h:Y6 c):X8 c ⟨fd 4294967296 (H c.xs+1) (QI 4294967296 c.xs*2^c.s),Yf c.Q 0,c.Q⟩:=by
 obtain⟨f,q,C,Y,D,j,J⟩:=h.pow;have N:=Jl h.dx;have n:f<=4294967296:=by rw[<-D];exact A.le_mul_of_pos_right _ J
 have y:QI 4294967296 c.xs*2^c.s<4294967296^(H c.xs+1):=by
  rw[C,a];exact Zw (Zk N j) (u _ n)
 have K:QI 4294967296 (fd 4294967296 (H c.xs+1) (QI 4294967296 c.xs*2^c.s))=c.U:=Qz y;refine⟨Dig.fd o3,Qn,Dig.zeros o3,o6,Yz _,?_,?_⟩
 ·simp only;rw[K,Yd o6];simp[QI]
 ·simp only;rw[K];have R:=h.top.2;have Q:=h.nx;have X:=h.n2;have e:(4294967296:A)^(H c.xs+1)=4294967296^(c.n-1)*4294967296^c.Q*4294967296:=by
   rw[<-v,<-a];congr 1;unfold XB.n XB.Q;omega
  have W:c.U<4294967296^c.xs.length*f:=by
   show QI 4294967296 c.xs*2^c.s<_
   rw[C];exact Zk N j
  have k:f<=2147483648:=by
   rw[<-C];exact Zj o3 (show c.s<=31 by have:=h.s32;omega)
  have O:(4294967296:A)^c.xs.length=4294967296^(c.n-1)*4294967296^c.Q:=by
   rw[<-v];congr 1;unfold XB.n XB.Q;omega
  have T:2147483648*4294967296^(c.n-1)*4294967296^c.Q<=c.V*4294967296^c.Q:=p _ R;have U:4294967296^c.xs.length*f<=4294967296^(c.n-1)*4294967296^c.Q*2147483648:=by rw[O];exact u _ k
  have V:2147483648*4294967296^(c.n-1)*4294967296^c.Q=4294967296^(c.n-1)*4294967296^c.Q*2147483648:=j4
  omega
variable{t:A}
theorem QTP{U V q w:A}(h:U=V*(m*B)*q+(t+m*w))(a:V*d+r=w):U=V*m*(d+B*q)+(t+m*r):=by
 subst a;grind
variable{P:A}
theorem QZu{U V Q a W:A}(h0:U=V*P*Q+a)(e:P=m*B)(v0:a=t+m*W):U=V*(m*B)*Q+(t+m*W):=by
 subst e v0;exact h0
theorem HZ (B d:A)(l:D A):QI B (d::l)=d+B*QI B l:=rfl
theorem QZv{V:A}(e:t<m)(a:r<V):t+m*r<V*m:=by
 have h:m*(r+1)<=m*V:=u _ a;rw[Yb,A.mul_one]at h;rw[Y V];omega
theorem wJ{a w p e:A}(h:a=t+m*(w+p*e))(f:e=0):a=t+m*w:=by
 subst f;rw[Yh,Zu]at h;exact h
theorem X8.split (a:Y6 c)(h:X8 c x)(f:0<x.j):QI 4294967296 x.us=QI 4294967296 (x.us.take (x.j-1))+4294967296^(x.j-1)*x.W c:=by
 have j:=h.lu;have e:=h.hj;have q:2<=c.n:=a.n2;have k:=a.nx;have n:x.j-1+(c.n+1)<=H x.us:=by unfold XB.Q at e;unfold XB.n;omega
 obtain⟨_,p⟩:=h.W_lt a f;exact wJ (uI (B:=4294967296) n) p
theorem X8.next (k:Y6 c)(h:X8 c x)(N:0<x.j):X8 c ⟨spl x.us (x.j-1) (fd 4294967296 (c.n+1) (x.W c % c.V)),x.qs.set (x.j-1) (x.W c/c.V),x.j-1⟩:=by
 have O:=h.lu;have p:=h.hj;have hn:2<=c.n:=k.n2;have W:=k.nx;have T:x.j-1+(c.n+1)<=H x.us:=by unfold XB.Q at p;unfold XB.n;omega
 have X:=(h.qd k N).q_lt;obtain⟨_,Y⟩:=h.W_lt k N;have C:=k.pos;have j:x.W c % c.V<c.V:=f _ C;have q:x.W c % c.V<4294967296^(c.n+1):=A.lt_trans j (Zw k.top.1 (Zj o3 o3));have Q:(fd 4294967296 (c.n+1) (x.W c % c.V)).length=c.n+1:=Qn;have vf:QI 4294967296 (fd 4294967296 (c.n+1) (x.W c % c.V))=x.W c % c.V:=Qz q;have R:(spl x.us (x.j-1) (fd 4294967296 (c.n+1) (x.W c % c.V))).length=H x.us:=Ur (by rw[Q];exact T);have y:=QE2 (B:=4294967296) (us:=x.us) (w:=fd 4294967296 (c.n+1) (x.W c % c.V)) (o:=x.j-1) (by rw[Q];exact T);rw[Q,vf]at y
 replace y:=wJ y Y;have v0:=h.split k N;have v:=Jl (h.du.take (i:=x.j-1));rw[Yt,Yi o3]at v;have lq:=h.lq;have V:(x.qs.set (x.j-1) (x.W c/c.V)).drop (x.j-1)=x.W c/c.V::x.qs.drop x.j:=by
  rw[Zo o9,D.getElem_set_self,Yq o3,(o3:x.j-1+1=x.j)]
 have J:=Yj (x.W c) c.V;have U:QI 4294967296 ((x.qs.set (x.j-1) (x.W c/c.V)).drop (x.j-1))=x.W c/c.V+4294967296*QI 4294967296 (x.qs.drop x.j):=(K (QI 4294967296) V).trans (HZ _ _ _);have e:(4294967296:A)^x.j=4294967296^(x.j-1)*4294967296:=by rw[<-a];congr 1;omega
 have u:=QZu h.sum e v0;have n:Dig 4294967296 (spl x.us (x.j-1) (fd 4294967296 (c.n+1) (x.W c % c.V))):=by
  simp only[spl];exact h.du.take.append ((Dig.fd o3).append h.du.drop)
 exact⟨n,R.trans O,h.dq.set X,(j9 lq),A.le_trans (A.sub_le _ _) p,
  (QTP u J).trans (congr (K HAdd.hAdd (K (c.V*4294967296^(x.j-1)* ·) U.symm)) y.symm),Zs (A.le_of_eq y) (QZv v j)⟩
theorem GC.res (n:Y6 c)(h:GC c x):QI 4294967296 x.qs=QI 4294967296 c.xs/QI 4294967296 c.ys/\QI 4294967296 x.us/2^c.s=QI 4294967296 c.xs % QI 4294967296 c.ys/\QI 4294967296 x.us<c.V:=by
 obtain⟨u,D⟩:=h;have a:=u.sum;have f:=u.lt;rw[D,A.pow_zero,A.mul_one]at a f;simp only[Ya]at a;have k:=n.pos;obtain⟨p,q,v,K,H,e,J⟩:=n.pow;unfold XB.U at a;have j:c.V=QI 4294967296 c.ys*p:=by unfold XB.V;rw[v]
 rw[v]at a⊢;generalize QI 4294967296 c.xs=X at a|-;have hY:0<QI 4294967296 c.ys:=by
  rcases Yc (QI 4294967296 c.ys)with h' | h'
  ·rw[h',A.zero_mul]at j;omega
  ·exact h'
 have y:QI 4294967296 x.qs=X*p/c.V:=by
  rw[a,Y,Yw,A.add_mul_div_right _ _ k,Yn f,Yv]
 have C:QI 4294967296 x.us=X*p % c.V:=by
  rw[a,Y,Yw,A.add_mul_mod_self_right,Zt f]
 refine⟨?_,?_,f⟩
 ·rw[y,j,A.mul_div_mul_right _ _ e]
 ·rw[C,j,A.mul_mod_mul_right,A.mul_div_cancel _ e]
theorem Ve.init (_hc:Y6 c)(h:X8 c x):Ve c x.us (x.us,0):=
 ⟨h.du,h.lu,o6,rfl,by simp[QI]⟩
theorem Ve.step (T:Y6 c)(X:Dig 4294967296 us)(lu:us.length=H c.xs+1){N:D A}(h:Ve c us (N,i))(U:i<c.n):Ve c us (N.set i (us.getD i 0/2^c.s+us.getD (i+1) 0 % 2^c.s*2^(32-c.s)),i+1):=by
 obtain⟨Q,W,_,n,j⟩:=h;simp only at Q W n j;have Lm:=T.nx;obtain⟨e,q,V,hq,v,J,be⟩:=T.pow;have O:=X.getD (i:=i) o3;have C:i<H us:=by unfold XB.n at U;omega
 have gu:us[i]? =G (us.getD i 0):=by rw[k,Zi C];rfl
 rw[V]at j⊢;rw[hq];have h1:us.getD i 0/e<q:=by
  apply Zn;rw[v];exact O
 have R:us.getD (i+1) 0 % e<e:=f _ J;have hv:us.getD i 0/e+us.getD (i+1) 0 % e*q<4294967296:=by
  have:(us.getD (i+1) 0 % e+1)*q<=e*q:=p _ R;rw[v,Yo,Yy]at this;omega
 have gz:(N.set i (us.getD i 0/e+us.getD (i+1) 0 % e*q))[i]? =G (us.getD i 0/e+us.getD (i+1) 0 % e*q):=by rw[Ys];simp;omega
 refine⟨Q.set hv,(j9 W),U,?_,?_⟩
 ·simp only;rw[Yq o3];have:=K (D.drop 1) n;rwa [D.drop_drop,D.drop_drop]at this
 ·simp only;rw[V,Qa gz,Xx,Qa gu,a,Yo];generalize us.getD i 0=u at j O h1|-;generalize us.getD (i+1) 0=y at R|-;generalize (4294967296:A)^i=m at j|-;have e1:(u/e+y % e*q)*e=(u-u % e)+y % e*4294967296:=by
   rw[Yo,Zz,Y q e,v];have:=Yj u e;rw[Y]at this;omega
  have At:u % e<=u:=A.mod_le _ _;have e2:m*(u/e+y % e*q)*e=m*(u-u % e)+m*4294967296*(y % e):=by
   rw[Zz,e1,Yb,Zz,Y 4294967296]
  have e3:m*(u-u % e)+m*(u % e)=m*u:=by rw[<-Yb];congr 1;omega
  omega
theorem Ve.fin (C:Y6 c)(U:GC c x){y:D A}(h:Ve c x.us (y,c.n)):y=fd 4294967296 (H c.xs+1) (QI 4294967296 c.xs % QI 4294967296 c.ys):=by
 obtain⟨r1,W,r3⟩:=U.res C;obtain⟨R,V,_,a,e⟩:=h;simp only at R V a e;have be:=C.nx;have Lm:=U.main.lu;have At:=C.top.1;obtain⟨p,q,T,hq,hZ,n,ja⟩:=C.pow;have N:c.n<=H x.us:=by unfold XB.n;omega
 have X:=X1 (B:=4294967296) (l:=x.us) (i:=c.n) N;have Q:QI 4294967296 (x.us.drop c.n)=0:=by
  rcases Yc (QI 4294967296 (x.us.drop c.n))with h' | h'
  ·exact h'
  ·have:4294967296^c.n*1<=4294967296^c.n*QI 4294967296 (x.us.drop c.n):=u _ h';omega
 rw[Q,Yh,Zu]at X;have O:x.us.getD c.n 0=0:=by
  cases J:x.us[c.n]? with
  | none=>simp[k,J]
  | some d=>
   have K:(x.us.drop c.n)[0]? =G d:=(j9 J)
   have:=Vn (B:=4294967296) K;rw[Q]at this;rw[JG J];omega
 rw[O,A.zero_mod,Yh,Zu,<-X,T]at e;rw[T]at W;have j:x.us.getD 0 0 % p<p:=f _ n;have v:QI 4294967296 (y.take c.n)=QI 4294967296 c.xs % QI 4294967296 c.ys:=by
  rw[<-W,<-e,Y,A.mul_add_div n,Yn j,Zu]
 have hw:QI 4294967296 y=QI 4294967296 c.xs % QI 4294967296 c.ys:=by
  rw[X1 (B:=4294967296) (l:=y) (i:=c.n) o3,a,Q,v];simp
 rw[<-hw,<-V,VF R o3]
theorem GC.q (a:Y6 c)(h:GC c x):x.qs=fd 4294967296 c.Q (QI 4294967296 c.xs/QI 4294967296 c.ys):=by
 rw[<-(h.res a).1,<-h.main.lq,VF h.main.dq o3]
variable{s:A}
theorem QLT(h:HG t r)(y:2147483648<=t*2^s)(q:t*2^s<4294967296):32-r=s:=by
 obtain⟨_,k,a⟩:=h;have u:0<2^s:=e o3;have f:2^31<2^(r+s):=by
  rw[v];exact Zs (show 2^31<=t*2^s from y) (Zk k u)
 have C:=(A.pow_lt_pow_iff_right o3).1 f;rcases a with a | ⟨a,n⟩
 ·subst a;omega
 ·have j:2^(r-1+s)<2^32:=by
   rw[v];exact Zs (p _ n) (show t*2^s<2^32 from q)
  have D:=(A.pow_lt_pow_iff_right o3).1 j;omega
variable{ds:D A}
theorem YZ(h:i<H ds):ldE (W ds) i 0 1=G [.v (.int .u32 ((ds.getD i 0:A):C))]:=JF (by rw[k,Zi h];rfl)
variable{b:A}
theorem p9{a:A}(h:a<4294967296)(f:b<4294967296):orI .u64 (YM .u64 (I.wrap (a:C)) 32) (I.wrap (b:C))=((a*4294967296+b:A):C):=by
 have e:YM .u64 (I.wrap (a:C)) 32=((2^32*a:A):C):=by
  rw[YE o3,UI o8];rw[show(a:C)*2^(32:C).toNat=((2^32*a:A):C)by simp only[show(32:C).toNat=32 from rfl];omega];exact YE o3
 rw[e,YE (n:=(b:C)) o3,H8 (s:=32) o3 o3];congr 1;omega
theorem QTS{W V:A}(e:0<V)(f:W<P)(h: ¬W<d*V)(j:W/V<=d):d=W/V/\(W+P-d*V) % P=W % V:=by
 have k:d<=W/V:=(Yl e).2 o3;have a:d=W/V:=o3
 refine⟨a,?_⟩;have:=Yj W V;rw[Y,<-a]at this;rw[(o3:W+P-d*V=W % V+P),A.add_mod_right,Zt (Zs (A.mod_le _ _) f)]
theorem QZw{W V:A}(a:0<V)(k:V<=P)(_hW:W<P)(h:W<d*V)(n:d<=W/V+1):d=W/V+1/\((W+P-d*V) % P+V) % P=W % V:=by
 have p: ¬d<=W/V:=fun j=>by have:=(Yl a).1 j;omega
 have e:d=W/V+1:=o3
 refine⟨e,?_⟩;have:=Yj W V;rw[Y]at this;have q:=f W a;rw[e,Yo,Yy,(o3:W+P-(W/V*V+V)=W % V+P-V),Zt (o3:W % V+P-V<P),(o3:W % V+P-V+V=W % V+P),A.add_mod_right,Zt o3]
theorem QZx{w':D A}(h:o+H w<=H us)(a:w'.length=H w):spl (spl us o w) o w'=spl us o w':=by
 unfold spl;rw[Yp o9,Xa,A.min_self];congr 1;congr 1;rw[a,<-D.append_assoc];exact D.drop_left' o9
theorem QZy(h:o+H w<=H us):win (spl us o w) o w.length=w:=by
 unfold win spl;rw[D.drop_append];have:(us.take o).length=o:=o9
 rw[Yd o3,this,A.sub_self,Ya,D.nil_append,Yp (Yz _),D.take_length]
theorem X8.taken (a:Y6 c)(h:X8 c x)(p:0<x.j)(h1: ¬QI 4294967296 (win x.us (x.j-1) (c.n+1))<d*QI 4294967296 (c.vs.take c.n))(e:x.W c/c.V<=d):d=x.W c/c.V/\Jf x.us c.vs (x.j-1) c.n d=x.W c % c.V:=by
 obtain⟨k,q,v⟩:=a.vs;have j:x.j-1+(c.n+1)<=H x.us:=by have:=h.lu;have:=h.hj;have:=a.nx;unfold XB.Q at*;unfold XB.n;omega
 have f:=Jl (Wc (o:=x.j-1) (n:=c.n+1) h.du);rw[Kl j]at f;unfold Jf;rw[v]at h1⊢;exact QTS a.pos f h1 e
theorem X8.putted (a:Y6 c)(h:X8 c x)(D:0<x.j)(h1:QI 4294967296 (win x.us (x.j-1) (c.n+1))<d*QI 4294967296 (c.vs.take c.n))(j:d<=x.W c/c.V+1):
  d=x.W c/c.V+1/\TE (spl x.us (x.j-1) (fd 4294967296 (c.n+1) (Jf x.us c.vs (x.j-1) c.n d))) c.vs (x.j-1) c.n=x.W c % c.V:=by
 obtain⟨C,J,y⟩:=a.vs;have p:x.j-1+(c.n+1)<=H x.us:=by have:=h.lu;have:=h.hj;have:=a.nx;unfold XB.Q at*;unfold XB.n;omega
 have k:=Jl (Wc (o:=x.j-1) (n:=c.n+1) h.du);rw[Kl p]at k;have u:(fd 4294967296 (c.n+1) (Jf x.us c.vs (x.j-1) c.n d)).length=c.n+1:=Qn;have q:=QZy (us:=x.us) (o:=x.j-1) (w:=fd 4294967296 (c.n+1) (Jf x.us c.vs (x.j-1) c.n d)) (by rw[u];exact p);rw[u]at q;have hP:0<4294967296^(c.n+1):=e o8;have v:Jf x.us c.vs (x.j-1) c.n d<4294967296^(c.n+1):=f _ hP;unfold TE;rw[q,Qz v];unfold Jf;rw[y]at h1⊢;exact QZw a.pos (A.le_of_lt (Zw a.top.1 (Zj o8 o3))) k h1 j
theorem GC.un (h:Y6 c)(j:GC c x):x.us.getD c.n 0=0:=by
 obtain⟨y,A,C⟩:=j.res h;have q:=h.nx;have p:=j.main.lu;have n:=h.top.1;have f:c.n<=H x.us:=by unfold XB.n;omega
 have D:=X1 (B:=4294967296) (l:=x.us) (i:=c.n) f;have v:QI 4294967296 (x.us.drop c.n)=0:=by
  rcases Yc (QI 4294967296 (x.us.drop c.n))with h' | h'
  ·exact h'
  ·have:4294967296^c.n*1<=4294967296^c.n*QI 4294967296 (x.us.drop c.n):=u _ h';omega
 cases a:x.us[c.n]? with
 | none=>simp[k,a]
 | some d=>
  have e:(x.us.drop c.n)[0]? =G d:=(j9 a)
  have:=Vn (B:=4294967296) e;rw[v]at this;rw[JG a];omega
theorem QZz{u:A}(p:u<4294967296)(n:s<32):Z.wrap (YM .u64 (I.wrap (u:C)) ((32-s:A):C))=((u % 2^s*2^(32-s):A):C):=by
 have a:2^s*2^(32-s)=4294967296:=by rw[<-v,(o3:s+(32-s)=32)]
 have f:(2:A)^(32-s)<=2^32:=Zj o3 o3;have k:u*2^(32-s)<=4294967295*2^32:=A.mul_le_mul o3 f;have e:YM .u64 (I.wrap (u:C)) ((32-s:A):C)=((u*2^(32-s):A):C):=by
  rw[YE o3,UI (by simp[IntKind.bits];omega),h];have:(u:C)*2^(32-s)=((u*2^(32-s):A):C):=o6
  rw[this];exact YE o3
 rw[e,IntKind.wrap_u32];have j:u*2^(32-s) % 4294967296=u % 2^s*2^(32-s):=by rw[<-a,A.mul_mod_mul_right]
 omega
theorem QTT{u a:A}(y:u<4294967296)(D:s<32):orI .u32 ((u/2^s:A):C) ((a % 2^s*2^(32-s):A):C)=((u/2^s+a % 2^s*2^(32-s):A):C):=by
 have h:2^s*2^(32-s)=4294967296:=by rw[<-v,(o3:s+(32-s)=32)]
 have j:0<2^s:=e o3;have k:u/2^s<2^(32-s):=by apply Zn;rw[h];exact y
 have n:a % 2^s<2^s:=f _ j;have q:(a % 2^s+1)*2^(32-s)<=4294967296:=by rw[<-h];exact p _ n
 rw[Yo,Yy]at q;rw[VD,Y (a % 2^s),pP k (by rw[Y (2^(32-s))];omega)];congr 1;rw[Yw]
def Bk(a b:Prop):=a/\(202:A)=202/\(1:A)=1/\b
def A3(a:XB):=F a.n
def A6(a:Q0):=F a.j-1
def BO(a b c d:D A)(e:Prop):=Bk (W a=W b\/QC (W c) (W d)) e
def A8(a:C):=0+a.toNat
def A9(a:XB):=F a.s
def BH(a:XB):=H a.xs+1
def A5(a:TR):=F a.i
def BD(a:Q0×A):=A6 a.1
def A7(a b:Prop):=a/\(0:A)=0/\b
def BS(a:C):D Ch:=[z (Ze Z a)]
def A4(a:A):=M.wrap (F a-1)
def BK(a b:A):=fd 4294967296 a b
def BF(a:Q0×A×A):=a.2.1
def BU(a:C)(b:XB):=M.wrap (a+A3 b)
def BL(a:D A):=QI 4294967296 a
def Bf(a:XB):=F a.ys.length
def BC:A:=X.ofNat 0
def BA(a:Q0×A):=A8 (BD a)
def BI(a b c d:D A):=(W a=W b\/QC (W c) (W d))/\J
def BG(a b:C)(c d e f g h i j:XB)(k:Prop):=Bk (a=b) (BO c.xs d.xs e.xs f.xs (BO g.ys h.ys i.ys j.ys k))
def BE(a b:C):=M.wrap (a-b)
def BJ(a:Q0×A×A):=A6 a.1
def BM(a b c:C)(d:C->D A)(e:C->C)(f:C->Prop):=(0<=a/\b<c)/\∃(h:C),ldE (W (d h)) (A8 (e h)) 0 1=G (BS h)/\f h
def BN(a b c d e:D A)(f:XB)(g:D A)(h:XB)(i:Prop):=BO a b c d (BO e f.vs g h.vs i)
def BQ(a:Q0×A):=F a.2
def BV(a b c d e f g h i j:XB)(k:Prop):=a.Q=b.Q/\A9 c=A9 d/\A7 (A3 e=A3 f) (BH g=BH h/\(0:A)=0/\i.n=j.n/\k)
def BW(a:D A)(b:XB):=M.wrap (F (H a+1)-Bf b)
def Ba(a b:TR)(c:C)(d:XB):=(W a.wd).set (A8 (A5 b)) (BS (XE Z c (A9 d)))
def BZ(a:XB):=F (BH a)
def Be(a:TR):=M.wrap (A5 a+1)
def Bg(a b:C):=YM I (I.wrap a) b
def Bh(a b:Q0)(c d:XB)(e:Q0)(f:XB):=spl a.us (b.j-1) (BK (c.n+1) (Q0.W d e%f.V))
def Bi(a:A->D A):=∀(e:A),e∈a e->e<4294967296
def Bb(a:Q0×A)(b:XB):=M.wrap (BU (BD a) b+1)
def Bj(a:Prop):=(0:C)<=32/\a
def Bo(a b:Q0×A)(c:XB)(d:Q0×A)(e:XB)(f g:Q0×A)(h:XB)(i:Q0×A)(j:XB):=0<a.1.j/\b.2<4294967296/\Q0.W c d.1/e.V<=f.2/\g.2<=Q0.W h i.1/j.V+1
def Bn(a:Q0×A×A)(b:C):=I.wrap (F a.2.2+I.wrap b)
def Bl(a:Q0×A×A):=I.wrap (F (BF a)-1)
def Bm(a:XB)(b c d:Q0×A×A):=QCy a b.1 (BF c) d.2.2
def Bp(a b:D A)(c:A):=BK (H a+1) (BL b*2^(F (32-c)).toNat)
def Bs(a:XB):=M.wrap (F a.n-2)
theorem Qe9 (c:XB)(hc:Y6 c):QM (Xp (X:=N) T11 (oF f155) (QTO c) f155 [wA 1000 c.xs.length,wA 1001 c.ys.length] [(1000,Qs c.xs),(1001,Qs c.ys)] (fun _=>J)
 (fun _=>⟨[(4,wA 1002 c.Q),(5,wA 1003 c.n)],[(1000,Qs c.xs),(1001,Qs c.ys),(1002,Qs (fd 4294967296 c.Q (QI 4294967296 c.xs/QI 4294967296 c.ys))),(1003,Qs (fd 4294967296 (H c.xs+1) (QI 4294967296 c.xs % QI 4294967296 c.ys)))]⟩)):=by
 refine HV (BM (A4 c.ys.length) (A4 c.ys.length) (Bf c) (fun d=>c.ys) (fun d=>A4 c.ys.length) (fun d=>(0<=d/\d<4294967296)/\∀(v:A),v<=32/\d.toNat<2^v/\(d.toNat=0\/1<=v/\2^(v-1)<=d.toNat)->∃(ds:D A),W c.xs=W ds/\c.xs.length=H ds/\Bi (fun j=>ds)/\ds.length<=1099511627776/\(0<=F (32-v)/\F (32-v)<32)/\∃(V:D A),W c.ys=W V/\c.ys.length=H V/\Bi (fun O=>V)/\V.length<=1099511627776/\(0<=F (32-v)/\F (32-v)<32)/\((0:C)<=0/\0<=Bf c/\Bf c<=F (H V+1))/\(0<=BW ds c/\BW ds c<=BW ds c/\4*BW ds c<=281474976710656/\BW ds c<=9223372036854775807)/\(∃(x:Q0),A7 (X8 c x/\BC=0) ((BW ds c).toNat=c.Q/\F (32-v)=A9 c/\A7 (Bf c=A3 c) (H ds+1=BH c/\(0:A)=0/\(Bf c).toNat-0=c.n/\Bk (A4 (BW ds c).toNat=A6 x) (BO ds c.xs ds c.xs (BO V c.ys V c.ys (BN (Bp ds ds v) x.us (Bp ds ds v) x.us (Bp V V v) c (Bp V V v) c ((Yf (BW ds c).toNat (BS 0)=W x.qs\/QC (Yf (BW ds c).toNat (BS 0)) (W x.qs))/\J)))))))/\∀(x:Q0),X8 c x->BC=0->bif decide (A6 x>=0)then BM (BU (A6 x) c) (BU (A6 x) c) (BZ c) (fun d=>x.us) (fun d=>BU (A6 x) c) (fun d=>Bj (BM (BE (BU (A6 x) c) 1) (BE (BU (A6 x) c) 1) (BZ c) (fun jc=>x.us) (fun jc=>BE (BU (A6 x) c) 1) (fun jc=>BM (A4 c.n) (A4 c.n) (A3 c) (fun jf=>c.vs) (fun jf=>A4 c.n) (fun y=>I.wrap y≠0/\BM (A4 c.n) (A4 c.n) (A3 c) (fun jJ=>c.vs) (fun jJ=>A4 c.n) (fun w=>I.wrap w≠0/\((∃(Q:Q0×A×A),(Bm c Q Q Q/\Q.1.j=x.j)/\I.wrap ((orI I (Bg d 32) (I.wrap jc)).tdiv (I.wrap y))=F (BF Q)/\A7 ((orI I (Bg d 32) (I.wrap jc)).tmod (I.wrap w)=F Q.2.2) (BV c c c c c c c c c c (BG (A6 x) (BJ Q) c c c c c c c c (BN x.us Q.1.us x.us Q.1.us c.vs c c.vs c (BI x.qs Q.1.qs x.qs Q.1.qs)))))/\∀(Q:Q0×A×A),Bm c Q Q Q->Q.1.j=x.j->Bj (bif decide (XE I (F (BF Q)) 32>0)then BM (A4 c.n) (A4 c.n) (A3 c) (fun d=>c.vs) (fun d=>A4 c.n) (fun d=>Bj (bif decide (XE I (Bn Q d) 32>0)then∃(R:Q0×A),((X8 c R.1/\Bo R R c R c R R c R c)/\R.1.j=x.j)/\A7 (Bl Q=BQ R) (BV c c c c c c c c c c (BG (BJ Q) (BD R) c c c c c c c c (BN Q.1.us R.1.us Q.1.us R.1.us c.vs c c.vs c (BI Q.1.qs R.1.qs Q.1.qs R.1.qs))))else∃(T:Q0×A×A),(Bm c T T T/\T.1.j=x.j/\BF T<BF Q)/\Bl Q=F (BF T)/\A7 (Bn Q d=F T.2.2) (BV c c c c c c c c c c (BG (BJ Q) (BJ T) c c c c c c c c (BN Q.1.us T.1.us Q.1.us T.1.us c.vs c c.vs c (BI Q.1.qs T.1.qs Q.1.qs T.1.qs))))))else BM (Bs c) (Bs c) (A3 c) (fun d=>c.vs) (fun d=>Bs c) (fun d=>Bj (BM (BE (BU (BJ Q) c) 2) (BE (BU (BJ Q) c) 2) (BZ c) (fun jw=>Q.1.us) (fun jw=>BE (BU (BJ Q) c) 2) (fun jw=>bif decide (I.wrap (F (BF Q)*I.wrap d)>orI I (YM I (F Q.2.2) 32) (I.wrap jw))then BM (A4 c.n) (A4 c.n) (A3 c) (fun d=>c.vs) (fun d=>A4 c.n) (fun d=>Bj (bif decide (XE I (Bn Q d) 32>0)then∃(R:Q0×A),((X8 c R.1/\Bo R R c R c R R c R c)/\R.1.j=x.j)/\A7 (Bl Q=BQ R) (BV c c c c c c c c c c (BG (BJ Q) (BD R) c c c c c c c c (BN Q.1.us R.1.us Q.1.us R.1.us c.vs c c.vs c (BI Q.1.qs R.1.qs Q.1.qs R.1.qs))))else∃(T:Q0×A×A),(Bm c T T T/\T.1.j=x.j/\BF T<BF Q)/\Bl Q=F (BF T)/\A7 (Bn Q d=F T.2.2) (BV c c c c c c c c c c (BG (BJ Q) (BJ T) c c c c c c c c (BN Q.1.us T.1.us Q.1.us T.1.us c.vs c c.vs c (BI Q.1.qs T.1.qs Q.1.qs T.1.qs))))))else∃(R:Q0×A),((X8 c R.1/\Bo R R c R c R R c R c)/\R.1.j=x.j)/\A7 (F (BF Q)=BQ R) (BV c c c c c c c c c c (BG (BJ Q) (BD R) c c c c c c c c (BN Q.1.us R.1.us Q.1.us R.1.us c.vs c c.vs c (BI Q.1.qs R.1.qs Q.1.qs R.1.qs)))))))))/\∀(Q:Q0×A),X8 c Q.1/\Bo Q Q c Q c Q Q c Q c->Q.1.j=x.j->((0<=BD Q/\BD Q<=Bb Q c/\Bb Q c<=BZ c)/\∃(us vs:D A),W Q.1.us=W us/\W c.vs=W vs/\(Bb Q c).toNat-(BD Q).toNat=c.n+1/\Bi (fun t=>us)/\Bi (fun q=>vs)/\(0<=BQ Q/\BQ Q<4294967296)/\BA Q+(c.n+1)<=H us/\c.n<=H vs/\us.length<=2199023255552/\bif decide (BL (win us (BA Q) (c.n+1))<(BQ Q).toNat*BL (Xb c.n vs))then(0<=BD Q/\BD Q<=Bb Q c/\Bb Q c<=BZ c)/\∃(At Lm:D A),W (spl us (BA Q) (BK (c.n+1) (Jf us vs (BA Q) c.n (BQ Q).toNat)))=W At/\W vs=W Lm/\(Bb Q c).toNat-(BD Q).toNat=c.n+1/\Bi (fun e=>At)/\Bi (fun m=>Lm)/\BA Q+(c.n+1)<=H At/\c.n<=H Lm/\At.length<=2199023255552/\∃(R:Q0),((X8 c R/\0<R.j)/\R.j=x.j)/\A7 (I.wrap (F Q.2-1)=F (Q0.W c R/c.V)) (BV c c c c c c c c c c (BG (BD Q) (A6 R) c c c c c c c c (BN (spl At (BA Q) (BK (c.n+1) (TE At Lm (BA Q) c.n))) (Bh R R c c R c) (spl At (BA Q) (BK (c.n+1) (TE At Lm (BA Q) c.n))) (Bh R R c c R c) Lm c Lm c (BI Q.1.qs R.qs Q.1.qs R.qs))))else∃(R:Q0),((X8 c R/\0<R.j)/\R.j=x.j)/\A7 (BQ Q=F (Q0.W c R/c.V)) (BV c c c c c c c c c c (BG (BD Q) (A6 R) c c c c c c c c (BN (spl us (BA Q) (BK (c.n+1) (Jf us vs (BA Q) c.n (BQ Q).toNat))) (Bh R R c c R c) (spl us (BA Q) (BK (c.n+1) (Jf us vs (BA Q) c.n (BQ Q).toNat))) (Bh R R c c R c) vs c vs c (BI Q.1.qs R.qs Q.1.qs R.qs)))))/\∀(R:Q0),X8 c R/\0<R.j->R.j=x.j->(0<=A6 R/\A6 R<F c.Q)/\A8 (A6 R)<(W R.qs).length/\∃(T:Q0),A7 (X8 c T/\BC=0/\T.j<x.j) (BV c c c c c c c c c c (BG (BE (A6 R) 1) (A6 T) c c c c c c c c (BN (Bh R R c c R c) T.us (Bh R R c c R c) T.us c.vs c c.vs c (((W R.qs).set (A8 (A6 R)) (BS (Z.wrap (F (Q0.W c R/c.V))))=W T.qs\/QC ((W R.qs).set (A8 (A6 R)) (BS (Z.wrap (F (Q0.W c R/c.V))))) (W T.qs))/\J)))))))))else((0:C)<=0/\0<=A3 c/\A3 c<=BZ c)/\(∃(Q:TR),A7 (bB c Q/\BC=0) (c.Q=c.Q/\(0:A)=0/\(A3 c).toNat-0=c.n/\A9 c=A9 c/\A7 (A3 c=A3 c) (BH c=BH c/\F ((A3 c).toNat-0)=A3 c/\BG 0 (A5 Q) c c c c c c c c (BO x.us Q.wd x.us Q.wd (BI x.qs Q.x.qs x.qs Q.x.qs)))))/\∀(x:TR),bB c x->BC=0->bif decide (A5 x<A3 c)then BM (A5 x) (A5 x) (A3 c) (fun d=>x.wd) (fun d=>A5 x) (fun d=>0<=A9 c/\(0<=A5 x/\A5 x<A3 c)/\A8 (A5 x)<(W x.wd).length/\bif decide (Be x<A3 c)then(0<=A5 x/\A5 x<A3 c)/\∃(jc:C),ldE (Ba x x d c) (A8 (A5 x)) 0 1=G (BS jc)/\(0<=Be x/\Be x<BZ c)/\∃(jf:C),ldE (Ba x x d c) (A8 (Be x)) 0 1=G (BS jf)/\0<=BE 32 (A9 c)/\(0<=A5 x/\A5 x<A3 c)/\A8 (A5 x)<(Ba x x d c).length/\∃(T:TR),A7 (bB c T/\BC=0/\c.n-T.i<c.n-x.i) (c.Q=c.Q/\(0:A)=0/\c.n=c.n/\A9 c=A9 c/\A7 (A3 c=A3 c) (BH c=BH c/\A3 c=A3 c/\BG (Be x) (A5 T) c c c c c c c c (Bk ((Ba x x d c).set (A8 (A5 x)) (BS (orI Z jc (Z.wrap (Bg jf (BE 32 (A9 c))))))=W T.wd\/QC ((Ba x x d c).set (A8 (A5 x)) (BS (orI Z jc (Z.wrap (Bg jf (BE 32 (A9 c))))))) (W T.wd)) (BI x.x.qs T.x.qs x.x.qs T.x.qs))))else∃(T:TR),A7 (bB c T/\BC=0/\c.n-T.i<c.n-x.i) (c.Q=c.Q/\(0:A)=0/\c.n=c.n/\A9 c=A9 c/\A7 (A3 c=A3 c) (BH c=BH c/\A3 c=A3 c/\BG (Be x) (A5 T) c c c c c c c c (Bk (Ba x x d c=W T.wd\/QC (Ba x x d c) (W T.wd)) (BI x.x.qs T.x.qs x.x.qs T.x.qs)))))else∃(_x_1:N),A7 J (c.Q=c.Q/\(0:A)=0/\c.n=c.n/\(202:A)=202/\(1:A)=1/\BO c.xs c.xs c.xs c.xs (BO c.ys c.ys c.ys c.ys (BO x.x.qs (BK c.Q (BL c.xs/BL c.ys)) x.x.qs (BK c.Q (BL c.xs/BL c.ys)) (BI x.wd (BK (BH c) (BL c.xs%BL c.ys)) x.wd (BK (BH c) (BL c.xs%BL c.ys)))))))) ?_
 delta Bk A3 A6 BO A8 A9 BH A5 BD A7 BS A4 BK BF BU BL Bf BC BA BI BG BE BJ BM BN BQ BV BW Ba BZ Be Bg Bh Bi Bb Bj Bo Bn Bl Bm Bp Bs
 have hn:2<=c.n:=hc.n2;have jQ:c.ys.length=c.n:=rfl;have oe:c.n<=H c.xs:=hc.nx;have od:=hc.lx;have hQ:c.Q=H c.xs+1-c.n:=rfl;have ju:=hc.s32;obtain⟨dv,lv,vv⟩:=hc.vs;have ht:=hc.dy.getD (i:=c.n-1) o8;simp only[Yg,R0,R1,Yv,R4,R2];rw[jQ];rw[w64 (n:=(c.n:C)-1) o3,(o3:((c.n:C)-1).toNat=c.n-1)];refine⟨o3,_,YZ o3,o3,fun r hr=> ?_⟩;have jS:32-r=c.s:=QLT (t:=c.ys.getD (c.n-1) 0) (by simpa [HG]using hr) hc.lo hc.hi;rw[jS];refine⟨c.xs,rfl,rfl,hc.dx,o3,o3,c.ys,rfl,rfl,hc.dy,o3,o3,o3,?_,?_,fun x hx=>QE (fun hp=> ?_) (fun hp=> ?_)⟩
 ·rw[w64 o3];omega
 ·have e1:(M.wrap (((H c.xs+1:A):C)-c.n)).toNat=c.Q:=by rw[w64 o3];omega
  refine⟨_,X8.init hc,?_⟩;simp only[e1,h];rw[w64 o3];simp only[R0,R2,dD];exact⟨o3,.inl rfl,trivial⟩
 ·have hp:=R5 hp;have hj:0<x.j:=o3
  have jx:=hx.lu;have ob:=hx.hj;have qd:=hx.qd hc hj;have jY:=qd.v1_lo;have jI:=qd.v1_hi;have f1:M.wrap ((x.j:C)-1+c.n)=((x.j-1+c.n:A):C):=by rw[w64 o3];omega
  have f2:M.wrap (((x.j-1+c.n:A):C)-1)=((x.j-1+c.n-1:A):C):=by rw[w64 o3];omega
  have f3:M.wrap ((c.n:C)-1)=((c.n-1:A):C):=by rw[w64 o3];omega
  have jb:I.wrap ((c.vs.getD (c.n-1) 0:A):C)=((c.v1:A):C):=YE (o3:(0:C)<=((c.v1:A):C)/\((c.v1:A):C)<18446744073709551616);simp only[f1,f2,h];refine⟨o3,_,YZ o3,o3,o3,_,YZ o3,o3,_,YZ (i:=c.n-1) o3,?_,o3,_,YZ (i:=c.n-1) o3,?_,⟨?_,?_⟩,?_⟩
  ·rw[jb];omega
  ·rw[jb];omega
  ·have b1:=hx.du.getD (i:=x.j-1+c.n) o8;have b2:=hx.du.getD (i:=x.j-1+c.n-1) o8;have jv:=qd.top_hi;have ja:x.top c/c.v1*c.v1+x.top c % c.v1=x.top c:=A.div_add_mod' _ _;have hr:x.top c % c.v1<c.v1:=f _ o3;refine⟨(x,x.top c/c.v1,x.top c % c.v1),⟨⟨hx,hj,ja,qd.start,A.lt_trans hr jI⟩,rfl⟩,?_⟩;have ht:orI .u64 (YM .u64 (I.wrap ((x.us.getD (x.j-1+c.n) 0:A):C)) 32) (I.wrap ((x.us.getD (x.j-1+c.n-1) 0:A):C))=((x.top c:A):C):=p9 b1 b2;rw[ht,jb];have jq:x.top c/c.v1<=x.top c:=Yx _ _;generalize x.top c=t at*;generalize c.v1=v at*;have e1:(t:C).tdiv v=((t/v:A):C):=by rw[te (Zx t)];simp
   have e2:(t:C).tmod v=((t % v:A):C):=by rw[tm (Zx t)];simp
   have e3:I.wrap ((t/v:A):C)=((t/v:A):C):=by
    generalize t/v=y at jq|-;exact YE o3
   rw[e1,e2,e3];simp
  ·intro U hg be;obtain⟨U,d,r⟩:=U;have hZ:QD 4294967296 c.V (U.W c) c.v1 c.v2 (U.top c) (U.u3 c) (c.n-2):=hg.main.qd hc hg.jp;have ja:=hg.sum;have jg:=hg.ge;have jD:=hg.rlt;have ji:=hg.main.lu;have jh:=hg.main.hj;have jC:=hg.jp;have jv:=hZ.top_hi;simp only at ja jg jD ji jh jC jv be|-;have jN:d<=U.top c:=by
    have:d*1<=d*c.v1:=u _ o3;omega
   have jr:0<d->(d-1)*c.v1+(r+c.v1)=U.top c:=fun a=>by
    rw[A.sub_mul,Yy];have:1*c.v1<=d*c.v1:=p _ a;omega
   refine⟨o3,QE (fun h1=> ?_) (fun h1=> ?_)⟩
   ·have h1:=R5 h1;rw[JC o8 o3]at h1;simp only[show(32:C).toNat=32 from rfl]at h1;have hd:4294967296<=d:=o3
    have je:=hZ.step ja (.inl hd);have jm:0<d:=Zs (A.zero_le _) je;have Y:=jr jm;refine⟨o3,_,YZ (i:=c.n-1) o3,o3,QE (fun h3=> ?_) (fun h3=> ?_)⟩
    ·have h3:=R5 h3;rw[jb,YE (n:=(r:C)+c.v1) o3,JC o8 o3]at h3;simp only[show(32:C).toNat=32 from rfl]at h3;have jy:4294967296<=r+c.v1:=o3
     obtain⟨b1,b2⟩:=hZ.brk Y jy;refine⟨(U,d-1),⟨⟨hg.main,hg.jp,b1,Ye je,hZ.fin Y b1 b2⟩,be⟩,?_,rfl,.inl rfl,.inl rfl⟩;rw[YE o3];omega
    ·have h3:=R6 h3;rw[jb,YE (n:=(r:C)+c.v1) o3,JC o8 o3]at h3;simp only[show(32:C).toNat=32 from rfl]at h3;refine⟨(U,d-1,r+c.v1),⟨⟨hg.main,hg.jp,Y,Ye je,o5⟩,be,o5⟩,?_,?_,rfl,.inl rfl,.inl rfl⟩
     ·rw[YE o3];simp only;omega
     ·rw[jb,YE o3];simp
   ·have h1:=R6 h1;rw[JC o8 o3]at h1;simp only[show(32:C).toNat=32 from rfl]at h1;have hd:d<4294967296:=o3
    have g1:M.wrap ((c.n:C)-2)=((c.n-2:A):C):=by rw[w64 o3];omega
    have g2:M.wrap (M.wrap ((U.j:C)-1+c.n)-2)=((U.j-1+c.n-2:A):C):=by rw[w64 (n:=(U.j:C)-1+c.n) o3,w64 o3];omega
    simp only[g1,g2,h];have jZ:=hZ.v2_hi;have jH:=hZ.u3_hi;have m1:d*c.v2<=4294967295*4294967295:=A.mul_le_mul o3 o3;have g3:I.wrap ((d:C)*I.wrap ((c.vs.getD (c.n-2) 0:A):C))=((d*c.v2:A):C):=by
     rw[show I.wrap ((c.vs.getD (c.n-2) 0:A):C)=((c.v2:A):C)from YE (o3:(0:C)<=((c.v2:A):C)/\((c.v2:A):C)<18446744073709551616)];rw[(o6:((d:C)*(c.v2:A))=((d*c.v2:A):C))];exact YE o3
    have g4:orI .u64 (YM .u64 (r:C) 32) (I.wrap ((U.us.getD (U.j-1+c.n-2) 0:A):C))=((r*4294967296+U.u3 c:A):C):=by
     have:=p9 jD jH;rw[YE (n:=(r:C)) o3]at this;exact this
    refine⟨o3,_,YZ (i:=c.n-2) o3,o3,o3,_,YZ (i:=U.j-1+c.n-2) o3,QE (fun h2=> ?_) (fun h2=> ?_)⟩
    ·have h2:=R5 h2;rw[g3,g4]at h2;have je:=hZ.step ja (.inr o3);have jm:0<d:=Zs (A.zero_le _) je;have Y:=jr jm;refine⟨o3,_,YZ (i:=c.n-1) o3,o3,QE (fun h3=> ?_) (fun h3=> ?_)⟩
     ·have h3:=R5 h3;rw[jb,YE (n:=(r:C)+c.v1) o3,JC o8 o3]at h3;simp only[show(32:C).toNat=32 from rfl]at h3;have jy:4294967296<=r+c.v1:=o3
      obtain⟨b1,b2⟩:=hZ.brk Y jy;refine⟨(U,d-1),⟨⟨hg.main,hg.jp,b1,Ye je,hZ.fin Y b1 b2⟩,be⟩,?_,rfl,.inl rfl,.inl rfl⟩;rw[YE o3];omega
     ·have h3:=R6 h3;rw[jb,YE (n:=(r:C)+c.v1) o3,JC o8 o3]at h3;simp only[show(32:C).toNat=32 from rfl]at h3;refine⟨(U,d-1,r+c.v1),⟨⟨hg.main,hg.jp,Y,Ye je,o5⟩,be,o5⟩,?_,?_,rfl,.inl rfl,.inl rfl⟩
      ·rw[YE o3];simp only;omega
      ·rw[jb,YE o3];simp
    ·have h2:=R6 h2;rw[g3,g4]at h2;have jA:d*c.v2<=r*4294967296+U.u3 c:=o3
     exact⟨(U,d),⟨⟨hg.main,hg.jp,hd,jg,hZ.fin ja hd jA⟩,be⟩,rfl,rfl,.inl rfl,.inl rfl⟩
  ·intro U jU be;obtain⟨U,d⟩:=U;obtain⟨hl,jd,hd,jg,jq⟩:=jU;have ji:=hl.lu;have jh:=hl.hj;simp only at hl jd hd jg jq ji jh be|-;have k0:((U.j:C)-1).toNat=U.j-1:=o3
   have k1:M.wrap (M.wrap ((U.j:C)-1+c.n)+1)=((U.j-1+(c.n+1):A):C):=by rw[w64 (n:=(U.j:C)-1+c.n) o3,w64 o3];omega
   simp only[k0,k1,h];have ho:U.j-1+(c.n+1)<=H U.us:=o3
   have jW: ∀m,Dig 4294967296 (spl U.us (U.j-1) (fd 4294967296 (c.n+1) m)):=fun m=>hl.du.take.append ((Dig.fd o8).append hl.du.drop);have jG: ∀m,(spl U.us (U.j-1) (fd 4294967296 (c.n+1) m)).length=H U.us:=fun m=>Ur (by rw[Qn];exact ho);refine⟨⟨o3,U.us,c.vs,rfl,rfl,o3,hl.du,dv,o3,ho,o3,o3,QE (fun a=> ?_) (fun a=> ?_)⟩,fun x2 jV oa=> ?_⟩
   ·have a:=R5 a;obtain⟨r1,r2⟩:=hl.putted hc jd a jq;refine⟨o3,_,c.vs,rfl,rfl,o3,jW _,dv,by rw[jG];exact ho,o3,by rw[jG];omega,U,⟨⟨hl,jd⟩,be⟩,?_,rfl,.inl ?_,.inl rfl,.inl rfl⟩
    ·have jm:1<=d:=by rw[r1];exact A.le_add_left _ _
     have jM:d-1=U.W c/c.V:=by rw[r1];exact A.add_sub_cancel _ _
     rw[YE o3,<-jM];omega
    ·rw[r2,QZx (by rw[Qn];exact ho) (by rw[Qn,Qn])]
   ·have a:=R6 a;obtain⟨r1,r2⟩:=hl.taken hc jd a jg;refine⟨U,⟨⟨hl,jd⟩,be⟩,by rw[r1],rfl,.inl (by rw[r2]),.inl rfl,.inl rfl⟩
   ·obtain⟨jn,jt⟩:=jV;have jX:=jn.hj;have og:=jn.lq;have hq:=(jn.qd hc jt).q_lt;have k2:((x2.j:C)-1).toNat=x2.j-1:=o3
    have jR:Z.wrap ((x2.W c/c.V:A):C)=((x2.W c/c.V:A):C):=by
     generalize x2.W c/c.V=y at hq|-;exact ZM o3
    rw[k2,jR,w64 o3,Wy];exact⟨o3,by rw[Wj];omega,_,⟨jn.next hc jt,o5⟩,o5,.inl rfl,.inl rfl⟩
 ·have hp:=R6 hp;have jP:x.j=0:=o3
  have hd:GC c x:=⟨hx,jP⟩;have jx:=hx.lu;simp only[h,A.sub_zero];refine⟨o3,⟨⟨x,x.us,0⟩,⟨hd,Ve.init hc hx⟩,?_⟩,fun y hy=>QE (fun hp=> ?_) (fun hp=> ?_)⟩
  ·simp
  ·obtain⟨x,wd,i⟩:=y;have hp:i<c.n:=(j9 hp)
   have jk:=hy.main.main;have jj:=hy.sh.step hc jk.du jk.lu hp;have lw:=hy.sh.lw;have jl:=hy.sh.rest;have jx:=jk.lu;simp only at jj lw jl jx|-;have jT:=jk.du.getD (i:=i) o8;have jF:=jk.du.getD (i:=i+1) o8;have jO:i<H x.us:=o3
   have jL:wd[i]? =G (x.us.getD i 0):=by
    have h0:=K (fun l:D A=>l[0]?) jl;simp only[Yr,Zu]at h0;rw[h0,k,Zi jO];rfl
   have jz:wd[i+1]? =G (x.us.getD (i+1) 0):=by
    have h0:=K (fun l:D A=>l[1]?) jl;simp only[Yr]at h0;rw[h0,k,Zi o3];rfl
   have f5:M.wrap ((i:C)+1)=((i+1:A):C):=by rw[w64 o3];simp
   have f6:M.wrap (32-(c.s:C))=((32-c.s:A):C):=by rw[w64 o3];omega
   have f7:XE .u32 ((x.us.getD i 0:A):C) (c.s:C)=((x.us.getD i 0/2^c.s:A):C):=eW o3;simp only[f5,f6,h];refine⟨o3,_,JF jL,o3,o3,by rw[Wj];omega,?_⟩;rw[f7,Wy];have gs:(wd.set i (x.us.getD i 0/2^c.s))[i]? =G (x.us.getD i 0/2^c.s):=by rw[Ys];simp;omega
   have jK:(wd.set i (x.us.getD i 0/2^c.s))[i+1]? =G (x.us.getD (i+1) 0):=by rw[Ys,if_neg o3];exact jz
   refine QE (fun a=> ?_) (fun a=> ?_)
   ·refine⟨o3,_,JF gs,o3,_,JF jK,o3,o3,by rw[Wj,D.length_set];omega,⟨x,_,i+1⟩,⟨⟨hy.main,jj⟩,o5⟩,rfl,.inl ?_,.inl rfl⟩;rw[QZz jF ju,QTT jT ju,Wy,D.set_set]
   ·have a:=R6 a;have jB:i+1=c.n:=o3
    have hz:=hy.main.un hc;rw[jB]at jj;simp only at hz;rw[hz,A.zero_mod,A.zero_mul,Zu,<-jB]at jj;exact⟨⟨x,_,i+1⟩,⟨⟨hy.main,jj⟩,o5⟩,rfl,.inl rfl,.inl rfl⟩
  ·obtain⟨x,wd,i⟩:=y;have hp: ¬i<c.n:=(j9 hp)
   have hi:=hy.sh.hi;have jE:=hy.sh;simp only at hi jE|-;have:i=c.n:=o3
   subst this;have e1:=jE.fin hc hy.main;have e2:=hy.main.q hc;simp only at e1 e2;exact⟨(),.inl (by rw[e2]),.inl (by rw[e1])⟩
def qk:XS:=fun f a d=>match f with
 | [.x E [.w k 0 p],.x E [.w h 0 n2]]=>match a k,a h,a (d+1000),a (d+2000)with
  | some (.row t 1 j),G (.row q 1 n),S,S=>bif t.beq 202&&q.beq 202&& !(k.beq h)then
    G fun K=> ∃e y s,j=W e/\n=W y/\p=H e/\n2=H y/\Y6 ⟨e,y,s⟩/\
     K (.t [(E,[.w (d+1000) 0 (H e+1-H y)]),(E,[.w (d+2000) 0 y.length])])
      (XW [(1000,k),(1001,h),(1002,d+1000),(1003,d+2000)] (QO [(1000,Qs e),(1001,Qs y),(1002,Qs (fd 4294967296 (H e+1-H y) (QI 4294967296 e/QI 4294967296 y))),(1003,Qs (fd 4294967296 (H e+1) (QI 4294967296 e % QI 4294967296 y)))]) a)
    else S
  | _,_,_,_=>S
 | _=>S
variable{zb:D Value}{g:A}
theorem QZ0:KL Tryz.prog g zb 155 qk:=by
 refine⟨Qf func155 o4,fun l H d T f K v=> ?_⟩;unfold qk at f;split at f
 ·rename_i k n1 A n2;split at f
  ·rename_i t X W Y J O Q U;cases j:t.beq 202&&W.beq 202&& !(k.beq A)with
   | false=>rw[j]at f;cases f
   | true=>
    rw[j]at f;cases f
    simp only[Bool.and_eq_true,Bool.not_eq_true']at j;obtain⟨⟨y,q⟩,u⟩:=j;have y:=Ym y;have q:=Ym q;have u:k≠A:=fun e=>by subst e;simp at u
    subst y q;obtain⟨C,D,s,rfl,rfl,rfl,rfl,V,v⟩:=v;refine Xc (R:=[(1000,k),(1001,A)]) (N:=[(1002,d+1000),(1003,d+2000)]) (Hl:=[(1000,Qs C),(1001,Qs D)]) Qiz QK func155 o4 o4 j6
     (as0:=[wA 1000 C.length,wA 1001 D.length]) ?_ (bg J O u rfl rfl rfl rfl) rfl o6 o6 (fun p n=> ?_) (fun x=>⟨fun p n=> ?_,fun p n b j=> ?_⟩) (Qe9 ⟨C,D,s⟩ V) (fun x _=> ?_)
    ·simp[X7,X2,XZ,(TG u).1,(TG u).2,wA]
    ·simp at n;rcases n with rfl | rfl
     ·exact Q
     ·exact U
    ·simp at n;rcases n with rfl | rfl
     ·exact fun h=>by have a:G (Qs _)=S:=h;cases a
     ·exact fun h=>by have a:G (Qs _)=S:=h;cases a
    ·simp at n;rcases n with rfl | rfl | rfl | rfl
     ·have a:G (Qs _)=G b:=j;cases a;rfl
     ·have a:G (Qs _)=G b:=j;cases a;rfl
     ·have a:G (Qs _)=G b:=j;cases a;rfl
     ·have a:G (Qs _)=G b:=j;cases a;rfl
    ·exact⟨_,rfl,v⟩
  ·cases f
 ·cases f
def M12:D (A×XS):=(155,qk)::M10
noncomputable def T12:Qd:=mkT L11 M12 X3
theorem qK:CtrMsOK Tryz.prog g zb M12:= .cons QZ0 pN
theorem Qi0:XC Tryz.prog g zb T12:=QP rm qK S1
structure Z8 where
 cur:D A
 rest:A
 j:A
structure Tx (xs:D A)(y:A)(x:Z8):Prop where
 dc:Dig 4294967296 x.cur
 lc:x.cur.length=xs.length
 hj:x.j<=xs.length
 hr:x.rest<y
 low:x.cur.take x.j=xs.take x.j
 inv:QI 4294967296 (xs.drop x.j)=y*QI 4294967296 (x.cur.drop x.j)+x.rest
def QZ1 (m a n b:A):LI:=fun e=>bif e.beq 8 then .cut ⟨N,fun _=>⟨[(0,bA m a),(1,bA n b)],[]⟩,fun _=>n≠0/\n<=m,fun _=>0,fun _=>0⟩
 else .inv ⟨Z8,fun x=>⟨[(7,wA 48 (wl m)),(8,wA 50 (wl n)),(9,iA .u64 x.rest),(10,iA .i64 ((x.j:C)-1))],[(48,Qs x.cur),(50,Qs (fd 4294967296 (wl n) n))]⟩,Tx (fd 4294967296 (wl m) m) n,fun x=>x.j,fun _=>0⟩
def QI1 (m a n b:A)(K:AV->Prop):Prop:=QN T12 (oF f119) (QZ1 m a n b) f119 [bA m a,bA n b] K
theorem QI2 (m:A)(a:A)(n:A)(b:A)(K:AV->Prop):QI1 m a n b K=((bif decide (QB n=[])then K (AV.t [(E,[z (Yu (T.mk (Array.mk [])))]),(E,[z (Yu (T.mk (Array.mk [])))]),(E,[z (Ze M 12)])])else bif decide (F (QB m).length<=8)then bif decide (F (QB n).length<=8)then m<18446744073709551616/\n<18446744073709551616/\F n≠0/\(0<=I.wrap ((F m).tdiv (F n))/\I.wrap ((F m).tdiv (F n))<18446744073709551616)/\m<18446744073709551616/\n<18446744073709551616/\F n≠0/\(0<=(F m).tmod (F n)/\(F m).tmod (F n)<18446744073709551616)/\K (AV.t [(E,[Ch.b (I.wrap ((F m).tdiv (F n))).toNat 64]),(E,[Ch.b ((F m).tmod (F n)).toNat 64]),(E,[z (Ze M 0)])])else bif decide (Je m n<0)then K (AV.t [(E,[z (Yu (T.mk (Array.mk [])))]),(E,[Ch.b m a]),(E,[z (Ze M 0)])])else ∃(_x:N),((n≠0/\n<=m)/\X.ofNat 0=0)/\m=m/\a<=a/\n=n/\b<=b/\J else bif decide (Je m n<0)then K (AV.t [(E,[z (Yu (T.mk (Array.mk [])))]),(E,[Ch.b m a]),(E,[z (Ze M 0)])])else ∃(_x:N),((n≠0/\n<=m)/\X.ofNat 0=0)/\m=m/\a<=a/\n=n/\b<=b/\J)/\∀(_x:N),n≠0/\n<=m->X.ofNat 0=0->a<=1099511627776/\b<=1099511627776/\bif F (wl n)==1 then(∃(x:Z8),(Tx (fd 4294967296 (wl m) m) n x/\X.ofNat 0=0)/\0=0/\wl m=wl m/\0=0/\wl n=wl n/\0=F x.rest/\M.wrap (F (wl m)-1)=F x.j-1/\202=202/\1=1/\(W (fd 4294967296 (wl m) m)=W x.cur\/QC (W (fd 4294967296 (wl m) m)) (W x.cur))/\202=202/\1=1/\(W (fd 4294967296 (wl n) n)=W (fd 4294967296 (wl n) n)\/QC (W (fd 4294967296 (wl n) n)) (W (fd 4294967296 (wl n) n)))/\J)/\∀(x:Z8),Tx (fd 4294967296 (wl m) m) n x->X.ofNat 0=0->bif decide (F x.j-1>=0)then(0:C)<=32/\(0<=F x.j-1/\F x.j-1<F (wl m))/\∃(d:C),ldE (W x.cur) (0+(F x.j-1).toNat) 0 1=G [z (Ze Z d)]/\((0:C)<=0/\0<F (wl n))/\∃(f:C),ldE (W (fd 4294967296 (wl n) n)) 0 0 1=G [z (Ze Z f)]/\I.wrap f≠0/\((0:C)<=0/\0<F (wl n))/\∃(h:C),ldE (W (fd 4294967296 (wl n) n)) 0 0 1=G [z (Ze Z h)]/\I.wrap h≠0/\(0<=F x.j-1/\F x.j-1<F (wl m))/\0+(F x.j-1).toNat<(W x.cur).length/\∃(j:Z8),(Tx (fd 4294967296 (wl m) m) n j/\X.ofNat 0=0/\j.j<x.j)/\0=0/\wl m=wl m/\0=0/\wl n=wl n/\(orI I (YM I (F x.rest) 32) (I.wrap d)).tmod (I.wrap h)=F j.rest/\M.wrap (F x.j-1-1)=F j.j-1/\202=202/\1=1/\((W x.cur).set (0+(F x.j-1).toNat) [z (Ze Z (Z.wrap (I.wrap ((orI I (YM I (F x.rest) 32) (I.wrap d)).tdiv (I.wrap f)))))]=W j.cur\/QC ((W x.cur).set (0+(F x.j-1).toNat) [z (Ze Z (Z.wrap (I.wrap ((orI I (YM I (F x.rest) 32) (I.wrap d)).tdiv (I.wrap f)))))]) (W j.cur))/\202=202/\1=1/\(W (fd 4294967296 (wl n) n)=W (fd 4294967296 (wl n) n)\/QC (W (fd 4294967296 (wl n) n)) (W (fd 4294967296 (wl n) n)))/\J else ∃(ds:D A),Xb (wl m) (D.drop 0 (W x.cur))=W ds/\(∀(d:A),d∈ds->d<4294967296)/\ds.length<=1099511627776/\(0<=F x.rest/\F x.rest<18446744073709551616)/\K (AV.t [(E,[Ch.b (QI 4294967296 ds) (32*H ds)]),(E,[Ch.b (F x.rest).toNat 64]),(E,[z (Ze M 0)])])else ∃(xs:D A)(y:D A)(s:A),W (fd 4294967296 (wl m) m)=W xs/\W (fd 4294967296 (wl n) n)=W y/\wl m=H xs/\wl n=H y/\Y6 (XB.mk xs y s)/\∃(ds:D A),Xb (H xs+1-H y) (D.drop 0 (W (fd 4294967296 (H xs+1-H y) (QI 4294967296 xs/QI 4294967296 y))))=W ds/\(∀(d:A),d∈ds->d<4294967296)/\ds.length<=1099511627776/\∃(e:D A),Xb y.length (D.drop 0 (W (fd 4294967296 (H xs+1) (QI 4294967296 xs%QI 4294967296 y))))=W e/\(∀(d:A),d∈e->d<4294967296)/\e.length<=1099511627776/\K (AV.t [(E,[Ch.b (QI 4294967296 ds) (32*H ds)]),(E,[Ch.b (QI 4294967296 e) (32*H e)]),(E,[z (Ze M 0)])])):=o4
theorem Tx.step {xs:D A}{y:A}{x:Z8}(h:Tx xs y x)(C:Dig 4294967296 xs)(V:y<4294967296)(U:0<x.j)(a:xs[x.j-1]? =G d):Tx xs y ⟨x.cur.set (x.j-1) ((x.rest*4294967296+d)/y),(x.rest*4294967296+d) % y,x.j-1⟩:=by
 obtain⟨u,R,N,Q,n,k⟩:=h;have T:=C.get a;have O:(x.rest*4294967296+d)/y<4294967296:=by
  apply Zn;have:(x.rest+1)*4294967296<=y*4294967296:=p _ Q;omega
 have J:xs.drop (x.j-1)=d::xs.drop x.j:=by
  have j:=(D.getElem?_eq_some_iff.1 a).1;rw[Zo j,(D.getElem?_eq_some_iff.1 a).2,(o3:x.j-1+1=x.j)]
 have H:(x.cur.set (x.j-1) ((x.rest*4294967296+d)/y)).drop (x.j-1)=(x.rest*4294967296+d)/y::x.cur.drop x.j:=by
  rw[Zo o9,D.getElem_set_self,Yq o3,(o3:x.j-1+1=x.j)]
 refine⟨u.set O,(j9 R),o5,f _ o3,?_,?_⟩
 ·simp only;rw[Xx];have:=K (Xb (x.j-1)) n;rwa [Xa,Xa,Yi o3]at this
 ·simp only;rw[J,H,HZ,HZ,k];have:=Yj (x.rest*4294967296+d) y;generalize (x.rest*4294967296+d)/y=q at this|-;generalize (x.rest*4294967296+d) % y=r at this|-;generalize QI 4294967296 (x.cur.drop x.j)=v;rw[Yb,Yb];have e:y*(4294967296*v)=4294967296*(y*v):=by rw[<-Zz,Y y,Zz]
  omega
def NatRes (q a r b:A)(e:C)(av:AV):Prop:= ∃x y,av= .t [(E,[x]),(E,[y]),(E,[.v (.int .i64 e)])]/\NatIs q a (.x E [x])/\NatIs r b (.x E [y])
theorem mP {n:A}(h:n≠0):0<wl n/\4294967296^(wl n-1)<=n:=by
 have f:(QB n).length≠0:=fun a=>h (Qo.1 (D.eq_nil_of_length_eq_zero a));have e: ¬n<256^((QB n).length-1):=fun a=>by have:=Qh.2 a;omega
 refine⟨by unfold wl;omega,?_⟩;rw[show(4294967296:A)=256^4 from rfl,<-A.pow_mul];have:(256:A)^(4*(wl n-1))<=256^((QB n).length-1):=Zj o8 (by unfold wl;omega);omega
theorem QZ2(h0:t≠0)(h:t<4294967296): ∃s,s<32/\2147483648<=t*2^s/\t*2^s<4294967296:=by
 have f:=A.log2_self_le h0;have j:= @A.lt_log2_self t;have k:t.log2<32:=(A.log2_lt h0).2 (show t<2^32 from h);refine⟨31-t.log2,o3,?_,?_⟩
 ·have a:2^t.log2*2^(31-t.log2)=2147483648:=by rw[<-v,(o3:t.log2+(31-t.log2)=31)]
  rw[<-a];exact p _ f
 ·have a:2^(t.log2+1)*2^(31-t.log2)=4294967296:=by rw[<-v,(o3:t.log2+1+(31-t.log2)=32)]
  rw[<-a];exact Zk j (e o8)
theorem QfA {n:A}(h:n≠0):(fd 4294967296 (wl n) n).getD (wl n-1) 0=n/4294967296^(wl n-1)/\n/4294967296^(wl n-1)≠0/\n/4294967296^(wl n-1)<4294967296:=by
 obtain⟨j,k⟩:=mP h;have f:=JD n;refine⟨JG (QIi j f),?_,?_⟩
 ·have:=A.div_pos k (e o8);exact A.ne_of_gt this
 ·apply Zn;rw[<-a,(o3:(wl n-1).succ=wl n)];exact f
variable{L:A}
theorem QZ3{k v:A}(h:k<=L):(fd B L v).take k=fd B k v:=by
 simp only[fd,<-D.map_take,D.take_range,Yi h]
theorem QfB{n:A}(j:n≠0)(h:n<=m):m/n<4294967296^(wl m+1-wl n):=by
 obtain⟨k,f⟩:=mP j;have q:=cj h;have a:=JD m;apply Zn;have e:(4294967296:A)^wl m=4294967296^(wl n-1)*4294967296^(wl m+1-wl n):=by rw[<-v];congr 1;omega
 rw[e]at a;exact Zw a (p _ f)
theorem QTW{n:A}(p:n≠0)(h:n<=m)(a:2<=wl n)(k:wl m<=1099511627776): ∃s,Y6 ⟨fd 4294967296 (wl m) m,fd 4294967296 (wl n) n,s⟩:=by
 obtain⟨e,f,j⟩:=QfA p;obtain⟨s,q,u,v⟩:=QZ2 f j;refine⟨s,Dig.fd o8,Dig.fd o8,by simpa [Qn]using a,by simpa [Qn]using cj h,by simpa [Qn]using k,q,?_,?_⟩
 ·simp only[Qn,e];exact u
 ·simp only[Qn,e];exact v
theorem Qi1 (m a n b:A)(ha:a<=549755813888)(hb:b<=549755813888)(hm:m<2^a)(hn:n<2^b):QM (QI1 m a n b (NatRes (m/n) a (bif decide (n=0)then 0 else m % n) b (bif decide (n=0)then 12 else 0))):=by
 refine⟨?_⟩;rw[QI2];have jd:=ZQ hm;have je:=ZQ hn;have hZ:0<2^b:=e o8;have At:0<2^a:=e o8;have J:m/n<2^a:=Zs (Yx _ _) hm;simp only[Yg,R0,R1,Yv,Yz,R4,R2];have y:n≠0->decide (Je m n<0)=true->NatRes (m/n) a (bif decide (n=0)then 0 else m % n) b (bif decide (n=0)then 12 else 0) (.t [(E,[.v (.string ⟨⟨[]⟩⟩)]),(E,[.b m a]),(E,[.v (.int .i64 0)])]):=by
  intro u j;have X:m<n:=by
   have j:=R5 j;unfold Je at j;rcases A.lt_or_ge m n with h' | h'
   ·exact h'
   ·rw[if_neg o3]at j;split at j<;>simp at j
  simp only[u,O,R8];rw[Yn X,Zt X];exact⟨_,_,rfl,⟨At,.inr ⟨[],rfl,rfl⟩⟩,.b o3⟩
 have W:n≠0->decide (Je m n<0)=E-> ∃_x:N,n≠0/\n<=m:=by
  intro u j;have j:=R6 j;refine⟨(),u,?_⟩;unfold Je at j;rcases A.lt_or_ge m n with h' | h'
  ·rw[R h']at j;simp at j
  ·exact h'
 refine⟨QE (fun j=> ?_) (fun j=> ?_),fun _ v=>⟨o3,o3,QE (fun j=> ?_) (fun j=> ?_)⟩⟩
 ·have u:n=0:=Qo.1 (R5 j);subst u;simp only[A.div_zero,decide_true,R7];exact⟨_,_,rfl,⟨At,.inr ⟨[],rfl,rfl⟩⟩,⟨hZ,.inr ⟨[],rfl,rfl⟩⟩⟩
 ·have u:n≠0:=fun h'=>(R6 j) (Qo.2 h');refine QE (fun Q=>QE (fun h2=> ?_) (fun h2=>QE (fun T=>y u T) (fun T=>W u T))) (fun Q=>QE (fun T=>y u T) (fun T=>W u T));have Q:=R5 Q;have h2:=R5 h2;have m8:=Qh (m:=m) (k:=8) |>.1 o3
  have n8:=Qh (m:=n) (k:=8) |>.1 o3
  have e1:(m:C).tdiv n=((m/n:A):C):=by rw[te (Zx m)];simp
  have e2:(m:C).tmod n=((m % n:A):C):=by rw[tm (Zx m)];simp
  have q1:m/n<=m:=Yx _ _;have r1:m % n<=m:=A.mod_le _ _;have r2:m % n<n:=f _ o3;rw[e1,e2];simp only[u,O,R8];generalize m/n=q at q1 J|-;generalize m % n=r at r1 r2|-;rw[YE o3,h,h];exact⟨o3,o3,o3,o3,o3,o3,o3,o3,_,_,rfl,.b J,.b o3⟩
 ·obtain⟨u,H⟩:=v;have ja:wl n=1:=by have j:=(by simpa using j:(wl n:C)=1);omega
  have Y:n<4294967296:=by have:=JD n;rw[ja,A.pow_one]at this;exact this
  have gy:(fd 4294967296 (wl n) n)[0]? =G n:=by rw[J6 o3,A.pow_zero,A.div_one,Zt Y]
  have wn:I.wrap (n:C)=(n:C):=YE o3;have vm:=Qz (JD m);have dx:Dig 4294967296 (fd 4294967296 (wl m) m):=Dig.fd o8;have lx:(fd 4294967296 (wl m) m).length=wl m:=Qn;generalize fd 4294967296 (wl m) m=xs at vm dx lx|-;generalize fd 4294967296 (wl n) n=ys at gy|-;refine⟨⟨⟨xs,0,wl m⟩,⟨dx,rfl,o5,o5,rfl,?_⟩,rfl,?_,.inl rfl⟩,fun x v=>QE (fun hp=> ?_) (fun hp=> ?_)⟩
  ·simp only;rw[Yd o3];simp[QI]
  ·rw[w64 o3]
  ·have hp:=R5 hp;have hj:0<x.j:=o3
   have jc:=v.hj;have lc:=v.lc;have V:=v.hr;obtain⟨d,hd⟩: ∃d,xs[x.j-1]? =G d:=⟨_,Zi o3⟩
   have dd:=dx.get hd;have Lm:x.cur[x.j-1]? =G d:=by
    have Q:=K (fun l:D A=>l[x.j-1]?) v.low;simp only[Yk]at Q;rw[R o3,R o3]at Q;rw[Q];exact hd
   have hs:=v.step dx Y hj hd;have k0:((x.j:C)-1).toNat=x.j-1:=o3
   have k1:orI .u64 (YM .u64 (x.rest:C) 32) (I.wrap (d:C))=((x.rest*4294967296+d:A):C):=by
    have:=p9 (a:=x.rest) (b:=d) o3 dd;rw[YE (n:=(x.rest:C)) o3]at this;exact this
   have hq:(x.rest*4294967296+d)/n<4294967296:=by
    apply Zn;have:(x.rest+1)*4294967296<=n*4294967296:=p _ V;omega
   rw[k0];refine⟨o3,o3,d,JF Lm,o3,n,JF gy,o3,o3,n,JF gy,o3,o3,by rw[Wj];omega,_,⟨hs,o5⟩,?_,?_,?_⟩
   ·rw[k1,wn,tm (Zx _)];simp
   ·rw[w64 o3];simp only;omega
   ·have e1:((x.rest*4294967296+d:A):C).tdiv (n:C)=(((x.rest*4294967296+d)/n:A):C):=by rw[te (Zx _)];simp
    rw[k1,wn,e1];generalize (x.rest*4294967296+d)/n=q at hq|-;rw[YE o3,ZM o3,Wy];exact .inl rfl
  ·have hp:=R6 hp;have hj:x.j=0:=o3
   have lc:=v.lc;have V:=v.hr;have U:=v.inv;rw[hj,Ya,Ya,vm]at U;have hq:QI 4294967296 x.cur=m/n:=by
    rw[U,A.mul_add_div o3,Yn V,Zu]
   have be:x.rest=m % n:=by rw[U,A.mul_add_mod,Zt V]
   refine⟨x.cur,by rw[Ya,aN,D.take_of_length_le o3],v.dc,o3,o3,?_⟩;simp only[u,O,R8];rw[hq,h,<-be];exact⟨_,_,rfl,.b J,.b o3⟩
 ·obtain⟨u,H⟩:=v;have jb:2<=wl n:=by
   have:=(mP u).1;have j:=(by simpa using j: ¬(wl n:C)=1);omega
  obtain⟨s,hs⟩:=QTW u H jb o3;have vm:=Qz (JD m);have vn:=Qz (JD n);refine⟨_,_,s,rfl,rfl,by rw[Qn],by rw[Qn],hs,?_⟩;rw[vm,vn,Qn,Qn];simp only[u,O,R8];have hq:=QfB u H;have V:m % n<n:=f _ o3;refine⟨fd 4294967296 (wl m+1-wl n) (m/n),by rw[Ya,aN,D.take_of_length_le (by rw[Qn];omega)],Dig.fd o8,by rw[Qn];omega,fd 4294967296 (wl n) (m % n),?_,Dig.fd o8,by rw[Qn];omega,?_⟩
  ·have:=cj H;rw[Ya,aN,QZ3 o3]
  ·rw[Qz hq,Qz (A.lt_trans V (JD n))];exact⟨_,_,rfl,.b J,.b o3⟩
theorem NatRes.conc {w:World}{O:A->Prop}{ρ:Env}{q a:A}{e:C}{av:AV}{v:Value}(h:NatRes q a r b e av)(p:ConcV w O ρ av v):ConcV w O ρ (.t [(E,[.b q a]),(E,[.b r b]),(E,[.v (.int .i64 e)])]) v:=by
 obtain⟨x,y,rfl,u,D⟩:=h;obtain⟨H,f,k⟩:=p;cases f with
 | cons f j=>cases j with
  | cons j n=>exact⟨_,.cons (u.conc (av:= .x E [x]) f) (.cons (D.conc (av:= .x E [y]) j) n),k⟩
def dM:Ctr
 | [.x E [.b m a],.x E [.b n b]]=>G fun K=>(a<=549755813888/\b<=549755813888)/\K (.t [(E,[.b (m/n) a]),(E,[.b (bif decide (n=0)then 0 else m % n) b]),(E,[.v (.int .i64 (bif decide (n=0)then 12 else 0))])])
 | _=>S
theorem ok_Div:CtrOK Tryz.prog g zb 119 dM:=by
 refine⟨Qf func119 o4,fun l T h K f=> ?_⟩;unfold dM at h;split at h
 ·rename_i m a n b;cases h
  refine Y5 fun w O k v e=>Eng.Spec.res (Qk Qi0 QK func119 o4 o4 j6 (Qi1 m a n b f.1.1 f.1.2 (W4 e) (WA e))) fun _ _ _ _ j e=>⟨_,f.2,j.conc e⟩
 ·cases h
def L13:LC:=(119,dM)::L11
noncomputable def T13:Qd:=mkT L13 M12 X3
theorem zB:CtrsOK Tryz.prog g zb L13:= .cons ok_Div rm
theorem QdT:XC Tryz.prog g zb T13:=QP zB qK S1
theorem QQW{x:A}(R:x<8*L):(fd 18446744073709551616 L (m % 256^x)).set (x/8) ((m % 256^x)/18446744073709551616^(x/8) % 18446744073709551616+256^(x % 8)*(m/256^x % 256))=fd 18446744073709551616 L (m % 256^(x+1)):=by
 have C:x/8<L:=o3
 have h: ∀y,(18446744073709551616:A)^y=256^(8*y):=fun y=>by rw[show(18446744073709551616:A)=256^8 from rfl,<-A.pow_mul]
 have n:256^x=18446744073709551616^(x/8)*256^(x % 8):=by
  rw[h,<-Zv];congr 1;omega
 have k:m % 256^x<256^x:=f _ (e o3);have J:m % 256^(x+1)<256^(x+1):=f _ (e o3);have D:(256:A)^x<=18446744073709551616^L:=by rw[h];exact Zj o3 o3
 have H:(256:A)^(x+1)<=18446744073709551616^L:=by rw[h];exact Zj o3 o3
 have N:(m % 256^x)/18446744073709551616^(x/8)<256^(x % 8):=by
  apply Zn;rw[<-n];exact k
 have Q:x % 8<8:=f _ o3;have O:256^(x % 8)*256<=18446744073709551616:=by
  have:(256:A)^(x % 8)*256=256^(x % 8+1):=by rw[a]
  rw[this,show(18446744073709551616:A)=256^8 from rfl];exact Zj o3 o3
 have q:m/256^x % 256<256:=f _ o3;have j:(m % 256^x)/18446744073709551616^(x/8) % 18446744073709551616=(m % 256^x)/18446744073709551616^(x/8):=Zt o3;have K:(m % 256^x)/18446744073709551616^(x/8) % 18446744073709551616+256^(x % 8)*(m/256^x % 256)<18446744073709551616:=by
  rw[j];have:256^(x % 8)*(m/256^x % 256+1)<=256^(x % 8)*256:=u _ q;rw[Yb]at this;omega
 apply VE ((Dig.fd o3).set K) (Dig.fd o3) (by simp[Qn]);have p:=Uq (B:=18446744073709551616) (v:=(m % 256^x)/18446744073709551616^(x/8) % 18446744073709551616+256^(x % 8)*(m/256^x % 256)) (J6 (B:=18446744073709551616) (m:=m % 256^x) C);rw[Qz o3,Yb,<-Zz,<-n]at p;rw[Qz o3,GA];omega
theorem QLW:fd 18446744073709551616 L 0=Yf L 0:=
 VE (Dig.fd o3) (Dig.zeros o3) (by simp[Qn]) (by rw[Qz (e o3),UJ])
theorem QQX (m x:A):m % 256^x/18446744073709551616^(x/8) % 18446744073709551616<256^(x % 8):=by
 have h:(18446744073709551616:A)^(x/8)=256^(8*(x/8)):=by rw[show(18446744073709551616:A)=256^8 from rfl,<-A.pow_mul]
 have j:256^x=18446744073709551616^(x/8)*256^(x % 8):=by
  rw[h,<-v];congr 1;omega
 have a:m % 256^x<256^x:=f _ (e o3);refine Zs (A.mod_le _ _) (Zn ?_);rw[<-j];exact a
def V (ds:D A):D (D Ch):=ds.map fun(d:A)=>[.v (.int .u64 (d:C))]
theorem Tf (ds:D A):(V ds).length=H ds:=by simp[V]
theorem Qi2(h:ds[i]? =G d):(V ds)[i]? =G [.v (.int .u64 (d:C))]:=by simp[V,h]
theorem KO(h:ds[i]? =G d):ldE (V ds) i 0 1=G [.v (.int .u64 (d:C))]:=by simp only[ldE,Qi2 h];rfl
theorem aI (ds:D A)(i v:A):(V ds).set i [.v (.int .u64 (v:C))]=V (ds.set i v):=by simp[V,D.map_set]
theorem aq (ds:D A)(i:A):(V ds).take i=V (ds.take i):=by simp[V,D.map_take]
theorem sm (ds:D A)(i:A):(V ds).drop i=V (ds.drop i):=by simp[V,D.map_drop]
def vl (m:A):A:=((QB m).length+7)/8
def QQY (m n:A):LI:=fun _=> .inv ⟨A,fun i=>⟨[(0,bA m n),(3,.x E [.w 9 0 (vl m)]),(11,iA .i64 (QB m).length),(12,iA .i64 i)],[(9,.row 197 1 (V (fd 18446744073709551616 (vl m) (m % 256^i))))]⟩,
 fun i=>i<=(QB m).length,fun i=>(QB m).length-i,fun _=>0⟩
theorem or_byte64(k:d<256^r)(p:r<8)(j:b<256):orI .u64 (d:C) (YM .u64 (I.wrap (b:C)) ((r:C)*8))=((d+256^r*b:A):C):=by
 have n:(256:A)^r*256<=18446744073709551616:=by
  have:(256:A)^r*256=256^(r+1):=by rw[a]
  rw[this,show(18446744073709551616:A)=256^8 from rfl];exact Zj o3 o3
 have h:256^r*(b+1)<=256^r*256:=u _ j;rw[Yb]at h;have f:YM .u64 (I.wrap (b:C)) ((r:C)*8)=((2^(8*r)*b:A):C):=by
  have e:((r:C)*8).toNat=8*r:=o3
  rw[YE o3,UI (by rw[e];simp only[IntKind.bits];omega),e];have:(b:C)*2^(8*r)=((2^(8*r)*b:A):C):=by rw[C.natCast_mul,C.mul_comm];simp
  rw[this];refine YE ⟨o3,?_⟩;rw[<-J8];omega
 rw[f,VD,H8 (by rw[<-J8];exact k) (by rw[<-J8];omega),<-J8];congr 1;omega
def BB(a:A):=(QB a).length
def Bq(a b:A):=V (fd 18446744073709551616 (vl a) b)
def BP(a b c:A):=Bq a (b%256^c)
def BX(a:A):=M.wrap ((F a).tdiv 8)
def BY(a:A):=M.wrap ((M.wrap (F (BB a)+7)).tdiv 8)
def Bc(a:C):D Ch:=[z (Ze I a)]
def Br(a:A):=M.wrap ((F a).tmod 8*8)
theorem QZ4 (m n:A)(R:n<=1099511627776)(K:m<2^n):QM (Xp (X:=N) T13 (oF f176) (QQY m n) f176 [bA m n] [] (fun _=>J) (fun _=>⟨[(2,.x E [.w 0 0 (vl m)])],[(0,.row 197 1 (V (fd 18446744073709551616 (vl m) m)))]⟩)):=by
 refine HV ((8:C)≠0/\(0<=BY m/\BY m<=BY m/\8*BY m<=281474976710656/\BY m<=9223372036854775807)/\(∃(v:A),(v<=BB m/\BC=0)/\m=m/\n<=n/\0=0/\(BY m).toNat=vl m/\F (BB m)=F (BB m)/\0=F v/\197=197/\1=1/\(Yf (BY m).toNat (Bc 0)=BP m m v\/QC (Yf (BY m).toNat (Bc 0)) (BP m m v))/\J)/\∀(x:A),x<=BB m->BC=0->bif decide (F x<F (BB m))then(8:C)≠0/\(0<=BX x/\BX x<F (vl m))/\∃(d:C),ldE (BP m m x) (A8 (BX x)) 0 1=G (Bc d)/\∃(b:UInt8),(0<=BE (A4 (BB m)) (F x)/\(QB m)[(BE (A4 (BB m)) (F x)).toNat]? =G b)/\(8:C)≠0/\0<=Br x/\(0<=BX x/\BX x<F (vl m))/\A8 (BX x)<(BP m m x).length/\∃(u:A),(u<=BB m/\BC=0/\BB m-u<BB m-x)/\m=m/\n<=n/\0=0/\vl m=vl m/\F (BB m)=F (BB m)/\M.wrap (F x+1)=F u/\197=197/\1=1/\((BP m m x).set (A8 (BX x)) (Bc (orI I d (Bg (F b.toNat) (Br x))))=BP m m u\/QC ((BP m m x).set (A8 (BX x)) (Bc (orI I d (Bg (F b.toNat) (Br x))))) (BP m m u))/\J else∃(_x_1:N),J/\0=0/\vl m=vl m/\197=197/\1=1/\(BP m m x=Bq m m\/QC (BP m m x) (Bq m m))/\J) ?_
 delta A8 A4 BB BC BE Bq BP BX BY Bg Bc Br
 have H:=Xe K;have O: ∀x:A,x<=(QB m).length->(x:C)<9223372036854775807:=fun x Q=>o3
 generalize h:(QB m).length=a at H O;have j:vl m=(a+7)/8:=by unfold vl;rw[h]
 simp only[j];simp only[Yg,R0,R1,Yv,Yz,R4];simp(disch:=omega) only[w64,te,tm];have p:(((a:C)+7)/8).toNat=(a+7)/8:=o3
 rw[p];simp only[R0];refine⟨o3,⟨o3,o3,o3,o3⟩,⟨0,o3,rfl,.inl ?_⟩,fun x Q=>QE (fun e=> ?_) (fun e=> ?_)⟩
 ·rw[A.pow_zero,A.mod_one,QLW,V,D.map_replicate];rfl
 ·have e:x<a:=(j9 e)
  simp(disch:=omega) only[w64];have q:((x:C)/8).toNat=x/8:=o3
  have y:((a:C)-1-x).toNat=a-1-x:=o3
  have k:x/8<(a+7)/8:=o3
  rw[q,y];refine⟨o3,o3,_,KO (J6 k),_,⟨o3,W3 o3⟩,o3,o3,o3,by rw[Tf,Qn];exact k,x+1,o3,o3,.inl ?_⟩;rw[h,(o3:a-1-(a-1-x)=x),UInt8.toNat_ofNat',A.mod_mod,<-QQW o3,<-aI];congr 4;rw[(o3:((x:C) % 8)=((x % 8:A):C))];exact or_byte64 (QQX m x) o3 (f _ o3)
 ·have e: ¬x<a:=(j9 e)
  have:x=a:=o3
  subst this;exact⟨(),.inl (by rw[Zt (by rw[<-h];exact XM m)])⟩
def mf:XS:=fun a H d=>match a with
  | [.x E [.b m n]]=>match H d with
    | none=>G fun K=>n<=1099511627776/\K (.x E [.w d 0 (vl m)]) (XW [(0,d)] (QO [(0,.row 197 1 (V (fd 18446744073709551616 (vl m) m)))]) H)
    | some _=>S
  | _=>S
theorem QTX:KL Tryz.prog g zb 176 mf:=by
 refine⟨Qf func176 o4,fun l H d T h K a=> ?_⟩;unfold mf at h;split at h
 ·split at h
  ·rename_i f;cases h
   exact SpecM.pre fun w O j v e=>WW QdT QK func176 o4 o4 j6 j6 f o4 (QZ4 _ _ a.1 (W4 e)) a.2
  ·cases h
 ·cases h
def Jg (ds:D A):Blk:= .row 197 1 (V ds)
def Ky (us:D A)(o:A):A->A
  | 0=>0
  | n+1=>if us[o+n]?.getD 0=0 then Ky us o n else n+1
def QZ5 (us:D A)(o n:A):LI:=fun _=> .inv ⟨A,fun i=>⟨[(0,wO 1000 o i)],[(1000,Jg us)]⟩,
 fun i=>i<=n/\Ky us o i=Ky us o n,fun i=>i,fun _=>0⟩
theorem Qi3 (us:D A)(o n:A)(Q:o+n<=H us)(O:us.length<=2199023255552):QM (Xp (X:=N) T13 (oF f192) (QZ5 us o n) f192 [wO 1000 o n] [(1000,Jg us)] (fun _=>J)
 (fun _=>⟨[(2,wO 1000 o (Ky us o n))],[(1000,Jg us)]⟩)):=by
 refine HV ((∃(x:A),((x<=n/\Ky us o x=Ky us o n)/\BC=0)/\o=o/\n=x/\197=197/\1=1/\(V us=V us\/QC (V us) (V us))/\J)/\∀(v:A),v<=n/\Ky us o v=Ky us o n->BC=0->bif decide (F v>0)then(0<=A4 v/\A4 v<F v)/\∃(d:C),ldE (V us) (o+(A4 v).toNat) 0 1=G (Bc d)/\bif d ==0 then((0:C)<=0/\0<=A4 v/\A4 v<=F v)/\∃(j:A),((j<=n/\Ky us o j=Ky us o n)/\BC=0/\j<v)/\o+0=o/\(A4 v).toNat-0=j/\197=197/\1=1/\(V us=V us\/QC (V us) (V us))/\J else∃(u:N),J/\o=o/\v=Ky us o n/\197=197/\1=1/\(V us=V us\/QC (V us) (V us))/\J else∃(a:N),J/\o=o/\v=Ky us o n/\197=197/\1=1/\(V us=V us\/QC (V us) (V us))/\J) ?_
 delta A4 BC Bc
 simp only[Yg,R0,R1,R4,R2];refine⟨⟨n,⟨o3,rfl⟩,rfl⟩,fun x p=>QE (fun f=> ?_) (fun f=> ?_)⟩
 ·have f:0<x:=(j9 f)
  obtain⟨y,rfl⟩: ∃y,x=y+1:=⟨x-1,o3⟩;have K:o+y<H us:=o3
  have q:M.wrap (((y+1:A):C)-1)=(y:C):=by
   rw[w64 o3];omega
  have k:us[o+y]? =G us[o+y]:=Zi K
  rw[q];refine⟨o3,((us[o+y]:A):C),by rw[h];exact KO k,QE (fun e=> ?_) (fun e=> ?_)⟩
  ·have e:us[o+y]=0:=(j9 e)
   refine⟨o3,y,⟨⟨o3,?_⟩,o3⟩,rfl,o6⟩;rw[<-p.2,Ky,R (by rw[k];exact e)]
  ·have e: ¬us[o+y]=0:=(j9 e)
   refine⟨(),?_⟩;rw[<-p.2,Ky,if_neg (by rw[k];exact e)]
 ·have f: ¬0<x:=(j9 f)
  have:x=0:=o3
  subst this;exact⟨(),by rw[<-p.2];rfl⟩
def mC:XS:=fun e a _=>match e with
 | [.x E [.w k o n]]=>match a k with
  | some (.row t 1 f)=>bif t.beq 197 then
    G fun K=> ∃us,f=V us/\o+n<=H us/\us.length<=2199023255552/\
     K (.x E [.w k o (Ky us o n)]) (XW [(1000,k)] (QO [(1000,Jg us)]) a)
    else S
  | _=>S
 | _=>S
theorem QfC:KL Tryz.prog g zb 192 mC:=by
 refine⟨Qf func192 o4,fun l H d T a K q=> ?_⟩;unfold mC at a;split at a
 ·rename_i k o n;split at a
  ·rename_i t C u;cases e:t.beq 197 with
   | false=>rw[e]at a;cases a
   | true=>
    rw[e]at a;cases a
    have A:=Ym e;subst A;obtain⟨us,rfl,y,v,q⟩:=q;refine Xc (R:=[(1000,k)]) (N:=[]) (Hl:=[(1000,Jg us)]) QdT QK func192 o4 o4 j6
     (as0:=[wO 1000 o n]) ?_ (Kk u rfl rfl) rfl o6 o6 (fun _ h=>by cases h) (fun x=>⟨fun p f=> ?_,fun p f b e=> ?_⟩) (Qi3 us o n y v) (fun x _=> ?_)
    ·simp[X7,X2,XZ,lkB,wO]
    ·simp at f;subst f;exact fun h=>by have j:G (Jg _)=S:=h;cases j
    ·simp at f;subst f;have j:G (Jg _)=G b:=e;cases j;rfl
    ·exact⟨_,rfl,q⟩
  ·cases a
 ·cases a
end Go.Proofs
