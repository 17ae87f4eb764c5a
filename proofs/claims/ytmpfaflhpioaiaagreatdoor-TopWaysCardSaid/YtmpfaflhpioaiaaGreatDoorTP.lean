/- The least integer that is not less than a rational number: plain laws. -/
import Derived.Test.YtmpfaflhpioaiaaGreatDoorK1
import Derived.Test.YtmpfaflhpioaiaaGreatDoorSH
open _root_ renaming List → A, Rat → B, Nat → D, Int → E, absurd → I, mkRat → K, True → L
open Option renaming some → C
open Bool renaming false → F
open Int renaming ofNat → G, ofNat_eq_natCast → Zm
open List renaming length → H, getElem?_eq_getElem → P, drop → Q, mem_of_getElem? → R, take → Zn, length_map → Zr, getElem?_eq_some_iff → Zl, take_of_length_le → Zo, map → Zd
open Go.IntKind renaming i64 → J
open Go.Eng.Ch renaming r → M, s → O, v → S
open Nat renaming le_refl → Zs
open Go.Value renaming int → Zc, string → Zh, bool → Zj, slice → Zq
set_option maxHeartbeats 1000000
set_option maxRecDepth 100000
namespace Go.Proofs
open Go Go.Eng Tryz
def Jb (q:B):E:= -(-q).floor
theorem QOq (q:B):q<=(Jb q:B):=by
 have h:=B.floor_le (-q);unfold Jb;rw[B.intCast_neg];grind
theorem Qbq (q:B):((Jb q-1:E):B)<q:=by
 have h:=B.lt_floor (x:= -q);unfold Jb;rw[B.intCast_sub,B.intCast_neg];have e:((1:E):B)=1:=rfl;rw[e];grind
def tkG:A QV->A B->A B->E->E
 | L::l,p::ps,q::qs,n=>tkG l ps qs (max n (Jb (Xr (q-p)/L.sp)))
 | _,_,_,n=>n
def tkV (a:ArmV)(ps qs:A B):E:=tkG a.za ps qs 1
def Vq (a:ArmV)(ps qs:A B):Prop:= ∀(i:D) (L:QV) (p q:B),a.za[i]? =C L->ps[i]? =C p->qs[i]? =C q->Xr (q-p)<=L.sp*100
def QRc (a:ArmV)(n:D)(ps:A B)(m:D)(qs:A B):LI:=fun i=>bif i.beq 2 then .unroll 3 else .inv ⟨D×E,fun x=>⟨[(1,sR n ps),(2,sR m qs),(3,.x F [.p 3 0]),(11,iA .i64 x.2),(32,.x F [.s 16 (a.za.map QA)]),(33,iA .i64 a.za.length),(34,iA .i64 x.1)],[(3,.box 34 (Qp a))]⟩,fun x=>(x.1<=H a.za/\1<=x.2/\x.2<=100)/\tkG (a.za.drop x.1) (ps.drop x.1) (qs.drop x.1) x.2=tkV a ps qs,fun x=>H a.za-x.1,fun _=>0⟩
def K3 (a:ArmV)(N:D):E->A B->A (A B)->A XF
 | _,_,[]=>[]
 | t,p,q::r=>⟨t+tkV a p q,N,q⟩::K3 a N (t+tkV a p q) q r
def Xj (a:ArmV)(N:D)(t:E):A (A B)->A XF
 | []=>[]
 | q::r=>⟨t,N,q⟩::K3 a N t q r
structure PnX where
 o:A XF
 i:D
 t:E
structure PnI (a:ArmV)(N:D)(w:A (A B))(f:E)(x:PnX):Prop where
 i:1<=x.i/\x.i<=w.length
 o:x.o.length=x.i
 last: ∃q,w[x.i-1]? =C q/\x.o[x.i-1]? =C ⟨x.t,N,q⟩/\x.o++K3 a N x.t q (w.drop x.i)=Xj a N f w
 t:0<=x.t/\x.t<=f+100*((x.i:E)-1)
def QWk (a:ArmV)(n:D)(w:A (A B))(f:E):LI:=fun _=> .inv ⟨PnX,fun x=>⟨[(1,sW n w),(3,.x F [.p 3 0]),(10,.x F [.w 500 0 x.i]),(11,iA .i64 x.i)],[(3,.box 34 (Qp a)),(500,.row 55 2 (x.o.map Qe))]⟩,PnI a (n+65) w f,fun x=>H w-x.i,fun _=>0⟩
def lA:LC:=(60,UX)::(13,fG)::(37,dR)::(11,US)::iH
theorem bL {c:Type}{l:A c}{i:D}{a:c}(h:l[i]? =C a):l.drop i=a::l.drop (i+1):=by
 have b:=(Zl.1 h).1;rw[A.drop_eq_getElem_cons b];rw[P b]at h;rw[Option.some.inj h]
theorem QhM (p:B):0<=Xr p:=by rw[QJw];split<;>grind
variable{q:B}
theorem wk{n:E}(h:q<=(n:B)):Jb q<=n:=by
 have c:=Qbq q;have b:((Jb q-1:E):B)<(n:B):=j4
 have:=B.intCast_lt_intCast.1 b;omega
theorem QOs(h:0<=q):0<=Jb q:=by
 have b:=B.le_trans h (QOq q);exact B.intCast_le_intCast.1 (show((0:E):B)<=_ from b)
theorem QWm {d s:B}(c:0<s)(h0:0<=d)(h:d<=s*100):0<=d/s/\d/s<=100:=by
 have b:0<s⁻¹:=B.inv_pos.2 c;rw[B.div_def];refine⟨B.mul_nonneg h0 (B.le_of_lt b),?_⟩;have:=B.mul_le_mul_of_nonneg_right h (B.le_of_lt b);have e:s*s⁻¹=1:=B.mul_inv_cancel _ j4;grind
theorem QFa: ∀(l:A QV) (ps qs:A B) (n:E),n<=tkG l ps qs n/\(n<=100->(∀(i:D) (L:QV) (p q:B),l[i]? =C L->ps[i]? =C p->qs[i]? =C q->Jb (Xr (q-p)/L.sp)<=100)->tkG l ps qs n<=100):=by
 intro l;induction l with
 | nil=>intro ps qs n;exact⟨E.le_refl _,fun h _=>h⟩
 | cons L l d=>
  intro ps qs n;cases ps with
  | nil=>exact⟨E.le_refl _,fun h _=>h⟩
  | cons p ps=>
   cases qs with
   | nil=>exact⟨E.le_refl _,fun h _=>h⟩
   | cons q qs=>
    obtain⟨b,c⟩:=d ps qs (max n (Jb (Xr (q-p)/L.sp)));refine⟨E.le_trans (E.le_max_left _ _) b,fun e h=>c ?_ fun i=>h (i+1)⟩;have:=h 0 L p q rfl rfl rfl;omega
variable{a:ArmV}{ps qs:A B}
theorem QFb(c:QJ a)(h:Vq a ps qs){i:D}{L:QV}{p:B}(b:a.za[i]? =C L)(d:ps[i]? =C p)(e:qs[i]? =C q):(0<=Xr (q-p)/L.sp/\Xr (q-p)/L.sp<=100)/\0<=Jb (Xr (q-p)/L.sp)/\Jb (Xr (q-p)/L.sp)<=100:=by
 have g:=(c.za L (R b)).sp;have k:=QWm g (QhM _) (h i L p q b d e);exact⟨k,QOs k.1,wk k.2⟩
theorem qj(e:QJ a)(h:Vq a ps qs):1<=tkV a ps qs/\tkV a ps qs<=100:=by
 obtain⟨b,c⟩:=QFa a.za ps qs 1;exact⟨b,c o3 fun i L p q d g j=>(QFb e h d g j).2.2⟩
theorem QOt:QF lA:= .cons QFQ (.cons vA (.cons uW (.cons QFF Qf2)))
def LX(a:AV->Prop)(b:E):=a (AV.x F [S (Zc J b)])
def Ld(a b:E)(c d:Prop):=bif decide (a>b)then c else d
def Li:E:=-9223372036854775808
theorem Qbr (q:B)(n:D)(j:(n<=1000000)/\(0<=q/\q<=2000))(K:AV->Prop)(c:K (iA .i64 (Jb q))):QM (QN (mkT lA M99 X4) (oF f76) noL f76 [rA q n] K):=by
 refine HV (((Li:E)<=2000/\(2000:E)<9223372036854775808)/\n+64<=4294967296/\Ld (YY q ↑(2000:E)) 0 (LX K 2001) (n<=4294967296/\(n<=2000000000/\Li<(-q).floor/\(-q).floor<9223372036854775808)/\LX K (J.wrap (0-(-q).floor)))) ?_
 delta LX Ld Li
 try simp only[Zm,R0,R1,D.zero_add,Zs,R4,R2,R3]
 obtain⟨k,i,b⟩:=j;have d:=QOs i;have g:=wk (n:=2000) (show q<=((2000:E):B)from b);have e:Jb q= -(-q).floor:=rfl;rw[e]at c d g;refine⟨o3,o3,QE (fun h=> ?_) (fun _=>⟨o3,⟨o3,o3,o3⟩,?_⟩)⟩
 ·have:=Qfs.1 (R5 h);exact I (show q<=((2000:E):B)from b) (B.not_le.2 this)
 ·rw[w64 o3,E.zero_sub];exact c
def lL:Ctr
 | [.x true [.r q n]]=>C fun K=>((n<=1000000)/\(0<=q/\q<=2000))/\(K (iA .i64 (Jb q)))
 | _=>none
theorem QWn:QH 76 lL:=by
 refine okL func76 fun l T b K h=> ?_
 unfold lL at b;split at b<;>cases b
 obtain⟨c,h⟩:=h;exact spL (QP QOt TZ Qb) QK func76 (Qbr _ _ c K h)
def rF:LC:=(76,lL)::lA
theorem u9:QF rF:= .cons QWn QOt
abbrev uK (a:ArmV)(n:D)(ps:A B)(m:D)(qs:A B)(K:AV->Prop):Prop:=((QJ a)/\(n<=10000/\m<=10000)/\((H ps=H a.za/\qs.length=H a.za)/\Fit a ps/\Fit a qs)/\(Vq a ps qs))/\(K (.t [(F,[.v (.int .i64 (tkV a ps qs))]),(F,[.v (.int .i64 0)])]))
def LF(a:ArmV):=Zd QA a.za
def LG:=63<=63
def LM(a:ArmV):=a.za.length
def LH(a b c d e f:ArmV):A Ch:=[S (Zh a.name),M b.x 63,M c.y 63,S (Zj d.half),M e.t 63,O 16 (LF f)]
def LN(a:E):Bool×A Ch:=(F,[S (Zc J a)])
def LJ(a:D×E):=G a.1
def LK:=OfNat.ofNat 0=0
def LO(a:A (A Ch))(b:E)(c:D)(d:A Ch):=ldE a b.toNat 0 c=C d
def LR:=16=16
def LY(a:A B)(b:ArmV):=H a=LM b
def LU(a:D):=a<=1000000
def LV:=(0:E)
def La(a b:ArmV):=a.half=b.half
def Lb(a b:ArmV):=a.name=b.name
def LZ:=34=34
def Lc(a:D->QV->B->ArmV)(b:D->QV->B->A B):=∀(z:D)(y:QV)(x:B),(a z y x).za[z]? =C y->(b z y x)[z]? =C x->y.lo<=x/\x<=y.hi
def Lk:B:=OfNat.ofNat 0
theorem QWp (a:ArmV)(n:D)(ps:A B)(m:D)(qs:A B)(K:AV->Prop)(hK:uK a n ps m qs K):QM (QN (mkT rF M99 X4) (oF f36) (QRc a n ps m qs) f36 [JV a,sR n ps,sR m qs] K):=by
 obtain⟨hc,hK⟩:=hK;refine HV ((LV<=0/\LV<2)/\∃(Y:A (A Ch)),C [O 3 (lR n ps)]=C [O 3 Y]/\∃(c:ArmV)(At:D)(o:A B),LH a a a a a a=LH c c c c c c/\Y=lR At o/\(QJ c/\LU At/\LY o c)/\(Lc (fun z u v=>c) (fun t w y=>o)->(LV<=1/\(1:E)<2)/\∃(Y:A (A Ch)),C [O 3 (lR m qs)]=C [O 3 Y]/\∃(d:ArmV)(Lm:D)(s:A B),LH a a a a a a=LH d d d d d d/\Y=lR Lm s/\(QJ d/\LU Lm/\LY s d)/\(Lc (fun l p r=>d) (fun i j k=>s)->(∃(x:D×E),(((x.1<=LM a/\1<=x.2/\x.2<=100)/\tkG (Q x.1 a.za) (Q x.1 ps) (Q x.1 qs) x.2=tkV a ps qs)/\LK)/\3=3/\lR n ps=lR n ps/\3=3/\lR m qs=lR m qs/\0=0/\1=x.2/\LR/\LF a=LF a/\G (LF a).length=G (LM a)/\0=LJ x/\LZ/\Lb a a/\a.x=a.x/\LG/\a.y=a.y/\LG/\La a a/\a.t=a.t/\LG/\LR/\LF a=LF a/\L)/\∀(x:D×E),(x.1<=LM a/\1<=x.2/\x.2<=100)/\tkG (Q x.1 a.za) (Q x.1 ps) (Q x.1 qs) x.2=tkV a ps qs->LK->bif decide (LJ x<G (LM a))then(0<=LJ x/\LJ x<G (LF a).length)/\∃(q:B)(hZ:D)(jd:B)(ja:D)(je:B)(jb:D)(e:B)(X:D)(jf:B)(jc:D)(Y:A (A Ch)),LO (LF a) (LJ x) 16 [M q hZ,M jd ja,M je jb,M e X,M jf jc,O 6 Y]/\(0<=LJ x/\LJ x<G (lR m qs).length)/\∃(q:B)(T:D),LO (lR m qs) (LJ x) 3 [M q T]/\(0<=LJ x/\LJ x<G (lR n ps).length)/\∃(g:B)(U:D),LO (lR n ps) (LJ x) 3 [M g U]/\T+U+1<=4294967296/\T+U+1<=4294967296/\T+U+1+X<=4294967296/\(e≠Lk->(T+U+1+X<=1000000/\Lk<=Xr (q-g)/e/\Xr (q-g)/e<=OfNat.ofNat 2000)/\∃(V:D×E),(((V.1<=LM a/\1<=V.2/\V.2<=100)/\tkG (Q V.1 a.za) (Q V.1 ps) (Q V.1 qs) V.2=tkV a ps qs)/\LK/\LM a-V.1<LM a-x.1)/\3=3/\lR n ps=lR n ps/\3=3/\lR m qs=lR m qs/\0=0/\(bif true then if Jb (Xr (q-g)/e)>x.2 then Jb (Xr (q-g)/e)else x.2 else if Jb (Xr (q-g)/e)<x.2 then Jb (Xr (q-g)/e)else x.2)=V.2/\LR/\LF a=LF a/\G (LM a)=G (LM a)/\J.wrap (LJ x+1)=LJ V/\LZ/\Lb a a/\a.x=a.x/\LG/\a.y=a.y/\LG/\La a a/\a.t=a.t/\LG/\LR/\LF a=LF a/\L)/\(e=Lk->False)else Ld x.2 2000 (K (AV.t [LN 0,LN 19])) (K (AV.t [LN x.2,LN 0])))/\(¬Fit d s->K (AV.t [LN 0,LN 17])))/\(¬Fit c o->K (AV.t [LN 0,LN 17]))) ?_
 delta LF LG LM LH LN LJ LK LO LR LY LU LV La Lb LZ Ld Lc Lk
 try simp only[Zm,R0,R1,Zs,R4]
 obtain⟨hg,⟨hn,hm⟩,⟨⟨hp,hq⟩,fp,fq⟩,be⟩:=hc;have jg:=hg.n;simp only[Zr,Qw];refine⟨o3,_,rfl,a,n,ps,rfl,rfl,⟨hg,o3,hp⟩,fun _=>⟨o3,_,rfl,a,m,qs,rfl,rfl,⟨hg,o3,hq⟩,fun _=>⟨⟨(0,1),⟨⟨o3,o3,o3⟩,rfl⟩,rfl,trivial,rfl⟩,fun x ⟨⟨jh,ji,jj⟩,Z⟩=>QE (fun W=> ?_) (fun W=> ?_)⟩,fun h=>I fq h⟩,fun h=>I fp h⟩
 ·have W:x.1<H a.za:=(j7 W)
  obtain⟨b,hL⟩: ∃b,a.za[x.1]? =C b:=⟨_,P W⟩
  obtain⟨p,hpp⟩: ∃p,ps[x.1]? =C p:=⟨_,P o3⟩
  obtain⟨q,hqq⟩: ∃q,qs[x.1]? =C q:=⟨_,P o3⟩
  obtain⟨⟨d0,d1⟩,c0,c1⟩:=QFb hg be hL hpp hqq;have hs:=(hg.za b (R hL)).sp;rw[bL hL,bL hpp,bL hqq]at Z;have d2:Xr (q-p)/b.sp<=2000:=B.le_trans d1 j5;refine⟨o3,_,_,_,_,_,_,_,_,_,_,_,JW ((j9 hL)),o3,q,m,Xd ((j9 hqq)),o3,p,n,Xd ((j9 hpp)),o3,o3,o3,fun _=>⟨⟨o3,d0,d2⟩,(x.1+1,max x.2 (Jb (Xr (q-p)/b.sp))),⟨⟨⟨W,o5,o5⟩,Z⟩,o5⟩,?_,by rw[w64 o3];simp⟩,fun h0=> ?_⟩
  ·simp only[R7];split<;>omega
  ·rw[h0]at hs;exact B.lt_irrefl hs
 ·have W:x.1=H a.za:=(j8 W)
  rw[W,A.drop_length]at Z;have Z:x.2=tkV a ps qs:=Z;refine QE (fun h=>(j7 h)) (fun _=> ?_);rw[Z];exact hK
def pd:Ctr
 | [.x true x,.x F [.s 3 y],.x F [.s 3 z]]=>C fun K=> ∃(a:ArmV) (n:D) (ps:A B) (m:D) (qs:A B),x=Qp a/\y=lR n ps/\z=lR m qs/\uK a n ps m qs K
 | _=>none
theorem QRd:QH 36 pd:=by
 refine okL func36 fun l T b K h=> ?_
 unfold pd at b;split at b<;>cases b
 obtain⟨a,n,ps,m,qs,rfl,rfl,rfl,h⟩:=h;exact spL (QP u9 TZ Qb) QK func36 (QWp _ _ _ _ _ K h)
def lK:LC:=(36,pd)::rF
theorem zZ:QF lK:= .cons QRd u9
def Lj:=Zq none 0 0
def Le(a:B->D)(b:D)(c:A B):=Zd (fun(z:B)=>[M z (a z+65)]) (Zn b c)
theorem Qbs (n:D)(qs:A B)(e:(n<=1000000/\qs.length<=1000000))(K:AV->Prop)(d:K (sR (n+65) qs)):QM (QN (mkT lK M99 X4) (oF f35) (fun _=> .inv ⟨D,fun k=>⟨[(3,.x F [.w 500 0 k]),(6,sR n qs),(7,iA .i64 qs.length),(8,iA .i64 k)],[(500,YU (n+65) (qs.take k))]⟩,fun k=>k<=H qs,fun k=>H qs-k,fun _=>0⟩) f35 [sR n qs] K):=by
 refine HV ((∃(x:D),(x<=H qs/\LK)/\Lj=Lj/\0=0/\x=0/\3=3/\lR n qs=lR n qs/\G (lR n qs).length=G qs.length/\0=G x/\Le (fun q=>n) x qs=[]/\L)/\∀(x:D),x<=H qs->LK->bif decide (G x<G qs.length)then(0<=G x/\G x<G (lR n qs).length)/\∃(q:B)(b:D),LO (lR n qs) (G x) 3 [M q b]/\((Li:E)<=0/\LV<9223372036854775808)/\b+64+1<=4294967296/\((x+1)*40<=140737488355328/\x+1<=9223372036854775807)/\∃(c:D),(c<=H qs/\LK/\qs.length-c<H qs-x)/\0=0/\x+1=c/\3=3/\lR n qs=lR n qs/\G qs.length=G qs.length/\J.wrap (G x+1)=G c/\25=25/\3=3/\(Zn x (Le (fun q=>n) x qs)++[[M (q+↑LV) (b+64+1)]]=Le (fun q=>n) c qs\/QC (Zn x (Le (fun q=>n) x qs)++[[M (q+↑LV) (b+64+1)]]) (Le (fun q=>n) c qs))/\L else K (AV.x F [O 3 (Zn x (Q 0 (Le (fun q=>n) x qs)))])) ?_
 delta LK LO LV Lj Le Li
 try simp only[Zm,R0,R1,R4]
 refine⟨⟨0,o3,rfl,by rw[Qw],rfl,o6⟩,fun x g=>QE (fun h=> ?_) (fun h=> ?_)⟩
 ·have h:x<H qs:=(j7 h)
  obtain⟨q,hq⟩: ∃q,qs[x]? =C q:=⟨_,P h⟩
  refine⟨by rw[Qw];omega,_,_,Xd ((j9 hq)),o3,o3,o3,x+1,⟨o3,o3⟩,rfl,by rw[w64 o3];simp,.inl ?_⟩;rw[Zo (by rw[Zr,A.length_take];omega),A.take_add_one,hq,A.map_append];simp only[Option.toList,A.map_cons,A.map_nil];rw[show q+((0:E):B)=q by rw[B.intCast_zero,B.add_zero]]
 ·have h:x=H qs:=(j8 h)
  subst h;rw[A.drop_zero,A.take_length,Zo (by rw[Zr];exact Zs _)];exact d
def fk:Ctr
 | [.x F [.s 3 x]]=>C fun K=> ∃(n:D) (qs:A B),x=lR n qs/\((n<=1000000/\qs.length<=1000000))/\(K (sR (n+65) qs))
 | _=>none
theorem QWr:QH 35 fk:=by
 refine okL func35 fun l T b K h=> ?_
 unfold fk at b;split at b<;>cases b
 obtain⟨n,qs,rfl,c,h⟩:=h;exact spL (QP zZ TZ Qb) QK func35 (Qbs _ _ c K h)
def rE:LC:=(35,fk)::lK
theorem xZ:QF rE:= .cons QWr zZ
def LQ(a:E)(b:A (A Ch)):A Ch:=[S (Zc J a),O 3 b]
def LP(a:PnX):=Zd Qe a.o
def LS(a:PnX):=J.wrap (G a.i-1)
def LW(a:D)(b:A (A B)):=G (wN a b).length
def Lg(a:AV->Prop)(b:E):=a (AV.t [(F,[S Lj]),LN b])
theorem Qbt (a:ArmV)(n:D)(w:A (A B))(f:E)(hc:(QJ a)/\(Km w a.za.length/\n<=1000)/\((∀q∈w,Fit a q)/\ ∀(i:D) (p q:A B),w[i]? =C p->w[i+1]? =C q->Vq a p q)/\(0<=f/\f+100*(H w:E)<=2000))(K:AV->Prop)(hK:K (.t [(F,[.s 2 ((Xj a (n+65) f w).map Qe)]),(F,[.v (.int .i64 0)])])):QM (QN (mkT rE M99 X4) (oF f10) (QWk a n w f) f10 [JV a,sW n w,iA .i64 f] K):=by
 refine HV (∃(g:ArmV),LH a a a a a a=LH g g g g g g/\QJ g/\bif LW n w ==0 then Lg K 14 else Ld (LW n w) 60 (Lg K 2) (bif decide (f<0)then Lg K 1 else Ld f 2000 (Lg K 1) ((LV<=0/\0<LW n w)/\∃(s:A (A Ch)),ldE (wN n w) 0 0 1=C [O 3 s]/\∃(e:ArmV)(Lm:D)(qs:A B),LH a a a a a a=LH e e e e e e/\s=lR Lm qs/\(QJ e/\LU Lm/\LY qs e)/\(Lc (fun z u v=>e) (fun r t y=>qs)->(LV<=0/\0<LW n w)/\∃(s:A (A Ch)),ldE (wN n w) 0 0 1=C [O 3 s]/\∃(l:D)(k:A B),s=lR l k/\(LU l/\LU k.length)/\(∃(x:PnX),(PnI a (n+65) w f x/\LK)/\1=1/\wN n w=wN n w/\0=0/\0=0/\1=x.i/\1=G x.i/\LZ/\Lb a a/\a.x=a.x/\LG/\a.y=a.y/\LG/\La a a/\a.t=a.t/\LG/\LR/\LF a=LF a/\55=55/\2=2/\([LQ f (lR (l+65) k)]=LP x\/QC [LQ f (lR (l+65) k)] (LP x))/\L)/\∀(x:PnX),PnI a (n+65) w f x->LK->bif decide (G x.i<LW n w)then(0<=LS x/\LS x<LW n w)/\∃(s:A (A Ch)),LO (wN n w) (LS x) 1 [O 3 s]/\(0<=G x.i/\G x.i<LW n w)/\∃(V:A (A Ch)),LO (wN n w) (G x.i) 1 [O 3 V]/\∃(c:ArmV)(be:D)(ps:A B)(m:D)(qs:A B),LH a a a a a a=LH c c c c c c/\s=lR be ps/\V=lR m qs/\(QJ c/\(be<=10000/\m<=10000)/\((LY ps c/\LY qs c)/\Lc (fun i b q=>c) (fun i b q=>ps)/\Lc (fun i b q=>c) (fun i b q=>qs))/\∀(i:D)(b:QV)(p q:B),c.za[i]? =C b->ps[i]? =C p->qs[i]? =C q->Xr (q-p)<=b.sp*OfNat.ofNat 100)/\(0<=LS x/\LS x<G x.i)/\∃(d:E),ldE (LP x) (0+(LS x).toNat) 0 1=C [S (Zc J d)]/\Ld (J.wrap (d+tkV c ps qs)) 2000 (Lg K 19) ((0<=LS x/\LS x<G x.i)/\∃(d:E),ldE (LP x) (0+(LS x).toNat) 0 1=C [S (Zc J d)]/\(0<=G x.i/\G x.i<LW n w)/\∃(s:A (A Ch)),LO (wN n w) (G x.i) 1 [O 3 s]/\∃(j:D)(h:A B),s=lR j h/\(LU j/\LU h.length)/\((x.i+1)*32<=140737488355328/\x.i+1<=9223372036854775807)/\∃(Y:PnX),(PnI a (n+65) w f Y/\LK/\w.length-Y.i<H w-x.i)/\1=1/\wN n w=wN n w/\0=0/\0=0/\x.i+1=Y.i/\J.wrap (G x.i+1)=G Y.i/\LZ/\Lb a a/\a.x=a.x/\LG/\a.y=a.y/\LG/\La a a/\a.t=a.t/\LG/\LR/\LF a=LF a/\55=55/\2=2/\(Zn x.i (LP x)++[LQ (J.wrap (d+tkV c ps qs)) (lR (j+65) h)]=LP Y\/QC (Zn x.i (LP x)++[LQ (J.wrap (d+tkV c ps qs)) (lR (j+65) h)]) (LP Y))/\L)else K (AV.t [(F,[O 2 (Zn x.i (Q 0 (LP x)))]),LN 0]))/\(¬Fit e qs->Lg K 17)))) ?_
 delta LQ LF LG LM LH LN LK LO LR LP LS LY LU LV Lj LW La Lb LZ Ld Lc Lg
 try simp only[Zm,R0,R1,D.zero_add,Zs,R4]
 obtain⟨Z,⟨hw,hn⟩,⟨hf,W⟩,f0,f1⟩:=hc;have ja:=hw.n;have hZ:=Z.n;have wl:(wN n w).length=H w:=by simp[wN]
 have o: ∀{i:D} {q:A B},w[i]? =C q->H q=H a.za:=fun h=>hw.len _ (R h)
 rw[wl];obtain⟨q0,h0⟩: ∃q,w[0]? =C q:=⟨_,P o3⟩
 have l0:=o h0;have ew:w=q0::w.drop 1:=by have:=bL h0;simpa using this
 refine⟨a,rfl,Z,QE (fun h=>by have:=eq_of_beq h;omega) (fun _=>QE (fun h=>(j7 h)) (fun _=>QE (fun h=>(j7 h)) (fun _=>QE (fun h=>(j7 h)) (fun _=>⟨o3,_,Wt h0,a,n,q0,rfl,rfl,⟨Z,o3,l0⟩,fun _=>⟨o3,_,Wt h0,n,q0,rfl,⟨o3,o3⟩,⟨⟨[⟨f,n+65,q0⟩],1,f⟩,⟨⟨o6,o5⟩,rfl,⟨q0,h0,rfl,?_⟩,f0,o5⟩,rfl,rfl,.inl rfl⟩,fun x X=>QE (fun U=> ?_) (fun U=> ?_)⟩,fun h=>I (hf q0 (R h0)) h⟩))))⟩
 ·show[⟨f,n+65,q0⟩]++K3 a (n+65) f q0 (w.drop 1)=Xj a (n+65) f w
  conv=>rhs;rw[ew]
  rfl
 ·have U:x.i<H w:=(j7 U)
  obtain⟨p,hp,ho,T⟩:=X.last;have x1:=X.i.1;have xo:=X.o;have xt:=X.t;obtain⟨q,hq⟩: ∃q,w[x.i]? =C q:=⟨_,P U⟩
  have lp:=o hp;have lq:=o hq;have At:Vq a p q:=W (x.i-1) p q hp (by rw[(o3:x.i-1+1=x.i)];exact hq);have hr:=qj Z At;have e1:J.wrap ((x.i:E)-1)=((x.i-1:D):E):=by rw[w64 o3];omega
  have e2:J.wrap (x.t+tkV a p q)=x.t+tkV a p q:=w64 o3;rw[e1,E.toNat_natCast];rw[bL hq]at T;refine⟨o3,_,Wt hp,o3,_,Wt ((j9 hq)),a,n,p,n,q,rfl,rfl,rfl,⟨Z,⟨o3,o3⟩,⟨⟨lp,lq⟩,hf p (R hp),hf q (R hq)⟩,At⟩,o3,x.t,Ut ho,QE (fun h=>by have:=R5 h;rw[e2]at this;omega) (fun _=>⟨o3,x.t,Ut ho,o3,_,Wt ((j9 hq)),n,q,rfl,⟨o3,o3⟩,⟨o3,o3⟩,⟨x.o++[⟨x.t+tkV a p q,n+65,q⟩],x.i+1,x.t+tkV a p q⟩,⟨⟨⟨o6,U⟩,by simp[xo],⟨q,(j9 hq),?_,?_⟩,o5,o5⟩,o5⟩,rfl,by rw[w64 o3];simp,.inl ?_⟩)⟩
  ·simp only[D.add_sub_cancel];rw[A.getElem?_append_right o3,xo,D.sub_self];rfl
  ·simp only;rw[A.append_assoc];exact T
  ·simp only;rw[e2,Zo (by rw[Zr];omega),A.map_append];rfl
 ·have U:x.i=H w:=by have:=R6 U;have:=X.i.2;omega
  obtain⟨p,hp,ho,T⟩:=X.last;rw[U,A.drop_length]at T;have T:x.o++[]=Xj a (n+65) f w:=T;rw[A.append_nil]at T;rw[A.drop_zero,Zo (by rw[Zr,X.o];exact Zs _),T];exact hK
def GW:Ctr
 | [.x true x,.x F [.s 1 y],.x F [.v (.int .i64 f)]]=>C fun K=> ∃(a:ArmV) (n:D) (w:A (A B)),x=Qp a/\y=wN n w/\((QJ a)/\(Km w a.za.length/\n<=1000)/\((∀q∈w,Fit a q)/\ ∀(i:D) (p q:A B),w[i]? =C p->w[i+1]? =C q->Vq a p q)/\(0<=f/\f+100*(H w:E)<=2000))/\(K (.t [(F,[.s 2 ((Xj a (n+65) f w).map Qe)]),(F,[.v (.int .i64 0)])]))
 | _=>none
theorem nA:QH 10 GW:=by
 refine okL func10 fun l T b K h=> ?_
 unfold GW at b;split at b<;>cases b
 obtain⟨a,n,w,rfl,rfl,c,h⟩:=h;exact spL (QP xZ TZ Qb) QK func10 (Qbt _ _ _ _ c K h)
def nZ:LC:=(10,GW)::rE
noncomputable def QeL:Qd:=mkT nZ M99 X4
theorem QOx:QF nZ:= .cons nA xZ
theorem Qbu:Qr QeL:=QP QOx TZ Qb
abbrev vz (a:ArmV)(x:XF)(y:XF)(K:AV->Prop):Prop:=((QJ a)/\((H x.q=H a.za/\y.q.length=H a.za)/\x.n<=10000/\y.n<=10000)/\((0<=x.tick/\x.tick<y.tick/\y.tick<=2000)/\Fit a x.q/\Fit a y.q)/\(¬GG a x y))/\(K (iA .i64 19))
def LD(a b c:XF):=LQ a.tick (lR b.n c.q)
def Lh(a:D):=J.wrap (G a-1)
theorem QRe (a:ArmV)(x:XF)(y:XF)(K:AV->Prop)(H:vz a x y K):QM (QN QeL (oF f11) (fun _=> .inv ⟨D,fun i=>⟨[(1,.x F [.s 2 [Qe x,Qe y]]),(2,.x F [.p 2 0]),(20,.x F [.s 2 [Qe x,Qe y]]),(21,iA .i64 2),(22,iA .i64 i)],[(2,.box 34 (Qp a))]⟩,fun i=>i<=1,fun i=>1-i,fun _=>0⟩) f11 [JV a,.x F [.s 2 [Qe x,Qe y]]] K):=by
 obtain⟨Z,H⟩:=H;refine HV (∃(l:ArmV),LH a a a a a a=LH l l l l l l/\QJ l/\(∃(c:D),(c<=1/\LK)/\2=2/\[LD x x x,LD y y y]=[LD x x x,LD y y y]/\0=0/\2=2/\[LD x x x,LD y y y]=[LD x x x,LD y y y]/\G 2=2/\0=G c/\LZ/\Lb a a/\a.x=a.x/\LG/\a.y=a.y/\LG/\La a a/\a.t=a.t/\LG/\LR/\LF a=LF a/\L)/\∀(c:D),c<=1->LK->bif decide (G c<2)then(0<=G c/\G c<G 2)/\∃(d:E)(R:A (A Ch)),LO [LD x x x,LD y y y] (G c) 2 (LQ d R)/\bif decide (d<0)then LX K 1 else Ld d 2000 (LX K 1) (∃(g:ArmV)(n:D)(qs:A B),LH a a a a a a=LH g g g g g g/\R=lR n qs/\(QJ g/\LU n/\LY qs g)/\(Lc (fun i b q=>g) (fun z u v=>qs)->bif G c ==0 then∃(w:D),(w<=1/\LK/\1-w<1-c)/\2=2/\[LD x x x,LD y y y]=[LD x x x,LD y y y]/\0=0/\2=2/\[LD x x x,LD y y y]=[LD x x x,LD y y y]/\(2:E)=2/\J.wrap (G c+1)=G w/\LZ/\Lb a a/\a.x=a.x/\LG/\a.y=a.y/\LG/\La a a/\a.t=a.t/\LG/\LR/\LF a=LF a/\L else(0<=Lh c/\Lh c<G 2)/\∃(o:E),LO [LD x x x,LD y y y] (Lh c) 1 [S (Zc J o)]/\bif decide (d<=o)then LX K 9 else(0<=Lh c/\Lh c<G 2)/\∃(r:E)(m:A (A Ch)),LO [LD x x x,LD y y y] (Lh c) 2 (LQ r m)/\∃(e:ArmV)(j k:XF),LH a a a a a a=LH e e e e e e/\LQ r m=LD j j j/\LQ d R=LD k k k/\((LM e<=3/\LY j.q e/\LY k.q e)/\(j.n<=100000/\k.n<=100000)/\(-1000000<=j.tick/\j.tick<=1000000)/\ -1000000<=k.tick/\k.tick<=1000000)/\((∀(i:D)(b:QV)(p q:B),e.za[i]? =C b->j.q[i]? =C p->k.q[i]? =C q->Xr (q-p)<=b.sp*↑(k.tick-j.tick))->∃(t:D),(t<=1/\LK/\1-t<1-c)/\2=2/\[LD x x x,LD y y y]=[LD x x x,LD y y y]/\0=0/\2=2/\[LD x x x,LD y y y]=[LD x x x,LD y y y]/\(2:E)=2/\J.wrap (G c+1)=G t/\LZ/\Lb a a/\a.x=a.x/\LG/\a.y=a.y/\LG/\La a a/\a.t=a.t/\LG/\LR/\LF a=LF a/\L)/\(¬GG e j k->LX K 19))/\(¬Fit g qs->LX K 17))else LX K 0) ?_
 delta LQ LF LD LG LM LH LK LO LR LX LY LU La Lb LZ Ld Lc Lh
 try simp only[Zm,R0,R1,Zs,R4]
 obtain⟨s,⟨⟨U,V⟩,nx,ny⟩,⟨⟨t0,t1,t2⟩,X,Y⟩,Q⟩:=Z;have At:=s.n;refine⟨a,rfl,s,⟨0,o3,rfl,rfl⟩,fun i hi=>QE (fun T=> ?_) (fun T=>(j8 T))⟩;have P:i=0\/i=1:=o3
 rcases P with rfl | rfl
 ·refine⟨o3,_,_,rfl,QE (fun h=>(j7 h)) (fun _=>QE (fun h=>(j7 h)) (fun _=>⟨a,x.n,x.q,rfl,rfl,⟨s,o3,U⟩,fun _=>QE (fun _=>⟨1,⟨o3,o3⟩,by rw[w64 o3];simp⟩) (fun h=>by simp at h),fun h=>I X h⟩))⟩
 ·have W:J.wrap (((1:D):E)-1)=0:=by rw[w64 o3];rfl
  rw[W];refine⟨o3,_,_,rfl,QE (fun h=>(j7 h)) (fun _=>QE (fun h=>(j7 h)) (fun _=>⟨a,y.n,y.q,rfl,rfl,⟨s,o3,V⟩,fun _=>QE (fun h=>by simp at h) (fun _=>⟨o3,_,rfl,QE (fun h=>(j7 h)) (fun _=>⟨o3,_,_,rfl,a,x,y,rfl,rfl,rfl,⟨⟨o3,U,V⟩,⟨o3,o3⟩,o3,o3⟩,fun hs=>I hs Q,fun _=>H⟩)⟩),fun h=>I Y h⟩))⟩
def qD:Ctr
 | [.x true b,.x F [.s 2 z]]=>C fun K=> ∃(a:ArmV) (x:XF) (y:XF),b=Qp a/\z=[Qe x,Qe y]/\vz a x y K
 | _=>none
theorem QMp:QH 11 qD:=by
 refine okL func11 fun l T b K h=> ?_
 unfold qD at b;split at b<;>cases b
 obtain⟨a,x,y,rfl,rfl,h⟩:=h;exact spL Qbu QK func11 (QRe _ _ _ K h)
def zX:LC:=(11,qD)::nZ
theorem Qbv:QF zX:= .cons QMp QOx
def uB:LC:=zX
theorem Qbw:QF uB:=Qbv
def QeO:LC:=uB
theorem Qbx:QF QeO:=Qbw
variable{f:E}{w:A (A B)}{N:D}
theorem iL:(Xj a N f w).length=H w/\(∀(i:D) (q:A B),w[i]? =C q-> ∃t,(Xj a N f w)[i]? =C ⟨t,N,q⟩)/\
  (∀(i:D) (p q:A B) (t:E),w[i]? =C p->w[i+1]? =C q->(Xj a N f w)[i]? =C ⟨t,N,p⟩->(Xj a N f w)[i+1]? =C ⟨t+tkV a p q,N,q⟩)/\ ∀(k:XF),(Xj a N f w)[0]? =C k->k.tick=f:=by
 have o: ∀(r:A (A B)) (t:E) (p:A B),(K3 a N t p r).length=H r/\(∀(i:D) (q:A B),(p::r)[i]? =C q-> ∃c,(⟨t,N,p⟩::K3 a N t p r)[i]? =C ⟨c,N,q⟩)/\
   ∀(i:D) (d q:A B) (c:E),(p::r)[i]? =C d->(p::r)[i+1]? =C q->(⟨t,N,p⟩::K3 a N t p r)[i]? =C ⟨c,N,d⟩->(⟨t,N,p⟩::K3 a N t p r)[i+1]? =C ⟨c+tkV a d q,N,q⟩:=by
  intro r;induction r with
  | nil=>
   intro t p;refine⟨rfl,fun i q h=> ?_,fun i d q c _ h=>by simp at h⟩;match i,h with
   | 0,h=>simp at h;subst h;exact⟨t,rfl⟩
  | cons b r s=>
   intro t p;obtain⟨e,g,j⟩:=s (t+tkV a p b) b;refine⟨by simp[K3,e],fun i q h=> ?_,fun i d q c n l m=> ?_⟩
   ·cases i with
    | zero=>simp at h;subst h;exact⟨t,rfl⟩
    | succ i=>exact g i q ((j9 h))
   ·cases i with
    | zero=>
     simp at n l m;obtain⟨rfl,rfl⟩:=m;subst l;rfl
    | succ i=>exact j i d q c ((j9 n)) ((j9 l)) (by simpa [K3]using m)
 cases w with
 | nil=>exact⟨rfl,o6,o6,fun k h=>by simp[Xj]at h⟩
 | cons q r=>
  obtain⟨e,g,j⟩:=o r f q;exact⟨by simp[Xj,e],g,j,fun k h=>by simp[Xj]at h;subst h;rfl⟩
theorem QhN: ∀(l:A QV) (ps qs:A B) (n:E) (i:D) (L:QV) (p q:B),l[i]? =C L->ps[i]? =C p->qs[i]? =C q->Jb (Xr (q-p)/L.sp)<=tkG l ps qs n:=by
 intro l;induction l with
 | nil=>intro ps qs n i L p q h;simp at h
 | cons b l e=>
  intro ps qs n i L p q h c d;cases ps with
  | nil=>simp at c
  | cons g ps=>
   cases qs with
   | nil=>simp at d
   | cons j qs=>
    cases i with
    | zero=>
     simp at h c d;subst h c d;have:=(QFa l ps qs (max n (Jb (Xr (j-g)/b.sp)))).1;simp only[tkG];omega
    | succ i=>exact e ps qs _ i L p q ((j9 h)) ((j9 c)) ((j9 d))
theorem Qby {d s:B}{n:E}(b:0<s)(h:d/s<=(n:B)):d<=s*(n:B):=by
 have e:d/s*s=d:=by rw[B.div_def,B.mul_assoc,B.inv_mul_cancel _ j4];grind
 have:=B.mul_le_mul_of_nonneg_right h (B.le_of_lt b);grind
theorem QRf(c:QJ a){x y:XF}(h:y.tick=x.tick+tkV a x.q y.q):GG a x y:=by
 intro i L p q b d e;have g:=(c.za L (R b)).sp;refine Qby g (B.le_trans (QOq _) ?_);have:=QhN a.za x.q y.q 1 i L p q b d e;exact B.intCast_le_intCast.2 (show _<=y.tick-x.tick by rw[h];unfold tkV;omega)
theorem QRg(t:Made a)(u:Fit a ps)(v:Fit a qs):Vq a ps qs:=by
 intro i L p q h l m;obtain⟨d,e⟩:=u i L p h l;obtain⟨g,k⟩:=v i L q h m;obtain⟨r,c,j,s,b,y,_,z,A,B,_,rfl⟩:=t.za L (R h);have o: -2<=K (-1-c) 3:=by
  have:c=0\/c=1\/c=2\/c=3\/c=4\/c=5:=o3
  rcases this with rfl | rfl | rfl | rfl | rfl | rfl<;>decide+kernel
 have n:K (1+j) 3<=2:=by
  have:j=0\/j=1\/j=2\/j=3\/j=4\/j=5:=o3
  rcases this with rfl | rfl | rfl | rfl | rfl | rfl<;>decide+kernel
 have x:4<=K 1 (4+s).toNat*100:=by
  have:s=0\/s=1\/s=2\/s=3\/s=4\/s=5\/s=6\/s=7:=o3
  rcases this with rfl | rfl | rfl | rfl | rfl | rfl | rfl | rfl<;>decide+kernel
 show Xr (q-p)<=K 1 (4+s).toNat*100
 have d:K (-1-c) 3<=p:=d;have g:K (-1-c) 3<=q:=g;have e:p<=K (1+j) 3:=e;have k:q<=K (1+j) 3:=k;rw[QJw];split<;>grind
theorem QMq(m:QJ a)(b: ∀(i:D) (p q:A B),w[i]? =C p->w[i+1]? =C q->Vq a p q): ∀(i:D) (k:XF),(Xj a N f w)[i]? =C k->f<=k.tick/\k.tick<=f+100*(i:E):=by
 obtain⟨r,g,e,j⟩:=iL (a:=a) (N:=N) (w:=w) (f:=f);intro i;induction i with
 | zero=>intro k h;have:=j k h;omega
 | succ i o=>
  intro k h;have n:=(Zl.1 h).1;obtain⟨p,hp⟩: ∃p,w[i]? =C p:=⟨_,P o3⟩
  obtain⟨q,hq⟩: ∃q,w[i+1]? =C q:=⟨_,P o3⟩
  obtain⟨t,d⟩:=g i p hp;have l:=o _ d;have c:=e i p q t hp hq d;rw[h]at c;cases c
  have:=qj m (b i p q hp hq);simp only at l|-;omega
theorem Qbz(s:QJ a)(z:Km w a.za.length)(n: ∀(i:D) (p q:A B),w[i]? =C p->w[i+1]? =C q->Vq a p q)(m: ∀q∈w,Fit a q)(V:0<=f/\f+100*(H w:E)<=2000)(L:N<=10000):
  YG (Xj a N f w) a.za.length N/\cV a (Xj a N f w):=by
 obtain⟨T,v,I,U⟩:=iL (a:=a) (N:=N) (w:=w) (f:=f);have h: ∀k∈Xj a N f w,∃(i:D) (q:A B) (t:E),w[i]? =C q/\k=⟨t,N,q⟩/\(Xj a N f w)[i]? =C k:=by
  intro k g;obtain⟨i,u,e⟩:=A.mem_iff_getElem.1 g;obtain⟨q,b⟩: ∃q,w[i]? =C q:=⟨_,P o3⟩
  obtain⟨t,j⟩:=v i q b;have c:(Xj a N f w)[i]? =C k:=by rw[P u,e]
  rw[j]at c;exact⟨i,q,t,b,(Option.some.inj c).symm,by rw[j];exact c⟩
 have d: ∀(i:D) (x y:XF),(Xj a N f w)[i]? =C x->(Xj a N f w)[i+1]? =C y->y.tick=x.tick+tkV a x.q y.q/\Vq a x.q y.q:=by
  intro i x y o l;have K:=(Zl.1 l).1;obtain⟨p,hp⟩: ∃p,w[i]? =C p:=⟨_,P o3⟩
  obtain⟨q,b⟩: ∃q,w[i+1]? =C q:=⟨_,P o3⟩
  obtain⟨t,j⟩:=v i p hp;have r:=I i p q t hp b j;rw[o]at j;cases j
  rw[l]at r;cases r
  exact⟨rfl,n i p q hp b⟩
 have g:YG (Xj a N f w) a.za.length N:=by
  refine⟨fun k g=> ?_,fun k g=> ?_,fun k g=> ?_,fun i x y o l=> ?_⟩
  ·obtain⟨i,q,t,b,rfl,_⟩:=h k g;exact z.len q (R b)
  ·obtain⟨i,q,t,b,rfl,_⟩:=h k g;exact Zs _
  ·obtain⟨i,q,t,b,_,u⟩:=h k g;have:=QMq s n i k u;have:=(Zl.1 b).1;omega
  ·obtain⟨K,r⟩:=d i x y o l;have:=qj s r;omega
 have Q:=z.n;refine⟨g,s,o3,⟨N,L,g⟩,fun k c=> ?_,fun i x y o l=>QRf s (d i x y o l).1⟩;obtain⟨i,q,t,b,rfl,_⟩:=h k c;exact m q (R b)
end Go.Proofs
