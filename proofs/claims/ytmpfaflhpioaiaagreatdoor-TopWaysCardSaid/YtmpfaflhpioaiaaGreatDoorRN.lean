/- roam: check, Number at one point, Value, Near; arm.Joints and the joint behind it; RoamNear. -/
import Derived.Test.YtmpfaflhpioaiaaGreatDoorA2
import Derived.Test.YtmpfaflhpioaiaaGreatDoorPB
open Bool renaming false → A, true → I
open _root_ renaming List → B, Nat → C, Rat → D, Int → E, True → L
open Option renaming some → F, none → M
open Int renaming ofNat → G, ofNat_eq_natCast → Zi
open Go.Eng.Ch renaming r → J, s → Q, v → Zj
open List renaming length → H, take → N, take_of_length_le → Zf, length_map → Zm, map → Zc, length_take → Zo, getElem?_eq_getElem → Zk, take_add_one → Zq, drop_zero → Zs, mem_of_getElem? → Zp
open Go.IntKind renaming i64 → O
open Go.Value renaming int → Zd, string → Zh, bool → Zl, slice → Zn
set_option maxHeartbeats 1000000
set_option maxRecDepth 100000
namespace Go.Proofs
open Go Go.Eng Tryz
def Ua:D:=((1:E):D)/((2:E):D)
def aV (s:E)(L:QV)(k:E):D:=L.lo+(L.hi-L.lo)*((k:D)/(s:D))
def XQ (a:ArmV)(s:E)(ks:B E):B D:=B.zipWith (aV s) a.za ks
def Vr (s:E)(L:QV)(q:D):D:=Ua-(q-L.lo)/(L.hi-L.lo)*(s:D)
def ZF (s:E)(L:QV)(q:D):E:= -(Vr s L q).floor
def Q8 (a:ArmV)(s:E)(q:B D):B E:=B.zipWith (ZF s) a.za q
def Wv (L:QV):B Ch:=[.i 173 I (QA L)]
def Qk5 (l:B QV):Blk:= .row 130 1 (l.map Wv)
theorem zu {l:B QV}{i:C}{L:QV}(h:l[i]? =F L):ldE (l.map Wv) i 0 1=F (Wv L):=by
 simp only[ldE,B.getElem?_map,h];rfl
theorem QWu:Ua+Ua=1:=j5
theorem QBA {s:E}(j:1<=s){L:QV}{q:D}(i:L.lo<L.hi)(h1:L.lo<=q)(d:q<=L.hi):0<=ZF s L q/\ZF s L q<=s/\ -s<=(Vr s L q).floor/\(Vr s L q).floor<=0:=by
 have h:0<(L.hi-L.lo)⁻¹:=D.inv_pos.2 j4;have e:(L.hi-L.lo)*(L.hi-L.lo)⁻¹=1:=D.mul_inv_cancel _ j4;have y:0<=(q-L.lo)/(L.hi-L.lo):=by
  rw[D.div_def];exact D.mul_nonneg j4 (D.le_of_lt h)
 have b:(q-L.lo)/(L.hi-L.lo)<=1:=by
  rw[D.div_def,<-e];exact D.mul_le_mul_of_nonneg_right j4 (D.le_of_lt h)
 have s0:(0:D)<=(s:D):=D.intCast_nonneg.2 o3;have g:=QWu;have z:0<=(q-L.lo)/(L.hi-L.lo)*(s:D):=D.mul_nonneg y s0;have k:(q-L.lo)/(L.hi-L.lo)*(s:D)<=(s:D):=by
  have:=D.mul_le_mul_of_nonneg_right b s0;rwa [D.one_mul]at this
 have a:(((-s:E)):D)<=Vr s L q:=by
  unfold Vr;rw[D.intCast_neg];grind
 have f: -s<=(Vr s L q).floor:=D.le_floor_iff.2 a
 have c:(Vr s L q).floor<1:=D.floor_lt_iff.2 (by
  unfold Vr;have:((1:E):D)=1:=rfl;rw[this]
  grind)
 unfold ZF;omega
def mtL:B (C×String×C)->bN
 | [],_,_=>M
 | p::l,t,n=>bif t.beq p.1&&p.2.1==n then F p.2.2 else mtL l t n
def mtV:B (C×String×C):=[(173, "Value",211)]
noncomputable def mkTV (l:B (C×Ctr))(m:B (C×XS))(x:B (C×U9)):Qd:=⟨Tryz.tbF,prL l,pmL m,pxL x,mtL mtV,itP Tryz.prog aE,rn⟩
theorem wV {P:Program}: ∀{l:B (C×String×C)},(∀p∈l,ZR P p.1 p.2.1=F p.2.2)-> ∀t n f,mtL l t n=F f->ZR P t n=F f
 | [],_,_,_,_,h=>by cases h
 | p::l,b,t,n,f,h=>by
  unfold mtL at h;cases a:t.beq p.1&&p.2.1==n with
  | false=>rw[a]at h;exact wV (fun q c=>b q (by simp[c])) t n f h
  | true=>
   rw[a]at h;cases h
   simp only[Bool.and_eq_true,beq_iff_eq]at a;have:=C.eq_of_beq_eq_true a.1;subst this;rw[<-a.2];exact b p o6
theorem QhO {P:Program}{l:B (C×String×C)}(h: ∀p∈l,ZR P p.1 p.2.1=F p.2.2):ai P (mtL l):=fun t n f a v w=>mB P t n f (wV h t n f a) v w
theorem QhP:ai Tryz.prog (mtL mtV):=QhO fun p h=>by
 simp only[mtV,B.mem_singleton]at h;subst h;kernel_rfl
theorem KT {g:C}{z:B Value}{l:B (C×Ctr)}{m:B (C×XS)}{x:B (C×U9)}(h:CtrsOK Tryz.prog g z l)(b:CtrMsOK Tryz.prog g z m)(d:CtrXsOK Tryz.prog x):XC Tryz.prog g z (mkTV l m x):=
 qo (mkTV.eq_1 l m x) Tryz.tb_ok (cN h) (pt b) (fv d) QhP (m5 Tryz.prog aE) fun _ _ e j _ _ a c=>by rw[(Tryz.tb_ok e j a).zd,c]
def Tv:B (C×XS):=(110,GK)::M48
def gh:LC:=(100,UW)::(101,cM)::(60,UX)::L53
theorem aY:XK Tv:= .cons QFG UR
theorem xH:QF gh:= .cons qY (.cons vQ (.cons QFQ QjL))
abbrev QJ0 (x:E)(y:E)(K:AV->Prop):Prop:=(((-9223372036854775808<=x/\x<9223372036854775808)/\ -9223372036854775808<=y/\y<9223372036854775808)/\((y:D)≠0))/\(K (.t [(I,[.r ((x:D)/(y:D)) 128]),(A,[.v (.int .i64 0)])]))
def Ln(a:E):B Ch:=[Zj (Zd O a)]
def Ls(a:AV->Prop)(b:Bool×B Ch)(c:E):=a (AV.t [b,(A,Ln c)])
def Lo(a:E):=(↑a:D)
def ME:E:=-9223372036854775808
def Lw:D:=OfNat.ofNat 0
def MH(a b:E):=ME<=a/\b<9223372036854775808
def ML:=Zj (Zh (ByteArray.mk (Array.mk [])))
theorem QWx (x:E)(y:E)(K:AV->Prop)(a:QJ0 x y K):QM (QN (mkTV gh Tv X4) (oF f59) noL f59 [iA .i64 x,iA .i64 y] K):=by
 obtain⟨b,a⟩:=a;refine HV (MH x x/\MH y y/\128<=4294967296/\(Lo y≠Lw->Ls K (I,[J (Lo x/Lo y) 128]) 0)/\(Lo y=Lw->Ls K (I,[Zj (Zl A),ML,ML]) 12)) ?_
 delta Ln Ls Lo ME Lw MH ML
 try simp only[Zi,R0,R1,C.zero_add,C.le_refl,R4,R2,R3]
 exact⟨b.1.1,b.1.2,o3,fun _=>a,fun h=>absurd h b.2⟩
def ff:Ctr
 | [.x A [.v (.int .i64 x)],.x A [.v (.int .i64 y)]]=>F fun K=>QJ0 x y K
 | _=>M
theorem QRi:QH 59 ff:=by
 refine okL func59 fun l T h K a=> ?_
 unfold ff at h;split at h<;>cases h
 exact spL (KT xH aY Qb) QK func59 (QWx _ _ K a)
def iE:LC:=(59,ff)::gh
theorem QWy:QF iE:= .cons QRi xH
def Lr(a:ArmV):=Zc QA a.za
def Lq(a b c d e f:ArmV):B Ch:=[Zj (Zh a.name),J b.x 63,J c.y 63,Zj (Zl d.half),J e.t 63,Q 16 (Lr f)]
def Lv(a b:E)(c d:Prop):=bif decide (a<b)then c else d
theorem QRj (a:ArmV)(s:E)(d:(QJ a)/\(1<=s/\s<=12))(K:AV->Prop)(c:K (iA .i64 0)):QM (QN (mkTV iE Tv X4) (oF f58) noL f58 [JV a,iA .i64 s] K):=by
 refine HV (∃(b:ArmV),Lq a a a a a a=Lq b b b b b b/\QJ b/\Lv s 1 (K (AV.x A (Ln 1))) (bif decide (s>12)then K (AV.x A (Ln 1))else K (AV.x A (Ln 0)))) ?_
 delta Ln Lr Lq Lv
 try simp only[Zi,R0,R1,C.zero_add,C.le_refl,R4,R2,R3]
 exact⟨a,rfl,d.1,QE (fun h=>(j7 h)) (fun _=>QE (fun h=>(j7 h)) (fun _=>c))⟩
def ir:Ctr
 | [.x I x,.x A [.v (.int .i64 s)]]=>F fun K=> ∃(a:ArmV),x=Qp a/\((QJ a)/\(1<=s/\s<=12))/\(K (iA .i64 0))
 | _=>M
theorem QMr:QH 58 ir:=by
 refine okL func58 fun l T b K h=> ?_
 unfold ir at b;split at b<;>cases b
 obtain⟨a,rfl,c,h⟩:=h;exact spL (KT QWy aY Qb) QK func58 (QRj _ _ c K h)
def lE:LC:=(58,ir)::iE
theorem v8:QF lE:= .cons QMr QWy
theorem Qb0 (_hc:L)(K:AV->Prop)(b:K (.t [(A,[.v (.int .i64 6)]),(A,[.v (.int .i64 0)])])):QM (QN (mkTV lE Tv X4) (oF f68) (fun _=> .unroll 3) f68 [iA .i64 2,iA .i64 3,.x A [.s 1 (ints [1,2])]] K):=by
 refine HV (((0:E)<=0/\(0:E)<2)/\∃(d:E),F (Ln 1)=F (Ln d)/\Lv d 0 (Ls K (A,Ln 0) 17) (bif decide (d>3)then Ls K (A,Ln 0) 17 else((0:E)<=1/\(1:E)<2)/\∃(a:E),F (Ln 2)=F (Ln a)/\Lv a 0 (Ls K (A,Ln 0) 17) (bif decide (a>3)then Ls K (A,Ln 0) 17 else Ls K (A,Ln (O.wrap (O.wrap (O.wrap (0+d)*4)+a))) 0))) ?_
 delta Ln Ls Lv
 try simp only[Zi,R0,R1,C.zero_add,C.le_refl,R4,R2,R3]
 exact⟨o3,1,rfl,QE (fun h=>by simp at h) (fun _=>QE (fun h=>by simp at h) (fun _=>⟨o3,2,rfl,QE (fun h=>by simp at h) (fun _=>QE (fun h=>by simp at h) (fun _=>b))⟩))⟩
def fR:Ctr
 | [.x A [.v (.int .i64 2)],.x A [.v (.int .i64 3)],.x A [.s 1 [[.v (.int .i64 1)],[.v (.int .i64 2)]]]]=>F fun K=>(L)/\(K (.t [(A,[.v (.int .i64 6)]),(A,[.v (.int .i64 0)])]))
 | _=>M
theorem QW0:QH 68 fR:=by
 refine okL func68 fun l T a K h=> ?_
 unfold fR at a;split at a<;>cases a
 obtain⟨b,h⟩:=h;exact spL (KT v8 aY Qb) QK func68 (Qb0  b K h)
def kR:LC:=(68,fR)::lE
theorem wz:QF kR:= .cons QW0 v8
abbrev QFd (a:ArmV)(K:AV->Prop):Prop:=((QJ a))/\(K (.t [(A,[.s 1 (a.za.map Wv)]),(A,[.v (.int .i64 0)])]))
def Ll(a:ArmV):=a.za.length
def Lu:=Zn M 0 0
def Lt:=OfNat.ofNat 0=0
def Lx(a:C)(b:ArmV):=Zc Wv (N a b.za)
def MG(a:B (B Ch))(b c:C)(d:B Ch):=ldE a (G b).toNat 0 c=F d
def MF(a:ArmV):=G (Lr a).length
def MI(a b c:C):=(a+1)*b<=140737488355328/\c+1<=9223372036854775807
theorem QRk (a:ArmV)(K:AV->Prop)(r:QFd a K):QM (QN (mkTV kR Tv X4) (oF f61) (fun _=> .inv ⟨C,fun i=>⟨[(5,.x A [.w 500 0 i]),(14,.x A [.s 16 (a.za.map QA)]),(15,iA .i64 a.za.length),(16,iA .i64 i)],[(500,Qk5 (a.za.take i))]⟩,fun i=>i<=H a.za,fun i=>H a.za-i,fun _=>0⟩) f61 [JV a] K):=by
 obtain⟨s,r⟩:=r;refine HV (∃(c:ArmV),Lq a a a a a a=Lq c c c c c c/\QJ c/\(∃(x:C),(x<=Ll a/\Lt)/\Lu=Lu/\0=0/\x=0/\16=16/\Lr a=Lr a/\MF a=G (Ll a)/\0=G x/\Lx x a=[]/\L)/\∀(v:C),v<=Ll a->Lt->Lv (G v) (G (Ll a)) ((0<=G v/\G v<MF a)/\∃(q:D)(n:C)(j:D)(d:C)(k:D)(e:C)(m:D)(f:C)(o:D)(g:C)(y:B (B Ch)),MG (Lr a) v 16 [J q n,J j d,J k e,J m f,J o g,Q 6 y]/\MI v 16 v/\∃(p:C),(p<=Ll a/\Lt/\Ll a-p<Ll a-v)/\0=0/\v+1=p/\16=16/\Lr a=Lr a/\G (Ll a)=G (Ll a)/\O.wrap (G v+1)=G p/\130=130/\1=1/\(N v (Lx v a)++[[Ch.i 173 I [J q n,J j d,J k e,J m f,J o g,Q 6 y]]]=Lx p a\/QC (N v (Lx v a)++[[Ch.i 173 I [J q n,J j d,J k e,J m f,J o g,Q 6 y]]]) (Lx p a))/\L) (Ls K (A,[Q 1 (N v (B.drop 0 (Lx v a)))]) 0)) ?_
 delta Ln Lr Ll Ls Lq Lu Lt Lv Lx MG MF MI
 try simp only[Zi,R0,R1,R4]
 have t:=s.n;simp only[Zm];refine⟨a,rfl,s,⟨0,o3,rfl,trivial,rfl,rfl⟩,fun x u=>QE (fun h=> ?_) (fun h=> ?_)⟩
 ·have h:x<H a.za:=(j7 h)
  obtain⟨b,hL⟩: ∃b,a.za[x]? =F b:=⟨_,Zk h⟩
  refine⟨o3,_,_,_,_,_,_,_,_,_,_,_,JW ((j9 hL)),o3,x+1,⟨o3,o3⟩,rfl,by rw[w64 o3];simp,.inl ?_⟩;rw[Zf (by rw[Zm,Zo];omega),Zq,hL,B.map_append];rfl
 ·have h:x=H a.za:=(j8 h)
  subst h;rw[Zs,Zf (l:=Zc Wv _) (by rw[Zm,Zo];omega),B.take_length];exact r
def fe:Ctr
 | [.x I x]=>F fun K=> ∃(a:ArmV),x=Qp a/\QFd a K
 | _=>M
theorem QMs:QH 61 fe:=by
 refine okL func61 fun l T b K h=> ?_
 unfold fe at b;split at b<;>cases b
 obtain⟨a,rfl,h⟩:=h;exact spL (KT wz aY Qb) QK func61 (QRk _ K h)
def pX:LC:=(61,fe)::kR
theorem xz:QF pX:= .cons QMs wz
theorem QW3 (L:QV)(q:D)(b:C)(a:(b<=1000000))(K:AV->Prop)(h:K (rA (L.lo+(L.hi-L.lo)*q) (63+(63+63+1+b)+1))):QM (QN (mkTV pX Tv X4) (oF f211) noL f211 [.x I (QA L),rA q b] K):=by
 refine HV (127<=4294967296/\127+b<=4294967296/\63+(127+b)+1<=4294967296/\K (AV.x I [J (L.lo+(L.hi-L.lo)*q) (63+(127+b)+1)])) ?_
 try simp only[Zi,R0,R1,C.zero_add,C.le_refl,R4,R2,R3]
 exact⟨o3,o3,o3,h⟩
def kS:Ctr
 | [.x I x,.x I [.r q b]]=>F fun K=> ∃(L:QV),x=QA L/\((b<=1000000))/\(K (rA (L.lo+(L.hi-L.lo)*q) (63+(63+63+1+b)+1)))
 | _=>M
theorem ok_hValue:QH 211 kS:=by
 refine okL func211 fun l T a K h=> ?_
 unfold kS at a;split at a<;>cases a
 obtain⟨L,rfl,b,h⟩:=h;exact spL (KT xz aY Qb) QK func211 (QW3 _ _ _ b K h)
def cG:LC:=(211,kS)::pX
noncomputable def Qld:Qd:=mkTV cG Tv X4
theorem QW4:QF cG:= .cons ok_hValue xz
theorem QJ1 {P:Program}{g:C}{z:B Value}{f:C}{c:Ctr}(e:CtrOK P g z f c){as0:B AV}{H:HP}{K:KK}{d:C}(h:Z0 (prL [(f,c)]) (fun _ _ _ _=>M) f d as0 H K):SpecM P g z f as0 H K:=fun l a m w v i k j b=>by
 subst i k;exact(Kf (cN (.cons e .nil)) (bQ.mk (fun _ _ _ _ _ (h:M=F _)=>nomatch h) (fun _ _ _ _ _ (h:M=F _)=>nomatch h)) j b h).2
theorem We {l:B E}{i:C}{k:E}(h:l[i]? =F k):ldE (ints l) i 0 1=F [.v (.int .i64 k)]:=by
 simp only[ldE,ints,B.getElem?_map,h];rfl
def ml:XS:=fun a H _=>match a with
 | [.x I d,.x I [.r q b]]=>F fun K=> ∃L,d=QA L/\b<=1000000/\K (rA (L.lo+(L.hi-L.lo)*q) (63+(63+63+1+b)+1)) H
 | _=>M
def aJ:B (C×XS):=(211,ml)::Tv
theorem QMt:Xg 211 ml:=by
 refine⟨ok_hValue.enter,fun l H d T h K a=> ?_⟩;unfold ml at h;split at h
 ·cases h
  obtain⟨L,rfl,b,a⟩:=a;exact QJ1 ok_hValue (d:=0) ⟨L,rfl,b,a⟩
 ·cases h
theorem eJ:XK aJ:= .cons QMt aY
abbrev QFe (a:ArmV)(s:E)(ks:B E)(K:AV->Prop):Prop:=((QJ a)/\(1<=s/\s<=12)/\(H ks=H a.za/\ ∀k∈ks,0<=k/\k<=s))/\(K (.t [(A,[.s 3 (lR 319 (XQ a s ks))]),(A,[.v (.int .i64 0)])]))
def Lz(a:C)(b:ArmV)(c:E)(d:B E):=Zc (fun(z:D)=>[J z 319]) (N a (XQ b c d))
def Ly(a:ArmV):=Zc Wv a.za
def MK(a:E):=a<9223372036854775808
def MJ(a:AV->Prop):=Ls a (A,[Zj Lu]) 17
theorem QRm (a:ArmV)(s:E)(ks:B E)(K:AV->Prop)(j:QFe a s ks K):QM (QN (mkTV cG aJ X4) (oF f25) (fun _=> .inv ⟨C,fun i=>⟨[(1,iA .i64 s),(2,.x A [.s 1 (ints ks)]),(9,.x A [.s 1 (a.za.map Wv)]),(11,.x A [.w 500 0 i]),(36,.x A [.s 1 (ints ks)]),(37,iA .i64 ks.length),(38,iA .i64 i)],[(500,YU 319 ((XQ a s ks).take i))]⟩,fun i=>i<=H ks,fun i=>H ks-i,fun _=>0⟩) f25 [JV a,iA .i64 s,.x A [.s 1 (ints ks)]] K):=by
 obtain⟨p,j⟩:=j;refine HV (∃(e:ArmV),Lq a a a a a a=Lq e e e e e e/\(QJ e/\1<=s/\s<=12)/\bif G (ints ks).length !=MF a then Ls K (A,[Zj Lu]) 1 else∃(c:ArmV),Lq a a a a a a=Lq c c c c c c/\QJ c/\(∃(x:C),(x<=H ks/\Lt)/\s=s/\1=1/\ints ks=ints ks/\1=1/\Ly c=Ly a/\Lu=Lu/\0=0/\x=0/\1=1/\ints ks=ints ks/\G (ints ks).length=G ks.length/\0=G x/\Lz x a s ks=[]/\L)/\∀(v:C),v<=H ks->Lt->Lv (G v) (G ks.length) ((0<=G v/\G v<G (ints ks).length)/\∃(d:E),MG (ints ks) v 1 (Ln d)/\Lv d 0 (MJ K) (bif decide (d>s)then MJ K else((MH d d/\ME<=s/\MK s)/\Lo s≠Lw)/\(0<=G v/\G v<G (Ly a).length)/\∃(n:B Ch),MG (Ly a) v 1 [Ch.i 173 I n]/\∃(b:QV),n=[J b.len 63,J b.lo 63,J b.hi 63,J b.sp 63,J b.br 63,Q 6 (Zc XL b.shape)]/\128<=1000000/\MI v 40 v/\∃(g:C),(g<=H ks/\Lt/\ks.length-g<H ks-v)/\s=s/\1=1/\ints ks=ints ks/\1=1/\Ly a=Ly a/\0=0/\v+1=g/\1=1/\ints ks=ints ks/\G ks.length=G ks.length/\O.wrap (G v+1)=G g/\25=25/\3=3/\(N v (Lz v a s ks)++[[J (b.lo+(b.hi-b.lo)*(Lo d/Lo s)) 319]]=Lz g a s ks\/QC (N v (Lz v a s ks)++[[J (b.lo+(b.hi-b.lo)*(Lo d/Lo s)) 319]]) (Lz g a s ks))/\L)) (Ls K (A,[Q 3 (N v (B.drop 0 (Lz v a s ks)))]) 0)) ?_
 delta Ln Lr Ls Lo Lq Lu ME Lt Lv Lw Lz Ly MH MG MF MI MK MJ
 try simp only[Zi,R0,R1,R4]
 obtain⟨l,⟨t,u⟩,o,m⟩:=p;have y:=l.n;have P:(XQ a s ks).length=H ks:=by simp[XQ,o]
 simp only[Zm,XG];refine⟨a,rfl,⟨l,t,u⟩,QE (fun h=>by simp[o]at h) (fun _=>⟨a,rfl,l,⟨0,o3,rfl,rfl,trivial,rfl,rfl⟩,fun x z=>QE (fun f=> ?_) (fun f=> ?_)⟩)⟩
 ·have f:x<H ks:=(j7 f)
  obtain⟨k,hk⟩: ∃k,ks[x]? =F k:=⟨_,Zk f⟩
  have q:=m k (Zp hk);obtain⟨b,hL⟩: ∃b,a.za[x]? =F b:=⟨_,Zk o3⟩
  have r:(XQ a s ks)[x]? =F (aV s b k):=by simp[XQ,B.getElem?_zipWith,hL,hk]
  refine⟨o3,k,We ((j9 hk)),QE (fun h=>(j7 h)) (fun _=>QE (fun h=>(j7 h)) (fun _=>⟨⟨o3,?_⟩,o3,_,zu ((j9 hL)),b,rfl,o3,o3,x+1,⟨o3,o3⟩,rfl,by rw[w64 o3];simp,.inl ?_⟩))⟩
  ·intro h;have w:(0:D)<((s:E):D):=D.intCast_pos.2 o3;grind
  ·rw[Zf (by rw[Zm,Zo];omega),Zq,r,B.map_append];rfl
 ·have f:x=H ks:=(j8 f)
  subst f;rw[Zs,Zf (by rw[Zm,Zo];omega),Zf o3];exact j
def rI:Ctr
 | [.x I x,.x A [.v (.int .i64 s)],.x A [.s 1 y]]=>F fun K=> ∃(a:ArmV) (k:B E),x=Qp a/\y=ints k/\QFe a s k K
 | _=>M
theorem ok_roValue:QH 25 rI:=by
 refine okL func25 fun l T b K h=> ?_
 unfold rI at b;split at b<;>cases b
 obtain⟨a,k,rfl,rfl,h⟩:=h;exact spL (KT QW4 eJ Qb) QK func25 (QRm _ _ _ K h)
def pZ:LC:=(25,rI)::cG
theorem QW5:QF pZ:= .cons ok_roValue QW4
def MD(a:C)(b:ArmV)(c:E)(d:B D):=ints (N a (Q8 b c d))
theorem QW6 (a:ArmV)(s:E)(n:C)(e:B D)(Z:(QJ a)/\(1<=s/\s<=12)/\(H e=H a.za/\Fit a e/\n<=100000))(K:AV->Prop)(Y:K (.t [(A,[.s 1 (ints (Q8 a s e))]),(A,[.v (.int .i64 0)])])):QM (QN (mkTV pZ aJ X4) (oF f24) (fun _=> .inv ⟨C,fun i=>⟨[(1,iA .i64 s),(2,sR n e),(10,.x A [.w 500 0 i]),(11,.x A [.p 11 0]),(36,.x A [.s 16 (a.za.map QA)]),(37,iA .i64 a.za.length),(38,iA .i64 i)],[(11,.box 25 [.r Ua 128]),(500,YV ((Q8 a s e).take i))]⟩,fun i=>i<=H a.za,fun i=>H a.za-i,fun _=>0⟩) f24 [JV a,iA .i64 s,sR n e] K):=by
 refine HV (∃(g:ArmV),Lq a a a a a a=Lq g g g g g g/\(QJ g/\1<=s/\s<=12)/\∃(f:ArmV)(t:C)(k:B D),Lq a a a a a a=Lq f f f f f f/\lR n e=lR t k/\(QJ f/\t<=1000000/\k.length=Ll f)/\((∀(i:C)(b:QV)(q:D),f.za[i]? =F b->k[i]? =F q->b.lo<=q/\q<=b.hi)->((((ME:E)<=1/\(1:E)<9223372036854775808)/\(ME:E)<=2/\MK (2:E))/\Lo (2:E)≠Lw)/\(∃(x:C),(x<=Ll a/\Lt)/\s=s/\3=3/\lR n e=lR n e/\Lu=Lu/\0=0/\x=0/\0=0/\16=16/\Lr a=Lr a/\MF a=G (Ll a)/\0=G x/\25=25/\Lo (1:E)/Lo (2:E)=Ua/\128<=128/\MD x a s e=[]/\L)/\∀(v:C),v<=Ll a->Lt->Lv (G v) (G (Ll a)) ((0<=G v/\G v<MF a)/\∃(q:D)(w:C)(d:D)(c:C)(j:D)(l:C)(P:D)(y:C)(R:D)(z:C)(ys:B (B Ch)),MG (Lr a) v 16 [J q w,J d c,J j l,J P y,J R z,Q 6 ys]/\(0<=G v/\G v<G (lR n e).length)/\∃(q:D)(m:C),MG (lR n e) v 3 [J q m]/\m+c+1<=4294967296/\l+c+1<=4294967296/\m+c+1+(l+c+1)<=4294967296/\(j-d≠Lw->MH s s/\m+c+1+(l+c+1)+64<=4294967296/\128+(m+c+1+(l+c+1)+64)+1<=4294967296/\(128+(m+c+1+(l+c+1)+64)+1<=2000000000/\ME<(Ua-(q-d)/(j-d)*↑s).floor/\MK (Ua-(q-d)/(j-d)*↑s).floor)/\MI v 8 v/\∃(p:C),(p<=Ll a/\Lt/\Ll a-p<Ll a-v)/\s=s/\3=3/\lR n e=lR n e/\0=0/\v+1=p/\0=0/\16=16/\Lr a=Lr a/\G (Ll a)=G (Ll a)/\O.wrap (G v+1)=G p/\25=25/\Ua=Ua/\128<=128/\3=3/\1=1/\(N v (MD v a s e)++[Ln (O.wrap (0-(Ua-(q-d)/(j-d)*↑s).floor))]=MD p a s e\/QC (N v (MD v a s e)++[Ln (O.wrap (0-(Ua-(q-d)/(j-d)*↑s).floor))]) (MD p a s e))/\L)/\(j-d=Lw->MH s s/\False)) (Ls K (A,[Q 1 (N v (B.drop 0 (MD v a s e)))]) 0))/\(¬Fit f k->MJ K)) ?_
 delta Ln Lr Ll Ls Lo Lq Lu ME Lt Lv Lw MD MH MG MF MI MK MJ
 try simp only[Zi,R0,R1,C.le_refl,R4]
 obtain⟨u,⟨U,s2⟩,T,S,Lm⟩:=Z;have hn:=u.n;have lv:(Q8 a s e).length=H a.za:=by simp[Q8,T]
 simp only[Zm,Qw];refine⟨a,rfl,⟨u,U,s2⟩,a,n,e,rfl,rfl,⟨u,o3,T⟩,fun _=>⟨⟨⟨⟨o3,o3⟩,o3,o3⟩,j5⟩,⟨0,o3,rfl,trivial,rfl,rfl,rfl⟩,fun x hx=>QE (fun o=> ?_) (fun o=> ?_)⟩,fun h=>absurd S h⟩
 ·have o:x<H a.za:=(j7 o)
  obtain⟨b,hL⟩: ∃b,a.za[x]? =F b:=⟨_,Zk o3⟩
  obtain⟨q,hq⟩: ∃q,e[x]? =F q:=⟨_,Zk o3⟩
  obtain⟨W,X⟩:=S x b q hL hq;have V:=u.za b (Zp hL);have r:=V.lim;obtain⟨b1,b2,b3,b4⟩:=QBA U r W X;have hv:(Q8 a s e)[x]? =F (ZF s b q):=by simp[Q8,B.getElem?_zipWith,hL,hq]
  have hw:O.wrap (0-(Vr s b q).floor)=ZF s b q:=by rw[w64 o3];unfold ZF;omega
  refine⟨o3,_,_,_,_,_,_,_,_,_,_,_,JW ((j9 hL)),o3,q,n,Xd ((j9 hq)),o3,o3,o3,fun At=>⟨o3,o3,o3,⟨o3,(o3:_<(Vr s b q).floor),(o3:(Vr s b q).floor<_)⟩,o3,x+1,⟨o3,o3⟩,rfl,by rw[w64 o3];simp,.inl ?_⟩,fun h0=> ?_⟩
  ·show _++[[Zj (Zd .i64 (O.wrap (0-(Vr s b q).floor)))]]=_
   rw[hw,Zf (by rw[XG,Zo];omega),Zq,hv];simp[ints]
  ·exfalso;grind
 ·have o:x=H a.za:=(j8 o)
  subst o;rw[Zs,Zf (by rw[XG,Zo];omega),Zf o3];exact Y
def GX:Ctr
 | [.x I x,.x A [.v (.int .i64 s)],.x A [.s 3 y]]=>F fun K=> ∃(a:ArmV) (n:C) (q:B D),x=Qp a/\y=lR n q/\((QJ a)/\(1<=s/\s<=12)/\(H q=H a.za/\Fit a q/\n<=100000))/\(K (.t [(A,[.s 1 (ints (Q8 a s q))]),(A,[.v (.int .i64 0)])]))
 | _=>M
theorem uc:QH 24 GX:=by
 refine okL func24 fun l T b K h=> ?_
 unfold GX at b;split at b<;>cases b
 obtain⟨a,n,q,rfl,rfl,c,h⟩:=h;exact spL (KT QW5 eJ Qb) QK func24 (QW6 _ _ _ _ c K h)
def Z5:LC:=(24,GX)::pZ
noncomputable def Qj4:Qd:=mkTV Z5 aJ X4
theorem dY:QF Z5:= .cons uc QW5
theorem QhW:Qr Qj4:=KT dY eJ Qb
theorem QW7 {a:ArmV}{s:E}{c:B D}(l:QJ a)(o:1<=s)(j:Fit a c): ∀k∈Q8 a s c,0<=k/\k<=s:=by
 intro k m;obtain⟨i,h⟩:=B.getElem?_of_mem m
 unfold Q8 at h;rw[B.getElem?_zipWith_eq_some]at h;obtain⟨L,q,b,n,rfl⟩:=h;obtain⟨f,g⟩:=j i L q b n;obtain⟨d,e,_⟩:=QBA o (l.za L (Zp b)).lim f g;exact⟨d,e⟩
def Qk6:LC:=Z5
noncomputable def Qle:Qd:=mkTV Qk6 aJ X4
end Go.Proofs
