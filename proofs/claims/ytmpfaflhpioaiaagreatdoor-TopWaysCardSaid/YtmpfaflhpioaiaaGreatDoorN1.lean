/- Natural numbers, first part: trim, short. -/
import Derived.Test.YtmpfaflhpioaiaaGreatDoorTy
import Derived.Test.YtmpfaflhpioaiaaGreatDoorPl
import Derived.KernelRfl
import Derived.Lib.Bytealg
import Derived.Laws.Externs
open _root_ renaming Nat → A, List → C, Int → D, True → L, UInt8 → N, congrArg → R, OfNat → T, Unit → Y, if_neg → X, if_pos → c, Bool → a
open Int renaming ofNat → E, ofNat_eq_natCast → p, toNat_natCast → y, eq_ofNat_of_zero_le → Zs, toNat_natCast → Zm
open Option renaming some → F, none → M
open Bool renaming false → G
open List renaming length → I, getElem?_eq_getElem → j, replicate → h, getD_eq_getElem?_getD → q, getElem?_set → Zq, drop → Yh, drop_drop → Zz, take → Zu, drop_set_of_lt → Zx, length_set → Yg, take_of_length_le → Yb, map → Yd, drop_zero → Yv, getD_eq_getElem?_getD → Zi
open Go renaming Value → B
open Go.IntKind renaming u64 → J, i64 → Q, u32 → S, u8 → Zf, wrap_u32 → Zv, bits → Ys, wrap_u8 → Yt
open UInt8 renaming ofNat → U, toNat_ofNat' → Zy
open Nat renaming mul_add → Z, mul_assoc → r, eq_of_beq_eq_true → Zn, pow_succ → Ya, zero_add → Ye, mod_lt → Yj, pow_le_pow_right → Zt, div_add_mod → Yf, pow_add → Yl, add_comm → Yn, pow_pos → Yp, mul_le_mul → Yi, le_refl → Yu, mod_eq_of_lt → Yk, mul_comm → Yr, lt_of_le_of_lt → Yo, le_one_iff_eq_zero_or_eq_one → Yc, div_lt_of_lt_mul → Ym
open Go.Eng.Ch renaming v → z
open Go.Value renaming int → Ze, string → Yq
open Array renaming mk → Zw
open ByteArray renaming mk → Zr
set_option maxHeartbeats 1000000
set_option maxRecDepth 100000
namespace Go.Proofs
open Go Go.Eng Tryz
def itE:C (A×OT):=[]
def Qe0:OT:=fun _=>([],[])
def itN:C (A×OT):=[(109,Qe0)]
def itA:C (A×OT):=[]
def aE:C (A×OT):=itE++(itN++itA)
def rn:C (A×A×a):=[(130,173,true)]
noncomputable def mkT (l:C (A×Ctr))(m:C (A×XS))(x:C (A×U9)):Qd:=⟨Tryz.tbF,prL l,pmL m,pxL x,ZR Tryz.prog,itP Tryz.prog aE,rn⟩
noncomputable def T0:Qd:=mkT [] [] []
def noL:LI:=fun _=> .no
def ZY (l:C N):AV:= .x G [.v (.string ⟨l.toArray⟩)]
def bA (m n:A):AV:= .x G [.b m n]
def iA (k:IntKind)(n:D):AV:= .x G [.v (.int k n)]
def QTE (l:C N):LI:=fun _=> .inv ⟨C N,fun x=>⟨[(0,ZY x)],[]⟩,fun x=>WO x=WO l,fun x=>I x,fun _=>0⟩
def QQO (m n:A):LI:=fun _=> .inv ⟨A,fun i=>⟨[(0,bA m n),(3,iA .u64 (m/256^((QB m).length-i):A)),(6,iA .i64 (QB m).length),(7,iA .i64 i)],[]⟩,fun i=>i<=(QB m).length,fun i=>(QB m).length-i,fun _=>0⟩
def AB:=(0:D)
def AE:=T.ofNat 0=0
def AO(a:AV->Prop)(b:C Ch):=a (AV.x G b)
def AS(a:Prop)(b c:A):=a/\T.ofNat 0=0/\b<c
def Ar(a:C N):=E (Zr (Zw a)).size
theorem QZe (l:C N)(K:AV->Prop)(h:K (ZY (WO l))):QM (bK T0 (QTE l) f121 [ZY l] K):=by
 refine HV ((∃(x:C N),(WO x=WO l/\AE)/\Zr (Zw l)=Zr (Zw x)/\L)/\∀(x:C N),WO x=WO l->AE->bif decide (Ar x>0)then∃(v:N),(AB<=0/\(Zw x).toList[0]? =F v)/\bif E v.toNat ==0 then(AB<=1/\1<=Ar x/\Ar x<=Ar x)/\∃(s:C N),AS (WO s=WO l) s.length x.length/\(Zr (Zw x)).extract 1 (Ar x).toNat=Zr (Zw s)/\L else AO K [z (Yq (Zr (Zw x)))]else AO K [z (Yq (Zr (Zw x)))]) ?_
 delta AB AE AO AS Ar
 refine⟨⟨l,⟨rfl,rfl⟩,rfl,trivial⟩,fun x r _=>QE (fun j=> ?_) (fun j=> ?_)⟩
 ·have a:ByteArray.size (Zr (Zw x))=I x:=rfl;cases x with
  | nil=>simp[a]at j
  | cons b x=>
   refine⟨b,⟨o3,rfl⟩,QE (fun q=> ?_) (fun q=> ?_)⟩
   ·have c:b=0:=N.toNat_inj.1 ((j9 q));rw[a];refine⟨⟨o3,by simp only[C.length_cons,p];omega,o3⟩,x,⟨?_,rfl,o6⟩,?_,trivial⟩
    ·rw[<-r];simp[WO,c]
    ·apply ByteArray.ext;simp
   ·have c: ¬b=0:=fun e=>by subst e;simp at q
    have:WO (b::x)=b::x:=by simp[WO,c]
    rw[<-r,this]at h;exact h
 ·have:x=[]:=by
   have a:ByteArray.size (Zr (Zw x))=I x:=rfl;cases x with
   | nil=>rfl
   | cons b x=>rw[a]at j;simp at j
  subst this;rw[<-r]at h;exact h
def AA(a:A):=(QB a).length
def AW(a:A):=E (AA a)
theorem QZf (m n:A)(K:AV->Prop)(h:K (bA m n)):QM (bK T0 (fun _=> .unroll 1) f121 [bA m n] K):=by
 refine HV (bif decide (AW m>0)then∃(v:N),(AB<=0/\(QB m)[0]? =F v)/\bif E v.toNat ==0 then False else AO K [Ch.b m n]else AO K [Ch.b m n]) ?_
 delta AA AB AO AW
 refine QE (fun p=> ?_) (fun _=>h);have a:m≠0:=fun e=>by subst e;simp[XA]at p
 obtain⟨b,c,q⟩:=Kx a;exact⟨b,⟨o3,c⟩,QE (fun j=>by simp at j;omega) (fun _=>h)⟩
def AG(a:IntKind)(b:D):C Ch:=[z (Ze a b)]
def AD(a b:A):=E a=E b
def Ac(a:A)(b:D):=decide (E a<b)
def Al(a b:A):=Q.wrap (E a+1)=E b
theorem QZg (m n:A)(K:AV->Prop)(r:m<18446744073709551616)(h:K (iA .u64 m)):QM (bK T0 (QQO m n) f122 [bA m n] K):=by
 refine HV ((∃(x:A),(x<=AA m/\AE)/\m=m/\n<=n/\0=E (m/256^(AA m-x))/\AD (AA m) (AA m)/\0=E x/\L)/\∀(v:A),v<=AA m->AE->bif Ac v (AW m)then AB<=8/\∃(b:N),(0<=E v/\(QB m)[(E v).toNat]? =F b)/\∃(e:A),AS (e<=AA m) (AA m-e) (AA m-v)/\m=m/\n<=n/\orI J (YM J (E (m/256^(AA m-v))) 8) (J.wrap (E b.toNat))=E (m/256^(AA m-e))/\AD (AA m) (AA m)/\Al v e/\L else AO K (AG J (E (m/256^(AA m-v))))) ?_
 delta AG AA AB AD AE AO AS AW Ac Al
 have j:=XM m;have q:(QB m).length<=8:=Qh.2 ((j9 r));refine⟨⟨0,⟨o3,rfl⟩,rfl,Yu _,?_,rfl,rfl,trivial⟩,fun x T _=>QE (fun c=> ?_) (fun c=> ?_)⟩
 ·rw[A.sub_zero,A.div_eq_of_lt j];rfl
 ·have c:x<(QB m).length:=(j9 c)
  refine⟨o3,_,⟨D.natCast_nonneg _,W3 c⟩,x+1,⟨o3,rfl,o3⟩,rfl,Yu _,?_,rfl,?_,trivial⟩
  ·have s:(QB m).length-x=((QB m).length-(x+1))+1:=o3
   have B:(QB m).length-1-D.toNat (E x)=(QB m).length-(x+1):=by simp only[p,y];omega
   rw[s,B];generalize (QB m).length-(x+1)=k;have C:m/256^(k+1)=m/256^k/256:=by rw[Ya,A.div_div_eq_div_mul]
   rw[C];have I:m/256^k<18446744073709551616:=Yo (A.div_le_self _ _) r;generalize m/256^k=a at I;rw[Zy,A.mod_mod];have R:YM .u64 (E (a/256)) 8=((2^8*(a/256):A):D):=by
    have:((a/256:A):D)*2^(min (8:D).toNat IntKind.u64.bits)=((2^8*(a/256):A):D):=by
     show((a/256:A):D)*2^8=_
     omega
    show J.wrap _=_
    rw[p,this];exact Ki o3 o3
   rw[R,show J.wrap (E (a % 256))=((a % 256:A):D)from Ki o9 o9,H8 o3 o3];show((_:A):D)=_
   congr 1;omega
  ·rw[zx]<;>simp<;>omega
 ·have c: ¬x<(QB m).length:=(j9 c)
  have:(QB m).length-x=0:=o3
  rw[this,A.pow_zero,A.div_one];exact h
theorem QK:Tryz.prog.follows .mixedOrders=true:=o4
variable{P:Program}
theorem qo{g:A}{zb:C B}{T:Qd}{b:TB}{r:PR}{p:PM}{s:PX}{h:bN}{c:A->Option (Func×OT)}{U:C (A×A×a)}(e:T=⟨b,r,p,s,h,c,U⟩)(h1:Wf P b)(y:dG P g zb r)(D:bQ P g zb p)(I:kI P s)(L:ai P h)
  (N: ∀f q,c f=F q->P.funcs[f]? =F q.1) (R: ∀t i e j,b t=F i->i.zd= .slice e->b e=F j->j.zd= .int .u8->P.underlying e=F (.int .u8)):XC P g zb T:=by
 subst e;exact⟨h1,y,D,I,L,N,R⟩
theorem QP {g:A}{zb:C B}{l:C (A×Ctr)}{m:C (A×XS)}{x:C (A×U9)}(h:CtrsOK Tryz.prog g zb l)(b:CtrMsOK Tryz.prog g zb m)(p:CtrXsOK Tryz.prog x):XC Tryz.prog g zb (mkT l m x):=
 qo (mkT.eq_1 l m x) Tryz.tb_ok (cN h) (pt b) (fv p) (mB Tryz.prog) (m5 Tryz.prog aE) fun _ _ e j _ _ a c=>by rw[(Tryz.tb_ok e j a).zd,c]
variable{ρ:Env}{m n:A}{O:A->Prop}{w:World}
theorem Vc{v:B}(h:ConcV w O ρ (ZY (QB m)) v)(a:m<2^n):ConcV w O ρ (bA m n) v:=by
 have:=QPe h;subst this;exact YI (.b a .nil)
theorem HW (l:C N):QG l<2^(8*I l):=by
 have:=H9 l;rwa [show(256:A)=2^8 from rfl,<-A.pow_mul]at this
def fQ:Ctr:=fun l=>match l with
 | [.x G [.b m n]]=>F fun K=>K (bA m n)
 | [.x G [.v (.string s)]]=>F fun K=>K (bA (QG s.data.toList) (8*I s.data.toList))
 | _=>M
def kz:Ctr:=fun l=>match l with
 | [.x G [.b m _]]=>F fun K=>m<18446744073709551616/\K (iA .u64 m)
 | _=>M
section
variable {g:A}{zb:C B}
theorem sa:XC Tryz.prog g zb T0:=QP .nil .nil .nil
theorem QZh:CtrOK Tryz.prog g zb 121 fQ:=by
 refine⟨Qf func121 o4,fun l T h K b=> ?_⟩;unfold fQ at h;split at h
 ·cases h
  exact nX sa QK func121 o4 o4 (QZf _ _ K b)
 ·rename_i s;cases h
  refine Spec.res (nX sa QK func121 o4 o4 (QZe s.data.toList (fun a=>a=ZY (WO s.data.toList)) rfl)) ?_
  rintro w O a v rfl c;refine⟨_,b,Vc ?_ (HW _)⟩;rw[QCh];exact c
 ·cases h
theorem QTF:CtrOK Tryz.prog g zb 122 kz:=by
 refine⟨Qf func122 o4,fun l T h K a=> ?_⟩;unfold kz at h;split at h
 ·cases h
  exact nX sa QK func122 o4 o4 (QZg _ _ K a.1 a.2)
 ·cases h
def L1:LC:=[(121,fQ),(122,kz)]
theorem tv:CtrsOK Tryz.prog g zb L1:= .cons QZh (.cons QTF .nil)
end
noncomputable def T1:Qd:=mkT L1 [] []
theorem tY {g:A}{zb:C B}:XC Tryz.prog g zb T1:=QP tv .nil .nil
def noO:OT:=fun _=>([],[])
theorem QBK(h:n<18446744073709551616):QG [U (n/72057594037927936),U (n/281474976710656),U (n/1099511627776),U (n/4294967296),U (n/16777216),U (n/65536),U (n/256),U n]=n:=by
 simp only[QG,C.foldl_cons,C.foldl_nil,Zy];omega
variable{k:A}
theorem J9(hk:k<=64):Zf.wrap (XE .u64 (E n) (k:D))=((U (n/2^k)).toNat:D):=by
 rw[JC (by simpa [Ys]using hk) o6,Yt];simp only[y,Zy,p];have:((2:D)^k)=((2^k:A):D):=o6
 rw[this,<-D.natCast_ediv];omega
def AZ:=Ze Zf 0
def AU(a:D):=AG Zf (Zf.wrap a)
def Af(a:A)(b:D):=AU (XE J (E a) b)
def Av:C B:=[AZ,AZ,AZ,AZ,AZ,AZ,AZ,AZ]
def Ay(a b c:D)(d:A)(e f g:D)(h:A)(i:Prop):=AB<=a/\(AB<=b/\(c:D)<8)/\d<8/\AB<=e/\(AB<=f/\(g:D)<8)/\h<8/\i
theorem QIo (n:A)(K:AV->Prop)(h:n<18446744073709551616)(c:K (bA n 64)):QM (QN T1 (oF f120) (fun _=> .unroll 9) f120 [iA .u64 n] K):=by
 refine HV ((∀(a:C B),Av=a->Av=a->AB<=56/\(AB<=0/\AB<8)/\0<8/\AB<=48/\(AB<=1/\(1:D)<8)/\1<8/\Ay 40 2 2 2 32 3 3 3 (Ay 24 4 4 4 16 5 5 5 (Ay 8 6 6 6 0 7 7 7 ((AB<=0/\AB<=8/\(8:D)<=8/\8<=8)/\∃(b:C N),[Af n 56,Af n 48,Af n 40,Af n 32,Af n 24,Af n 16,Af n 8,Af n 0]=Yd QW b/\AO K [Ch.b (QG (Zw b).toList) (8*(Zw b).toList.length)]))))/\Av=Av) ?_
 delta AG AB AZ AU AO Af Av Ay
 refine⟨fun a e _=> ?_,rfl⟩;repeat (refine And.intro o3 ?_)
 refine⟨[U (n/72057594037927936),U (n/281474976710656),U (n/1099511627776),U (n/4294967296),U (n/16777216),U (n/65536),U (n/256),U n],?_,?_⟩
 ·simp only[C.map_cons,C.map_nil,QW]
  rw[show Zf.wrap (XE .u64 (E n) 56)=_ from J9 (k:=56) o3,show Zf.wrap (XE .u64 (E n) 48)=_ from J9 (k:=48) o3,
   show Zf.wrap (XE .u64 (E n) 40)=_ from J9 (k:=40) o3,show Zf.wrap (XE .u64 (E n) 32)=_ from J9 (k:=32) o3,
   show Zf.wrap (XE .u64 (E n) 24)=_ from J9 (k:=24) o3,show Zf.wrap (XE .u64 (E n) 16)=_ from J9 (k:=16) o3,
   show Zf.wrap (XE .u64 (E n) 8)=_ from J9 (k:=8) o3,show Zf.wrap (XE .u64 (E n) 0)=_ from J9 (k:=0) o3]
  simp
 ·simp only;rw[QBK h];exact c
def UK:Ctr
 | [.x G [.v (.int .u64 n)]]=>F fun K=>(0<=n/\n<18446744073709551616)/\K (bA n.toNat 64)
 | _=>M
theorem QGM {g:A}{zb:C B}:CtrOK Tryz.prog g zb 120 UK:=by
 refine⟨Qf func120 o4,fun l T h K a=> ?_⟩;unfold UK at h;split at h
 ·cases h
  obtain⟨⟨b,c⟩,a⟩:=a;rename_i n;obtain⟨n,rfl⟩:=Zs b;exact Qk tY QK func120 o4 o4 j6 (QIo n K o3 ((j9 a)))
 ·cases h
def wl (m:A):A:=((QB m).length+3)/4
def QQP (m n:A):LI:=fun _=> .inv ⟨A,fun i=>⟨[(0,bA m n),(3,.x G [.w 12 0 (wl m)]),(14,iA .i64 (QB m).length),(15,iA .i64 i)],[(12,.row 202 1 (W (fd 4294967296 (wl m) (m % 256^i))))]⟩,
 fun i=>i<=(QB m).length,fun i=>(QB m).length-i,fun _=>0⟩
def AN(a:C A):=(W a).length
def AX(a:D):=0+a.toNat
def AJ(a:C (C Ch))(b:D)(c:C Ch):=a.set (AX b) c
def AH(a b c d:C A):=W a=W b\/QC (W c) (W d)
def AM(a b:A):=fd 4294967296 a b
def AL(a:C A)(b:A)(c:D):=ldE (W a) b 0 1=F (AG S c)
def AP(a b c:A):=AM (wl a) (b%256^c)
def Ag(a:A):=Q.wrap ((E a).tdiv 4)
def Ah(a:A):=Q.wrap ((Q.wrap (E (AA a)+3)).tdiv 4)
def As(a:C A)(b c d:D):=AJ (W a) b (AG S (orI S c d))
def A2(a b c d e f:D):=0<=a/\b<=c/\d*e<=281474976710656/\f<=9223372036854775807
theorem QZi (m n:A)(V:n<=1099511627776)(R:m<2^n):QM (Xp (X:=Y) T1 (oF f123) (QQP m n) f123 [bA m n] [] (fun _=>L) (fun _=>⟨[(2,.x G [.w 0 0 (wl m)])],[(0,.row 202 1 (W (fd 4294967296 (wl m) m)))]⟩)):=by
 refine HV ((4:D)≠0/\A2 (Ah m) (Ah m) (Ah m) 4 (Ah m) (Ah m)/\(∃(x:A),(x<=AA m/\AE)/\m=m/\n<=n/\0=0/\(Ah m).toNat=wl m/\AD (AA m) (AA m)/\0=E x/\202=202/\1=1/\(h (Ah m).toNat (AG S 0)=W (AP m m x)\/QC (h (Ah m).toNat (AG S 0)) (W (AP m m x)))/\L)/\∀(v:A),v<=AA m->AE->bif Ac v (AW m)then(4:D)≠0/\(0<=Ag v/\Ag v<E (wl m))/\∃(d:D),AL (AP m m v) (AX (Ag v)) d/\∃(b:N),(0<=Q.wrap (Q.wrap (AW m-1)-E v)/\(QB m)[(Q.wrap (Q.wrap (AW m-1)-E v)).toNat]? =F b)/\(4:D)≠0/\0<=Q.wrap ((E v).tmod 4*8)/\(0<=Ag v/\Ag v<E (wl m))/\AX (Ag v)<AN (AP m m v)/\∃(j:A),AS (j<=AA m) (AA m-j) (AA m-v)/\m=m/\n<=n/\0=0/\wl m=wl m/\AD (AA m) (AA m)/\Al v j/\202=202/\1=1/\(As (AP m m v) (Ag v) d (YM S (S.wrap (E b.toNat)) (Q.wrap ((E v).tmod 4*8)))=W (AP m m j)\/QC (As (AP m m v) (Ag v) d (YM S (S.wrap (E b.toNat)) (Q.wrap ((E v).tmod 4*8)))) (W (AP m m j)))/\L else∃(_x_1:Y),L/\0=0/\wl m=wl m/\202=202/\1=1/\AH (AP m m v) (AM (wl m) m) (AP m m v) (AM (wl m) m)/\L) ?_
 delta AG AN AA AX AD AJ AH AM AE AL AP AS AW Ac Ag Ah Al As A2
 have I:=Xe R;have T: ∀x:A,x<=(QB m).length->(x:D)<9223372036854775807:=fun x U=>o3
 generalize c:(QB m).length=a at I T;have q:wl m=(a+3)/4:=by unfold wl;rw[c]
 simp only[q];simp only[p,R0,R1,Ye,Yu,R4];simp(disch:=omega) only[w64,te,tm];have s:(((a:D)+3)/4).toNat=(a+3)/4:=o3
 rw[s];simp only[R0];refine⟨o3,⟨o3,o3,o3,o3⟩,⟨0,o3,rfl,.inl ?_⟩,fun x U=>QE (fun e=> ?_) (fun e=> ?_)⟩
 ·rw[A.pow_zero,A.mod_one,QS4,W,C.map_replicate];rfl
 ·have e:x<a:=(j9 e)
  simp(disch:=omega) only[w64];have y:((x:D)/4).toNat=x/4:=o3
  have B:((a:D)-1-x).toNat=a-1-x:=o3
  have r:x/4<(a+3)/4:=o3
  rw[y,B];refine⟨o3,o3,_,JF (J6 r),_,⟨o3,W3 o3⟩,o3,o3,o3,by rw[Wj,Qn];exact r,x+1,o3,o3,.inl ?_⟩;rw[c,(o3:a-1-(a-1-x)=x),Zy,A.mod_mod,<-QZZ o3,<-Wy];congr 4;rw[(o3:((x:D) % 4)=((x % 4:A):D))];exact QQG (QZa m x) o3 (Yj _ o3)
 ·have e: ¬x<a:=(j9 e)
  have:x=a:=o3
  subst this;exact⟨(),.inl (by rw[Yk (by rw[<-c];exact XM m)])⟩
def mN:XS:=fun a H d=>match a with
  | [.x G [.b m n]]=>match H d with
    | none=>F fun K=>n<=1099511627776/\K (.x G [.w d 0 (wl m)]) (XW [(0,d)] (QO [(0,.row 202 1 (W (fd 4294967296 (wl m) m)))]) H)
    | some _=>M
  | _=>M
variable{H:HP}{l:C AV}{f:A}
theorem SpecM.pre{g:A}{zb:C B}{K:KK}(h:(∀w O ρ b,Qu w O ρ l b->SpecM P g zb f l H K)):SpecM P g zb f l H K:=
 fun q a ρ w b e p j c=>h w _ ρ b c q a ρ w b e p j c
theorem W4{a:C B}(h:Qu w O ρ (.x G [.b m n]::l) a):m<2^n:=by
 cases h with
 | cons h _=>exact(Wo h).2
theorem QTG {g:A}{zb:C B}:KL Tryz.prog g zb 123 mN:=by
 refine⟨Qf func123 o4,fun l H d T h K a=> ?_⟩;unfold mN at h;split at h
 ·split at h
  ·rename_i e;cases h
   exact SpecM.pre fun w O ρ b c=>WW tY QK func123 o4 o4 j6 j6 e o4 (QZi _ _ a.1 (W4 c)) a.2
  ·cases h
 ·cases h
def L2:LC:=(120,UK)::L1
def M2:C (A×XS):=[(123,mN)]
noncomputable def T2:Qd:=mkT L2 M2 []
theorem Qii {g:A}{zb:C B}:CtrsOK Tryz.prog g zb L2:= .cons QGM tv
theorem Z2 {g:A}{zb:C B}:CtrMsOK Tryz.prog g zb M2:= .cons QTG .nil
theorem Qks {g:A}{zb:C B}:XC Tryz.prog g zb T2:=QP Qii Z2 .nil
def tbs (a:C A):C N:=a.foldl (fun(l:C N) (d:A)=>U (d/16777216)::U (d/65536)::U (d/256)::U d::l) []
theorem mX (a:C A)(d:A):tbs (a++[d])=[U (d/16777216),U (d/65536),U (d/256),U d]++tbs a:=by
 unfold tbs;rw[C.foldl_append];rfl
theorem cp (a:C A):(tbs a).length=4*I a:=by
 induction a using Up with
 | h0=>rfl
 | h1 l d b=>rw[mX];simp[b];omega
variable{d:A}
theorem be4(h:d<4294967296):QG [U (d/16777216),U (d/65536),U (d/256),U d]=d:=by
 simp only[QG,C.foldl_cons,C.foldl_nil,Zy];omega
theorem QZj {a:C A}(h:Dig 4294967296 a):QG (tbs a)=QI 4294967296 a:=by
 induction a using Up with
 | h0=>rfl
 | h1 l d j=>
  have b:=h d o6;have c:=j (fun x e=>h x (by simp[e]));rw[mX,Vb,be4 b,c,cp,J7];simp only[QI,A.mul_zero,A.add_zero];rw[A.pow_mul,show(256:A)^4=4294967296 from rfl,Yr,Yn]
theorem Qkt {h:Type}{p q:C h}{j r s y a b c e:h}(hk:p.length=k):((((p++([j,r,s,y]++q)).set k a).set (k+1) b).set (k+2) c).set (k+3) e=p++([a,b,c,e]++q):=by
 subst hk;simp[]
theorem HX(hk:k<=32):Zf.wrap (XE .u32 (n:D) (k:D))=((U (n/2^k)).toNat:D):=by
 rw[JC (by simpa [Ys]using hk) o6,Yt];simp only[y,Zy];have:((2:D)^k)=((2^k:A):D):=o6
 rw[this,<-D.natCast_ediv];omega
theorem QQR (b:N):[z (.int .u8 (b.toNat:D))]=QW b:=rfl
def QTH (a:C A):LI:=fun _=> .inv ⟨A,fun i=>⟨[(0,.x G [.s 1 (W a)]),(3,.x G [.w 10 0 (4*I a)]),(11,.x G [.s 1 (W a)]),(12,iA .i64 a.length),(13,iA .i64 i)],
  [(10,.row 5 1 ((h (4*(I a-i)) 0++tbs (a.take i)).map QW))]⟩,fun i=>i<=I a,fun i=>I a-i,fun _=>0⟩
def Am(a:C A)(b:A):=Q.wrap (4*Q.wrap (Q.wrap (E (AN a)-1)-E b))
def AK(a:C A)(b:A):=I a-b
def AI(a:C A)(b:A)(c:D):=Q.wrap (Am a b+c)
def AR(a:C A)(b c:A)(d:C A):=Yd QW (h (4*AK a b) (T.ofNat 0)++tbs (Zu c d))
def Ad(a:C A):=4*a.length
def AY(a:C A):=Q.wrap (4*E (AN a))
def Aw(a:C A)(b c:A)(d e:C A)(f:A)(g:D)(h:C A)(i:A)(j:D)(k:C A)(l:A)(m:D):=AJ (AJ (AJ (AR a b c d) (Am e f) (AU (XE S g 24))) (AI h i 1) (AU (XE S j 16))) (AI k l 2) (AU (XE S m 8))
theorem Qe2 (a:C A)(K:AV->Prop)(T:Dig 4294967296 a)(hn:a.length<=1099511627776)(R:K (bA (QI 4294967296 a) (32*I a))):QM (QN T2 (oF f124) (QTH a) f124 [.x G [.s 1 (W a)]] K):=by
 refine HV (A2 (AY a) (AY a) (AY a) 1 (AY a) (AY a)/\(∃(x:A),(x<=I a/\AE)/\1=1/\W a=W a/\0=0/\(AY a).toNat=Ad a/\1=1/\W a=W a/\E (AN a)=E a.length/\0=E x/\5=5/\1=1/\(h (AY a).toNat (AG Zf 0)=AR a x x a\/QC (h (AY a).toNat (AG Zf 0)) (AR a x x a))/\L)/\∀(x:A),x<=I a->AE->bif Ac x (E a.length)then(0<=E x/\E x<E (AN a))/\∃(d:D),AL a (E x).toNat d/\AB<=24/\AB<=16/\AB<=8/\(0<=Am a x/\Am a x<E (Ad a))/\AX (Am a x)<(AR a x x a).length/\(0<=AI a x 1/\AI a x 1<E (Ad a))/\AX (AI a x 1)<(AJ (AR a x x a) (Am a x) (AU (XE S d 24))).length/\(0<=AI a x 2/\AI a x 2<E (Ad a))/\AX (AI a x 2)<(AJ (AJ (AR a x x a) (Am a x) (AU (XE S d 24))) (AI a x 1) (AU (XE S d 16))).length/\(0<=AI a x 3/\AI a x 3<E (Ad a))/\AX (AI a x 3)<(Aw a x x a a x d a x d a x d).length/\∃(e:A),AS (e<=I a) (AK a e) (AK a x)/\1=1/\W a=W a/\0=0/\Ad a=Ad a/\1=1/\W a=W a/\AD a.length a.length/\Al x e/\5=5/\1=1/\(AJ (Aw a x x a a x d a x d a x d) (AI a x 3) (AU d)=AR a e e a\/QC (AJ (Aw a x x a a x d a x d a x d) (AI a x 3) (AU d)) (AR a e e a))/\L else∃(s:C N),Zu (Ad a) (Yh 0 (AR a x x a))=Yd QW s/\AO K [Ch.b (QG (Zw s).toList) (8*(Zw s).toList.length)]) ?_
 delta AG AN AX AB AD Am AJ AK AU AE AI AL AO AR AS Ac Ad AY Al A2 Aw
 simp only[Wj];generalize c:a.length=b at hn R;simp only[p,R0,R1,Ye,R4];simp(disch:=omega) only[w64];have X:((4:D)*b).toNat=4*b:=o3
 simp only[X,R0];refine⟨⟨o3,o3,o3,o3⟩,⟨0,o3,rfl,.inl ?_⟩,fun x hx=>QE (fun q=> ?_) (fun q=> ?_)⟩
 ·simp[tbs,QW]
 ·have q:x<b:=(j9 q)
  simp(disch:=omega) only[w64];obtain⟨d,hget⟩: ∃d,a[x]? =F d:=⟨_,j o3⟩
  have At:=T.get hget;have f1:((4:D)*((b:D)-1-x)).toNat=4*(b-1-x):=o3
  have f2:((4:D)*((b:D)-1-x)+1).toNat=4*(b-1-x)+1:=o3
  have f3:((4:D)*((b:D)-1-x)+2).toNat=4*(b-1-x)+2:=o3
  have f4:((4:D)*((b:D)-1-x)+3).toNat=4*(b-1-x)+3:=o3
  have B:(Yd QW (h (4*(b-x)) 0++tbs (Zu x a))).length=4*b:=by
   simp[cp,c];omega
  simp only[f1,f2,f3,f4,Yg,B,y];refine⟨o3,_,JF hget,?_⟩;repeat (refine And.intro o3 ?_)
  refine⟨x+1,⟨o3,o3⟩,o3,.inl ?_⟩;have Y:b-x=(b-(x+1))+1:=o3
  rw[C.take_add_one,hget,Option.toList_some,mX,Y,Z,A.mul_one,<-C.replicate_append_replicate,C.append_assoc,(o3:b-1-x=b-(x+1))];rw[show h 4 (0:N)=[0,0,0,0]from rfl]
  rw[show Zf.wrap (XE .u32 (d:D) 24)=_ from HX (k:=24) o3,show Zf.wrap (XE .u32 (d:D) 16)=_ from HX (k:=16) o3,
   show Zf.wrap (XE .u32 (d:D) 8)=_ from HX (k:=8) o3]
  rw[show Zf.wrap (d:D)=((U d).toNat:D)by rw[Yt,Zy];omega];simp only[QQR,<-C.map_set];congr 1;exact Qkt o6
 ·have q: ¬x<b:=(j9 q)
  have:x=b:=o3
  subst this;refine⟨tbs a,?_,?_⟩
  ·have V:Zu x a=a:=Yb o3;have e9:4*(x-x)=0:=o3
   rw[V,e9,C.replicate_zero,C.nil_append,Yv,Yb (by rw[C.length_map,cp];omega)]
  ·rw[QZj T,cp,c,<-r];exact R
def gg:Ctr
 | [.x G [.s 1 xs]]=>F fun K=> ∃a,xs=W a/\Dig 4294967296 a/\a.length<=1099511627776/\K (bA (QI 4294967296 a) (32*I a))
 | _=>M
theorem QZk {g:A}{zb:C B}:CtrOK Tryz.prog g zb 124 gg:=by
 refine⟨Qf func124 o4,fun l T h K j=> ?_⟩;unfold gg at h;split at h
 ·cases h
  obtain⟨a,rfl,b,c,e⟩:=j;exact Qk Qks QK func124 o4 o4 j6 (Qe2 a K b c e)
 ·cases h
def UL:U9:=fun a=>match a with
 | [.x G [.b m _],.x G [.b n _]]=>F fun K=>K (iA .i64 (Lib.compareBytes (QB m) (QB n)))
 | _=>M
def L3:LC:=(124,gg)::L2
def X3:C (A×U9):=[(188,UL)]
noncomputable def T3:Qd:=mkT L3 M2 X3
theorem QGO:dW Tryz.prog 188 UL:=by
 intro l T a K p w O ρ b h;unfold UL at a;split at a
 ·cases a
  cases h with
  | cons c h=>cases h with
   | cons j h=>
    cases h
    obtain⟨rfl,_⟩:=Wo c;obtain⟨rfl,_⟩:=Wo j;refine⟨_,_,?_,Qg rfl,p⟩;rw[run_callFunc_extern func188 o4 o4 o4 (e:=Extern.BytealgCompare.compare) o4];simp only[Ja];rw[Lib.run_compareString];rfl
 ·cases a
theorem ug {g:A}{zb:C B}:CtrsOK Tryz.prog g zb L3:= .cons QZk Qii
theorem S1:CtrXsOK Tryz.prog X3:= .cons QGO .nil
theorem Qku {g:A}{zb:C B}:XC Tryz.prog g zb T3:=QP ug Z2 S1
def KB:Ctr
 | [.x G [.b m _],.x G [.b n _]]=>F fun K=>K (iA .i64 (Lib.compareBytes (QB m) (QB n)))
 | _=>M
def KM (m a n b:A)(K:AV->Prop):Prop:=QN T3 (oF f167) noL f167 [bA m a,bA n b] K
theorem Vs (m:A)(a:A)(n:A)(b:A)(K:AV->Prop):KM m a n b K=(K (AV.x G [z (Ze Q (Lib.compareBytes (QB m) (QB n)))])):=o4
theorem QAL {g:A}{zb:C B}:CtrOK Tryz.prog g zb 167 KB:=by
 refine⟨Qf func167 o4,fun l T h K a=> ?_⟩;unfold KB at h;split at h
 ·cases h
  exact Qk Qku QK func167 o4 o4 j6 (show QM (KM _ _ _ _ K)from⟨by rw[Vs];exact a⟩)
 ·cases h
def L4:LC:=(167,KB)::L3
noncomputable def T4:Qd:=mkT L4 M2 X3
theorem tc {g:A}{zb:C B}:CtrsOK Tryz.prog g zb L4:= .cons QAL ug
theorem Qkv {g:A}{zb:C B}:XC Tryz.prog g zb T4:=QP tc Z2 S1
def GB (m a n b:A)(K:AV->Prop):Prop:=QN T4 (oF f140) noL f140 [bA m a,bA n b] K
theorem QBM (m:A)(a:A)(n:A)(b:A)(K:AV->Prop):GB m a n b K=(K (AV.x G [z (Ze Q (Lib.compareBytes (QB m) (QB n)))])):=o4
theorem QLG {g:A}{zb:C B}:CtrOK Tryz.prog g zb 140 KB:=by
 refine⟨Qf func140 o4,fun l T h K a=> ?_⟩;unfold KB at h;split at h
 ·cases h
  exact Qk Qkv QK func140 o4 o4 j6 (show QM (GB _ _ _ _ K)from⟨by rw[QBM];exact a⟩)
 ·cases h
def L5:LC:=(140,KB)::L4
noncomputable def T5:Qd:=mkT L5 M2 X3
theorem Qil {g:A}{zb:C B}:CtrsOK Tryz.prog g zb L5:= .cons QLG tc
theorem m9 {g:A}{zb:C B}:XC Tryz.prog g zb T5:=QP Qil Z2 S1
def xB (n:D)(K:AV->Prop):Prop:=QN T5 (oF f83) noL f83 [iA .i64 n] K
theorem QLH (n:D)(K:AV->Prop):xB n K=(bif decide (n<1)then K (AV.x G [z (Yq (Zr (Zw [])))])else(0<=J.wrap n/\J.wrap n<18446744073709551616)/\K (AV.x G [Ch.b (J.wrap n).toNat 64])):=o4
def QLI (x y:A):LI:=fun _=> .inv ⟨A×A,fun i=>⟨[(0,iA .u64 i.1),(1,iA .u64 i.2)],[]⟩,fun i=>A.gcd i.1 i.2=A.gcd x y/\i.1<18446744073709551616/\i.2<18446744073709551616,fun i=>i.2,fun _=>0⟩
theorem Vd (x:N)(l:C N):QG (x::l)=x.toNat*256^l.length+QG l:=by
 have:=Vb [x] l;simpa [QG]using this
theorem QLJ: ∀{a b:C N},I a=I b->Lib.compareBytes a b=Je (QG a) (QG b):=by
 intro a;induction a with
 | nil=>intro b h;cases b with
  | nil=>rfl
  | cons=>cases h
 | cons x a r=>
  intro b h;cases b with
  | nil=>cases h
  | cons y b=>
   have e:a.length=I b:=(j9 h)
   rw[Lib.compareBytes,Vd,Vd,r e,e];have j:=H9 a;have q:=H9 b;rw[e]at j;generalize 256^b.length=p at j q;simp only[N.lt_iff_toNat_lt];rcases A.lt_trichotomy x.toNat y.toNat with h | h | h
   ·rw[c h];have:(x.toNat+1)*p<=y.toNat*p:=A.mul_le_mul_right _ h;rw[A.add_mul]at this;unfold Je;rw[c o3]
   ·rw[X o3,X o3,h];unfold Je;simp only[A.add_lt_add_iff_left,A.add_left_cancel_iff]
   ·rw[X o3,c h];have:(y.toNat+1)*p<=x.toNat*p:=A.mul_le_mul_right _ h;rw[A.add_mul]at this;unfold Je;rw[X o3,X o3]
theorem rP(h:(QB m).length<(QB n).length):m<n:=by
 have b:=Qh (m:=n) (k:=(QB m).length);have c:=XM m;have: ¬n<256^(QB m).length:=fun a=>by have:=b.2 a;omega
 omega
theorem Qim (m a n b:A)(K:AV->Prop)(h:K (iA .i64 (Je m n))):QM (QN T5 (oF f99) noL f99 [bA m a,bA n b] K):=by
 refine HV (bif decide (AW m<AW n)then AO K (AG Q (-1))else bif decide (AW m>AW n)then AO K (AG Q 1)else AO K (AG Q (Lib.compareBytes (QB m) (QB n)))) ?_
 delta AG AA AO AW
 refine QE (fun e=> ?_) (fun e=>QE (fun j=> ?_) (fun j=> ?_))
 ·have:=rP (m:=m) (n:=n) ((j9 e));unfold Je at h;rw[c this]at h;exact h
 ·have:=rP (m:=n) (n:=m) ((j9 j));unfold Je at h;rw[X o3,X o3]at h;exact h
 ·simp at e j;rw[QLJ o3,Xv,Xv];exact h
def NatIs (m n:A)(av:AV):Prop:=m<2^n/\((∃a,av=bA m a)\/ ∃l,av= .x G [.v (.string ⟨l.toArray⟩)]/\l=QB m)
theorem NatIs.b{a:A}(h:m<2^n):NatIs m n (bA m a):=⟨h,.inl ⟨a,rfl⟩⟩
theorem NatIs.conc{av:AV}{v:B}(h:NatIs m n av)(b:ConcV w O ρ av v):ConcV w O ρ (bA m n) v:=by
 obtain⟨a,⟨c,rfl⟩ | ⟨l,rfl,rfl⟩⟩:=h
 ·obtain⟨rfl,_⟩:=Wo b;exact YI (.b a .nil)
 ·exact Vc b a
theorem Qkw (n:D)(h:n<9223372036854775808):QM (xB n (NatIs n.toNat 63)):=by
 refine⟨?_⟩;rw[QLH];refine QE (fun a=> ?_) (fun a=> ?_)
 ·have a:n<1:=(j9 a)
  have:n.toNat=0:=o3
  rw[this];exact⟨o3,.inr ⟨[],rfl,rfl⟩⟩
 ·have a: ¬n<1:=(j9 a)
  rw[YE o3];exact⟨o3,.b o3⟩
def Ax(a b:A×A)(c d:A)(e f:A×A):=a.1.gcd b.2=c.gcd d/\e.1<18446744073709551616/\f.2<18446744073709551616
theorem QTI (x y:A)(K:AV->Prop)(C:x<18446744073709551616)(D:y<18446744073709551616)(h:K (iA .u64 (A.gcd x y:A))):QM (QN T5 (oF f153) (QLI x y) f153 [iA .u64 x,iA .u64 y] K):=by
 refine HV ((∃(b:A×A),(Ax b b x y b b/\AE)/\AD x b.1/\AD y b.2/\L)/\∀(b:A×A),Ax b b x y b b->AE->bif decide (E b.2>0)then E b.2≠0/\∃(c:A×A),AS (Ax c c x y c c) c.2 b.2/\AD b.2 c.1/\(E b.1).tmod (E b.2)=E c.2/\L else AO K (AG J (E b.1))) ?_
 delta AG AD AE AO AS Ax
 refine⟨⟨(x,y),⟨⟨rfl,C,D⟩,rfl⟩,rfl,rfl,trivial⟩,fun a s _=>QE (fun q=> ?_) (fun q=> ?_)⟩
 ·obtain⟨u,v⟩:=a;obtain⟨e,r,j⟩:=s;simp only at e r j q|-;have B:v≠0:=by simp at q;omega
  refine⟨o9,(v,u % v),⟨⟨?_,j,A.lt_trans (Yj _ o3) j⟩,o6,Yj _ o3⟩,rfl,?_,trivial⟩
  ·rw[<-e,A.gcd_comm v,<-A.gcd_rec,A.gcd_comm]
  ·simp only[p];rw[tm o3];simp
 ·obtain⟨u,v⟩:=a;obtain⟨e,r,j⟩:=s;simp only at e r j q|-;have B:v=0:=by simp at q;omega
  subst B;rw[A.gcd_zero_right]at e;subst e;exact h
def cP:Ctr
 | [.x G [.b m _],.x G [.b n _]]=>F fun K=>K (iA .i64 (Je m n))
 | _=>M
def pq:Ctr
 | [.x G [.v (.int .i64 n)]]=>F fun K=>n<9223372036854775808/\K (bA n.toNat 63)
 | _=>M
def kP:Ctr
 | [.x G [.v (.int .u64 x)],.x G [.v (.int .u64 y)]]=>F fun K=>((0<=x/\x<18446744073709551616)/\0<=y/\y<18446744073709551616)/\K (iA .u64 (A.gcd x.toNat y.toNat:A))
 | _=>M
theorem ok_Cmp {g:A}{zb:C B}:CtrOK Tryz.prog g zb 99 cP:=by
 refine⟨Qf func99 o4,fun l T h K e=> ?_⟩;unfold cP at h;split at h
 ·rename_i m a n b;cases h
  have c:=Qim m a n b K e;exact Qk m9 QK func99 o4 o4 j6 c
 ·cases h
variable{K:AV->Prop}
theorem KN{g:A}{zb:C B}(h:Eng.Spec P g zb f l (NatIs m n))(hk:K (bA m n)):Eng.Spec P g zb f l K:=
 Eng.Spec.res h fun _ _ _ _ b a=>⟨_,hk,b.conc a⟩
theorem Qin {g:A}{zb:C B}:CtrOK Tryz.prog g zb 83 pq:=by
 refine⟨Qf func83 o4,fun l T h K a=> ?_⟩;unfold pq at h;split at h
 ·cases h
  exact KN (Qk m9 QK func83 o4 o4 j6 (Qkw _ a.1)) a.2
 ·cases h
theorem QQS {g:A}{zb:C B}:CtrOK Tryz.prog g zb 153 kP:=by
 refine⟨Qf func153 o4,fun l T h K a=> ?_⟩;unfold kP at h;split at h
 ·cases h
  rename_i x y;obtain⟨⟨⟨b,e⟩,c,j⟩,a⟩:=a;obtain⟨x,rfl⟩:=Zs b;obtain⟨y,rfl⟩:=Zs c;exact Qk m9 QK func153 o4 o4 j6 (QTI x y K o3 o3 a)
 ·cases h
def L6:LC:=(99,cP)::(83,pq)::(153,kP)::L5
noncomputable def T6:Qd:=mkT L6 M2 X3
theorem Qio {g:A}{zb:C B}:CtrsOK Tryz.prog g zb L6:= .cons ok_Cmp (.cons Qin (.cons QQS Qil))
theorem uk {g:A}{zb:C B}:XC Tryz.prog g zb T6:=QP Qio Z2 S1
def wA (k n:A):AV:= .x G [.w k 0 n]
def Qs (a:C A):Blk:= .row 202 1 (W a)
structure TJ where
 xs:C A
 ys:C A
 out:C A
 carry:A
 i:A
structure TC (s:A)(e:A)(x:TJ):Prop where
 dx:Dig 4294967296 x.xs
 dy:Dig 4294967296 x.ys
 dz:Dig 4294967296 x.out
 lz:x.out.length=I x.xs+1
 ly:x.ys.length<=x.xs.length
 lx:x.xs.length<=e
 hi:x.i<=x.xs.length
 hc:x.carry<=1
 sum:QI 4294967296 x.xs+QI 4294967296 x.ys=s
 inv:QI 4294967296 (x.out.take x.i)+4294967296^x.i*x.carry=QI 4294967296 (x.xs.take x.i)+QI 4294967296 (x.ys.take x.i)
structure cK (s e:A)(p:C A×C A):Prop where
 dx:Dig 4294967296 p.1
 dy:Dig 4294967296 p.2
 ly:p.2.length<=p.1.length
 lx:p.1.length<=e
 sum:QI 4294967296 p.1+QI 4294967296 p.2=s
def QZm (m a n b s e:A):LI:=fun c=>bif c.beq 4 then .cut ⟨Y,fun _=>⟨[(0,bA m a),(1,bA n b)],[]⟩,fun _=>L,fun _=>0,fun _=>0⟩else bif c.beq 7 then .cut ⟨C A×C A,fun p=>⟨[(5,wA 30 p.1.length),(6,wA 32 p.2.length)],[(30,Qs p.1),(32,Qs p.2)]⟩,cK s e,fun _=>0,fun _=>0⟩
 else bif c.beq 15 then .cut ⟨TJ×A,fun x=>⟨[(5,wA 30 x.1.xs.length),(6,wA 32 x.1.ys.length),(7,wA 43 (I x.1.xs+1)),(8,iA .u64 x.2),(9,iA .i64 x.1.i),(44,wA 30 x.1.xs.length),(45,iA .i64 x.1.xs.length),(46,iA .i64 x.1.i)],
  [(30,Qs x.1.xs),(32,Qs x.1.ys),(43,Qs x.1.out)]⟩,fun x=>TC s e x.1/\x.1.i<I x.1.xs/\x.2=x.1.carry+x.1.xs.getD x.1.i 0+x.1.ys.getD x.1.i 0,fun _=>0,fun x=>I x.1.xs-x.1.i⟩
 else .inv ⟨TJ,fun x=>⟨[(5,wA 30 x.xs.length),(6,wA 32 x.ys.length),(7,wA 43 (I x.xs+1)),(8,iA .u64 x.carry),(44,wA 30 x.xs.length),(45,iA .i64 x.xs.length),(46,iA .i64 x.i)],
 [(30,Qs x.xs),(32,Qs x.ys),(43,Qs x.out)]⟩,TC s e,fun x=>I x.xs-x.i,fun _=>0⟩
def uj (m a n b e:A)(K:AV->Prop):Prop:=QN T6 (oF f84) (QZm m a n b (m+n) e) f84 [bA m a,bA n b] K
theorem QIq (m:A)(a:A)(n:A)(b:A)(e:A)(K:AV->Prop):uj m a n b e K=((bif decide (E (QB m).length<8)then bif decide (E (QB n).length<8)then m<18446744073709551616/\n<18446744073709551616/\(0<=J.wrap (E m+E n)/\J.wrap (E m+E n)<18446744073709551616)/\K (AV.x G [Ch.b (J.wrap (E m+E n)).toNat 64])else ∃(_x:Y),(L/\T.ofNat 0=0)/\m=m/\a<=a/\n=n/\b<=b/\L else ∃(_x:Y),(L/\T.ofNat 0=0)/\m=m/\a<=a/\n=n/\b<=b/\L)/\∀(_x:Y),L->T.ofNat 0=0->a<=1099511627776/\b<=1099511627776/\(bif decide (E (wl m)<E (wl n))then ∃(x:C A×C A),(cK (m+n) e x/\T.ofNat 0=0)/\0=0/\wl n=I x.1/\0=0/\wl m=I x.2/\202=202/\1=1/\(W (fd 4294967296 (wl n) n)=W x.1\/QC (W (fd 4294967296 (wl n) n)) (W x.1))/\202=202/\1=1/\(W (fd 4294967296 (wl m) m)=W x.2\/QC (W (fd 4294967296 (wl m) m)) (W x.2))/\L else ∃(x:C A×C A),(cK (m+n) e x/\T.ofNat 0=0)/\0=0/\wl m=I x.1/\0=0/\wl n=I x.2/\202=202/\1=1/\(W (fd 4294967296 (wl m) m)=W x.1\/QC (W (fd 4294967296 (wl m) m)) (W x.1))/\202=202/\1=1/\(W (fd 4294967296 (wl n) n)=W x.2\/QC (W (fd 4294967296 (wl n) n)) (W x.2))/\L)/\∀(x:C A×C A),cK (m+n) e x->T.ofNat 0=0->(0<=Q.wrap (E x.1.length+1)/\Q.wrap (E x.1.length+1)<=Q.wrap (E x.1.length+1)/\4*Q.wrap (E x.1.length+1)<=281474976710656/\Q.wrap (E x.1.length+1)<=9223372036854775807)/\(∃(c:TJ),(TC (m+n) e c/\T.ofNat 0=0)/\0=0/\x.1.length=I c.xs/\0=0/\x.2.length=I c.ys/\0=0/\(Q.wrap (E x.1.length+1)).toNat=I c.xs+1/\0=E c.carry/\0=0/\x.1.length=I c.xs/\E x.1.length=E c.xs.length/\0=E c.i/\202=202/\1=1/\(W x.1=W c.xs\/QC (W x.1) (W c.xs))/\202=202/\1=1/\(W x.2=W c.ys\/QC (W x.2) (W c.ys))/\202=202/\1=1/\(h (Q.wrap (E x.1.length+1)).toNat [z (Ze S 0)]=W c.out\/QC (h (Q.wrap (E x.1.length+1)).toNat [z (Ze S 0)]) (W c.out))/\L)/\∀(x:TJ),TC (m+n) e x->T.ofNat 0=0->bif decide (E x.i<E x.xs.length)then(0<=E x.i/\E x.i<E x.xs.length)/\∃(d:D),ldE (W x.xs) (0+(E x.i).toNat) 0 1=F [z (Ze S d)]/\(bif decide (E x.i<E x.ys.length)then(0<=E x.i/\E x.i<E x.ys.length)/\∃(p:D),ldE (W x.ys) (0+(E x.i).toNat) 0 1=F [z (Ze S p)]/\∃(c:TJ×A),((TC (m+n) e c.1/\c.1.i<I c.1.xs/\c.2=c.1.carry+c.1.xs.getD c.1.i 0+c.1.ys.getD c.1.i 0)/\c.1.xs.length-c.1.i=I x.xs-x.i)/\0=0/\x.xs.length=I c.1.xs/\0=0/\x.ys.length=I c.1.ys/\0=0/\x.xs.length+1=I c.1.xs+1/\J.wrap (J.wrap (E x.carry+J.wrap d)+J.wrap p)=E c.2/\E x.i=E c.1.i/\0=0/\x.xs.length=I c.1.xs/\E x.xs.length=E c.1.xs.length/\E x.i=E c.1.i/\202=202/\1=1/\(W x.xs=W c.1.xs\/QC (W x.xs) (W c.1.xs))/\202=202/\1=1/\(W x.ys=W c.1.ys\/QC (W x.ys) (W c.1.ys))/\202=202/\1=1/\(W x.out=W c.1.out\/QC (W x.out) (W c.1.out))/\L else ∃(c:TJ×A),((TC (m+n) e c.1/\c.1.i<I c.1.xs/\c.2=c.1.carry+c.1.xs.getD c.1.i 0+c.1.ys.getD c.1.i 0)/\c.1.xs.length-c.1.i=I x.xs-x.i)/\0=0/\x.xs.length=I c.1.xs/\0=0/\x.ys.length=I c.1.ys/\0=0/\x.xs.length+1=I c.1.xs+1/\J.wrap (E x.carry+J.wrap d)=E c.2/\E x.i=E c.1.i/\0=0/\x.xs.length=I c.1.xs/\E x.xs.length=E c.1.xs.length/\E x.i=E c.1.i/\202=202/\1=1/\(W x.xs=W c.1.xs\/QC (W x.xs) (W c.1.xs))/\202=202/\1=1/\(W x.ys=W c.1.ys\/QC (W x.ys) (W c.1.ys))/\202=202/\1=1/\(W x.out=W c.1.out\/QC (W x.out) (W c.1.out))/\L)/\∀(c:TJ×A),TC (m+n) e c.1/\c.1.i<I c.1.xs/\c.2=c.1.carry+c.1.xs.getD c.1.i 0+c.1.ys.getD c.1.i 0->I c.1.xs-c.1.i=I x.xs-x.i->(0<=E c.1.i/\E c.1.i<E (I c.1.xs+1))/\0+(E c.1.i).toNat<(W c.1.out).length/\(0:D)<=32/\∃(j:TJ),(TC (m+n) e j/\T.ofNat 0=0/\j.xs.length-j.i<I x.xs-x.i)/\0=0/\c.1.xs.length=I j.xs/\0=0/\c.1.ys.length=I j.ys/\0=0/\c.1.xs.length+1=I j.xs+1/\XE J (E c.2) 32=E j.carry/\0=0/\c.1.xs.length=I j.xs/\E c.1.xs.length=E j.xs.length/\Q.wrap (E c.1.i+1)=E j.i/\202=202/\1=1/\(W c.1.xs=W j.xs\/QC (W c.1.xs) (W j.xs))/\202=202/\1=1/\(W c.1.ys=W j.ys\/QC (W c.1.ys) (W j.ys))/\202=202/\1=1/\((W c.1.out).set (0+(E c.1.i).toNat) [z (Ze S (S.wrap (E c.2)))]=W j.out\/QC ((W c.1.out).set (0+(E c.1.i).toNat) [z (Ze S (S.wrap (E c.2)))]) (W j.out))/\L else(0<=E x.xs.length/\E x.xs.length<E (I x.xs+1))/\0+(E x.xs.length).toNat<(W x.out).length/\∃(q:C A),Zu (I x.xs+1) (Yh 0 ((W x.out).set (0+(E x.xs.length).toNat) [z (Ze S (S.wrap (E x.carry)))]))=W q/\(∀(d:A),d∈q->d<4294967296)/\q.length<=1099511627776/\K (AV.x G [Ch.b (QI 4294967296 q) (32*I q)])):=o4
variable{i:A}
theorem JG {l:C A}(h:l[i]? =F d):l.getD i 0=d:=by simp[q,h]
variable{t:A}
theorem TC.step {s e:A}{x:TJ}(h:TC s e x)(D:x.i<I x.xs)(b:t=x.carry+x.xs.getD x.i 0+x.ys.getD x.i 0):
  TC s e {x with out:=x.out.set x.i (t % 4294967296),carry:=t/4294967296,i:=x.i+1}:=by
 obtain⟨B,C,L,Y,X,W,_,hc,y,c⟩:=h;have V:=B.getD (i:=x.i) o3;have a:=C.getD (i:=x.i) o3;have T:x.xs[x.i]? =F (x.xs.getD x.i 0):=by rw[q,j D];rfl
 have U:(x.out.set x.i (t % 4294967296))[x.i]? =F (t % 4294967296):=by rw[Zq];simp;omega
 have R:QI 4294967296 (x.ys.take (x.i+1))=QI 4294967296 (x.ys.take x.i)+4294967296^x.i*x.ys.getD x.i 0:=by
  cases a:x.ys[x.i]? with
  | some d=>rw[Qa a,JG a]
  | none=>
   have:x.ys.length<=x.i:=(j9 a)
   rw[Qi o3,Qi o3];simp[q,a]
 refine⟨B,C,L.set (Yj _ o3),(j9 Y),X,W,D,o5,y,?_⟩;simp only;rw[Qa U,Xx,Qa T,R,Ya];generalize (4294967296:A)^x.i=p at c|-;generalize x.xs.getD x.i 0=u at b V;generalize x.ys.getD x.i 0=v at b a;have N:t=4294967296*(t/4294967296)+t % 4294967296:=(Yf t 4294967296).symm;have e2:p*t=p*x.carry+p*u+p*v:=by rw[b,Z,Z]
 have e3:p*t=p*4294967296*(t/4294967296)+p*(t % 4294967296):=by
  conv=>lhs;rw[N]
  rw[Z,r]
 omega
theorem ZQ{a:A}(h:m<2^a):wl m<=a+1:=by have:=Xe h;unfold wl;omega
theorem JD (m:A):m<4294967296^wl m:=by
 refine A.lt_of_lt_of_le (XM m) ?_
 rw[show(4294967296:A)=256^4 from rfl,<-A.pow_mul];exact Zt o3 (by unfold wl;omega)
theorem Qiq (m a n b:A)(K:AV->Prop)(ha:a<=549755813888)(hb:b<=549755813888)(hm:m<2^a)(hn:n<2^b)(hK: ∀av,NatIs (m+n) (max a b+1) av->K av):QM (uj m a n b (max a b+1) K):=by
 refine⟨?_⟩;rw[QIq];have V:m+n<2^(max a b+1):=by
  have s:2^a<=2^max a b:=Zt o3 o3;have R:2^b<=2^max a b:=Zt o3 o3;rw[Ya];omega
 have Lm:=ZQ hm;have be:=ZQ hn;have hB:max a b+1<=549755813889:=o3
 refine⟨QE (fun s=>QE (fun R=> ?_) (fun _=>⟨(),o6⟩)) (fun _=>⟨(),o6⟩),fun _ _ _=>⟨o3,o3,QE (fun s=> ?_) (fun s=> ?_),fun c L _=> ?_⟩⟩
 ·have k1:=Qh (m:=m) (k:=7);have k2:=Qh (m:=n) (k:=7);simp at s R;have l1:=k1.1 o3;have l2:=k2.1 o3;simp only[p];rw[YE o3];refine⟨o3,o3,o3,hK _ ?_⟩;rw[(o3:((m:D)+n).toNat=m+n)];exact .b V
 ·refine⟨(fd 4294967296 (wl n) n,fd 4294967296 (wl m) m),⟨⟨Dig.fd o3,Dig.fd o3,by simp at s;simp[Qn];omega,by simp[Qn];omega,by simp only;rw[Qz (JD n),Qz (JD m)];omega⟩,rfl⟩,?_⟩;simp[Qn]
 ·refine⟨(fd 4294967296 (wl m) m,fd 4294967296 (wl n) n),⟨⟨Dig.fd o3,Dig.fd o3,by simp at s;simp[Qn];omega,by simp[Qn];omega,by simp only;rw[Qz (JD n),Qz (JD m)]⟩,rfl⟩,?_⟩;simp[Qn]
 ·obtain⟨xs,N⟩:=c;obtain⟨dx,dy,ly,lx,W⟩:=L;simp only at dx dy ly lx W|-;simp only[p];rw[w64 o3,(o3:((I xs:D)+1).toNat=I xs+1)];refine⟨⟨o3,o3,o3,o3⟩,⟨⟨xs,N,h (I xs+1) 0,0,0⟩,⟨⟨dx,dy,Dig.zeros o3,o6,ly,lx,o6,o6,W,by simp[QI]⟩,trivial⟩,?_⟩,fun x y _=>QE (fun L=>⟨by simp at L;omega,?_⟩) (fun L=> ?_)⟩
  ·simp[dD]
  ·obtain⟨xs,N,C,r,i⟩:=x;have L:i<I xs:=(j9 L)
   obtain⟨d,Y⟩: ∃d,xs[i]? =F d:=⟨_,j L⟩
   have dd:=y.dx.get Y;have Z:=y.hc;have hl:=y.lx;simp only at dd Z hl|-;refine⟨d,by simpa using JF Y,QE (fun T=>⟨by simp at T;omega,?_⟩) (fun T=> ?_),fun x1 s ht=> ?_⟩
   ·have T:i<I N:=(j9 T)
    obtain⟨e,he⟩: ∃e,N[i]? =F e:=⟨_,j T⟩
    have de:=y.dy.get he;refine⟨e,by simpa using JF he,(⟨xs,N,C,r,i⟩,r+d+e),⟨⟨y,L,by simp only;rw[JG Y,JG he]⟩,rfl⟩,?_⟩;simp(disch:=omega) only[YE];simp
   ·have T: ¬i<I N:=(j9 T)
    refine⟨(⟨xs,N,C,r,i⟩,r+d),⟨⟨y,L,by simp only;rw[JG Y];simp[q,(o9:N[i]? =M)]⟩,rfl⟩,?_⟩;simp(disch:=omega) only[YE];simp
   ·obtain⟨⟨hZ,ja,At,X,i'⟩,t⟩:=x1;obtain⟨s,R,U⟩:=s;simp only at s R U ht|-;have hs:=s.step R U;have b1:=s.dx.getD (i:=i') o3;have b2:=s.dy.getD (i:=i') o3;have b3:=s.hc;have b4:=s.lz;have b5:=s.lx;simp only at b1 b2 b3 b4 b5;refine⟨o3,by rw[Wj];simp;omega,o3,_,⟨hs,o6,o5⟩,?_⟩;have e1:S.wrap (t:D)=((t % 4294967296:A):D):=by rw[Zv];simp
    simp only[];rw[JC o8 o6,w64 o3,e1];simp;rw[(o3:((t:D) % 4294967296)=((t % 4294967296:A):D))];exact .inl (Wy _ _ _)
  ·obtain⟨xs,N,C,r,i⟩:=x;have L: ¬i<I xs:=(j9 L)
   have hi:=y.hi;have lz:=y.lz;have Z:=y.hc;have hl:=y.lx;simp only at hi lz Z hl|-;have:i=I xs:=o3
   subst this;refine⟨o3,by rw[Wj];simp;omega,C.set xs.length r,?_,y.dz.set o3,o9,?_⟩
   ·rw[ZM o3];simp[Wy,aN];congr 1;rw[Yb o9]
   ·have hv:QI 4294967296 (C.set xs.length r)=m+n:=by
     have s:(C.set xs.length r)[I xs]? =F r:=by rw[Zq];simp;omega
     have R:=Qa (B:=4294967296) s;rw[Qi o9,Xx]at R;have U:=y.inv;simp only at U;rw[Qi (l:=xs) o3,Qi (l:=N) y.ly]at U;have:=y.sum;simp only at this;omega
    rw[hv];exact hK _ (.b V)
def eX:Ctr
 | [.x G [.b m a],.x G [.b n b]]=>F fun K=>(a<=549755813888/\b<=549755813888)/\K (bA (m+n) (max a b+1))
 | _=>M
theorem WA{x:AV}{a:C B}(h:Qu w O ρ (x:: .x G [.b m n]::l) a):m<2^n:=by
 cases h with
 | cons _ h=>exact W4 h
theorem Y5{g:A}{zb:C B}(h: ∀w O ρ a,Qu w O ρ l a->Eng.Spec P g zb f l K):Eng.Spec P g zb f l K:=
 fun w O a c e b=>h w O Y3 a b w O a c e b
theorem ok_Add {g:A}{zb:C B}:CtrOK Tryz.prog g zb 84 eX:=by
 refine⟨Qf func84 o4,fun l T c K e=> ?_⟩;unfold eX at c;split at c
 ·rename_i m a n b;cases c
  exact Y5 fun w O ρ p j=>KN (Qk uk QK func84 o4 o4 j6 (Qiq m a n b _ e.1.1 e.1.2 (W4 j) (WA j) fun _ h=>h)) e.2
 ·cases c
structure UM where
 cur:C A
 b:A
 i:A
structure UN (ds es:C A)(x:UM):Prop where
 dc:Dig 4294967296 x.cur
 lc:x.cur.length=ds.length
 hi:x.i<=ds.length
 hb:x.b<=1
 rest:x.cur.drop x.i=ds.drop x.i
 inv:QI 4294967296 (x.cur.take x.i)+QI 4294967296 (es.take x.i)=QI 4294967296 (ds.take x.i)+4294967296^x.i*x.b
def uX (a e:C A)(x:UM):C (A×AV):=[(0,wA 1000 a.length),(1,wA 1001 e.length),(4,iA .u64 x.b),(8,wA 1000 a.length),(9,iA .i64 a.length),(10,iA .i64 x.i)]
def QTJ (a e:C A):LI:=fun b=>bif b.beq 7 then .cut ⟨UM,fun x=>⟨(5,iA .i64 x.i)::(7,iA .u64 (((a.getD x.i 0:D)-x.b-e.getD x.i 0) % 18446744073709551616))::uX a e x,[(1000,Qs x.cur),(1001,Qs e)]⟩,
  fun x=>UN a e x/\x.i<I a,fun _=>0,fun x=>I a-x.i⟩
 else .inv ⟨UM,fun x=>⟨uX a e x,[(1000,Qs x.cur),(1001,Qs e)]⟩,UN a e,fun x=>I a-x.i,fun _=>0⟩
variable{v:A}
theorem UN.step {a e:C A}{x:UM}(h:UN a e x)(_dd:Dig 4294967296 a)(_de:Dig 4294967296 e)(y:x.i<I a){b':A}(W:v<4294967296)(U:b'<=1)
  (V:v+x.b+e.getD x.i 0=a.getD x.i 0+4294967296*b'):UN a e ⟨x.cur.set x.i v,b',x.i+1⟩:=by
 obtain⟨B,X,_,_,b,s⟩:=h;have T:(x.cur.set x.i v)[x.i]? =F v:=by rw[Zq];simp;omega
 have N:a[x.i]? =F (a.getD x.i 0):=by rw[q,j y];rfl
 have L:QI 4294967296 (e.take (x.i+1))=QI 4294967296 (e.take x.i)+4294967296^x.i*e.getD x.i 0:=by
  cases c:e[x.i]? with
  | some d=>rw[Qa c,JG c]
  | none=>
   have:e.length<=x.i:=(j9 c)
   rw[Qi o3,Qi o3];simp[q,c]
 refine⟨B.set W,(j9 X),y,U,?_,?_⟩
 ·simp only;rw[Zx o3];have:=R (Yh 1) b;rwa [Zz,Zz]at this
 ·simp only;rw[Qa T,Xx,Qa N,L,Ya];generalize (4294967296:A)^x.i=p at s|-;have D:p*(v+x.b+e.getD x.i 0)=p*(a.getD x.i 0+4294967296*b'):=by rw[V]
  rw[Z,Z,Z,<-r]at D;omega
def AF(a b c:A):=0<=E a/\E b<E c
def Ak:=202=202
def Ap(a:D):=AG S (S.wrap a)
def Ai(a:C A):=QI 4294967296 a
def Ae(a b c d:A)(e f:Prop)(g h i j:C A):=0=0/\a=b/\AD c d/\e/\Ak/\1=1/\f/\202=202/\1=1/\AH g h i j/\L
def Aj(a:A):=AX (E a)
def Au(a:D)(b:A):=J.wrap (J.wrap a-E b)
def An(a:C A)(b c:UM)(d:C A)(e:UM):=(E (a.getD b.i 0)-E c.b-E (d.getD e.i 0))%18446744073709551616
theorem Qe5 (s y:C A)(dd:Dig 4294967296 s)(de:Dig 4294967296 y)(hl:s.length<=1099511627776)(ja:y.length<=I s)(hv:QI 4294967296 y<=QI 4294967296 s):QM (Xp (X:=Y) T6 (oF f156) (QTJ s y) f156 [wA 1000 s.length,wA 1001 y.length] [(1000,Qs s),(1001,Qs y)] (fun _=>L)
 (fun _=>⟨[],[(1000,Qs (fd 4294967296 s.length (QI 4294967296 s-QI 4294967296 y))),(1001,Qs y)]⟩)):=by
 refine HV ((∃(x:UM),(UN s y x/\AE)/\0=0/\s.length=I s/\0=0/\y.length=I y/\0=E x.b/\Ae s.length s.length s.length s.length (0=E x.i) (AH s x.cur s x.cur) y y y y)/\∀(x:UM),UN s y x->AE->bif Ac x.i (E s.length)then AF x.i x.i s.length/\∃(d:D),AL x.cur (Aj x.i) d/\(bif Ac x.i (E y.length)then AF x.i x.i y.length/\∃(Z:D),AL y (Aj x.i) Z/\∃(r:UM),((UN s y r/\r.i<I s)/\AK s r.i=AK s x.i)/\AD x.i r.i/\J.wrap (Au d x.b-J.wrap Z)=An s r r y r/\0=0/\s.length=I s/\0=0/\y.length=I y/\AD x.b r.b/\Ae s.length s.length s.length s.length (AD x.i r.i) (AH x.cur r.cur x.cur r.cur) y y y y else∃(r:UM),((UN s y r/\r.i<I s)/\AK s r.i=AK s x.i)/\AD x.i r.i/\Au d x.b=An s r r y r/\0=0/\s.length=I s/\0=0/\y.length=I y/\AD x.b r.b/\Ae s.length s.length s.length s.length (AD x.i r.i) (AH x.cur r.cur x.cur r.cur) y y y y)/\∀(r:UM),UN s y r/\r.i<I s->AK s r.i=AK s x.i->AB<=63/\AF r.i r.i s.length/\Aj r.i<AN r.cur/\∃(V:UM),AS (UN s y V) (AK s V.i) (AK s x.i)/\0=0/\s.length=I s/\0=0/\y.length=I y/\XE J (An s r r y r) 63=E V.b/\Ae s.length s.length s.length s.length (Al r.i V.i) (AJ (W r.cur) (E r.i) (Ap (An s r r y r))=W V.cur\/QC (AJ (W r.cur) (E r.i) (Ap (An s r r y r))) (W V.cur)) y y y y else∃(_x_1:Y),L/\202=202/\1=1/\AH x.cur (AM s.length (Ai s-Ai y)) x.cur (AM s.length (Ai s-Ai y))/\Ak/\1=1/\AH y y y y/\L) ?_
 delta AG AN AX AB AD AJ AK AH AM AE AF Ak AL Ap AS Ac Ai Ae Aj Au Al An
 simp only[p,R0,R1,Ye,R4,R2];refine⟨⟨⟨s,0,0⟩,⟨dd,rfl,A.zero_le _,o6,rfl,by simp[QI]⟩,rfl,rfl,.inl rfl⟩,fun x U=>QE (fun N=>⟨by simp at N;omega,?_⟩) (fun N=> ?_)⟩
 ·obtain⟨B,b,i⟩:=x;have N:i<I s:=(j9 N)
  obtain⟨w,hw⟩: ∃w,s[i]? =F w:=⟨_,j N⟩
  have dw:=dd.get hw;have hb:=U.hb;have hZ:B[i]? =F w:=by
   have:=R (fun l:C A=>l[0]?) U.rest;simpa [hw]using this
  simp only at hb|-;refine⟨w,by simpa using JF hZ,QE (fun T=>⟨by simp at T;omega,?_⟩) (fun T=> ?_),fun x1 h1 ht=> ?_⟩
  ·have T:i<I y:=(j9 T)
   obtain⟨e,he⟩: ∃e,y[i]? =F e:=⟨_,j T⟩
   have dE:=de.get he;refine⟨e,by simpa using JF he,⟨B,b,i⟩,⟨⟨U,N⟩,rfl⟩,rfl,?_,rfl,rfl,.inl rfl⟩;simp only[JG hw,JG he,J5];omega
  ·have T: ¬i<I y:=(j9 T)
   have e0:y.getD i 0=0:=by simp[q,(o9:y[i]? =M)]
   refine⟨⟨B,b,i⟩,⟨⟨U,N⟩,rfl⟩,rfl,?_,rfl,rfl,.inl rfl⟩;simp only[JG hw,e0,J5];omega
  ·obtain⟨jc,b',i'⟩:=x1;obtain⟨h1,h2⟩:=h1;have hs:=fun v c=>h1.step dd de h2 (v:=v) (b':=c);have b1:=dd.getD (i:=i') o3;have b2:=de.getD (i:=i') o3;have b3:=h1.hb;have b4:=h1.lc;simp only at h2 ht b1 b2 b3 b4 hs|-;generalize s.getD i' 0=u at b1 hs;generalize y.getD i' 0=v at b2 hs;obtain⟨a,c,T,hc,he⟩: ∃a c:A,a<4294967296/\c<=1/\a+b'+v=u+4294967296*c:=by
    by_cases h:b'+v<=u
    ·exact⟨u-b'-v,0,o3,o3,o3⟩
    ·exact⟨u+4294967296-b'-v,1,o3,o3,o3⟩
   refine⟨o3,o3,by rw[Wj];simp;omega,_,⟨hs a c T hc he,o5⟩,?_,?_,?_⟩
   ·rw[JC o8 o3];simp only[show(63:D).toNat=63 from rfl];omega
   ·rw[w64 o3];simp
   ·have:S.wrap (((u:D)-b'-v) % 18446744073709551616)=(a:D):=by rw[Zv];omega
    rw[this];exact .inl (by simpa using Wy _ _ _)
 ·obtain⟨B,b,i⟩:=x;have N: ¬i<I s:=(j9 N)
  have hi:=U.hi;have lc:=U.lc;have At:=U.inv;have hb:=U.hb;have dc:=U.dc;simp only at hi lc At hb dc|-;have:i=I s:=o3
  subst this;rw[Qi (l:=B) o3,Qi (l:=y) ja,Qi (l:=s) o3]at At;have jb:=Jl dc;rw[lc]at jb;have Lm:b=0:=by
   rcases Yc.1 hb with h | h
   ·exact h
   ·subst h;omega
  subst Lm;have be:QI 4294967296 B=QI 4294967296 s-QI 4294967296 y:=o3
  exact⟨(),.inl (by rw[<-be,<-lc,VF dc o3])⟩
def lQ:XS:=fun b H _=>match b with
 | [.x G [.w k 0 n],.x G [.w c 0 h]]=>match H k,H c with
  | some (.row t 1 xs),F (.row j 1 y)=>bif t.beq 202&&j.beq 202&& !(k.beq c)then
    F fun K=> ∃a e,xs=W a/\y=W e/\n=I a/\h=I e/\Dig 4294967296 a/\Dig 4294967296 e/\a.length<=1099511627776/\e.length<=I a/\QI 4294967296 e<=QI 4294967296 a/\
     K (.t []) (XW [(1000,k),(1001,c)] (QO [(1000,Qs (fd 4294967296 a.length (QI 4294967296 a-QI 4294967296 e))),(1001,Qs e)]) H)
    else M
  | _,_=>M
 | _=>M
def L7:LC:=(84,eX)::L6
def M7:C (A×XS):=(156,lQ)::M2
noncomputable def T7:Qd:=mkT L7 M7 X3
theorem bg{q:A}{b a:Blk}(h:H k=F b)(e:H q=F a)(hk:k≠q)(l:Xt (F b)=true)(B:Xt (F a)=true)(f:freeB b=true)(y:freeB a=true):S8 [(1000,k),(1001,q)] H (QO [(1000,b),(1001,a)]):=by
 refine⟨o6,(j9 hk),fun p s=> ?_,fun c j=> ?_⟩
 ·simp at s;rcases s with rfl | rfl
  ·exact⟨b,rfl,h,l,f⟩
  ·exact⟨a,rfl,e,B,y⟩
 ·simp only[QO]at j;cases r:c.beq 1000 with
  | true=>simp[Zn r]
  | false=>
   rw[r]at j;cases e:c.beq 1001 with
   | true=>simp[Zn e]
   | false=>rw[e]at j;simp at j
theorem Kk{b:Blk}(h:H k=F b)(l:Xt (F b)=true)(f:freeB b=true):S8 [(1000,k)] H (QO [(1000,b)]):=by
 refine⟨o6,o6,fun p j=> ?_,fun c a=> ?_⟩
 ·simp at j;subst j;exact⟨b,rfl,h,l,f⟩
 ·simp only[QO]at a;cases e:c.beq 1000 with
  | true=>simp[Zn e]
  | false=>rw[e]at a;simp at a
theorem TG{a:A}(hk:k≠a):lkB [(1000,k),(1001,a)] k=F 1000/\lkB [(1000,k),(1001,a)] a=F 1001:=by
 constructor
 ·simp[lkB]
 ·have:a.beq k=G:=by
   cases h:a.beq k with
   | false=>rfl
   | true=>exact absurd (Zn h).symm hk
  simp[lkB,this]
theorem QZn {g:A}{zb:C B}:KL Tryz.prog g zb 156 lQ:=by
 refine⟨Qf func156 o4,fun l H d T c K L=> ?_⟩;unfold lQ at c;split at c
 ·rename_i k n W n2;split at c
  ·rename_i t xs t2 ys Z e2;cases q:t.beq 202&&t2.beq 202&& !(k.beq W)with
   | false=>rw[q]at c;cases c
   | true=>
    rw[q]at c;cases c
    simp only[a.and_eq_true,a.not_eq_true']at q;obtain⟨⟨V,r⟩,s⟩:=q;have V:=Zn V;have r:=Zn r;have s:k≠W:=fun e=>by subst e;simp at s
    subst V r;obtain⟨D,I,rfl,rfl,rfl,rfl,X,Y,hl,U,hv,L⟩:=L;refine Xc (R:=[(1000,k),(1001,W)]) (N:=[]) (Hl:=[(1000,Qs D),(1001,Qs I)]) uk QK func156 o4 o4 j6
     (as0:=[wA 1000 D.length,wA 1001 I.length]) ?_ (bg Z e2 s rfl rfl rfl rfl) rfl o6 o6 (fun _ h=>by cases h) (fun x=>⟨fun p y=> ?_,fun p y b q=> ?_⟩) (Qe5 D I X Y hl U hv) (fun x _=> ?_)
    ·simp[X7,X2,XZ,(TG s).1,(TG s).2,wA]
    ·simp at y;rcases y with rfl | rfl
     ·exact fun h=>by have j:F (Qs _)=M:=h;cases j
     ·exact fun h=>by have j:F (Qs _)=M:=h;cases j
    ·simp at y;rcases y with rfl | rfl
     ·have j:F (Qs _)=F b:=q;cases j;rfl
     ·have j:F (Qs _)=F b:=q;cases j;rfl
    ·exact⟨_,rfl,L⟩
  ·cases c
 ·cases c
theorem Qir {g:A}{zb:C B}:CtrsOK Tryz.prog g zb L7:= .cons ok_Add Qio
theorem dh {g:A}{zb:C B}:CtrMsOK Tryz.prog g zb M7:= .cons QZn Z2
theorem Qkx {g:A}{zb:C B}:XC Tryz.prog g zb T7:=QP Qir dh S1
def QIs (m a n b:A)(K:AV->Prop):Prop:=QN T7 (oF f126) noL f126 [bA m a,bA n b] K
theorem QIt (m:A)(a:A)(n:A)(b:A)(K:AV->Prop):QIs m a n b K=(bif decide (Je m n<0)then K (AV.t [(G,[z (Yq (Zr (Zw [])))]),(G,[z (Ze Q 1)])])else a<=1099511627776/\b<=1099511627776/\∃(e:C A)(h:C A),W (fd 4294967296 (wl m) m)=W e/\W (fd 4294967296 (wl n) n)=W h/\wl m=I e/\wl n=I h/\(∀(d:A),d∈e->d<4294967296)/\(∀(d:A),d∈h->d<4294967296)/\e.length<=1099511627776/\h.length<=I e/\QI 4294967296 h<=QI 4294967296 e/\∃(c:C A),Zu (wl m) (Yh 0 (W (fd 4294967296 e.length (QI 4294967296 e-QI 4294967296 h))))=W c/\(∀(d:A),d∈c->d<4294967296)/\c.length<=1099511627776/\K (AV.t [(G,[Ch.b (QI 4294967296 c) (32*I c)]),(G,[z (Ze Q 0)])])):=o4
def NatErr (m n:A)(c:D)(av:AV):Prop:= ∃x,av= .t [(G,[x]),(G,[.v (.int .i64 c)])]/\NatIs m n (.x G [x])
theorem NatErr.conc{c:D}{av:AV}{v:B}(h:NatErr m n c av)(j:ConcV w O ρ av v):ConcV w O ρ (.t [(G,[.b m n]),(G,[.v (.int .i64 c)])]) v:=by
 obtain⟨x,rfl,p⟩:=h;obtain⟨q,a,b⟩:=j;cases a with
 | cons a e=>exact⟨_,.cons (p.conc (av:= .x G [x]) a) e,b⟩
theorem QIu{g:A}{zb:C B}{c:D}(h:Eng.Spec P g zb f l (NatErr m n c))(hk:K (.t [(G,[.b m n]),(G,[.v (.int .i64 c)])])):Eng.Spec P g zb f l K:=
 Eng.Spec.res h fun _ _ _ _ b a=>⟨_,hk,b.conc a⟩
theorem cj(h:n<=m):wl n<=wl m:=by
 have a:(QB n).length<=(QB m).length:=Qh.2 (Yo h (XM m));unfold wl;omega
theorem Qis (m a n b:A)(s:a<=549755813888)(y:b<=549755813888)(p:m<2^a)(_hn:n<2^b):QM (QIs m a n b (NatErr (bif decide (m<n)then 0 else m-n) a (bif decide (m<n)then 1 else 0))):=by
 refine⟨?_⟩;rw[QIt];have r:=ZQ p;have j:0<2^a:=Yp o3;refine QE (fun e=> ?_) (fun e=> ?_)
 ·have h:m<n:=by
   unfold Je at e;rcases A.lt_or_ge m n with h | h
   ·exact h
   ·rw[X o3]at e;split at e<;>simp at e
  simp only[h,decide_true,R7];exact⟨_,rfl,j,.inr ⟨[],rfl,rfl⟩⟩
 ·have h: ¬m<n:=by
   intro h;unfold Je at e;rw[c h]at e;simp at e
  simp only[h,decide_false,R8];have q:QI 4294967296 (fd 4294967296 (wl m) (m-n))=m-n:=Qz (Yo (A.sub_le _ _) (JD m));refine⟨o3,o3,_,_,rfl,rfl,by rw[Qn],by rw[Qn],Dig.fd o3,Dig.fd o3,by rw[Qn];omega,by rw[Qn,Qn];exact cj o3,by rw[Qz (JD m),Qz (JD n)];omega,fd 4294967296 (wl m) (m-n),?_,Dig.fd o3,by rw[Qn];omega,_,rfl,?_⟩
  ·rw[Qz (JD m),Qz (JD n),Qn,Yv,aN,Yb (by rw[Qn];omega)]
  ·rw[q];exact .b o3
def cO:Ctr
 | [.x G [.b m a],.x G [.b n b]]=>F fun K=>(a<=549755813888/\b<=549755813888)/\K (.t [(G,[.b (bif decide (m<n)then 0 else m-n) a]),(G,[.v (.int .i64 (bif decide (m<n)then 1 else 0))])])
 | _=>M
theorem ok_Sub {g:A}{zb:C B}:CtrOK Tryz.prog g zb 126 cO:=by
 refine⟨Qf func126 o4,fun l T h K c=> ?_⟩;unfold cO at h;split at h
 ·rename_i m a n b;cases h
  exact Y5 fun w O ρ j e=>QIu (Qk Qkx QK func126 o4 o4 j6 (Qis m a n b c.1.1 c.1.2 (W4 e) (WA e))) c.2
 ·cases h
def L8:LC:=(126,cO)::L7
noncomputable def T8:Qd:=mkT L8 M7 X3
theorem u7 {g:A}{zb:C B}:CtrsOK Tryz.prog g zb L8:= .cons ok_Sub Qir
theorem Qiu {g:A}{zb:C B}:XC Tryz.prog g zb T8:=QP u7 dh S1
structure Td where
 out:C A
 i:A
structure Tu (xs ys:C A)(x:Td):Prop where
 dz:Dig 4294967296 x.out
 lz:x.out.length=I xs+ys.length
 hi:x.i<=xs.length
 zero:x.out.drop (x.i+I ys)=h (I xs-x.i) 0
 inv:QI 4294967296 (x.out.take (x.i+I ys))=QI 4294967296 (xs.take x.i)*QI 4294967296 ys
structure TQ where
 out:C A
 i:A
 carry:A
 k:A
structure Sv (xs ys:C A)(x:TQ):Prop where
 dz:Dig 4294967296 x.out
 lz:x.out.length=I xs+ys.length
 hi:x.i<xs.length
 hk:x.k<=ys.length
 hc:x.carry<4294967296
 zero:x.out.drop (x.i+I ys)=h (I xs-x.i) 0
 inv:QI 4294967296 (x.out.take (x.i+I ys))+4294967296^(x.i+x.k)*x.carry=QI 4294967296 (xs.take x.i)*QI 4294967296 ys+4294967296^x.i*(xs.getD x.i 0*QI 4294967296 (ys.take x.k))
def wP (xs y:C A)(i:A):C (A×AV):=[(5,wA 30 xs.length),(6,wA 32 y.length),(7,wA 38 (I xs+I y)),(39,wA 30 xs.length),(40,iA .i64 xs.length),(41,iA .i64 i)]
def Qiw (xs y a:C A):C (A×Blk):=[(30,Qs xs),(32,Qs y),(38,Qs a)]
def QNs (xs y:C A):LI:=fun a=>bif a.beq 11 then .inv ⟨TQ,fun x=>⟨(8,iA .i64 x.i)::(9,iA .u32 (xs.getD x.i 0:A))::(10,iA .u64 x.carry)::(46,wA 32 y.length)::(47,iA .i64 y.length)::(48,iA .i64 x.k)::wP xs y x.i,Qiw xs y x.out⟩,
  Sv xs y,fun x=>I y-x.k,fun x=>I xs-x.i⟩
 else .inv ⟨Td,fun x=>⟨wP xs y x.i,Qiw xs y x.out⟩,Tu xs y,fun x=>I xs-x.i,fun _=>0⟩
def qu (m a n b:A)(K:AV->Prop):Prop:=QN T8 (oF f86) (QNs (fd 4294967296 (wl m) m) (fd 4294967296 (wl n) n)) f86 [bA m a,bA n b] K
theorem QAz (m:A)(a:A)(n:A)(b:A)(K:AV->Prop):qu m a n b K=(bif decide (Q.wrap (E (QB m).length+E (QB n).length)<=8)then m<18446744073709551616/\n<18446744073709551616/\(0<=J.wrap (E m*E n)/\J.wrap (E m*E n)<18446744073709551616)/\K (AV.x G [Ch.b (J.wrap (E m*E n)).toNat 64])else a<=1099511627776/\b<=1099511627776/\(0<=Q.wrap (E (wl m)+E (wl n))/\Q.wrap (E (wl m)+E (wl n))<=Q.wrap (E (wl m)+E (wl n))/\4*Q.wrap (E (wl m)+E (wl n))<=281474976710656/\Q.wrap (E (wl m)+E (wl n))<=9223372036854775807)/\(∃(x:Td),(Tu (fd 4294967296 (wl m) m) (fd 4294967296 (wl n) n) x/\T.ofNat 0=0)/\0=0/\wl m=(fd 4294967296 (wl m) m).length/\0=0/\wl n=(fd 4294967296 (wl n) n).length/\0=0/\(Q.wrap (E (wl m)+E (wl n))).toNat=(fd 4294967296 (wl m) m).length+(fd 4294967296 (wl n) n).length/\0=0/\wl m=(fd 4294967296 (wl m) m).length/\E (wl m)=E (fd 4294967296 (wl m) m).length/\0=E x.i/\202=202/\1=1/\(W (fd 4294967296 (wl m) m)=W (fd 4294967296 (wl m) m)\/QC (W (fd 4294967296 (wl m) m)) (W (fd 4294967296 (wl m) m)))/\202=202/\1=1/\(W (fd 4294967296 (wl n) n)=W (fd 4294967296 (wl n) n)\/QC (W (fd 4294967296 (wl n) n)) (W (fd 4294967296 (wl n) n)))/\202=202/\1=1/\(h (Q.wrap (E (wl m)+E (wl n))).toNat [z (Ze S 0)]=W x.out\/QC (h (Q.wrap (E (wl m)+E (wl n))).toNat [z (Ze S 0)]) (W x.out))/\L)/\∀(x:Td),Tu (fd 4294967296 (wl m) m) (fd 4294967296 (wl n) n) x->T.ofNat 0=0->bif decide (E x.i<E (fd 4294967296 (wl m) m).length)then(0<=E x.i/\E x.i<E (fd 4294967296 (wl m) m).length)/\∃(d:D),ldE (W (fd 4294967296 (wl m) m)) (0+(E x.i).toNat) 0 1=F [z (Ze S d)]/\(∃(c:TQ),(Sv (fd 4294967296 (wl m) m) (fd 4294967296 (wl n) n) c/\(fd 4294967296 (wl m) m).length-c.i=(fd 4294967296 (wl m) m).length-x.i)/\E x.i=E c.i/\d=E ((fd 4294967296 (wl m) m).getD c.i 0)/\0=E c.carry/\0=0/\(fd 4294967296 (wl n) n).length=(fd 4294967296 (wl n) n).length/\E (fd 4294967296 (wl n) n).length=E (fd 4294967296 (wl n) n).length/\0=E c.k/\0=0/\(fd 4294967296 (wl m) m).length=(fd 4294967296 (wl m) m).length/\0=0/\(fd 4294967296 (wl n) n).length=(fd 4294967296 (wl n) n).length/\0=0/\(fd 4294967296 (wl m) m).length+(fd 4294967296 (wl n) n).length=(fd 4294967296 (wl m) m).length+(fd 4294967296 (wl n) n).length/\0=0/\(fd 4294967296 (wl m) m).length=(fd 4294967296 (wl m) m).length/\E (fd 4294967296 (wl m) m).length=E (fd 4294967296 (wl m) m).length/\E x.i=E c.i/\202=202/\1=1/\(W (fd 4294967296 (wl m) m)=W (fd 4294967296 (wl m) m)\/QC (W (fd 4294967296 (wl m) m)) (W (fd 4294967296 (wl m) m)))/\202=202/\1=1/\(W (fd 4294967296 (wl n) n)=W (fd 4294967296 (wl n) n)\/QC (W (fd 4294967296 (wl n) n)) (W (fd 4294967296 (wl n) n)))/\202=202/\1=1/\(W x.out=W c.out\/QC (W x.out) (W c.out))/\L)/\∀(c:TQ),Sv (fd 4294967296 (wl m) m) (fd 4294967296 (wl n) n) c->(fd 4294967296 (wl m) m).length-c.i=(fd 4294967296 (wl m) m).length-x.i->bif decide (E c.k<E (fd 4294967296 (wl n) n).length)then(0<=E c.k/\E c.k<E (fd 4294967296 (wl n) n).length)/\∃(d:D),ldE (W (fd 4294967296 (wl n) n)) (0+(E c.k).toNat) 0 1=F [z (Ze S d)]/\(0<=Q.wrap (E c.i+E c.k)/\Q.wrap (E c.i+E c.k)<E ((fd 4294967296 (wl m) m).length+(fd 4294967296 (wl n) n).length))/\∃(j:D),ldE (W c.out) (0+(Q.wrap (E c.i+E c.k)).toNat) 0 1=F [z (Ze S j)]/\(0<=Q.wrap (E c.i+E c.k)/\Q.wrap (E c.i+E c.k)<E ((fd 4294967296 (wl m) m).length+(fd 4294967296 (wl n) n).length))/\0+(Q.wrap (E c.i+E c.k)).toNat<(W c.out).length/\(0:D)<=32/\∃(e:TQ),(Sv (fd 4294967296 (wl m) m) (fd 4294967296 (wl n) n) e/\(fd 4294967296 (wl m) m).length-e.i=(fd 4294967296 (wl m) m).length-x.i/\(fd 4294967296 (wl n) n).length-e.k<(fd 4294967296 (wl n) n).length-c.k)/\E c.i=E e.i/\E ((fd 4294967296 (wl m) m).getD c.i 0)=E ((fd 4294967296 (wl m) m).getD e.i 0)/\XE J (J.wrap (E c.carry+J.wrap (J.wrap (J.wrap (E ((fd 4294967296 (wl m) m).getD c.i 0))*J.wrap d)+J.wrap j))) 32=E e.carry/\0=0/\(fd 4294967296 (wl n) n).length=(fd 4294967296 (wl n) n).length/\E (fd 4294967296 (wl n) n).length=E (fd 4294967296 (wl n) n).length/\Q.wrap (E c.k+1)=E e.k/\0=0/\(fd 4294967296 (wl m) m).length=(fd 4294967296 (wl m) m).length/\0=0/\(fd 4294967296 (wl n) n).length=(fd 4294967296 (wl n) n).length/\0=0/\(fd 4294967296 (wl m) m).length+(fd 4294967296 (wl n) n).length=(fd 4294967296 (wl m) m).length+(fd 4294967296 (wl n) n).length/\0=0/\(fd 4294967296 (wl m) m).length=(fd 4294967296 (wl m) m).length/\E (fd 4294967296 (wl m) m).length=E (fd 4294967296 (wl m) m).length/\E c.i=E e.i/\202=202/\1=1/\(W (fd 4294967296 (wl m) m)=W (fd 4294967296 (wl m) m)\/QC (W (fd 4294967296 (wl m) m)) (W (fd 4294967296 (wl m) m)))/\202=202/\1=1/\(W (fd 4294967296 (wl n) n)=W (fd 4294967296 (wl n) n)\/QC (W (fd 4294967296 (wl n) n)) (W (fd 4294967296 (wl n) n)))/\202=202/\1=1/\((W c.out).set (0+(Q.wrap (E c.i+E c.k)).toNat) [z (Ze S (S.wrap (J.wrap (E c.carry+J.wrap (J.wrap (J.wrap (E ((fd 4294967296 (wl m) m).getD c.i 0))*J.wrap d)+J.wrap j)))))]=W e.out\/QC ((W c.out).set (0+(Q.wrap (E c.i+E c.k)).toNat) [z (Ze S (S.wrap (J.wrap (E c.carry+J.wrap (J.wrap (J.wrap (E ((fd 4294967296 (wl m) m).getD c.i 0))*J.wrap d)+J.wrap j)))))]) (W e.out))/\L else(0<=Q.wrap (E c.i+E (fd 4294967296 (wl n) n).length)/\Q.wrap (E c.i+E (fd 4294967296 (wl n) n).length)<E ((fd 4294967296 (wl m) m).length+(fd 4294967296 (wl n) n).length))/\0+(Q.wrap (E c.i+E (fd 4294967296 (wl n) n).length)).toNat<(W c.out).length/\∃(e:Td),(Tu (fd 4294967296 (wl m) m) (fd 4294967296 (wl n) n) e/\T.ofNat 0=0/\(fd 4294967296 (wl m) m).length-e.i<(fd 4294967296 (wl m) m).length-x.i)/\0=0/\(fd 4294967296 (wl m) m).length=(fd 4294967296 (wl m) m).length/\0=0/\(fd 4294967296 (wl n) n).length=(fd 4294967296 (wl n) n).length/\0=0/\(fd 4294967296 (wl m) m).length+(fd 4294967296 (wl n) n).length=(fd 4294967296 (wl m) m).length+(fd 4294967296 (wl n) n).length/\0=0/\(fd 4294967296 (wl m) m).length=(fd 4294967296 (wl m) m).length/\E (fd 4294967296 (wl m) m).length=E (fd 4294967296 (wl m) m).length/\Q.wrap (E c.i+1)=E e.i/\202=202/\1=1/\(W (fd 4294967296 (wl m) m)=W (fd 4294967296 (wl m) m)\/QC (W (fd 4294967296 (wl m) m)) (W (fd 4294967296 (wl m) m)))/\202=202/\1=1/\(W (fd 4294967296 (wl n) n)=W (fd 4294967296 (wl n) n)\/QC (W (fd 4294967296 (wl n) n)) (W (fd 4294967296 (wl n) n)))/\202=202/\1=1/\((W c.out).set (0+(Q.wrap (E c.i+E (fd 4294967296 (wl n) n).length)).toNat) [z (Ze S (S.wrap (E c.carry)))]=W e.out\/QC ((W c.out).set (0+(Q.wrap (E c.i+E (fd 4294967296 (wl n) n).length)).toNat) [z (Ze S (S.wrap (E c.carry)))]) (W e.out))/\L else ∃(p:C A),Zu ((fd 4294967296 (wl m) m).length+(fd 4294967296 (wl n) n).length) (Yh 0 (W x.out))=W p/\(∀(d:A),d∈p->d<4294967296)/\p.length<=1099511627776/\K (AV.x G [Ch.b (QI 4294967296 p) (32*I p)])):=o4
variable{xs:C A}
theorem Sv.step{y:C A}{x:TQ}(h:Sv xs y x)(e:Dig 4294967296 xs)(p:Dig 4294967296 y)(hk:x.k<I y)(T:t=x.carry+(xs.getD x.i 0*y.getD x.k 0+x.out.getD (x.i+x.k) 0)):
  Sv xs y ⟨x.out.set (x.i+x.k) (t % 4294967296),x.i,t/4294967296,x.k+1⟩:=by
 obtain⟨b,V,R,_,hc,zero,U⟩:=h;have W:=e.getD (i:=x.i) o3;have X:=p.getD (i:=x.k) o3;have Y:=b.getD (i:=x.i+x.k) o3;have N:(x.out.take (x.i+I y))[x.i+x.k]? =F (x.out.getD (x.i+x.k) 0):=by
  rw[C.getElem?_take,c o3,q,j o3];rfl
 have L:y[x.k]? =F (y.getD x.k 0):=by rw[q,j hk];rfl
 have hs:=Uq (B:=4294967296) (v:=t % 4294967296) N;have a:t<4294967296*4294967296:=by
  have:xs.getD x.i 0*y.getD x.k 0<=4294967295*4294967295:=Yi o3 o3;omega
 refine⟨b.set (Yj _ o3),(j9 V),R,hk,Ym a,?_,?_⟩
 ·simp only;rw[Zx o3];exact zero
 ·simp only;rw[C.take_set,Qa L,(o3:x.i+(x.k+1)=x.i+x.k+1),Ya];have s:4294967296^(x.i+x.k)=4294967296^x.i*4294967296^x.k:=Yl _ _ _;have e4:4294967296^(x.i+x.k)*t=4294967296^(x.i+x.k)*x.carry+4294967296^(x.i+x.k)*(xs.getD x.i 0*y.getD x.k 0)+4294967296^(x.i+x.k)*x.out.getD (x.i+x.k) 0:=by
   rw[T,Z,Z,A.add_assoc]
  have e5:4294967296^(x.i+x.k)*t=4294967296^(x.i+x.k)*4294967296*(t/4294967296)+4294967296^(x.i+x.k)*(t % 4294967296):=by
   conv=>lhs;rw[<-Yf t 4294967296]
   rw[Z,r]
  have D:4294967296^x.i*(xs.getD x.i 0*(QI 4294967296 (y.take x.k)+4294967296^x.k*y.getD x.k 0))=4294967296^x.i*(xs.getD x.i 0*QI 4294967296 (y.take x.k))+4294967296^(x.i+x.k)*(xs.getD x.i 0*y.getD x.k 0):=by
   rw[s];grind
  rw[D];omega
theorem Sv.done{y:C A}{x:TQ}(h:Sv xs y x)(hk:x.k=I y):Tu xs y ⟨x.out.set (x.i+I y) x.carry,x.i+1⟩:=by
 obtain⟨c,s,b,_,r,zero,a⟩:=h;rw[hk]at a;have p:(x.out.set (x.i+I y) x.carry)[x.i+I y]? =F x.carry:=by rw[Zq];simp;omega
 have e:xs[x.i]? =F (xs.getD x.i 0):=by rw[q,j b];rfl
 refine⟨c.set r,(j9 s),b,?_,?_⟩
 ·simp only;rw[Zx o3];have:=R (Yh 1) zero;rw[Zz,C.drop_replicate]at this;rw[(o3:x.i+1+I y=x.i+I y+1),this];congr 1
 ·simp only;rw[(o3:x.i+1+I y=x.i+I y+1),Qa p,Xx,Qa e,a,Qi (Yu _)];grind
theorem tu (m a n b:A)(K:AV->Prop)(ha:a<=274877906944)(hb:b<=274877906944)(hm:m<2^a)(hn:n<2^b)(hK: ∀av,NatIs (m*n) (a+b) av->K av):QM (qu m a n b K):=by
 refine⟨?_⟩;rw[QAz];have Y:m*n<2^(a+b):=by rw[Yl];exact A.mul_lt_mul'' hm hn
 have Lm:=ZQ hm;have be:=ZQ hn;have lm:=Xe hm;have ln:=Xe hn;refine QE (fun T=> ?_) (fun T=> ?_)
 ·have T:=R5 T;simp only[p]at T⊢;rw[w64 o3]at T;have T:(QB m).length+(QB n).length<=8:=o3
  have k1:=XM m;have k2:=XM n;have k3:m*n<256^((QB m).length+(QB n).length):=by rw[Yl];exact A.mul_lt_mul'' k1 k2
  have k4:(256:A)^((QB m).length+(QB n).length)<=256^8:=Zt o3 T;have k5:(256:A)^(QB m).length<=256^8:=Zt o3 o3;have k6:(256:A)^(QB n).length<=256^8:=Zt o3 o3;have e1:((m:D)*n)=((m*n:A):D):=o6
  rw[e1,YE o3,y];exact⟨o3,o3,o3,hK _ (.b Y)⟩
 ·have vx:QI 4294967296 (fd 4294967296 (wl m) m)=m:=Qz (JD m);have vy:QI 4294967296 (fd 4294967296 (wl n) n)=n:=Qz (JD n);have dx:Dig 4294967296 (fd 4294967296 (wl m) m):=Dig.fd o3;have dy:Dig 4294967296 (fd 4294967296 (wl n) n):=Dig.fd o3;have lx:(fd 4294967296 (wl m) m).length=wl m:=Qn;have ly:(fd 4294967296 (wl n) n).length=wl n:=Qn;generalize fd 4294967296 (wl m) m=xs at*;generalize fd 4294967296 (wl n) n=X at*;simp only[p,R0,R1,Ye,R4,R2];rw[w64 o3];have e1:((wl m:D)+wl n).toNat=I xs+I X:=o3
  simp only[e1,lx,ly,R0];rw[<-lx,<-ly];refine⟨o3,o3,⟨o3,o3,o3⟩,⟨⟨h (I xs+I X) 0,0⟩,⟨Dig.zeros o3,o6,o6,o6,by simp[QI,UJ,C.take_replicate]⟩,rfl,.inl (dD _)⟩,fun x N=>QE (fun U=> ?_) (fun U=> ?_)⟩
  ·obtain⟨R,i⟩:=x;have U:i<I xs:=(j9 U)
   obtain⟨w,hw⟩: ∃w,xs[i]? =F w:=⟨_,j U⟩
   simp only at N|-;refine⟨o3,w,by simpa using JF hw,⟨⟨R,i,0,0⟩,⟨⟨N.dz,N.lz,U,o6,o6,N.zero,?_⟩,rfl⟩,rfl,by simp only;rw[JG hw],rfl,rfl,rfl,.inl rfl⟩,fun e L ht=>QE (fun V=> ?_) (fun V=> ?_)⟩
   ·have:=N.inv;simp only at this|-;rw[this];simp[QI]
   ·obtain⟨r,s,B,k⟩:=e;have V:k<I X:=(j9 V)
    obtain⟨v,hv⟩: ∃v,X[k]? =F v:=⟨_,j V⟩
    have hs:=fun t=>L.step dx dy V (t:=t);have b1:=dx.getD (i:=s) o3;have b2:=dy.get hv;have b3:=L.dz.getD (i:=s+k) o3;have b4:=L.hc;have Z:=L.hi;have b6:=L.lz;have gz:r[s+k]? =F (r.getD (s+k) 0):=by rw[q,j (by simp only at Z b6;omega)];rfl
    simp only at hs b1 b2 b3 b4 Z b6 ht|-;rw[JG hv]at hs;have f1:Q.wrap ((s:D)+k)=((s+k:A):D):=by rw[w64 o3];simp
    simp only[f1,y];have At:xs.getD s 0*v<=4294967295*4294967295:=Yi o3 o3;have f2:J.wrap ((B:D)+J.wrap (J.wrap (J.wrap ((xs.getD s 0:A):D)*J.wrap (v:D))+J.wrap ((r.getD (s+k) 0:A):D)))=((B+(xs.getD s 0*v+r.getD (s+k) 0):A):D):=by
     have e0:(((xs.getD s 0:A):D)*(v:D))=((xs.getD s 0*v:A):D):=o6
     rw[YE (n:=((xs.getD s 0:A):D)) o3,YE (n:=(v:D)) o3,YE (n:=((r.getD (s+k) 0:A):D)) o3,e0];generalize xs.getD s 0*v=c at At|-;rw[YE (n:=(c:D)) o3,YE (n:=(c:D)+_) o3,YE o3];simp
    refine⟨o3,v,by simpa using JF hv,o3,_,JF gz,o3,by rw[Wj];omega,o3,_,⟨hs _ rfl,ht,o5⟩,?_⟩;rw[f2,JC o8 o3,w64 o3];generalize B+(xs.getD s 0*v+r.getD (s+k) 0)=t;have e2:S.wrap (t:D)=((t % 4294967296:A):D):=by rw[Zv];simp
    rw[e2,Wy];refine⟨rfl,rfl,?_,o6,rfl,.inl rfl⟩;simp only[show(32:D).toNat=32 from rfl];omega
   ·obtain⟨r,s,B,k⟩:=e;have V: ¬k<I X:=(j9 V)
    have hk:=L.hk;have b4:=L.hc;have Z:=L.hi;have b6:=L.lz;have hd:=L.done (by simp only at hk|-;omega);simp only at b4 Z b6 ht hd|-;have f1:Q.wrap ((s:D)+I X)=((s+I X:A):D):=by rw[w64 o3];simp
    simp only[f1,y];refine⟨o3,by rw[Wj];omega,_,⟨hd,o5⟩,?_⟩;rw[w64 o3,ZM o3,Wy];exact⟨o6,.inl rfl⟩
  ·obtain⟨R,i⟩:=x;have U: ¬i<I xs:=(j9 U)
   have hi:=N.hi;have lz:=N.lz;have W:=N.inv;simp only at hi lz W|-;have:i=I xs:=o3
   subst this;refine⟨R,?_,N.dz,o3,?_⟩
   ·rw[Yv,aN,Yb o3]
   ·rw[Qi (l:=R) o3,Qi (l:=xs) o3,vx,vy]at W;rw[W];exact hK _ (.b Y)
def af:Ctr
 | [.x G [.b m a],.x G [.b n b]]=>F fun K=>(a<=274877906944/\b<=274877906944)/\K (bA (m*n) (a+b))
 | _=>M
theorem ok_Mul {g:A}{zb:C B}:CtrOK Tryz.prog g zb 86 af:=by
 refine⟨Qf func86 o4,fun l T c K e=> ?_⟩;unfold af at c;split at c
 ·rename_i m a n b;cases c
  exact Y5 fun w O ρ p j=>KN (Qk Qiu QK func86 o4 o4 j6 (tu m a n b _ e.1.1 e.1.2 (W4 j) (WA j) fun _ h=>h)) e.2
 ·cases c
def L9:LC:=(86,af)::L8
noncomputable def T9:Qd:=mkT L9 M7 X3
theorem Qix {g:A}{zb:C B}:CtrsOK Tryz.prog g zb L9:= .cons ok_Mul u7
theorem fF {g:A}{zb:C B}:XC Tryz.prog g zb T9:=QP Qix dh S1
structure ZA where
 out:C A
 i:A
structure ZO (xs:C A)(s:A)(x:ZA):Prop where
 dz:Dig 4294967296 x.out
 lz:x.out.length=I xs+1
 hi:x.i<=xs.length
 top:x.out.getD x.i 0<2^s
 zero:x.out.drop (x.i+1)=h (I xs-x.i) 0
 inv:QI 4294967296 (x.out.take (x.i+1))=QI 4294967296 (xs.take x.i)*2^s
def QTK (xs:C A)(s:A):LI:=fun _=> .inv ⟨ZA,fun x=>⟨[(1,iA .i64 s),(5,wA 12 (I xs+1)),(13,wA 1000 xs.length),(14,iA .i64 xs.length),(15,iA .i64 x.i)],[(1000,Qs xs),(12,Qs x.out)]⟩,ZO xs s,fun x=>I xs-x.i,fun _=>0⟩
theorem ZO.step{s:A}{x:ZA}(h:ZO xs s x)(X:Dig 4294967296 xs)(hs:s<32)(hi:x.i<I xs){w:A}(V:xs[x.i]? =F w):
  orI .u32 (x.out.getD x.i 0:A) (w*2^s % 4294967296:A)=((x.out.getD x.i 0+w*2^s % 4294967296:A):D)/\
  ZO xs s ⟨(x.out.set x.i (x.out.getD x.i 0+w*2^s % 4294967296)).set (x.i+1) (w*2^s/4294967296),x.i+1⟩:=by
 obtain⟨Y,lz,_,L,zero,y⟩:=h;have W:=X.get V;obtain⟨p,hp⟩: ∃p,2^s=p:=⟨_,rfl⟩;obtain⟨q,hq⟩: ∃q,2^(32-s)=q:=⟨_,rfl⟩;have e:p*q=4294967296:=by rw[<-hp,<-hq,<-Yl,(o3:s+(32-s)=32)]
 have N:0<p:=by rw[<-hp];exact Yp o3
 have T:0<q:=by rw[<-hq];exact Yp o3
 have e1:w*p % 4294967296=p*(w % q):=by rw[<-e,Yr w p,A.mul_mod_mul_left]
 have e2:w*p/4294967296=w/q:=by rw[<-e,Yr w p,A.mul_div_mul_left _ _ N]
 have e3:p*(w % q)+p<=4294967296:=by
  rw[<-e];have:p*(w % q+1)<=p*q:=A.mul_le_mul_left _ (Yj _ T);rwa [Z,A.mul_one]at this
 have e4:w/q<p:=by
  apply Ym;rw[Yr,e];exact W
 have U:p<=4294967296:=o3
 rw[hp]at L y⊢;rw[e1,e2];have gi:x.out[x.i]? =F (x.out.getD x.i 0):=by rw[Zi,j o3];rfl
 refine⟨?_,?_⟩
 ·rw[VD];have:=pP (a:=w % q) (b:=x.out.getD x.i 0) (s:=s) (by rw[hp];exact L) (by rw[hp];omega);rw[hp]at this;rw[this,Yn]
 ·refine⟨(Y.set o3).set o3,(j9 lz),hi,?_,?_,?_⟩
  ·simp only;rw[JG (d:=w/q) (by rw[Zq];simp;omega),hp];exact e4
  ·simp only;rw[Zx o3,Zx o3];have:=R (Yh 1) zero;rw[Zz,C.drop_replicate]at this;rw[this];congr 1
  ·simp only;have g1:((x.out.set x.i (x.out.getD x.i 0+p*(w % q))).set (x.i+1) (w/q))[x.i+1]? =F (w/q):=by rw[Zq];simp;omega
   rw[Qa g1,Xx,C.take_set,Qa V,A.add_mul,hp,<-y];have g2:(x.out.take (x.i+1))[x.i]? =F (x.out.getD x.i 0):=by rw[C.getElem?_take,c o3];exact gi
   have h3:=Uq (B:=4294967296) (v:=x.out.getD x.i 0+p*(w % q)) g2;rw[Z]at h3;rw[Ya];have e5:4294967296^x.i*w*p=4294967296^x.i*(p*(w % q))+4294967296^x.i*4294967296*(w/q):=by
    have:w*p=p*(w % q)+4294967296*(w/q):=by
     conv=>lhs;rw[<-Yf w q]
     rw[<-e];grind
    rw[r,this,Z,r]
   omega
def AQ(a:C A):=I a+1
def Aa(a:C A):=Q.wrap (E a.length+1)
def Aq(a:D)(b:A):=YM J (J.wrap a) (E b)
def Ao(a:ZA):=Q.wrap (E a.i+1)
theorem Qe6 (xs:C A)(s:A)(T:Dig 4294967296 xs)(hs:s<32)(hl:xs.length<=1099511627776):QM (Xp (X:=Y) T9 (oF f182) (QTK xs s) f182 [wA 1000 xs.length,iA .i64 s] [(1000,Qs xs)] (fun _=>L)
 (fun _=>⟨[(4,wA 1001 (I xs+1))],[(1000,Qs xs),(1001,Qs (fd 4294967296 (I xs+1) (QI 4294967296 xs*2^s)))]⟩)):=by
 refine HV (A2 (Aa xs) (Aa xs) (Aa xs) 4 (Aa xs) (Aa xs)/\(∃(x:ZA),(ZO xs s x/\AE)/\AD s s/\0=0/\(Aa xs).toNat=AQ xs/\0=0/\xs.length=I xs/\AD xs.length xs.length/\0=E x.i/\Ak/\1=1/\AH xs xs xs xs/\202=202/\1=1/\(h (Aa xs).toNat (AG S 0)=W x.out\/QC (h (Aa xs).toNat (AG S 0)) (W x.out))/\L)/\∀(x:ZA),ZO xs s x->AE->bif Ac x.i (E xs.length)then AF x.i x.i xs.length/\∃(d:D),AL xs (Aj x.i) d/\0<=E s/\AF x.i x.i (AQ xs)/\∃(a:D),AL x.out (Aj x.i) a/\AF x.i x.i (AQ xs)/\Aj x.i<AN x.out/\AB<=32/\(0<=Ao x/\Ao x<E (AQ xs))/\AX (Ao x)<(As x.out (E x.i) a (S.wrap (Aq d s))).length/\∃(N:ZA),AS (ZO xs s N) (AK xs N.i) (AK xs x.i)/\AD s s/\0=0/\AQ xs=AQ xs/\0=0/\xs.length=I xs/\AD xs.length xs.length/\Al x.i N.i/\Ak/\1=1/\AH xs xs xs xs/\202=202/\1=1/\(AJ (As x.out (E x.i) a (S.wrap (Aq d s))) (Ao x) (Ap (XE J (Aq d s) 32))=W N.out\/QC (AJ (As x.out (E x.i) a (S.wrap (Aq d s))) (Ao x) (Ap (XE J (Aq d s) 32))) (W N.out))/\L else∃(_x_1:Y),L/\0=0/\AQ xs=AQ xs/\202=202/\1=1/\AH xs xs xs xs/\Ak/\1=1/\AH x.out (AM (AQ xs) (Ai xs*2^s)) x.out (AM (AQ xs) (Ai xs*2^s))/\L) ?_
 delta AG AN AX AB AD AJ AK AH AM AE AF Ak AL Ap AQ AS Ac Ai Aj Aa Al As Aq Ao A2
 simp only[p,R0,R1,Ye,R4,R2];rw[w64 o3,(o3:((I xs:D)+1).toNat=I xs+1)];simp only[R0];refine⟨⟨o3,o3,o3⟩,⟨⟨h (I xs+1) 0,0⟩,⟨Dig.zeros o3,o6,o6,by simp[q];exact Yp o3,o6,by simp[QI]⟩,rfl,.inl (dD _)⟩,fun x r=>QE (fun c=> ?_) (fun c=> ?_)⟩
 ·obtain⟨b,i⟩:=x;have c:i<I xs:=(j9 c)
  obtain⟨w,hw⟩: ∃w,xs[i]? =F w:=⟨_,j c⟩
  obtain⟨V,Z⟩:=r.step T hs c hw;have B:=r.lz;have dw:=T.get hw;have gz:b[i]? =F (b.getD i 0):=by rw[q,j (by simp only at B;omega)];rfl
  simp only at V Z B|-;have R:(2:A)^s<=2^31:=Zt o3 o3;have At:w*2^s<=4294967295*2^31:=Yi o3 R;have f1:YM .u64 (J.wrap (w:D)) (s:D)=((w*2^s:A):D):=by
   rw[YE o3,UI (by simp[Ys];omega),y];have:(w:D)*2^s=((w*2^s:A):D):=o6
   rw[this];exact YE o3
  have f2:S.wrap ((w*2^s:A):D)=((w*2^s % 4294967296:A):D):=by rw[Zv];simp
  have f3:S.wrap (XE .u64 ((w*2^s:A):D) 32)=((w*2^s/4294967296:A):D):=by
   rw[JC o8 o3];simp only[show(32:D).toNat=32 from rfl];rw[ZM o3];omega
  have f4:Q.wrap ((i:D)+1)=((i+1:A):D):=by rw[w64 o3];simp
  simp only[f4,y];refine⟨o3,w,JF hw,o3,o3,_,JF gz,o3,by rw[Wj];omega,o3,o3,by rw[Yg,Wj];omega,_,⟨Z,o5⟩,rfl,.inl ?_⟩;rw[f1,f2,f3,V,Wy,Wy]
 ·obtain⟨b,i⟩:=x;have c: ¬i<I xs:=(j9 c)
  have hi:=r.hi;have B:=r.lz;have e:=r.inv;have U:=r.dz;simp only at hi B e U|-;have:i=I xs:=o3
  subst this;rw[Qi (l:=b) o3,Qi (l:=xs) o3]at e;exact⟨(),.inl (by rw[<-e,<-B,VF U o3])⟩
def lF:XS:=fun b H d=>match b with
 | [.x G [.w k 0 n],.x G [.v (.int .i64 s)]]=>match H k,H d with
  | some (.row t 1 xs),M=>bif t.beq 202 then
    F fun K=> ∃a,xs=W a/\n=I a/\Dig 4294967296 a/\a.length<=1099511627776/\(0<=s/\s<32)/\
     K (wA d (I a+1)) (XW [(1000,k),(1001,d)] (QO [(1000,Qs a),(1001,Qs (fd 4294967296 (I a+1) (QI 4294967296 a*2^s.toNat)))]) H)
    else M
  | _,_=>M
 | _=>M
theorem QZq {g:A}{zb:C B}:KL Tryz.prog g zb 182 lF:=by
 refine⟨Qf func182 o4,fun l H d T a K r=> ?_⟩;unfold lF at a;split at a
 ·rename_i k n s;split at a
  ·rename_i t xs D I;cases e:t.beq 202 with
   | false=>rw[e]at a;cases a
   | true=>
    rw[e]at a;cases a
    have V:=Zn e;subst V;obtain⟨q,rfl,rfl,y,U,⟨L,W⟩,r⟩:=r;obtain⟨s,rfl⟩:=Zs L;refine Xc (R:=[(1000,k)]) (N:=[(1001,d)]) (Hl:=[(1000,Qs q)]) fF QK func182 o4 o4 j6
     (as0:=[wA 1000 q.length,iA .i64 s]) ?_ (Kk D rfl rfl) rfl o6 o6 (fun p c=>by simp at c;subst c;exact I) (fun x=>⟨fun p c=> ?_,fun p c b e=> ?_⟩) (Qe6 q s y o3 U) (fun x _=> ?_)
    ·simp[X7,X2,XZ,lkB,wA,iA]
    ·simp at c;subst c;exact fun h=>by have j:F (Qs _)=M:=h;cases j
    ·simp at c;rcases c with rfl | rfl
     ·have j:F (Qs _)=F b:=e;cases j;rfl
     ·have j:F (Qs _)=F b:=e;cases j;rfl
    ·exact⟨_,rfl,r⟩
  ·cases a
 ·cases a
def spl (us:C A)(o:A)(w:C A):C A:=us.take o++(w++us.drop (o+I w))
def win (us:C A)(o n:A):C A:=(us.drop o).take n
structure TY where
 wd:C A
 carry:A
 b:A
 i:A
structure ZT (wd0 vs:C A)(n d:A)(x:TY):Prop where
 dw:Dig 4294967296 x.wd
 lw:x.wd.length=n+1
 hi:x.i<=n
 hc:x.carry<4294967296
 hb:x.b<=1
 rest:x.wd.drop x.i=wd0.drop x.i
 inv:QI 4294967296 (x.wd.take x.i)+d*QI 4294967296 (vs.take x.i)=QI 4294967296 (wd0.take x.i)+4294967296^x.i*(x.carry+x.b)
def wO (k o n:A):AV:= .x G [.w k o n]
def QGP (us vs:C A)(o n d:A):LI:=fun _=> .inv ⟨TY,fun x=>⟨[(0,wO 1000 o (n+1)),(1,wA 1001 n),(2,iA .u64 d),(7,iA .u64 x.carry),(8,iA .u64 x.b),(13,wA 1001 n),(14,iA .i64 n),(15,iA .i64 x.i)],
 [(1000,Qs (spl us o x.wd)),(1001,Qs vs)]⟩,ZT (win us o (n+1)) vs n d,fun x=>n-x.i,fun _=>0⟩
def Jf (us vs:C A)(o n d:A):A:=(QI 4294967296 (win us o (n+1))+4294967296^(n+1)-d*QI 4294967296 (vs.take n)) % 4294967296^(n+1)
variable{us:C A}{o:A}
theorem Ur{w:C A}(h:o+I w<=I us):(spl us o w).length=I us:=by simp[spl];omega
theorem ee{w:C A}(h:o+I w<=I us)(a:i<I w):(spl us o w)[o+i]? =w[i]? :=by
 unfold spl;rw[C.getElem?_append_right o9,C.length_take,A.min_eq_left o3,(o3:o+i-o=i),C.getElem?_append_left a]
theorem dX{w:C A}(h:o+I w<=I us)(a:i<I w):(spl us o w).set (o+i) v=spl us o (w.set i v):=by
 unfold spl;rw[C.set_append_right _ _ o9,C.length_take,A.min_eq_left o3,(o3:o+i-o=i),C.set_append_left _ _ a,Yg]
theorem Kl(h:o+n<=I us):(win us o n).length=n:=by simp[win];omega
theorem fV(h:o+n<=I us):spl us o (win us o n)=us:=by
 unfold spl;rw[Kl h];unfold win;rw[<-Zz,C.take_append_drop,C.take_append_drop]
theorem Wc{B:A}(h:Dig B us):Dig B (win us o n):=(h.drop).take
variable{u:A}
theorem wH{c b:A}(r:u<4294967296)(p:c<=4294967296)(j:b<=1)(h:c+b<=4294967296): ∃q e:A,q<4294967296/\e<=1/\q+c+b=u+4294967296*e/\(e=1↔u<c+b)/\
    ((u:D)-c-b) % 18446744073709551616/9223372036854775808=e/\((u:D)-c-b) % 18446744073709551616 % 4294967296=q:=by
  by_cases a:c+b<=u
  · exact⟨u-c-b,0,o3,o3,o3,o3,o3,o3⟩
  · exact⟨u+4294967296-c-b,1,o3,o3,o3,o3,o3,o3⟩
theorem ZT.step {a vs:C A}{x:TY}(h:ZT a vs n d x)(N:x.i<n)(h0:a.length=n+1)(X:vs[x.i]? =F v)(Y:v<4294967296)(hd:d<4294967296)(W:a[x.i]? =F u){q e:A}(V:t=x.carry+d*v)(T:q<4294967296)(L:e<=1)
  (U:q+t % 4294967296+x.b=u+4294967296*e):ZT a vs n d ⟨x.wd.set x.i q,t/4294967296,e,x.i+1⟩:=by
 obtain⟨s,lw,_,hc,hb,c,b⟩:=h;have I:(x.wd.set x.i q)[x.i]? =F q:=by rw[Zq];simp;omega
 have j:t<4294967296*4294967296:=by
  have:d*v<=4294967295*4294967295:=Yi o3 o3;omega
 refine⟨s.set T,(j9 lw),N,Ym j,L,?_,?_⟩
 ·simp only;rw[Zx o3];have:=R (Yh 1) c;rwa [Zz,Zz]at this
 ·simp only;rw[Qa I,Xx,Qa X,Qa W,Ya];generalize (4294967296:A)^x.i=p at b|-;have e1:p*t=p*x.carry+p*(d*v):=by rw[V,Z]
  have y:p*t=p*4294967296*(t/4294967296)+p*(t % 4294967296):=by
   conv=>lhs;rw[<-Yf t 4294967296]
   rw[Z,r]
  have B:p*q+p*(t % 4294967296)+p*x.b=p*u+p*4294967296*e:=by
   rw[<-Z,<-Z,U,Z,r]
  have D:d*(QI 4294967296 (vs.take x.i)+p*v)=d*QI 4294967296 (vs.take x.i)+p*(d*v):=by rw[Z];grind
  rw[D,Z,r] ;rw[Z]at b;rw[r]at y B;rw[r]at*;omega
def AT(a b:A):=a+(E b).toNat
def Ab(a:C A)(b c:A)(d:D):=(W a).set (AT b c) (Ap d)
def A1(a:D)(b c:TY):=J.wrap (Au a b.carry-E c.b)
def Az(a:D)(b:TY)(c:A)(d:D)(e:TY):=Au (J.wrap a-J.wrap (S.wrap (J.wrap (E b.carry+J.wrap (E c*J.wrap d))))) e.b
theorem QLM (us vs:C A)(o n d:A)(du:Dig 4294967296 us)(dv:Dig 4294967296 vs)(hd:d<4294967296)(ho:o+(n+1)<=I us)(hn:n<=I vs)(hl:us.length<=2199023255552):QM (Xp (X:=Y) T9 (oF f183) (QGP us vs o n d) f183 [wO 1000 o (n+1),wA 1001 n,iA .u64 d] [(1000,Qs us),(1001,Qs vs)] (fun _=>L)
 (fun _=>⟨[(6,.x G [.v (.bool (decide (QI 4294967296 (win us o (n+1))<d*QI 4294967296 (vs.take n))))])],[(1000,Qs (spl us o (fd 4294967296 (n+1) (Jf us vs o n d)))),(1001,Qs vs)]⟩)):=by
 refine HV ((∃(x:TY),(ZT (win us o (n+1)) vs n d x/\AE)/\o=o/\n+1=n+1/\0=0/\n=n/\AD d d/\0=E x.carry/\0=E x.b/\Ae n n n n (0=E x.i) (AH us (spl us o x.wd) us (spl us o x.wd)) vs vs vs vs)/\∀(x:TY),ZT (win us o (n+1)) vs n d x->AE->bif Ac x.i (E n)then AF x.i x.i n/\∃(T:D),AL vs (Aj x.i) T/\AF x.i x.i (n+1)/\∃(hZ:D),AL (spl us o x.wd) (AT o x.i) hZ/\AB<=63/\AF x.i x.i (n+1)/\AT o x.i<AN (spl us o x.wd)/\AB<=32/\∃(x':TY),AS (ZT (win us o (n+1)) vs n d x') (n-x'.i) (n-x.i)/\o=o/\n+1=n+1/\0=0/\n=n/\AD d d/\XE J (J.wrap (E x.carry+J.wrap (E d*J.wrap T))) 32=E x'.carry/\XE J (Az hZ x d T x) 63=E x'.b/\Ae n n n n (Al x.i x'.i) (Ab (spl us o x.wd) o x.i (Az hZ x d T x)=W (spl us o x'.wd)\/QC (Ab (spl us o x.wd) o x.i (Az hZ x d T x)) (W (spl us o x'.wd))) vs vs vs vs else AF n n (n+1)/\∃(T:D),AL (spl us o x.wd) (AT o n) T/\AF n n (n+1)/\AT o n<AN (spl us o x.wd)/\AB<=63/\∃(_x_1:Y),L/\decide (XE J (A1 T x x) 63>0)=decide (Ai (win us o (n+1))<d*Ai (Zu n vs))/\Ak/\1=1/\(Ab (spl us o x.wd) o n (A1 T x x)=W (spl us o (AM (n+1) (Jf us vs o n d)))\/QC (Ab (spl us o x.wd) o n (A1 T x x)) (W (spl us o (AM (n+1) (Jf us vs o n d)))))/\202=202/\1=1/\AH vs vs vs vs/\L) ?_
 delta AG AN AX AB AD AH AM AE AF AT Ak AL Ap AS Ac Ai Ae Aj Au Ab Al A1 Az
 have lw:=Kl ho;simp only[p,R0,R1,Ye,R4,R2];have At: ∀w:C A,I w=n+1->o+I w<=I us:=fun w hw=>o3
 refine⟨⟨⟨win us o (n+1),0,0,0⟩,⟨Wc du,lw,o6,o6,o6,rfl,by simp[QI]⟩,rfl,rfl,rfl,.inl (by simp only;rw[fV ho])⟩,fun x hx=>QE (fun hp=> ?_) (fun hp=> ?_)⟩
 ·obtain⟨U,s,b,i⟩:=x;have hp:i<n:=(j9 hp)
  obtain⟨v,hv⟩: ∃v,vs[i]? =F v:=⟨_,j o3⟩
  obtain⟨u,hu⟩: ∃u,(win us o (n+1))[i]? =F u:=⟨_,j o3⟩
  have je:=dv.get hv;have jb:=(Wc du).get hu;have hc:=hx.hc;have hb:=hx.hb;have N:=hx.lw;have jc:U[i]? =F u:=by
   have:=R (fun l:C A=>l[0]?) hx.rest;simpa [hu]using this
  have hs:=fun t q e=>hx.step hp lw hv je hd hu (t:=t) (q:=q) (e:=e);simp only at hc hb N hs|-;have hm:d*v<=4294967295*4294967295:=Yi o3 o3;have f0:J.wrap ((s:D)+J.wrap ((d:D)*J.wrap (v:D)))=((s+d*v:A):D):=by
   rw[YE (n:=(v:D)) o3];have:((d:D)*v)=((d*v:A):D):=o6
   rw[this];generalize d*v=a at hm|-;rw[YE (n:=(a:D)) o3,YE o3];simp
  generalize ht:s+d*v=t at hs f0;have ji:t<18446744073709551616:=o3
  obtain⟨q,e,hq,he,jd,_,r1,r2⟩:=wH (u:=u) (c:=t % 4294967296) (b:=b) jb o3 hb o3;have f1:J.wrap (J.wrap (J.wrap (u:D)-J.wrap (S.wrap (t:D)))-b)=((u:D)-(t % 4294967296:A)-b) % 18446744073709551616:=by
   rw[Zv];simp only[J5];omega
  have gs:(spl us o U)[o+i]? =F u:=by rw[ee (At U N) o3];exact jc
  simp only[y];refine⟨o3,v,JF hv,o3,u,JF gs,o3,o3,by rw[Wj,Ur (At U N)];omega,o3,_,⟨hs t q e rfl hq he jd,o5⟩,?_,?_,?_,?_⟩
  ·rw[f0,JC o8 o3];simp only[show(32:D).toNat=32 from rfl];omega
  ·rw[f0,f1,JC o8 o3];simp only[show(63:D).toNat=63 from rfl];exact r1
  ·rw[w64 o3];simp
  ·rw[f0,f1,show S.wrap (((u:D)-(t % 4294967296:A)-b) % 18446744073709551616)=(q:D)by rw[Zv];exact r2,Wy,dX (At U N) o3];exact .inl rfl
 ·obtain⟨U,s,b,i⟩:=x;have hp: ¬i<n:=(j9 hp)
  have hi:=hx.hi;have hc:=hx.hc;have hb:=hx.hb;have N:=hx.lw;have jh:=hx.inv;have dw:=hx.dw;have ja:=hx.rest;simp only at hi hc hb N jh dw ja|-;have:i=n:=o3
  subst this;obtain⟨u,hu⟩: ∃u,(win us o (i+1))[i]? =F u:=⟨_,j o3⟩
  have jb:=(Wc du).get hu;have jc:U[i]? =F u:=by
   have:=R (fun l:C A=>l[0]?) ja;simpa [hu]using this
  obtain⟨q,e,hq,he,jd,_,r1,r2⟩:=wH (u:=u) (c:=s) (b:=b) jb o3 hb o3;have f1:J.wrap (J.wrap (J.wrap (u:D)-s)-b)=((u:D)-s-b) % 18446744073709551616:=by
   simp only[J5];omega
  have gs:(spl us o U)[o+i]? =F u:=by rw[ee (At U N) o3];exact jc
  -- the value
  have v0:=Qa (B:=4294967296) hu;rw[Qi o3]at v0;have gz:(U.set i q)[i]? =F q:=by rw[Zq];simp;omega
  have v1:=Qa (B:=4294967296) gz;rw[Qi o9,Xx]at v1;have Lm:=Jl (dw.set (i:=i) hq);rw[Yg,N]at Lm;have V:QI 4294967296 (U.set i q)+d*QI 4294967296 (vs.take i)=QI 4294967296 (win us o (i+1))+4294967296^(i+1)*e:=by
   have h3:4294967296^i*q+4294967296^i*(s+b)=4294967296^i*u+4294967296^(i+1)*e:=by
    rw[<-Z,(o3:q+(s+b)=u+4294967296*e),Z,<-r,<-Ya]
   omega
  have be:=Jl (Wc (o:=o) (n:=i+1) du);rw[lw]at be;have jg:QI 4294967296 (U.set i q)=Jf us vs o i d:=by
   unfold Jf;generalize d*QI 4294967296 (vs.take i)=dv at V|-;generalize (4294967296:A)^(i+1)=a at V Lm be|-;rcases Yc.1 he with h | h
   ·subst h;rw[A.mul_zero,A.add_zero]at V;rw[(o3:QI 4294967296 (win us o (i+1))+a-dv=QI 4294967296 (U.set i q)+a),A.add_mod_right,Yk Lm]
   ·subst h;rw[A.mul_one]at V;rw[(o3:QI 4294967296 (win us o (i+1))+a-dv=QI 4294967296 (U.set i q)),Yk Lm]
  simp only[y];refine⟨o3,u,JF gs,o3,by rw[Wj,Ur (At U N)];omega,o3,(),?_,?_⟩
  ·refine decide_eq_decide.2 ?_
   rw[f1,JC o8 o3];simp only[show(63:D).toNat=63 from rfl];rw[show((u:D)-s-b) % 18446744073709551616/2^63=e from r1];generalize d*QI 4294967296 (vs.take i)=dv at V|-;generalize (4294967296:A)^(i+1)=a at V Lm be;rcases Yc.1 he with h | h
   ·subst h;have: ¬QI 4294967296 (win us o (i+1))<dv:=o3
    simp[this]
   ·subst h;have:QI 4294967296 (win us o (i+1))<dv:=o3
    simp[this]
  ·rw[f1,show S.wrap (((u:D)-s-b) % 18446744073709551616)=(q:D)by rw[Zv];exact r2,Wy,dX (At U N) o3,<-jg];have jf:(U.set i q).length=i+1:=(j9 N)
   rw[<-jf,VF (dw.set hq) o3];exact .inl rfl
structure ZG where
 wd:C A
 carry:A
 i:A
structure ZU (wd0 vs:C A)(n:A)(x:ZG):Prop where
 dw:Dig 4294967296 x.wd
 lw:x.wd.length=n+1
 hi:x.i<=n
 hc:x.carry<=1
 rest:x.wd.drop x.i=wd0.drop x.i
 inv:QI 4294967296 (x.wd.take x.i)+4294967296^x.i*x.carry=QI 4294967296 (wd0.take x.i)+QI 4294967296 (vs.take x.i)
def QIy (us vs:C A)(o n:A):LI:=fun _=> .inv ⟨ZG,fun x=>⟨[(0,wO 1000 o (n+1)),(1,wA 1001 n),(4,iA .u64 x.carry),(7,wA 1001 n),(8,iA .i64 n),(9,iA .i64 x.i)],
 [(1000,Qs (spl us o x.wd)),(1001,Qs vs)]⟩,ZU (win us o (n+1)) vs n,fun x=>n-x.i,fun _=>0⟩
def TE (us vs:C A)(o n:A):A:=(QI 4294967296 (win us o (n+1))+QI 4294967296 (vs.take n)) % 4294967296^(n+1)
theorem ZU.step {a vs:C A}{x:ZG}(h:ZU a vs n x)(q:x.i<n)(h0:a.length=n+1)(D:vs[x.i]? =F v)(I:v<4294967296)(y:a[x.i]? =F u)(B:u<4294967296)(s:t=x.carry+(u+v)):
  ZU a vs n ⟨x.wd.set x.i (t % 4294967296),t/4294967296,x.i+1⟩:=by
 obtain⟨e,L,_,U,b,c⟩:=h;have j:(x.wd.set x.i (t % 4294967296))[x.i]? =F (t % 4294967296):=by rw[Zq];simp;omega
 refine⟨e.set (Yj _ o3),(j9 L),q,o5,?_,?_⟩
 ·simp only;rw[Zx o3];have:=R (Yh 1) b;rwa [Zz,Zz]at this
 ·simp only;rw[Qa j,Xx,Qa D,Qa y,Ya];generalize (4294967296:A)^x.i=p at c|-;have N:p*t=p*x.carry+(p*u+p*v):=by rw[s,Z,Z]
  have T:p*t=p*4294967296*(t/4294967296)+p*(t % 4294967296):=by
   conv=>lhs;rw[<-Yf t 4294967296]
   rw[Z,r]
  omega
def A0(a:ZG)(b c:D):=J.wrap (E a.carry+J.wrap (J.wrap b+J.wrap c))
theorem QQU (us vs:C A)(o n:A)(du:Dig 4294967296 us)(dv:Dig 4294967296 vs)(ho:o+(n+1)<=I us)(hn:n<=I vs)(hl:us.length<=2199023255552):QM (Xp (X:=Y) T9 (oF f184) (QIy us vs o n) f184 [wO 1000 o (n+1),wA 1001 n] [(1000,Qs us),(1001,Qs vs)] (fun _=>L)
 (fun _=>⟨[],[(1000,Qs (spl us o (fd 4294967296 (n+1) (TE us vs o n)))),(1001,Qs vs)]⟩)):=by
 refine HV ((∃(x:ZG),(ZU (win us o (n+1)) vs n x/\AE)/\o=o/\n+1=n+1/\0=0/\n=n/\0=E x.carry/\Ae n n n n (0=E x.i) (AH us (spl us o x.wd) us (spl us o x.wd)) vs vs vs vs)/\∀(x:ZG),ZU (win us o (n+1)) vs n x->AE->bif Ac x.i (E n)then AF x.i x.i n/\∃(d:D),AL vs (Aj x.i) d/\AF x.i x.i (n+1)/\∃(e:D),AL (spl us o x.wd) (AT o x.i) e/\AF x.i x.i (n+1)/\AT o x.i<AN (spl us o x.wd)/\AB<=32/\∃(V:ZG),AS (ZU (win us o (n+1)) vs n V) (n-V.i) (n-x.i)/\o=o/\n+1=n+1/\0=0/\n=n/\XE J (A0 x e d) 32=E V.carry/\Ae n n n n (Al x.i V.i) (Ab (spl us o x.wd) o x.i (A0 x e d)=W (spl us o V.wd)\/QC (Ab (spl us o x.wd) o x.i (A0 x e d)) (W (spl us o V.wd))) vs vs vs vs else AF n n (n+1)/\∃(d:D),AL (spl us o x.wd) (AT o n) d/\AF n n (n+1)/\AT o n<AN (spl us o x.wd)/\∃(_x_1:Y),L/\202=202/\1=1/\(Ab (spl us o x.wd) o n (d+S.wrap (E x.carry))=W (spl us o (AM (n+1) (TE us vs o n)))\/QC (Ab (spl us o x.wd) o n (d+S.wrap (E x.carry))) (W (spl us o (AM (n+1) (TE us vs o n)))))/\Ak/\1=1/\AH vs vs vs vs/\L) ?_
 delta AG AN AX AB AD AH AM AE AF AT Ak AL Ap AS Ac Ae Aj Ab Al A0
 have lw:=Kl ho;simp only[p,R0,R1,Ye,R4,R2];have s: ∀w:C A,I w=n+1->o+I w<=I us:=fun w hw=>o3
 refine⟨⟨⟨win us o (n+1),0,0⟩,⟨Wc du,lw,o6,o6,rfl,by simp[QI]⟩,rfl,rfl,.inl (by simp only;rw[fV ho])⟩,fun x h=>QE (fun U=> ?_) (fun U=> ?_)⟩
 ·obtain⟨b,c,i⟩:=x;have U:i<n:=(j9 U)
  obtain⟨v,hv⟩: ∃v,vs[i]? =F v:=⟨_,j o3⟩
  obtain⟨u,hu⟩: ∃u,(win us o (n+1))[i]? =F u:=⟨_,j o3⟩
  have be:=dv.get hv;have At:=(Wc du).get hu;have hc:=h.hc;have a:=h.lw;have T:b[i]? =F u:=by
   have:=R (fun l:C A=>l[0]?) h.rest;simpa [hu]using this
  have hs:=fun t=>h.step U lw hv be hu At (t:=t);simp only at hc a hs|-;have gs:(spl us o b)[o+i]? =F u:=by rw[ee (s b a) o3];exact T
  have f0:J.wrap ((c:D)+J.wrap (J.wrap (u:D)+J.wrap (v:D)))=((c+(u+v):A):D):=by
   simp only[J5];omega
  generalize ht:c+(u+v)=t at hs f0;simp only[y];refine⟨o3,v,JF hv,o3,u,JF gs,o3,by rw[Wj,Ur (s b a)];omega,o3,_,⟨hs t rfl,o5⟩,?_,?_,?_⟩
  ·rw[f0,JC o8 o3];simp only[show(32:D).toNat=32 from rfl];omega
  ·rw[w64 o3];simp
  ·rw[f0,show S.wrap (t:D)=((t % 4294967296:A):D)by rw[Zv];simp,Wy,dX (s b a) o3];exact .inl rfl
 ·obtain⟨b,c,i⟩:=x;have U: ¬i<n:=(j9 U)
  have hi:=h.hi;have hc:=h.hc;have a:=h.lw;have jb:=h.inv;have dw:=h.dw;have N:=h.rest;simp only at hi hc a jb dw N|-;have:i=n:=o3
  subst this;obtain⟨u,hu⟩: ∃u,(win us o (i+1))[i]? =F u:=⟨_,j o3⟩
  have At:=(Wc du).get hu;have T:b[i]? =F u:=by
   have:=R (fun l:C A=>l[0]?) N;simpa [hu]using this
  have gs:(spl us o b)[o+i]? =F u:=by rw[ee (s b a) o3];exact T
  have v0:=Qa (B:=4294967296) hu;rw[Qi o3]at v0;obtain⟨q,hq⟩: ∃q,(u+c) % 4294967296=q:=⟨_,rfl⟩;have gz:(b.set i q)[i]? =F q:=by rw[Zq];simp;omega
  have v1:=Qa (B:=4294967296) gz;rw[Qi o9,Xx]at v1;have dq:=dw.set (i:=i) (v:=q) o3;have Lm:=Jl dq;rw[Yg,a]at Lm;have ja:QI 4294967296 (b.set i q)=TE us vs o i:=by
   unfold TE;have h3:QI 4294967296 (win us o (i+1))+QI 4294967296 (vs.take i)=QI 4294967296 (b.set i q)+4294967296^(i+1)*((u+c)/4294967296):=by
    have:4294967296^i*(u+c)=4294967296^(i+1)*((u+c)/4294967296)+4294967296^i*q:=by
     conv=>lhs;rw[<-Yf (u+c) 4294967296,hq]
     rw[Z,<-r,<-Ya]
    rw[Z]at this;omega
   rw[h3,A.add_mul_mod_self_left,Yk Lm]
  simp only[y];refine⟨o3,u,JF gs,o3,by rw[Wj,Ur (s b a)];omega,(),?_⟩;rw[show S.wrap ((u:D)+S.wrap (c:D))=(q:D)by simp only[Zv];omega,Wy,dX (s b a) o3,<-ja];have hZ:(b.set i q).length=i+1:=(j9 a)
  rw[<-hZ,VF dq o3];exact .inl rfl
def HY:XS:=fun c H _=>match c with
 | [.x G [.w k o h],.x G [.w e 0 a],.x G [.v (.int .u64 d)]]=>match H k,H e with
  | some (.row t 1 xs),F (.row j 1 y)=>bif t.beq 202&&j.beq 202&& !(k.beq e)then
    F fun K=> ∃us b,xs=W us/\y=W b/\h=a+1/\Dig 4294967296 us/\Dig 4294967296 b/\(0<=d/\d<4294967296)/\o+(a+1)<=I us/\a<=I b/\us.length<=2199023255552/\
     K (.x G [.v (.bool (decide (QI 4294967296 (win us o (a+1))<d.toNat*QI 4294967296 (b.take a))))])
      (XW [(1000,k),(1001,e)] (QO [(1000,Qs (spl us o (fd 4294967296 (a+1) (Jf us b o a d.toNat)))),(1001,Qs b)]) H)
    else M
  | _,_=>M
 | _=>M
def nS:XS:=fun c H _=>match c with
 | [.x G [.w k o h],.x G [.w e 0 a]]=>match H k,H e with
  | some (.row t 1 xs),F (.row j 1 y)=>bif t.beq 202&&j.beq 202&& !(k.beq e)then
    F fun K=> ∃us b,xs=W us/\y=W b/\h=a+1/\Dig 4294967296 us/\Dig 4294967296 b/\o+(a+1)<=I us/\a<=I b/\us.length<=2199023255552/\
     K (.t []) (XW [(1000,k),(1001,e)] (QO [(1000,Qs (spl us o (fd 4294967296 (a+1) (TE us b o a)))),(1001,Qs b)]) H)
    else M
  | _,_=>M
 | _=>M
theorem QIz {g:A}{zb:C B}:KL Tryz.prog g zb 183 HY:=by
 refine⟨Qf func183 o4,fun l H d T c K D=> ?_⟩;unfold HY at c;split at c
 ·rename_i k o n1 L U d;split at c
  ·rename_i t xs t2 ys Y Z;cases q:t.beq 202&&t2.beq 202&& !(k.beq L)with
   | false=>rw[q]at c;cases c
   | true=>
    rw[q]at c;cases c
    simp only[a.and_eq_true,a.not_eq_true']at q;obtain⟨⟨I,r⟩,s⟩:=q;have I:=Zn I;have r:=Zn r;have s:k≠L:=fun e=>by subst e;simp at s
    subst I r;obtain⟨us,V,rfl,rfl,rfl,W,X,⟨h0,h1⟩,ho,hn,hl,D⟩:=D;obtain⟨d,rfl⟩:=Zs h0;refine Xc (R:=[(1000,k),(1001,L)]) (N:=[]) (Hl:=[(1000,Qs us),(1001,Qs V)]) fF QK func183 o4 o4 j6
     (as0:=[wO 1000 o (U+1),wA 1001 U,iA .u64 d]) ?_ (bg Y Z s rfl rfl rfl rfl) rfl o6 o6 (fun _ h=>by cases h) (fun x=>⟨fun p y=> ?_,fun p y b q=> ?_⟩) (QLM us V o U d W X o3 ho hn hl) (fun x _=> ?_)
    ·simp[X7,X2,XZ,(TG s).1,(TG s).2,wA,wO,iA]
    ·simp at y;rcases y with rfl | rfl
     ·exact fun h=>by have j:F (Qs _)=M:=h;cases j
     ·exact fun h=>by have j:F (Qs _)=M:=h;cases j
    ·simp at y;rcases y with rfl | rfl
     ·have j:F (Qs _)=F b:=q;cases j;rfl
     ·have j:F (Qs _)=F b:=q;cases j;rfl
    ·exact⟨_,rfl,D⟩
  ·cases c
 ·cases c
theorem QLO {g:A}{zb:C B}:KL Tryz.prog g zb 184 nS:=by
 refine⟨Qf func184 o4,fun l H d T c K D=> ?_⟩;unfold nS at c;split at c
 ·rename_i k o n1 L U;split at c
  ·rename_i t xs t2 ys Y Z;cases q:t.beq 202&&t2.beq 202&& !(k.beq L)with
   | false=>rw[q]at c;cases c
   | true=>
    rw[q]at c;cases c
    simp only[a.and_eq_true,a.not_eq_true']at q;obtain⟨⟨I,r⟩,s⟩:=q;have I:=Zn I;have r:=Zn r;have s:k≠L:=fun e=>by subst e;simp at s
    subst I r;obtain⟨us,V,rfl,rfl,rfl,W,X,ho,hn,hl,D⟩:=D;refine Xc (R:=[(1000,k),(1001,L)]) (N:=[]) (Hl:=[(1000,Qs us),(1001,Qs V)]) fF QK func184 o4 o4 j6
     (as0:=[wO 1000 o (U+1),wA 1001 U]) ?_ (bg Y Z s rfl rfl rfl rfl) rfl o6 o6 (fun _ h=>by cases h) (fun x=>⟨fun p y=> ?_,fun p y b q=> ?_⟩) (QQU us V o U W X ho hn hl) (fun x _=> ?_)
    ·simp[X7,X2,XZ,(TG s).1,(TG s).2,wA,wO]
    ·simp at y;rcases y with rfl | rfl
     ·exact fun h=>by have j:F (Qs _)=M:=h;cases j
     ·exact fun h=>by have j:F (Qs _)=M:=h;cases j
    ·simp at y;rcases y with rfl | rfl
     ·have j:F (Qs _)=F b:=q;cases j;rfl
     ·have j:F (Qs _)=F b:=q;cases j;rfl
    ·exact⟨_,rfl,D⟩
  ·cases c
 ·cases c
def HG (x r:A):Prop:=r<=32/\x<2^r/\(x=0\/(1<=r/\2^(r-1)<=x))
def xn (x:A)(K:AV->Prop):Prop:=QN T9 (oF f194) noL f194 [iA .u32 x] K
def mg:C N:=(C.range 256).map fun x=>U (if x=0 then 0 else A.log2 x+1)
def au (y n:D)(K:AV->Prop):Prop:= ∃b:N,((0:D)<=Zf.wrap y/\mg[(Zf.wrap y).toNat]? =F b)/\K (.x G [.v (.int .i64 (Q.wrap (n+Q.wrap (E b.toNat))))])
theorem QEY (x:A)(K:AV->Prop):xn x K=(bif decide (E x>=65536)then(0:D)<=16/\(bif decide (XE .u32 (E x) 16>=256)then(0:D)<=8/\au (XE .u32 (XE .u32 (E x) 16) 8) 24 K else au (XE .u32 (E x) 16) 16 K)
 else(bif decide (E x>=256)then(0:D)<=8/\au (XE .u32 (E x) 8) 8 K else au (E x) 0 K)):=o4
variable{x:A}
theorem gH{r:A}(h:HG (x/2^k) r)(q:2^k<=x)(p:r+k<=32):HG x (r+k):=by
 obtain⟨_,e,a⟩:=h;have b:0<2^k:=Yp o3;have c:x/2^k≠0:=by have:=A.div_pos q b;omega
 refine⟨p,?_,.inr ?_⟩
 ·rw[Yl];exact(A.div_lt_iff_lt_mul b).1 e
 ·rcases a with a | ⟨a,j⟩
  ·exact absurd a c
  ·refine⟨o3,?_⟩;rw[(o3:r+k-1=(r-1)+k),Yl];exact(A.le_div_iff_mul_le b).1 j
theorem eW(hk:k<=32):XE .u32 (x:D) (k:D)=((x/2^k:A):D):=by
 rw[JC (by simpa [Ys]using hk) o6,y];simp
theorem Qe7:(C.range 256).all (fun x=>match mg[x]? with | some b=>decide (b.toNat<=8)&&decide (x<2^b.toNat)&&(decide (x=0) || (decide (1<=b.toNat)&&decide (2^(b.toNat-1)<=x))) | none=>G)=true:=o4
theorem QZr(h:x<256): ∃b:N,mg[x]? =F b/\b.toNat<=8/\HG x b.toNat:=by
 have:=C.all_eq_true.1 Qe7 x ((j9 h));split at this
 ·rename_i b c;simp only[a.and_eq_true,a.or_eq_true,decide_eq_true_eq]at this;exact⟨b,c,this.1.1,o3,this.1.2,this.2⟩
 ·cases this
theorem Us{y:A}(q:y<256)(s:n<=24)(h: ∀r,r<=8->HG y r->K (iA .i64 (n+r:A))):au (y:D) (n:D) K:=by
 obtain⟨b,a,c,j⟩:=QZr q;refine⟨b,⟨by rw[wu8 o3];omega,by rw[wu8 o3,Zm];exact a⟩,?_⟩;have:=h _ c j;simp only[p];rw[w64 (n:=(b.toNat:D)) o3,w64 o3];have e:(n:D)+b.toNat=((n+b.toNat:A):D):=o6
 rw[e];exact this
theorem QZs (x:A)(q:x<4294967296):QM (xn x fun av=> ∃r,HG x r/\av=iA .i64 r):=by
 refine⟨?_⟩;rw[QEY];simp only[p];have s:XE .u32 (x:D) 16=((x/65536:A):D):=eW (k:=16) o3;have j:XE .u32 (x:D) 8=((x/256:A):D):=eW (k:=8) o3;have e:XE .u32 ((x/65536:A):D) 8=((x/65536/256:A):D):=eW (k:=8) o3;simp only[s,j,e];refine QE (fun a=>⟨o3,QE (fun h=>⟨o3,?_⟩) (fun h=> ?_)⟩) (fun a=>QE (fun h=>⟨o3,?_⟩) (fun h=> ?_))
 ·have a:=R5 a;have h:=R5 h;refine Us (n:=24) o3 o3 fun r c b=>⟨24+r,?_,rfl⟩;rw[A.div_div_eq_div_mul]at b;rw[Yn];exact gH (k:=24) b o3 o3
 ·have a:=R5 a;have h:=R6 h;refine Us (n:=16) o3 o3 fun r c b=>⟨16+r,?_,rfl⟩;rw[Yn];exact gH (k:=16) b o3 o3
 ·have a:=R6 a;have h:=R5 h;refine Us (n:=8) o3 o3 fun r c b=>⟨8+r,?_,rfl⟩;rw[Yn];exact gH (k:=8) b o3 o3
 ·have a:=R6 a;have h:=R6 h;refine Us (n:=0) o3 o3 fun r c b=>⟨0+r,?_,rfl⟩;rw[Ye];exact b
def sD:Ctr
 | [.x G [.v (.int .u32 x)]]=>F fun K=>(0<=x/\x<4294967296)/\ ∀r,HG x.toNat r->K (iA .i64 r)
 | _=>M
def rb:Ctr
 | [.x G [.v (.int .u32 x)]]=>F fun K=>(0<=x/\x<4294967296)/\ ∀r,HG x.toNat r->K (iA .i64 (32-r:A))
 | _=>M
theorem QTL {g:A}{zb:C B}:CtrOK Tryz.prog g zb 194 sD:=by
 refine⟨Qf func194 o4,fun l T h K a=> ?_⟩;unfold sD at h;split at h
 ·cases h
  obtain⟨⟨b,p⟩,a⟩:=a;rename_i x;obtain⟨x,rfl⟩:=Zs b;refine Eng.Spec.res (Qk fF QK func194 o4 o4 j6 (QZs x o3)) ?_
  rintro w O j v ⟨r,e,rfl⟩ c;exact⟨_,a r e,c⟩
 ·cases h
def L10:LC:=(194,sD)::L9
def M10:C (A×XS):=(182,lF)::(183,HY)::(184,nS)::M7
noncomputable def T10:Qd:=mkT L10 M10 X3
theorem tN {g:A}{zb:C B}:CtrsOK Tryz.prog g zb L10:= .cons QTL Qix
theorem pN {g:A}{zb:C B}:CtrMsOK Tryz.prog g zb M10:= .cons QZq (.cons QIz (.cons QLO dh))
theorem Qiy {g:A}{zb:C B}:XC Tryz.prog g zb T10:=QP tN pN S1
def QE1 (x:A)(K:AV->Prop):Prop:=QN T10 (oF f181) noL f181 [iA .u32 x] K
theorem QGS (x:A)(K:AV->Prop):QE1 x K=((0<=E x/\E x<4294967296)/\∀(r:A),r<=32/\(E x).toNat<2^r/\((E x).toNat=0\/1<=r/\2^(r-1)<=(E x).toNat)->K (AV.x G [z (Ze Q (Q.wrap (32-E r)))])):=o4
theorem Qe8 (x:A)(a:x<4294967296):QM (QE1 x fun av=> ∃r,HG x r/\av=iA .i64 (32-r:A)):=by
 refine⟨?_⟩;rw[QGS];simp only[p,y];refine⟨o3,fun r h=>⟨r,h,?_⟩⟩;have:=h.1;rw[w64 o3,(o3:(32:D)-r=((32-r:A):D))];rfl
theorem QZt {g:A}{zb:C B}:CtrOK Tryz.prog g zb 181 rb:=by
 refine⟨Qf func181 o4,fun l T h K a=> ?_⟩;unfold rb at h;split at h
 ·cases h
  obtain⟨⟨b,p⟩,a⟩:=a;rename_i x;obtain⟨x,rfl⟩:=Zs b;refine Eng.Spec.res (Qk Qiy QK func181 o4 o4 j6 (Qe8 x o3)) ?_
  rintro w O j v ⟨r,e,rfl⟩ c;exact⟨_,a r e,c⟩
 ·cases h
def L11:LC:=(181,rb)::L10
noncomputable def T11:Qd:=mkT L11 M10 X3
theorem rm {g:A}{zb:C B}:CtrsOK Tryz.prog g zb L11:= .cons QZt tN
theorem Qiz {g:A}{zb:C B}:XC Tryz.prog g zb T11:=QP rm pN S1
end Go.Proofs
