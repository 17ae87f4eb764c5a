/- Natural numbers, first part: trim, short. -/
import Derived.Test.YtfhfenokfkenoaaGreatDoorTy
import Derived.Test.YtfhfenokfkenoaaGreatDoorPl
import Derived.KernelRfl
import Derived.Lib.Bytealg
import Derived.Laws.Externs
open Int renaming ofNat → Za, ofNat_eq_natCast → Zj, toNat_natCast → Zm, eq_ofNat_of_zero_le → Zs
open Go.IntKind renaming i64 → Zb, u64 → Zc, u32 → Zd, u8 → Zf, wrap_u32 → Zv, bits → Ys, wrap_u8 → Yt
open Go.Value renaming int → Ze, string → Yq
open List renaming getElem?_eq_getElem → Zg, replicate → Zh, getD_eq_getElem?_getD → Zi, getElem?_set → Zq, take → Zu, drop_set_of_lt → Zx, drop_drop → Zz, take_of_length_le → Yb, map → Yd, length_set → Yg, drop → Yh, drop_zero → Yv
open UInt8 renaming ofNat → Zk, toNat_ofNat' → Zy
open Nat renaming mul_add → Zl, eq_of_beq_eq_true → Zn, mul_assoc → Zp, pow_le_pow_right → Zt, pow_succ → Ya, le_one_iff_eq_zero_or_eq_one → Yc, zero_add → Ye, div_add_mod → Yf, mul_le_mul → Yi, mod_lt → Yj, mod_eq_of_lt → Yk, pow_add → Yl, div_lt_of_lt_mul → Ym, add_comm → Yn, lt_of_le_of_lt → Yo, pow_pos → Yp, mul_comm → Yr, le_refl → Yu
open Go.Eng.Ch renaming v → Zo
open ByteArray renaming mk → Zr
open Array renaming mk → Zw
namespace Go.Proofs
open Go Go.Eng
def QVj:OT:=fun _=>([],[])
def itE:List (Nat×OT):=[(71,QVj)]
def QVk:OT:=fun _=>([],[])
def itN:List (Nat×OT):=[(205,QVk)]
def itA:List (Nat×OT):=[]
def QUG:List (Nat×OT):=itE++(itN++itA)
def QYe:List (Nat×Nat×Bool):=[(223,258,true)]
noncomputable def mkT (l:List (Nat×Ctr))(m:List (Nat×Xt))(x:List (Nat×GP)):Qb:=⟨tbL Tryz.tyL,prL l,pmL m,pxL x,QMO Tryz.prog,itP Tryz.prog QUG,QYe⟩
noncomputable def T0:Qb:=mkT [] [] []
def noL:LI:=fun _=> .no
def QG8 (l:List UInt8):AV:= .x false [.v (.string ⟨l.toArray⟩)]
def bA (m n:Nat):AV:= .x false [.b m n]
def iA (k:IntKind)(n:Int):AV:= .x false [.v (.int k n)]
def QM5 (l:List UInt8):LI:=fun _=> .inv ⟨List UInt8,fun x=>⟨[(0,QG8 x)],[]⟩,fun x=>Jr x=Jr l,fun x=>x.length,fun _=>0⟩
def QK1 (m n:Nat):LI:=fun _=> .inv ⟨Nat,fun i=>⟨[(0,bA m n),(3,iA .u64 (m/256^((QA m).length-i):Nat)),(6,iA .i64 (QA m).length),(7,iA .i64 i)],[]⟩,fun i=>i<=(QA m).length,fun i=>(QA m).length-i,fun _=>0⟩
theorem QRO (l:List UInt8)(K:AV->Prop)(h:K (QG8 (Jr l))):QK (QE2 T0 (QM5 l) Tryz.f131 [QG8 l] K):=by
 refine HV (((∃(x:List UInt8),(Jr x=Jr l/\OfNat.ofNat 0=0)/\Zr (Zw l)=Zr (Zw x)/\True)/\∀(x:List UInt8),Jr x=Jr l->OfNat.ofNat 0=0->bif decide (Za (Zr (Zw x)).size>0)then ∃(b:UInt8),((0:Int)<=0/\(Zw x).toList[0]?=some b)/\bif Za b.toNat==0 then((0:Int)<=1/\1<=Za (Zr (Zw x)).size/\Za (Zr (Zw x)).size<=Za (Zr (Zw x)).size)/\∃(x':List UInt8),(Jr x'=Jr l/\OfNat.ofNat 0=0/\x'.length<x.length)/\(Zr (Zw x)).extract 1 (Za (Zr (Zw x)).size).toNat=Zr (Zw x')/\True else K (AV.x false [Zo (Yq (Zr (Zw x)))])else K (AV.x false [Zo (Yq (Zr (Zw x)))]))) ?_
 refine⟨⟨l,⟨rfl,rfl⟩,rfl,trivial⟩,fun x hx _=>QC (fun hp=> ?_) (fun hp=> ?_)⟩
 ·have hsz:ByteArray.size (Zr (Zw x))=x.length:=rfl;cases x with
  | nil=>simp[hsz]at hp
  | cons b x=>
   refine⟨b,⟨by omega,rfl⟩,QC (fun hb=> ?_) (fun hb=> ?_)⟩
   ·have hb0:b=0:=UInt8.toNat_inj.1 (by simpa using hb);rw[hsz];refine⟨⟨by omega,by simp only[List.length_cons,Zj];omega,by omega⟩,x,⟨?_,rfl,by simp⟩,?_,trivial⟩
    ·rw[<-hx];simp[Jr,hb0]
    ·apply ByteArray.ext;simp
   ·have hb0: ¬b=0:=fun e=>by subst e;simp at hb
    have:Jr (b::x)=b::x:=by simp[Jr,hb0]
    rw[<-hx,this]at h;exact h
 ·have:x=[]:=by
   have hsz:ByteArray.size (Zr (Zw x))=x.length:=rfl;cases x with
   | nil=>rfl
   | cons b x=>rw[hsz]at hp;simp at hp
  subst this;rw[<-hx]at h;exact h
theorem QRP (m n:Nat)(K:AV->Prop)(h:K (bA m n)):QK (QE2 T0 (fun _=> .unroll 1) Tryz.f131 [bA m n] K):=by
 refine HV ((bif decide (Za (QA m).length>0)then ∃(b:UInt8),((0:Int)<=0/\(QA m)[0]?=some b)/\bif Za b.toNat==0 then False else K (AV.x false [Ch.b m n])else K (AV.x false [Ch.b m n]))) ?_
 refine QC (fun hp=> ?_) (fun _=>h);have h0:m≠0:=fun e=>by subst e;simp[Q1]at hp
 obtain⟨b,h1,h2⟩:=W3 h0;exact⟨b,⟨by omega,h1⟩,QC (fun hb=>by simp at hb;omega) (fun _=>h)⟩
theorem QRQ (m n:Nat)(K:AV->Prop)(hm:m<18446744073709551616)(h:K (iA .u64 m)):QK (QE2 T0 (QK1 m n) Tryz.f134 [bA m n] K):=by
 refine HV (((∃(x:Nat),(x<=(QA m).length/\OfNat.ofNat 0=0)/\m=m/\n<=n/\0=Za (m/256^((QA m).length-x))/\Za (QA m).length=Za (QA m).length/\0=Za x/\True)/\∀(x:Nat),x<=(QA m).length->OfNat.ofNat 0=0->bif decide (Za x<Za (QA m).length)then(0:Int)<=8/\∃(b:UInt8),(0<=Za x/\(QA m)[(Za x).toNat]?=some b)/\∃(x':Nat),(x'<=(QA m).length/\OfNat.ofNat 0=0/\(QA m).length-x'<(QA m).length-x)/\m=m/\n<=n/\orI Zc (X2 Zc (Za (m/256^((QA m).length-x))) 8) (Zc.wrap (Za b.toNat))=Za (m/256^((QA m).length-x'))/\Za (QA m).length=Za (QA m).length/\Zb.wrap (Za x+1)=Za x'/\True else K (AV.x false [Zo (Ze Zc (Za (m/256^((QA m).length-x))))]))) ?_
 have hlt:=XA m;have hlen:(QA m).length<=8:=Qd.2 (by simpa using hm);refine⟨⟨0,⟨by omega,rfl⟩,rfl,Yu _,?_,rfl,rfl,trivial⟩,fun x hx _=>QC (fun hp=> ?_) (fun hp=> ?_)⟩
 ·rw[Nat.sub_zero,Nat.div_eq_of_lt hlt];rfl
 ·have hp:x<(QA m).length:=by simpa using hp
  refine⟨by omega,_,⟨Int.natCast_nonneg _,WQ hp⟩,x+1,⟨by omega,rfl,by omega⟩,rfl,Yu _,?_,rfl,?_,trivial⟩
  ·have e1:(QA m).length-x=((QA m).length-(x+1))+1:=by omega
   have e2:(QA m).length-1-Int.toNat (Za x)=(QA m).length-(x+1):=by simp only[Zj,Zm];omega
   rw[e1,e2];generalize (QA m).length-(x+1)=k;have h1:m/256^(k+1)=m/256^k/256:=by rw[Ya,Nat.div_div_eq_div_mul]
   rw[h1];have h2:m/256^k<18446744073709551616:=Yo (Nat.div_le_self _ _) hm;generalize m/256^k=y at h2;rw[Zy,Nat.mod_mod];have h3:X2 .u64 (Za (y/256)) 8=((2^8*(y/256):Nat):Int):=by
    have:((y/256:Nat):Int)*2^(min (8:Int).toNat IntKind.u64.bits)=((2^8*(y/256):Nat):Int):=by
     show((y/256:Nat):Int)*2^8=_
     omega
    show Zc.wrap _=_
    rw[Zj,this];exact Wr (by omega) (by omega)
   rw[h3,show Zc.wrap (Za (y % 256))=((y % 256:Nat):Int)from Wr (by simp;omega) (by simp;omega),Ug (by omega) (by omega)];show((_:Nat):Int)=_
   congr 1;omega
  ·rw[H7]<;>simp<;>omega
 ·have hp: ¬x<(QA m).length:=by simpa using hp
  have:(QA m).length-x=0:=by omega
  rw[this,Nat.pow_zero,Nat.div_one];exact h
end Go.Proofs
namespace Go.Proofs
open Go Go.Eng
theorem QM:Tryz.prog.follows .mixedOrders=true:=by kernel_rfl
theorem QVl {P:Program}{g:Nat}{tab:List Value}{T:Qb}{tb:TB}{pr:PR}{pm:PM}{px:PX}{mt:QQp}{it:Nat->Option (Func×OT)}{im:List (Nat×Nat×Bool)}(e:T=⟨tb,pr,pm,px,mt,it,im⟩)(h1:J4 P tb)(h2:QQm P g tab pr)(h3:QQn P g tab pm)(h4:QVI P px)(h5:QGc P mt)
  (h6: ∀f q,it f=some q->P.funcs[f]? =some q.1) (h7: ∀t i e j,tb t=some i->i.und= .slice e->tb e=some j->j.und= .int .u8->P.underlying e=some (.int .u8)):Q8 P g tab T:=by
 subst e;exact⟨h1,h2,h3,h4,h5,h6,h7⟩
theorem QS {g:Nat}{tab:List Value}{l:List (Nat×Ctr)}{m:List (Nat×Xt)}{x:List (Nat×GP)}(h:CtrsOK Tryz.prog g tab l)(hm:CtrMsOK Tryz.prog g tab m)(hx:CtrXsOK Tryz.prog x):Q8 Tryz.prog g tab (mkT l m x):=
 QVl (mkT.eq_1 l m x) Tryz.tb_ok (QVV h) (QVg hm) (QVh hx) (QMP Tryz.prog) (QVe Tryz.prog QUG) fun _ _ e j _ _ he hu=>by rw[(Tryz.tb_ok e j he).und,hu]
theorem Kf {w:World}{O:Nat->Prop}{ρ:Env}{m n:Nat}{v:Value}(h:ConcV w O ρ (QG8 (QA m)) v)(hb:m<2^n):ConcV w O ρ (bA m n) v:=by
 have:=QKI h;subst this;exact Xx (.b hb .nil)
theorem UG (l:List UInt8):QB l<2^(8*l.length):=by
 have:=Uh l;rwa [show(256:Nat)=2^8 from rfl,<-Nat.pow_mul]at this
def QG9:Ctr:=fun l=>match l with
 | [.x false [.b m n]]=>some fun K=>K (bA m n)
 | [.x false [.v (.string s)]]=>some fun K=>K (bA (QB s.data.toList) (8*s.data.toList.length))
 | _=>none
def QDE:Ctr:=fun l=>match l with
 | [.x false [.b m _]]=>some fun K=>m<18446744073709551616/\K (iA .u64 m)
 | _=>none
section
variable {g:Nat}{tab:List Value}
theorem QVm:Q8 Tryz.prog g tab T0:=QS .nil .nil .nil
theorem QRR:CtrOK Tryz.prog g tab 131 QG9:=by
 refine⟨Qg Tryz.func131 (by kernel_rfl),fun l T hT K hK=> ?_⟩;unfold QG9 at hT;split at hT
 ·cases hT
  exact QC9 QVm QM Tryz.func131 (by kernel_rfl) (by kernel_rfl) (QRP _ _ K hK)
 ·rename_i s;cases hT
  refine Spec.res (QC9 QVm QM Tryz.func131 (by kernel_rfl) (by kernel_rfl) (QRO s.data.toList (fun av=>av=QG8 (Jr s.data.toList)) rfl)) ?_
  rintro w O av v rfl hc;refine⟨_,hK,Kf ?_ (UG _)⟩;rw[QAZ];exact hc
 ·cases hT
theorem QM6:CtrOK Tryz.prog g tab 134 QDE:=by
 refine⟨Qg Tryz.func134 (by kernel_rfl),fun l T hT K hK=> ?_⟩;unfold QDE at hT;split at hT
 ·cases hT
  exact QC9 QVm QM Tryz.func134 (by kernel_rfl) (by kernel_rfl) (QRQ _ _ K hK.1 hK.2)
 ·cases hT
def L1:LC:=[(131,QG9),(134,QDE)]
theorem QYf:CtrsOK Tryz.prog g tab L1:= .cons QRR (.cons QM6 .nil)
end
noncomputable def T1:Qb:=mkT L1 [] []
theorem QYg {g:Nat}{tab:List Value}:Q8 Tryz.prog g tab T1:=QS QYf .nil .nil
def noO:OT:=fun _=>([],[])
theorem GQ {n:Nat}(h:n<18446744073709551616):QB [Zk (n/72057594037927936),Zk (n/281474976710656),Zk (n/1099511627776),Zk (n/4294967296),Zk (n/16777216),Zk (n/65536),Zk (n/256),Zk n]=n:=by
 simp only[QB,List.foldl_cons,List.foldl_nil,Zy];omega
theorem Jk {n k:Nat}(hk:k<=64):Zf.wrap (Q4 .u64 (Za n) (k:Int))=((Zk (n/2^k)).toNat:Int):=by
 rw[YT (by simpa [Ys]using hk) (by simp),Yt];simp only[Zm,Zy,Zj];have:((2:Int)^k)=((2^k:Nat):Int):=by simp
 rw[this,<-Int.natCast_ediv];omega
set_option maxHeartbeats 1000000 in
theorem QFC (n:Nat)(K:AV->Prop)(h:n<18446744073709551616)(hK:K (bA n 64)):QK (QP T1 (oF Tryz.f133) (fun _=> .unroll 9) Tryz.f133 [iA .u64 n] K):=by
 refine HV (((∀(vals:List Value),[Ze Zf 0,Ze Zf 0,Ze Zf 0,Ze Zf 0,Ze Zf 0,Ze Zf 0,Ze Zf 0,Ze Zf 0]=vals->[Ze Zf 0,Ze Zf 0,Ze Zf 0,Ze Zf 0,Ze Zf 0,Ze Zf 0,Ze Zf 0,Ze Zf 0]=vals->(0:Int)<=56/\((0:Int)<=0/\(0:Int)<8)/\0<8/\(0:Int)<=48/\((0:Int)<=1/\(1:Int)<8)/\1<8/\(0:Int)<=40/\((0:Int)<=2/\(2:Int)<8)/\2<8/\(0:Int)<=32/\((0:Int)<=3/\(3:Int)<8)/\3<8/\(0:Int)<=24/\((0:Int)<=4/\(4:Int)<8)/\4<8/\(0:Int)<=16/\((0:Int)<=5/\(5:Int)<8)/\5<8/\(0:Int)<=8/\((0:Int)<=6/\(6:Int)<8)/\6<8/\(0:Int)<=0/\((0:Int)<=7/\(7:Int)<8)/\7<8/\((0:Int)<=0/\(0:Int)<=8/\(8:Int)<=8/\8<=8)/\∃(bs:List UInt8),[[Zo (Ze Zf (Zf.wrap (Q4 Zc (Za n) 56)))],[Zo (Ze Zf (Zf.wrap (Q4 Zc (Za n) 48)))],[Zo (Ze Zf (Zf.wrap (Q4 Zc (Za n) 40)))],[Zo (Ze Zf (Zf.wrap (Q4 Zc (Za n) 32)))],[Zo (Ze Zf (Zf.wrap (Q4 Zc (Za n) 24)))],[Zo (Ze Zf (Zf.wrap (Q4 Zc (Za n) 16)))],[Zo (Ze Zf (Zf.wrap (Q4 Zc (Za n) 8)))],[Zo (Ze Zf (Zf.wrap (Q4 Zc (Za n) 0)))]]=Yd QN bs/\K (AV.x false [Ch.b (QB (Zw bs).toList) (8*(Zw bs).toList.length)]))/\[Ze Zf 0,Ze Zf 0,Ze Zf 0,Ze Zf 0,Ze Zf 0,Ze Zf 0,Ze Zf 0,Ze Zf 0]=[Ze Zf 0,Ze Zf 0,Ze Zf 0,Ze Zf 0,Ze Zf 0,Ze Zf 0,Ze Zf 0,Ze Zf 0])) ?_
 refine⟨fun vals hv _=> ?_,rfl⟩;repeat (refine And.intro (by omega) ?_)
 refine⟨[Zk (n/72057594037927936),Zk (n/281474976710656),Zk (n/1099511627776),Zk (n/4294967296),Zk (n/16777216),Zk (n/65536),Zk (n/256),Zk n],?_,?_⟩
 ·simp only[List.map_cons,List.map_nil,QN]
  rw[show Zf.wrap (Q4 .u64 (Za n) 56)=_ from Jk (k:=56) (by omega),show Zf.wrap (Q4 .u64 (Za n) 48)=_ from Jk (k:=48) (by omega),
   show Zf.wrap (Q4 .u64 (Za n) 40)=_ from Jk (k:=40) (by omega),show Zf.wrap (Q4 .u64 (Za n) 32)=_ from Jk (k:=32) (by omega),
   show Zf.wrap (Q4 .u64 (Za n) 24)=_ from Jk (k:=24) (by omega),show Zf.wrap (Q4 .u64 (Za n) 16)=_ from Jk (k:=16) (by omega),
   show Zf.wrap (Q4 .u64 (Za n) 8)=_ from Jk (k:=8) (by omega),show Zf.wrap (Q4 .u64 (Za n) 0)=_ from Jk (k:=0) (by omega)]
  simp
 ·simp only;rw[GQ h];exact hK
def VR:Ctr
 | [.x false [.v (.int .u64 n)]]=>some fun K=>(0<=n/\n<18446744073709551616)/\K (bA n.toNat 64)
 | _=>none
theorem QDF {g:Nat}{tab:List Value}:CtrOK Tryz.prog g tab 133 VR:=by
 refine⟨Qg Tryz.func133 (by kernel_rfl),fun l T hT K hK=> ?_⟩;unfold VR at hT;split at hT
 ·cases hT
  obtain⟨⟨h0,h1⟩,hK⟩:=hK;rename_i n;obtain⟨n,rfl⟩:=Zs h0;exact Qn QYg QM Tryz.func133 (by kernel_rfl) (by kernel_rfl) (by rfl) (QFC n K (by omega) (by simpa using hK))
 ·cases hT
def wl (m:Nat):Nat:=((QA m).length+3)/4
def QK2 (m n:Nat):LI:=fun _=> .inv ⟨Nat,fun i=>⟨[(0,bA m n),(3,.x false [.w 12 0 (wl m)]),(14,iA .i64 (QA m).length),(15,iA .i64 i)],[(12,.row 196 1 (W (fd 4294967296 (wl m) (m % 256^i))))]⟩,
 fun i=>i<=(QA m).length,fun i=>(QA m).length-i,fun _=>0⟩
set_option maxHeartbeats 1000000 in
theorem QRS (m n:Nat)(hn:n<=1099511627776)(hm:m<2^n):QK (YW (X:=Unit) T1 (oF Tryz.f135) (QK2 m n) Tryz.f135 [bA m n] [] (fun _=>True) (fun _=>⟨[(2,.x false [.w 0 0 (wl m)])],[(0,.row 196 1 (W (fd 4294967296 (wl m) m)))]⟩)):=by
 refine HV (((4:Int)≠0/\(0<=Zb.wrap ((Zb.wrap (Za (QA m).length+3)).tdiv 4)/\Zb.wrap ((Zb.wrap (Za (QA m).length+3)).tdiv 4)<=Zb.wrap ((Zb.wrap (Za (QA m).length+3)).tdiv 4)/\4*Zb.wrap ((Zb.wrap (Za (QA m).length+3)).tdiv 4)<=281474976710656/\Zb.wrap ((Zb.wrap (Za (QA m).length+3)).tdiv 4)<=9223372036854775807)/\(∃(x:Nat),(x<=(QA m).length/\OfNat.ofNat 0=0)/\m=m/\n<=n/\0=0/\(Zb.wrap ((Zb.wrap (Za (QA m).length+3)).tdiv 4)).toNat=wl m/\Za (QA m).length=Za (QA m).length/\0=Za x/\196=196/\1=1/\(Zh (Zb.wrap ((Zb.wrap (Za (QA m).length+3)).tdiv 4)).toNat [Zo (Ze Zd 0)]=W (fd 4294967296 (wl m) (m%256^x))∨QE (Zh (Zb.wrap ((Zb.wrap (Za (QA m).length+3)).tdiv 4)).toNat [Zo (Ze Zd 0)]) (W (fd 4294967296 (wl m) (m%256^x))))/\True)/\∀(x:Nat),x<=(QA m).length->OfNat.ofNat 0=0->bif decide (Za x<Za (QA m).length)then(4:Int)≠0/\(0<=Zb.wrap ((Za x).tdiv 4)/\Zb.wrap ((Za x).tdiv 4)<Za (wl m))/\∃(d:Int),ldE (W (fd 4294967296 (wl m) (m%256^x))) (0+(Zb.wrap ((Za x).tdiv 4)).toNat) 0 1=some [Zo (Ze Zd d)]/\∃(b:UInt8),(0<=Zb.wrap (Zb.wrap (Za (QA m).length-1)-Za x)/\(QA m)[(Zb.wrap (Zb.wrap (Za (QA m).length-1)-Za x)).toNat]?=some b)/\(4:Int)≠0/\0<=Zb.wrap ((Za x).tmod 4*8)/\(0<=Zb.wrap ((Za x).tdiv 4)/\Zb.wrap ((Za x).tdiv 4)<Za (wl m))/\0+(Zb.wrap ((Za x).tdiv 4)).toNat<(W (fd 4294967296 (wl m) (m%256^x))).length/\∃(x':Nat),(x'<=(QA m).length/\OfNat.ofNat 0=0/\(QA m).length-x'<(QA m).length-x)/\m=m/\n<=n/\0=0/\wl m=wl m/\Za (QA m).length=Za (QA m).length/\Zb.wrap (Za x+1)=Za x'/\196=196/\1=1/\((W (fd 4294967296 (wl m) (m%256^x))).set (0+(Zb.wrap ((Za x).tdiv 4)).toNat) [Zo (Ze Zd (orI Zd d (X2 Zd (Zd.wrap (Za b.toNat)) (Zb.wrap ((Za x).tmod 4*8)))))]=W (fd 4294967296 (wl m) (m%256^x'))∨QE ((W (fd 4294967296 (wl m) (m%256^x))).set (0+(Zb.wrap ((Za x).tdiv 4)).toNat) [Zo (Ze Zd (orI Zd d (X2 Zd (Zd.wrap (Za b.toNat)) (Zb.wrap ((Za x).tmod 4*8)))))]) (W (fd 4294967296 (wl m) (m%256^x'))))/\True else ∃(_x_1:Unit),True/\0=0/\wl m=wl m/\196=196/\1=1/\(W (fd 4294967296 (wl m) (m%256^x))=W (fd 4294967296 (wl m) m)∨QE (W (fd 4294967296 (wl m) (m%256^x))) (W (fd 4294967296 (wl m) m)))/\True)) ?_
 have hl:=XK hm;have hw: ∀x:Nat,x<=(QA m).length->(x:Int)<9223372036854775807:=fun x hx=>by omega
 generalize hlen:(QA m).length=len at hl hw;have hwl:wl m=(len+3)/4:=by unfold wl;rw[hlen]
 simp only[hwl];simp only[Zj,R0,R1,Ye,Yu,R4];simp(disch:=omega) only[w64,te,tm];have e1:(((len:Int)+3)/4).toNat=(len+3)/4:=by omega
 rw[e1];simp only[R0];refine⟨by omega,⟨by omega,by omega,by omega,by omega⟩,⟨0,by omega,rfl,.inl ?_⟩,fun x hx=>QC (fun hp=> ?_) (fun hp=> ?_)⟩
 ·rw[Nat.pow_zero,Nat.mod_one,QM2,W,List.map_replicate];rfl
 ·have hp:x<len:=by simpa using hp
  simp(disch:=omega) only[w64];have e2:((x:Int)/4).toNat=x/4:=by omega
  have e3:((len:Int)-1-x).toNat=len-1-x:=by omega
  have hj:x/4<(len+3)/4:=by omega
  rw[e2,e3];refine⟨by omega,by omega,_,YX (Jh hj),_,⟨by omega,WQ (by omega)⟩,by omega,by omega,by omega,by rw[J8,Qj];exact hj,x+1,by omega,by omega,.inl ?_⟩;rw[hlen,show len-1-(len-1-x)=x by omega,Zy,Nat.mod_mod,<-QRJ (by omega),<-WN];congr 4;rw[show((x:Int) % 4)=((x % 4:Nat):Int)by omega];exact QKu (QRK m x) (by omega) (Yj _ (by omega))
 ·have hp: ¬x<len:=by simpa using hp
  have:x=len:=by omega
  subst this;exact⟨(),.inl (by rw[Yk (by rw[<-hlen];exact XA m)])⟩
def QDG:Xt:=fun as0 H d=>match as0 with
  | [.x false [.b m n]]=>match H d with
    | none=>some fun K=>n<=1099511627776/\K (.x false [.w d 0 (wl m)]) (XO [(0,d)] (QR [(0,.row 196 1 (W (fd 4294967296 (wl m) m)))]) H)
    | some _=>none
  | _=>none
theorem SpecM.pre {P:Program}{g:Nat}{tab:List Value}{f:Nat}{l:List AV}{H:HP}{K:KK}(h:(∀w O ρ vals,Qr w O ρ l vals->SpecM P g tab f l H K)):SpecM P g tab f l H K:=
 fun w0 M ρ w vals hg ht hs hc=>h w _ ρ vals hc w0 M ρ w vals hg ht hs hc
theorem WR {w:World}{O:Nat->Prop}{ρ:Env}{m n:Nat}{l:List AV}{vals:List Value}(h:Qr w O ρ (.x false [.b m n]::l) vals):m<2^n:=by
 cases h with
 | cons h _=>exact(WD h).2
theorem QM7 {g:Nat}{tab:List Value}:We Tryz.prog g tab 135 QDG:=by
 refine⟨Qg Tryz.func135 (by kernel_rfl),fun l H d T hT K hK=> ?_⟩;unfold QDG at hT;split at hT
 ·split at hT
  ·rename_i hd;cases hT
   exact SpecM.pre fun w O ρ vals hc=>WV QYg QM Tryz.func135 (by kernel_rfl) (by kernel_rfl) (by rfl) (by rfl) hd (by kernel_rfl) (QRS _ _ hK.1 (WR hc)) hK.2
  ·cases hT
 ·cases hT
end Go.Proofs
namespace Go.Proofs
open Go Go.Eng
def L2:LC:=(133,VR)::L1
def M2:List (Nat×Xt):=[(135,QDG)]
noncomputable def T2:Qb:=mkT L2 M2 []
theorem QYh {g:Nat}{tab:List Value}:CtrsOK Tryz.prog g tab L2:= .cons QDF QYf
theorem QK3 {g:Nat}{tab:List Value}:CtrMsOK Tryz.prog g tab M2:= .cons QM7 .nil
theorem Qai {g:Nat}{tab:List Value}:Q8 Tryz.prog g tab T2:=QS QYh QK3 .nil
def tbs (ds:List Nat):List UInt8:=ds.foldl (fun(l:List UInt8) (d:Nat)=>Zk (d/16777216)::Zk (d/65536)::Zk (d/256)::Zk d::l) []
theorem QAe (ds:List Nat)(d:Nat):tbs (ds++[d])=[Zk (d/16777216),Zk (d/65536),Zk (d/256),Zk d]++tbs ds:=by
 unfold tbs;rw[List.foldl_append];rfl
theorem Gg (ds:List Nat):(tbs ds).length=4*ds.length:=by
 induction ds using Vn with
 | h0=>rfl
 | h1 l d ih=>rw[QAe];simp[ih];omega
theorem be4 {d:Nat}(h:d<4294967296):QB [Zk (d/16777216),Zk (d/65536),Zk (d/256),Zk d]=d:=by
 simp only[QB,List.foldl_cons,List.foldl_nil,Zy];omega
theorem QRT {ds:List Nat}(h:Dig 4294967296 ds):QB (tbs ds)=QH 4294967296 ds:=by
 induction ds using Vn with
 | h0=>rfl
 | h1 l d ih=>
  have hd:=h d (by simp);have hl:=ih (fun x hx=>h x (by simp[hx]));rw[QAe,Kd,be4 hd,hl,Gg,Ji];simp only[QH,Nat.mul_zero,Nat.add_zero];rw[Nat.pow_mul,show(256:Nat)^4=4294967296 from rfl,Yr,Yn]
theorem Qaj {α:Type}{p q:List α}{z1 z2 z3 z4 a b c e:α}{k:Nat}(hk:p.length=k):((((p++([z1,z2,z3,z4]++q)).set k a).set (k+1) b).set (k+2) c).set (k+3) e=p++([a,b,c,e]++q):=by
 subst hk;simp[]
theorem UH {n k:Nat}(hk:k<=32):Zf.wrap (Q4 .u32 (n:Int) (k:Int))=((Zk (n/2^k)).toNat:Int):=by
 rw[YT (by simpa [Ys]using hk) (by simp),Yt];simp only[Zm,Zy];have:((2:Int)^k)=((2^k:Nat):Int):=by simp
 rw[this,<-Int.natCast_ediv];omega
theorem QK4 (b:UInt8):[Zo (.int .u8 (b.toNat:Int))]=QN b:=rfl
def QM8 (ds:List Nat):LI:=fun _=> .inv ⟨Nat,fun i=>⟨[(0,.x false [.s 1 (W ds)]),(3,.x false [.w 10 0 (4*ds.length)]),(11,.x false [.s 1 (W ds)]),(12,iA .i64 ds.length),(13,iA .i64 i)],
  [(10,.row 5 1 ((Zh (4*(ds.length-i)) 0++tbs (ds.take i)).map QN))]⟩,fun i=>i<=ds.length,fun i=>ds.length-i,fun _=>0⟩
set_option maxHeartbeats 1000000 in
theorem QVn (ds:List Nat)(K:AV->Prop)(hd:Dig 4294967296 ds)(hn:ds.length<=1099511627776)(hK:K (bA (QH 4294967296 ds) (32*ds.length))):QK (QP T2 (oF Tryz.f136) (QM8 ds) Tryz.f136 [.x false [.s 1 (W ds)]] K):=by
 refine HV (((0<=Zb.wrap (4*Za (W ds).length)/\Zb.wrap (4*Za (W ds).length)<=Zb.wrap (4*Za (W ds).length)/\1*Zb.wrap (4*Za (W ds).length)<=281474976710656/\Zb.wrap (4*Za (W ds).length)<=9223372036854775807)/\(∃(x:Nat),(x<=ds.length/\OfNat.ofNat 0=0)/\1=1/\W ds=W ds/\0=0/\(Zb.wrap (4*Za (W ds).length)).toNat=4*ds.length/\1=1/\W ds=W ds/\Za (W ds).length=Za ds.length/\0=Za x/\5=5/\1=1/\(Zh (Zb.wrap (4*Za (W ds).length)).toNat [Zo (Ze Zf 0)]=Yd QN (Zh (4*(ds.length-x)) (OfNat.ofNat 0)++tbs (Zu x ds))∨QE (Zh (Zb.wrap (4*Za (W ds).length)).toNat [Zo (Ze Zf 0)]) (Yd QN (Zh (4*(ds.length-x)) (OfNat.ofNat 0)++tbs (Zu x ds))))/\True)/\∀(x:Nat),x<=ds.length->OfNat.ofNat 0=0->bif decide (Za x<Za ds.length)then(0<=Za x/\Za x<Za (W ds).length)/\∃(d:Int),ldE (W ds) (Za x).toNat 0 1=some [Zo (Ze Zd d)]/\(0:Int)<=24/\(0:Int)<=16/\(0:Int)<=8/\(0<=Zb.wrap (4*Zb.wrap (Zb.wrap (Za (W ds).length-1)-Za x))/\Zb.wrap (4*Zb.wrap (Zb.wrap (Za (W ds).length-1)-Za x))<Za (4*ds.length))/\0+(Zb.wrap (4*Zb.wrap (Zb.wrap (Za (W ds).length-1)-Za x))).toNat<(Yd QN (Zh (4*(ds.length-x)) (OfNat.ofNat 0)++tbs (Zu x ds))).length/\(0<=Zb.wrap (Zb.wrap (4*Zb.wrap (Zb.wrap (Za (W ds).length-1)-Za x))+1)/\Zb.wrap (Zb.wrap (4*Zb.wrap (Zb.wrap (Za (W ds).length-1)-Za x))+1)<Za (4*ds.length))/\0+(Zb.wrap (Zb.wrap (4*Zb.wrap (Zb.wrap (Za (W ds).length-1)-Za x))+1)).toNat<((Yd QN (Zh (4*(ds.length-x)) (OfNat.ofNat 0)++tbs (Zu x ds))).set (0+(Zb.wrap (4*Zb.wrap (Zb.wrap (Za (W ds).length-1)-Za x))).toNat) [Zo (Ze Zf (Zf.wrap (Q4 Zd d 24)))]).length/\(0<=Zb.wrap (Zb.wrap (4*Zb.wrap (Zb.wrap (Za (W ds).length-1)-Za x))+2)/\Zb.wrap (Zb.wrap (4*Zb.wrap (Zb.wrap (Za (W ds).length-1)-Za x))+2)<Za (4*ds.length))/\0+(Zb.wrap (Zb.wrap (4*Zb.wrap (Zb.wrap (Za (W ds).length-1)-Za x))+2)).toNat<(((Yd QN (Zh (4*(ds.length-x)) (OfNat.ofNat 0)++tbs (Zu x ds))).set (0+(Zb.wrap (4*Zb.wrap (Zb.wrap (Za (W ds).length-1)-Za x))).toNat) [Zo (Ze Zf (Zf.wrap (Q4 Zd d 24)))]).set (0+(Zb.wrap (Zb.wrap (4*Zb.wrap (Zb.wrap (Za (W ds).length-1)-Za x))+1)).toNat) [Zo (Ze Zf (Zf.wrap (Q4 Zd d 16)))]).length/\(0<=Zb.wrap (Zb.wrap (4*Zb.wrap (Zb.wrap (Za (W ds).length-1)-Za x))+3)/\Zb.wrap (Zb.wrap (4*Zb.wrap (Zb.wrap (Za (W ds).length-1)-Za x))+3)<Za (4*ds.length))/\0+(Zb.wrap (Zb.wrap (4*Zb.wrap (Zb.wrap (Za (W ds).length-1)-Za x))+3)).toNat<((((Yd QN (Zh (4*(ds.length-x)) (OfNat.ofNat 0)++tbs (Zu x ds))).set (0+(Zb.wrap (4*Zb.wrap (Zb.wrap (Za (W ds).length-1)-Za x))).toNat) [Zo (Ze Zf (Zf.wrap (Q4 Zd d 24)))]).set (0+(Zb.wrap (Zb.wrap (4*Zb.wrap (Zb.wrap (Za (W ds).length-1)-Za x))+1)).toNat) [Zo (Ze Zf (Zf.wrap (Q4 Zd d 16)))]).set (0+(Zb.wrap (Zb.wrap (4*Zb.wrap (Zb.wrap (Za (W ds).length-1)-Za x))+2)).toNat) [Zo (Ze Zf (Zf.wrap (Q4 Zd d 8)))]).length/\∃(x':Nat),(x'<=ds.length/\OfNat.ofNat 0=0/\ds.length-x'<ds.length-x)/\1=1/\W ds=W ds/\0=0/\4*ds.length=4*ds.length/\1=1/\W ds=W ds/\Za ds.length=Za ds.length/\Zb.wrap (Za x+1)=Za x'/\5=5/\1=1/\(((((Yd QN (Zh (4*(ds.length-x)) (OfNat.ofNat 0)++tbs (Zu x ds))).set (0+(Zb.wrap (4*Zb.wrap (Zb.wrap (Za (W ds).length-1)-Za x))).toNat) [Zo (Ze Zf (Zf.wrap (Q4 Zd d 24)))]).set (0+(Zb.wrap (Zb.wrap (4*Zb.wrap (Zb.wrap (Za (W ds).length-1)-Za x))+1)).toNat) [Zo (Ze Zf (Zf.wrap (Q4 Zd d 16)))]).set (0+(Zb.wrap (Zb.wrap (4*Zb.wrap (Zb.wrap (Za (W ds).length-1)-Za x))+2)).toNat) [Zo (Ze Zf (Zf.wrap (Q4 Zd d 8)))]).set (0+(Zb.wrap (Zb.wrap (4*Zb.wrap (Zb.wrap (Za (W ds).length-1)-Za x))+3)).toNat) [Zo (Ze Zf (Zf.wrap d))]=Yd QN (Zh (4*(ds.length-x')) (OfNat.ofNat 0)++tbs (Zu x' ds))∨QE (((((Yd QN (Zh (4*(ds.length-x)) (OfNat.ofNat 0)++tbs (Zu x ds))).set (0+(Zb.wrap (4*Zb.wrap (Zb.wrap (Za (W ds).length-1)-Za x))).toNat) [Zo (Ze Zf (Zf.wrap (Q4 Zd d 24)))]).set (0+(Zb.wrap (Zb.wrap (4*Zb.wrap (Zb.wrap (Za (W ds).length-1)-Za x))+1)).toNat) [Zo (Ze Zf (Zf.wrap (Q4 Zd d 16)))]).set (0+(Zb.wrap (Zb.wrap (4*Zb.wrap (Zb.wrap (Za (W ds).length-1)-Za x))+2)).toNat) [Zo (Ze Zf (Zf.wrap (Q4 Zd d 8)))]).set (0+(Zb.wrap (Zb.wrap (4*Zb.wrap (Zb.wrap (Za (W ds).length-1)-Za x))+3)).toNat) [Zo (Ze Zf (Zf.wrap d))]) (Yd QN (Zh (4*(ds.length-x')) (OfNat.ofNat 0)++tbs (Zu x' ds))))/\True else ∃(bs:List UInt8),Zu (4*ds.length) (Yh 0 (Yd QN (Zh (4*(ds.length-x)) (OfNat.ofNat 0)++tbs (Zu x ds))))=Yd QN bs/\K (AV.x false [Ch.b (QB (Zw bs).toList) (8*(Zw bs).toList.length)]))) ?_
 simp only[J8];generalize hlen:ds.length=len at hn hK;simp only[Zj,R0,R1,Ye,R4];simp(disch:=omega) only[w64];have e1:((4:Int)*len).toNat=4*len:=by omega
 simp only[e1,R0];refine⟨⟨by omega,by omega,by omega,by omega⟩,⟨0,by omega,rfl,.inl ?_⟩,fun x hx=>QC (fun hp=> ?_) (fun hp=> ?_)⟩
 ·simp[tbs,QN]
 ·have hp:x<len:=by simpa using hp
  simp(disch:=omega) only[w64];obtain⟨d,hget⟩: ∃d,ds[x]? =some d:=⟨_,Zg (by omega)⟩
  have hdd:=hd.get hget;have f1:((4:Int)*((len:Int)-1-x)).toNat=4*(len-1-x):=by omega
  have f2:((4:Int)*((len:Int)-1-x)+1).toNat=4*(len-1-x)+1:=by omega
  have f3:((4:Int)*((len:Int)-1-x)+2).toNat=4*(len-1-x)+2:=by omega
  have f4:((4:Int)*((len:Int)-1-x)+3).toNat=4*(len-1-x)+3:=by omega
  have hl1:(Yd QN (Zh (4*(len-x)) 0++tbs (Zu x ds))).length=4*len:=by
   simp[Gg,hlen];omega
  simp only[f1,f2,f3,f4,Yg,hl1,Zm];refine⟨by omega,_,YX hget,?_⟩;repeat (refine And.intro (by omega) ?_)
  refine⟨x+1,⟨by omega,by omega⟩,by omega,.inl ?_⟩;have e5:len-x=(len-(x+1))+1:=by omega
  rw[List.take_add_one,hget,Option.toList_some,QAe,e5,Zl,Nat.mul_one,<-List.replicate_append_replicate,List.append_assoc,show len-1-x=len-(x+1)by omega];rw[show Zh 4 (0:UInt8)=[0,0,0,0]from rfl]
  rw[show Zf.wrap (Q4 .u32 (d:Int) 24)=_ from UH (k:=24) (by omega),show Zf.wrap (Q4 .u32 (d:Int) 16)=_ from UH (k:=16) (by omega),
   show Zf.wrap (Q4 .u32 (d:Int) 8)=_ from UH (k:=8) (by omega)]
  rw[show Zf.wrap (d:Int)=((Zk d).toNat:Int)by rw[Yt,Zy];omega];simp only[QK4,<-List.map_set];congr 1;exact Qaj (by simp)
 ·have hp: ¬x<len:=by simpa using hp
  have:x=len:=by omega
  subst this;refine⟨tbs ds,?_,?_⟩
  ·have e0:Zu x ds=ds:=Yb (by omega);have e9:4*(x-x)=0:=by omega
   rw[e0,e9,List.replicate_zero,List.nil_append,Yv,Yb (by rw[List.length_map,Gg];omega)]
  ·rw[QRT hd,Gg,hlen,<-Zp];exact hK
def QHA:Ctr
 | [.x false [.s 1 xs]]=>some fun K=> ∃ds,xs=W ds/\Dig 4294967296 ds/\ds.length<=1099511627776/\K (bA (QH 4294967296 ds) (32*ds.length))
 | _=>none
theorem QRU {g:Nat}{tab:List Value}:CtrOK Tryz.prog g tab 136 QHA:=by
 refine⟨Qg Tryz.func136 (by kernel_rfl),fun l T hT K hK=> ?_⟩;unfold QHA at hT;split at hT
 ·cases hT
  obtain⟨ds,rfl,h1,h2,h3⟩:=hK;exact Qn Qai QM Tryz.func136 (by kernel_rfl) (by kernel_rfl) (by rfl) (QVn ds K h1 h2 h3)
 ·cases hT
end Go.Proofs
namespace Go.Proofs
open Go Go.Eng
def VS:GP:=fun as0=>match as0 with
 | [.x false [.b m _],.x false [.b n _]]=>some fun K=>K (iA .i64 (Lib.compareBytes (QA m) (QA n)))
 | _=>none
def L3:LC:=(136,QHA)::L2
def X3:List (Nat×GP):=[(212,VS)]
noncomputable def T3:Qb:=mkT L3 M2 X3
theorem QDH:QDB Tryz.prog 212 VS:=by
 intro l T hT K hK w O ρ vals hc;unfold VS at hT;split at hT
 ·cases hT
  cases hc with
  | cons h1 hc=>cases hc with
   | cons h2 hc=>
    cases hc
    obtain⟨rfl,_⟩:=WD h1;obtain⟨rfl,_⟩:=WD h2;refine⟨_,_,?_,Qc rfl,hK⟩;rw[run_callFunc_extern Tryz.func212 (by kernel_rfl) (by kernel_rfl) (by kernel_rfl) (e:=Extern.BytealgCompare.compare) (by kernel_rfl)];simp only[JF];rw[Lib.run_compareString];rfl
 ·cases hT
theorem QYi {g:Nat}{tab:List Value}:CtrsOK Tryz.prog g tab L3:= .cons QRU QYh
theorem GR:CtrXsOK Tryz.prog X3:= .cons QDH .nil
theorem Qak {g:Nat}{tab:List Value}:Q8 Tryz.prog g tab T3:=QS QYi QK3 GR
def WX:Ctr
 | [.x false [.b m _],.x false [.b n _]]=>some fun K=>K (iA .i64 (Lib.compareBytes (QA m) (QA n)))
 | _=>none
def Wf (m a n b:Nat)(K:AV->Prop):Prop:=QP T3 (oF Tryz.f180) noL Tryz.f180 [bA m a,bA n b] K
theorem Kw (m:Nat)(a:Nat)(n:Nat)(b:Nat)(K:AV->Prop):Wf m a n b K=(K (AV.x false [Zo (Ze Zb (Lib.compareBytes (QA m) (QA n)))])):=by kernel_rfl
theorem Hi {g:Nat}{tab:List Value}:CtrOK Tryz.prog g tab 180 WX:=by
 refine⟨Qg Tryz.func180 (by kernel_rfl),fun l T hT K hK=> ?_⟩;unfold WX at hT;split at hT
 ·cases hT
  exact Qn Qak QM Tryz.func180 (by kernel_rfl) (by kernel_rfl) (by rfl) (show QK (Wf _ _ _ _ K)from⟨by rw[Kw];exact hK⟩)
 ·cases hT
def L4:LC:=(180,WX)::L3
noncomputable def T4:Qb:=mkT L4 M2 X3
theorem QYj {g:Nat}{tab:List Value}:CtrsOK Tryz.prog g tab L4:= .cons Hi QYi
theorem Qal {g:Nat}{tab:List Value}:Q8 Tryz.prog g tab T4:=QS QYj QK3 GR
def Uj (m a n b:Nat)(K:AV->Prop):Prop:=QP T4 (oF Tryz.f132) noL Tryz.f132 [bA m a,bA n b] K
theorem GS (m:Nat)(a:Nat)(n:Nat)(b:Nat)(K:AV->Prop):Uj m a n b K=(K (AV.x false [Zo (Ze Zb (Lib.compareBytes (QA m) (QA n)))])):=by kernel_rfl
theorem QHB {g:Nat}{tab:List Value}:CtrOK Tryz.prog g tab 132 WX:=by
 refine⟨Qg Tryz.func132 (by kernel_rfl),fun l T hT K hK=> ?_⟩;unfold WX at hT;split at hT
 ·cases hT
  exact Qn Qal QM Tryz.func132 (by kernel_rfl) (by kernel_rfl) (by rfl) (show QK (Uj _ _ _ _ K)from⟨by rw[GS];exact hK⟩)
 ·cases hT
def L5:LC:=(132,WX)::L4
noncomputable def T5:Qb:=mkT L5 M2 X3
theorem QYk {g:Nat}{tab:List Value}:CtrsOK Tryz.prog g tab L5:= .cons QHB QYj
theorem QVo {g:Nat}{tab:List Value}:Q8 Tryz.prog g tab T5:=QS QYk QK3 GR
def QI2 (n:Int)(K:AV->Prop):Prop:=QP T5 (oF Tryz.f125) noL Tryz.f125 [iA .i64 n] K
theorem QHC (n:Int)(K:AV->Prop):QI2 n K=(bif decide (n<1)then K (AV.x false [Zo (Yq (Zr (Zw [])))])else(0<=Zc.wrap n/\Zc.wrap n<18446744073709551616)/\K (AV.x false [Ch.b (Zc.wrap n).toNat 64])):=by kernel_rfl
def QHD (x y:Nat):LI:=fun _=> .inv ⟨Nat×Nat,fun i=>⟨[(0,iA .u64 i.1),(1,iA .u64 i.2)],[]⟩,fun i=>Nat.gcd i.1 i.2=Nat.gcd x y/\i.1<18446744073709551616/\i.2<18446744073709551616,fun i=>i.2,fun _=>0⟩
theorem Kg (x:UInt8)(l:List UInt8):QB (x::l)=x.toNat*256^l.length+QB l:=by
 have:=Kd [x] l;simpa [QB]using this
theorem QHE: ∀{a b:List UInt8},a.length=b.length->Lib.compareBytes a b=JI (QB a) (QB b):=by
 intro a;induction a with
 | nil=>intro b h;cases b with
  | nil=>rfl
  | cons=>cases h
 | cons x a ih=>
  intro b h;cases b with
  | nil=>cases h
  | cons y b=>
   have hl:a.length=b.length:=by simpa using h
   rw[Lib.compareBytes,Kg,Kg,ih hl,hl];have h1:=Uh a;have h2:=Uh b;rw[hl]at h1;generalize 256^b.length=p at h1 h2;simp only[UInt8.lt_iff_toNat_lt];rcases Nat.lt_trichotomy x.toNat y.toNat with h | h | h
   ·rw[if_pos h];have:(x.toNat+1)*p<=y.toNat*p:=Nat.mul_le_mul_right _ h;rw[Nat.add_mul]at this;unfold JI;rw[if_pos (by omega)]
   ·rw[if_neg (by omega),if_neg (by omega),h];unfold JI;simp only[Nat.add_lt_add_iff_left,Nat.add_left_cancel_iff]
   ·rw[if_neg (by omega),if_pos h];have:(y.toNat+1)*p<=x.toNat*p:=Nat.mul_le_mul_right _ h;rw[Nat.add_mul]at this;unfold JI;rw[if_neg (by omega),if_neg (by omega)]
theorem Hj {m n:Nat}(h:(QA m).length<(QA n).length):m<n:=by
 have h1:=Qd (m:=n) (k:=(QA m).length);have h2:=XA m;have: ¬n<256^(QA m).length:=fun h'=>by have:=h1.2 h';omega
 omega
theorem QYl (m a n b:Nat)(K:AV->Prop)(h:K (iA .i64 (JI m n))):QK (QP T5 (oF Tryz.f74) noL Tryz.f74 [bA m a,bA n b] K):=by
 refine HV ((bif decide (Za (QA m).length<Za (QA n).length)then K (AV.x false [Zo (Ze Zb (-1))])else bif decide (Za (QA m).length>Za (QA n).length)then K (AV.x false [Zo (Ze Zb 1)])else K (AV.x false [Zo (Ze Zb (Lib.compareBytes (QA m) (QA n)))]))) ?_
 refine QC (fun hp=> ?_) (fun hp=>QC (fun hq=> ?_) (fun hq=> ?_))
 ·have:=Hj (m:=m) (n:=n) (by simpa using hp);unfold JI at h;rw[if_pos this]at h;exact h
 ·have:=Hj (m:=n) (n:=m) (by simpa using hq);unfold JI at h;rw[if_neg (by omega),if_neg (by omega)]at h;exact h
 ·simp at hp hq;rw[QHE (by omega),XR,XR];exact h
def NatIs (m n:Nat)(av:AV):Prop:=m<2^n/\((∃n',av=bA m n')∨ ∃l,av= .x false [.v (.string ⟨l.toArray⟩)]/\l=QA m)
theorem NatIs.b {m n n':Nat}(h:m<2^n):NatIs m n (bA m n'):=⟨h,.inl ⟨n',rfl⟩⟩
theorem NatIs.conc {w:World}{O:Nat->Prop}{ρ:Env}{m n:Nat}{av:AV}{v:Value}(h:NatIs m n av)(hc:ConcV w O ρ av v):ConcV w O ρ (bA m n) v:=by
 obtain⟨h1,⟨n',rfl⟩ | ⟨l,rfl,rfl⟩⟩:=h
 ·obtain⟨rfl,_⟩:=WD hc;exact Xx (.b h1 .nil)
 ·exact Kf hc h1
theorem Qam (n:Int)(h:n<9223372036854775808):QK (QI2 n (NatIs n.toNat 63)):=by
 refine⟨?_⟩;rw[QHC];refine QC (fun hp=> ?_) (fun hp=> ?_)
 ·have hp:n<1:=by simpa using hp
  have:n.toNat=0:=by omega
  rw[this];exact⟨by omega,.inr ⟨[],rfl,rfl⟩⟩
 ·have hp: ¬n<1:=by simpa using hp
  rw[Xs (by omega)];exact⟨by omega,.b (by omega)⟩
theorem QM9 (x y:Nat)(K:AV->Prop)(hx:x<18446744073709551616)(hy:y<18446744073709551616)(h:K (iA .u64 (Nat.gcd x y:Nat))):QK (QP T5 (oF Tryz.f182) (QHD x y) Tryz.f182 [iA .u64 x,iA .u64 y] K):=by
 refine HV (((∃(x_1:Nat×Nat),((x_1.fst.gcd x_1.snd=x.gcd y/\x_1.fst<18446744073709551616/\x_1.snd<18446744073709551616)/\OfNat.ofNat 0=0)/\Za x=Za x_1.fst/\Za y=Za x_1.snd/\True)/\∀(x_1:Nat×Nat),x_1.fst.gcd x_1.snd=x.gcd y/\x_1.fst<18446744073709551616/\x_1.snd<18446744073709551616->OfNat.ofNat 0=0->bif decide (Za x_1.snd>0)then Za x_1.snd≠0/\∃(x':Nat×Nat),((x'.fst.gcd x'.snd=x.gcd y/\x'.fst<18446744073709551616/\x'.snd<18446744073709551616)/\OfNat.ofNat 0=0/\x'.snd<x_1.snd)/\Za x_1.snd=Za x'.fst/\(Za x_1.fst).tmod (Za x_1.snd)=Za x'.snd/\True else K (AV.x false [Zo (Ze Zc (Za x_1.fst))]))) ?_
 refine⟨⟨(x,y),⟨⟨rfl,hx,hy⟩,rfl⟩,rfl,rfl,trivial⟩,fun p hp _=>QC (fun hq=> ?_) (fun hq=> ?_)⟩
 ·obtain⟨u,v⟩:=p;obtain⟨h1,h2,h3⟩:=hp;simp only at h1 h2 h3 hq⊢;have hv:v≠0:=by simp at hq;omega
  refine⟨by simp;omega,(v,u % v),⟨⟨?_,h3,Nat.lt_trans (Yj _ (by omega)) h3⟩,by simp,Yj _ (by omega)⟩,rfl,?_,trivial⟩
  ·rw[<-h1,Nat.gcd_comm v,<-Nat.gcd_rec,Nat.gcd_comm]
  ·simp only[Zj];rw[tm (by omega)];simp
 ·obtain⟨u,v⟩:=p;obtain⟨h1,h2,h3⟩:=hp;simp only at h1 h2 h3 hq⊢;have hv:v=0:=by simp at hq;omega
  subst hv;rw[Nat.gcd_zero_right]at h1;subst h1;exact h
def QI3:Ctr
 | [.x false [.b m _],.x false [.b n _]]=>some fun K=>K (iA .i64 (JI m n))
 | _=>none
def QVp:Ctr
 | [.x false [.v (.int .i64 n)]]=>some fun K=>n<9223372036854775808/\K (bA n.toNat 63)
 | _=>none
def QAf:Ctr
 | [.x false [.v (.int .u64 x)],.x false [.v (.int .u64 y)]]=>some fun K=>((0<=x/\x<18446744073709551616)/\0<=y/\y<18446744073709551616)/\K (iA .u64 (Nat.gcd x.toNat y.toNat:Nat))
 | _=>none
theorem ok_Cmp {g:Nat}{tab:List Value}:CtrOK Tryz.prog g tab 74 QI3:=by
 refine⟨Qg Tryz.func74 (by kernel_rfl),fun l T hT K hK=> ?_⟩;unfold QI3 at hT;split at hT
 ·rename_i m a n b;cases hT
  have hG:=QYl m a n b K hK;exact Qn QVo QM Tryz.func74 (by kernel_rfl) (by kernel_rfl) (by rfl) hG
 ·cases hT
theorem Wg {P:Program}{g:Nat}{tab:List Value}{f:Nat}{l:List AV}{m n:Nat}{K:AV->Prop}(h:Eng.Spec P g tab f l (NatIs m n))(hk:K (bA m n)):Eng.Spec P g tab f l K:=
 Eng.Spec.res h fun _ _ _ _ hn hc=>⟨_,hk,hn.conc hc⟩
theorem QYm {g:Nat}{tab:List Value}:CtrOK Tryz.prog g tab 125 QVp:=by
 refine⟨Qg Tryz.func125 (by kernel_rfl),fun l T hT K hK=> ?_⟩;unfold QVp at hT;split at hT
 ·cases hT
  exact Wg (Qn QVo QM Tryz.func125 (by kernel_rfl) (by kernel_rfl) (by rfl) (Qam _ hK.1)) hK.2
 ·cases hT
theorem QK5 {g:Nat}{tab:List Value}:CtrOK Tryz.prog g tab 182 QAf:=by
 refine⟨Qg Tryz.func182 (by kernel_rfl),fun l T hT K hK=> ?_⟩;unfold QAf at hT;split at hT
 ·cases hT
  rename_i x y;obtain⟨⟨⟨a1,a2⟩,a3,a4⟩,hK⟩:=hK;obtain⟨x,rfl⟩:=Zs a1;obtain⟨y,rfl⟩:=Zs a3;exact Qn QVo QM Tryz.func182 (by kernel_rfl) (by kernel_rfl) (by rfl) (QM9 x y K (by omega) (by omega) hK)
 ·cases hT
def L6:LC:=(74,QI3)::(125,QVp)::(182,QAf)::L5
noncomputable def T6:Qb:=mkT L6 M2 X3
theorem QYn {g:Nat}{tab:List Value}:CtrsOK Tryz.prog g tab L6:= .cons ok_Cmp (.cons QYm (.cons QK5 QYk))
theorem QYo {g:Nat}{tab:List Value}:Q8 Tryz.prog g tab T6:=QS QYn QK3 GR
end Go.Proofs
namespace Go.Proofs
open Go Go.Eng
def wA (k n:Nat):AV:= .x false [.w k 0 n]
def Qo (ds:List Nat):Blk:= .row 196 1 (W ds)
structure QBl where
 xs:List Nat
 ys:List Nat
 out:List Nat
 carry:Nat
 i:Nat
structure QAg (s:Nat)(e:Nat)(x:QBl):Prop where
 dx:Dig 4294967296 x.xs
 dy:Dig 4294967296 x.ys
 dz:Dig 4294967296 x.out
 lz:x.out.length=x.xs.length+1
 ly:x.ys.length<=x.xs.length
 lx:x.xs.length<=e
 hi:x.i<=x.xs.length
 hc:x.carry<=1
 sum:QH 4294967296 x.xs+QH 4294967296 x.ys=s
 inv:QH 4294967296 (x.out.take x.i)+4294967296^x.i*x.carry=QH 4294967296 (x.xs.take x.i)+QH 4294967296 (x.ys.take x.i)
structure QRV (s e:Nat)(p:List Nat×List Nat):Prop where
 dx:Dig 4294967296 p.1
 dy:Dig 4294967296 p.2
 ly:p.2.length<=p.1.length
 lx:p.1.length<=e
 sum:QH 4294967296 p.1+QH 4294967296 p.2=s
def QRW (m a n b s e:Nat):LI:=fun id=>bif id.beq 4 then .cut ⟨Unit,fun _=>⟨[(0,bA m a),(1,bA n b)],[]⟩,fun _=>True,fun _=>0,fun _=>0⟩else bif id.beq 7 then .cut ⟨List Nat×List Nat,fun p=>⟨[(5,wA 30 p.1.length),(6,wA 32 p.2.length)],[(30,Qo p.1),(32,Qo p.2)]⟩,QRV s e,fun _=>0,fun _=>0⟩
 else bif id.beq 15 then .cut ⟨QBl×Nat,fun x=>⟨[(5,wA 30 x.1.xs.length),(6,wA 32 x.1.ys.length),(7,wA 43 (x.1.xs.length+1)),(8,iA .u64 x.2),(9,iA .i64 x.1.i),(44,wA 30 x.1.xs.length),(45,iA .i64 x.1.xs.length),(46,iA .i64 x.1.i)],
  [(30,Qo x.1.xs),(32,Qo x.1.ys),(43,Qo x.1.out)]⟩,fun x=>QAg s e x.1/\x.1.i<x.1.xs.length/\x.2=x.1.carry+x.1.xs.getD x.1.i 0+x.1.ys.getD x.1.i 0,fun _=>0,fun x=>x.1.xs.length-x.1.i⟩
 else .inv ⟨QBl,fun x=>⟨[(5,wA 30 x.xs.length),(6,wA 32 x.ys.length),(7,wA 43 (x.xs.length+1)),(8,iA .u64 x.carry),(44,wA 30 x.xs.length),(45,iA .i64 x.xs.length),(46,iA .i64 x.i)],
 [(30,Qo x.xs),(32,Qo x.ys),(43,Qo x.out)]⟩,QAg s e,fun x=>x.xs.length-x.i,fun _=>0⟩
def QFD (m a n b e:Nat)(K:AV->Prop):Prop:=QP T6 (oF Tryz.f126) (QRW m a n b (m+n) e) Tryz.f126 [bA m a,bA n b] K
theorem QFE (m:Nat)(a:Nat)(n:Nat)(b:Nat)(e:Nat)(K:AV->Prop):QFD m a n b e K=((bif decide (Za (QA m).length<8)then bif decide (Za (QA n).length<8)then m<18446744073709551616/\n<18446744073709551616/\(0<=Zc.wrap (Za m+Za n)/\Zc.wrap (Za m+Za n)<18446744073709551616)/\K (AV.x false [Ch.b (Zc.wrap (Za m+Za n)).toNat 64])else ∃(_x:Unit),(True/\OfNat.ofNat 0=0)/\m=m/\a<=a/\n=n/\b<=b/\True else ∃(_x:Unit),(True/\OfNat.ofNat 0=0)/\m=m/\a<=a/\n=n/\b<=b/\True)/\∀(_x:Unit),True->OfNat.ofNat 0=0->a<=1099511627776/\b<=1099511627776/\(bif decide (Za (wl m)<Za (wl n))then ∃(x:List Nat×List Nat),(QRV (m+n) e x/\OfNat.ofNat 0=0)/\0=0/\wl n=x.fst.length/\0=0/\wl m=x.snd.length/\196=196/\1=1/\(W (fd 4294967296 (wl n) n)=W x.fst∨QE (W (fd 4294967296 (wl n) n)) (W x.fst))/\196=196/\1=1/\(W (fd 4294967296 (wl m) m)=W x.snd∨QE (W (fd 4294967296 (wl m) m)) (W x.snd))/\True else ∃(x:List Nat×List Nat),(QRV (m+n) e x/\OfNat.ofNat 0=0)/\0=0/\wl m=x.fst.length/\0=0/\wl n=x.snd.length/\196=196/\1=1/\(W (fd 4294967296 (wl m) m)=W x.fst∨QE (W (fd 4294967296 (wl m) m)) (W x.fst))/\196=196/\1=1/\(W (fd 4294967296 (wl n) n)=W x.snd∨QE (W (fd 4294967296 (wl n) n)) (W x.snd))/\True)/\∀(x:List Nat×List Nat),QRV (m+n) e x->OfNat.ofNat 0=0->(0<=Zb.wrap (Za x.fst.length+1)/\Zb.wrap (Za x.fst.length+1)<=Zb.wrap (Za x.fst.length+1)/\4*Zb.wrap (Za x.fst.length+1)<=281474976710656/\Zb.wrap (Za x.fst.length+1)<=9223372036854775807)/\(∃(x_1:QBl),(QAg (m+n) e x_1/\OfNat.ofNat 0=0)/\0=0/\x.fst.length=x_1.xs.length/\0=0/\x.snd.length=x_1.ys.length/\0=0/\(Zb.wrap (Za x.fst.length+1)).toNat=x_1.xs.length+1/\0=Za x_1.carry/\0=0/\x.fst.length=x_1.xs.length/\Za x.fst.length=Za x_1.xs.length/\0=Za x_1.i/\196=196/\1=1/\(W x.fst=W x_1.xs∨QE (W x.fst) (W x_1.xs))/\196=196/\1=1/\(W x.snd=W x_1.ys∨QE (W x.snd) (W x_1.ys))/\196=196/\1=1/\(Zh (Zb.wrap (Za x.fst.length+1)).toNat [Zo (Ze Zd 0)]=W x_1.out∨QE (Zh (Zb.wrap (Za x.fst.length+1)).toNat [Zo (Ze Zd 0)]) (W x_1.out))/\True)/\∀(x:QBl),QAg (m+n) e x->OfNat.ofNat 0=0->bif decide (Za x.i<Za x.xs.length)then(0<=Za x.i/\Za x.i<Za x.xs.length)/\∃(d:Int),ldE (W x.xs) (0+(Za x.i).toNat) 0 1=some [Zo (Ze Zd d)]/\(bif decide (Za x.i<Za x.ys.length)then(0<=Za x.i/\Za x.i<Za x.ys.length)/\∃(d_1:Int),ldE (W x.ys) (0+(Za x.i).toNat) 0 1=some [Zo (Ze Zd d_1)]/\∃(x_1:QBl×Nat),((QAg (m+n) e x_1.fst/\x_1.fst.i<x_1.fst.xs.length/\x_1.snd=x_1.fst.carry+x_1.fst.xs.getD x_1.fst.i 0+x_1.fst.ys.getD x_1.fst.i 0)/\x_1.fst.xs.length-x_1.fst.i=x.xs.length-x.i)/\0=0/\x.xs.length=x_1.fst.xs.length/\0=0/\x.ys.length=x_1.fst.ys.length/\0=0/\x.xs.length+1=x_1.fst.xs.length+1/\Zc.wrap (Zc.wrap (Za x.carry+Zc.wrap d)+Zc.wrap d_1)=Za x_1.snd/\Za x.i=Za x_1.fst.i/\0=0/\x.xs.length=x_1.fst.xs.length/\Za x.xs.length=Za x_1.fst.xs.length/\Za x.i=Za x_1.fst.i/\196=196/\1=1/\(W x.xs=W x_1.fst.xs∨QE (W x.xs) (W x_1.fst.xs))/\196=196/\1=1/\(W x.ys=W x_1.fst.ys∨QE (W x.ys) (W x_1.fst.ys))/\196=196/\1=1/\(W x.out=W x_1.fst.out∨QE (W x.out) (W x_1.fst.out))/\True else ∃(x_1:QBl×Nat),((QAg (m+n) e x_1.fst/\x_1.fst.i<x_1.fst.xs.length/\x_1.snd=x_1.fst.carry+x_1.fst.xs.getD x_1.fst.i 0+x_1.fst.ys.getD x_1.fst.i 0)/\x_1.fst.xs.length-x_1.fst.i=x.xs.length-x.i)/\0=0/\x.xs.length=x_1.fst.xs.length/\0=0/\x.ys.length=x_1.fst.ys.length/\0=0/\x.xs.length+1=x_1.fst.xs.length+1/\Zc.wrap (Za x.carry+Zc.wrap d)=Za x_1.snd/\Za x.i=Za x_1.fst.i/\0=0/\x.xs.length=x_1.fst.xs.length/\Za x.xs.length=Za x_1.fst.xs.length/\Za x.i=Za x_1.fst.i/\196=196/\1=1/\(W x.xs=W x_1.fst.xs∨QE (W x.xs) (W x_1.fst.xs))/\196=196/\1=1/\(W x.ys=W x_1.fst.ys∨QE (W x.ys) (W x_1.fst.ys))/\196=196/\1=1/\(W x.out=W x_1.fst.out∨QE (W x.out) (W x_1.fst.out))/\True)/\∀(x_1:QBl×Nat),QAg (m+n) e x_1.fst/\x_1.fst.i<x_1.fst.xs.length/\x_1.snd=x_1.fst.carry+x_1.fst.xs.getD x_1.fst.i 0+x_1.fst.ys.getD x_1.fst.i 0->x_1.fst.xs.length-x_1.fst.i=x.xs.length-x.i->(0<=Za x_1.fst.i/\Za x_1.fst.i<Za (x_1.fst.xs.length+1))/\0+(Za x_1.fst.i).toNat<(W x_1.fst.out).length/\(0:Int)<=32/\∃(x':QBl),(QAg (m+n) e x'/\OfNat.ofNat 0=0/\x'.xs.length-x'.i<x.xs.length-x.i)/\0=0/\x_1.fst.xs.length=x'.xs.length/\0=0/\x_1.fst.ys.length=x'.ys.length/\0=0/\x_1.fst.xs.length+1=x'.xs.length+1/\Q4 Zc (Za x_1.snd) 32=Za x'.carry/\0=0/\x_1.fst.xs.length=x'.xs.length/\Za x_1.fst.xs.length=Za x'.xs.length/\Zb.wrap (Za x_1.fst.i+1)=Za x'.i/\196=196/\1=1/\(W x_1.fst.xs=W x'.xs∨QE (W x_1.fst.xs) (W x'.xs))/\196=196/\1=1/\(W x_1.fst.ys=W x'.ys∨QE (W x_1.fst.ys) (W x'.ys))/\196=196/\1=1/\((W x_1.fst.out).set (0+(Za x_1.fst.i).toNat) [Zo (Ze Zd (Zd.wrap (Za x_1.snd)))]=W x'.out∨QE ((W x_1.fst.out).set (0+(Za x_1.fst.i).toNat) [Zo (Ze Zd (Zd.wrap (Za x_1.snd)))]) (W x'.out))/\True else(0<=Za x.xs.length/\Za x.xs.length<Za (x.xs.length+1))/\0+(Za x.xs.length).toNat<(W x.out).length/\∃(ds:List Nat),Zu (x.xs.length+1) (Yh 0 ((W x.out).set (0+(Za x.xs.length).toNat) [Zo (Ze Zd (Zd.wrap (Za x.carry)))]))=W ds/\(∀(d:Nat),d∈ds->d<4294967296)/\ds.length<=1099511627776/\K (AV.x false [Ch.b (QH 4294967296 ds) (32*ds.length)])):=by kernel_rfl
theorem YY {l:List Nat}{i d:Nat}(h:l[i]? =some d):l.getD i 0=d:=by simp[Zi,h]
theorem QAg.step {s e:Nat}{x:QBl}(h:QAg s e x)(hi:x.i<x.xs.length){t:Nat}(ht:t=x.carry+x.xs.getD x.i 0+x.ys.getD x.i 0):
  QAg s e {x with out:=x.out.set x.i (t % 4294967296),carry:=t/4294967296,i:=x.i+1}:=by
 obtain⟨dx,dy,dz,lz,ly,lx,_,hc,sum,inv⟩:=h;have hx:=dx.getD (i:=x.i) (by omega);have hy:=dy.getD (i:=x.i) (by omega);have gx:x.xs[x.i]? =some (x.xs.getD x.i 0):=by rw[Zi,Zg hi];rfl
 have gz:(x.out.set x.i (t % 4294967296))[x.i]? =some (t % 4294967296):=by rw[Zq];simp;omega
 have ey:QH 4294967296 (x.ys.take (x.i+1))=QH 4294967296 (x.ys.take x.i)+4294967296^x.i*x.ys.getD x.i 0:=by
  cases hy:x.ys[x.i]? with
  | some d=>rw[QX hy,YY hy]
  | none=>
   have:x.ys.length<=x.i:=by simpa using hy
   rw[Qe (by omega),Qe (by omega)];simp[Zi,hy]
 refine⟨dx,dy,dz.set (Yj _ (by omega)),by simpa using lz,ly,lx,hi,by simp only;omega,sum,?_⟩;simp only;rw[QX gz,XT,QX gx,ey,Ya];generalize (4294967296:Nat)^x.i=p at inv⊢;generalize x.xs.getD x.i 0=u at ht hx;generalize x.ys.getD x.i 0=v at ht hy;have e1:t=4294967296*(t/4294967296)+t % 4294967296:=(Yf t 4294967296).symm;have e2:p*t=p*x.carry+p*u+p*v:=by rw[ht,Zl,Zl]
 have e3:p*t=p*4294967296*(t/4294967296)+p*(t % 4294967296):=by
  conv=>lhs;rw[e1]
  rw[Zl,Zp]
 omega
theorem QAh {m a:Nat}(h:m<2^a):wl m<=a+1:=by have:=XK h;unfold wl;omega
theorem YU (m:Nat):m<4294967296^wl m:=by
 refine Nat.lt_of_lt_of_le (XA m) ?_
 rw[show(4294967296:Nat)=256^4 from rfl,<-Nat.pow_mul];exact Zt (by omega) (by unfold wl;omega)
theorem QYp (m a n b:Nat)(K:AV->Prop)(ha:a<=549755813888)(hb:b<=549755813888)(hm:m<2^a)(hn:n<2^b)(hK: ∀av,NatIs (m+n) (max a b+1) av->K av):QK (QFD m a n b (max a b+1) K):=by
 refine⟨?_⟩;rw[QFE];have hlt:m+n<2^(max a b+1):=by
  have h1:2^a<=2^max a b:=Zt (by omega) (by omega);have h2:2^b<=2^max a b:=Zt (by omega) (by omega);rw[Ya];omega
 have hwm:=QAh hm;have hwn:=QAh hn;have hB:max a b+1<=549755813889:=by omega
 refine⟨QC (fun h1=>QC (fun h2=> ?_) (fun _=>⟨(),by simp⟩)) (fun _=>⟨(),by simp⟩),fun _ _ _=>⟨by omega,by omega,QC (fun h1=> ?_) (fun h1=> ?_),fun p hp _=> ?_⟩⟩
 ·have k1:=Qd (m:=m) (k:=7);have k2:=Qd (m:=n) (k:=7);simp at h1 h2;have l1:=k1.1 (by omega);have l2:=k2.1 (by omega);simp only[Zj];rw[Xs (by omega)];refine⟨by omega,by omega,by omega,hK _ ?_⟩;rw[show((m:Int)+n).toNat=m+n by omega];exact .b hlt
 ·refine⟨(fd 4294967296 (wl n) n,fd 4294967296 (wl m) m),⟨⟨Dig.fd (by omega),Dig.fd (by omega),by simp at h1;simp[Qj];omega,by simp[Qj];omega,by simp only;rw[Qs (YU n),Qs (YU m)];omega⟩,rfl⟩,?_⟩;simp[Qj]
 ·refine⟨(fd 4294967296 (wl m) m,fd 4294967296 (wl n) n),⟨⟨Dig.fd (by omega),Dig.fd (by omega),by simp at h1;simp[Qj];omega,by simp[Qj];omega,by simp only;rw[Qs (YU n),Qs (YU m)]⟩,rfl⟩,?_⟩;simp[Qj]
 ·obtain⟨xs,ys⟩:=p;obtain⟨dx,dy,ly,lx,sum⟩:=hp;simp only at dx dy ly lx sum⊢;simp only[Zj];rw[w64 (by omega),show((xs.length:Int)+1).toNat=xs.length+1 by omega];refine⟨⟨by omega,by omega,by omega,by omega⟩,⟨⟨xs,ys,Zh (xs.length+1) 0,0,0⟩,⟨⟨dx,dy,Dig.zeros (by omega),by simp,ly,lx,by simp,by simp,sum,by simp[QH]⟩,trivial⟩,?_⟩,fun x hx _=>QC (fun hp=>⟨by simp at hp;omega,?_⟩) (fun hp=> ?_)⟩
  ·simp[Gf]
  ·obtain⟨xs,ys,out,carry,i⟩:=x;have hp:i<xs.length:=by simpa using hp
   obtain⟨d,hd⟩: ∃d,xs[i]? =some d:=⟨_,Zg hp⟩
   have dd:=hx.dx.get hd;have hc:=hx.hc;have hl:=hx.lx;simp only at dd hc hl⊢;refine⟨d,by simpa using YX hd,QC (fun hq=>⟨by simp at hq;omega,?_⟩) (fun hq=> ?_),fun x1 h1 ht=> ?_⟩
   ·have hq:i<ys.length:=by simpa using hq
    obtain⟨e,he⟩: ∃e,ys[i]? =some e:=⟨_,Zg hq⟩
    have de:=hx.dy.get he;refine⟨e,by simpa using YX he,(⟨xs,ys,out,carry,i⟩,carry+d+e),⟨⟨hx,hp,by simp only;rw[YY hd,YY he]⟩,rfl⟩,?_⟩;simp(disch:=omega) only[Xs];simp
   ·have hq: ¬i<ys.length:=by simpa using hq
    refine⟨(⟨xs,ys,out,carry,i⟩,carry+d),⟨⟨hx,hp,by simp only;rw[YY hd];simp[Zi,show ys[i]? =none by simp;omega]⟩,rfl⟩,?_⟩;simp(disch:=omega) only[Xs];simp
   ·obtain⟨⟨xs',ys',out',carry',i'⟩,t⟩:=x1;obtain⟨h1,h2,h3⟩:=h1;simp only at h1 h2 h3 ht⊢;have hs:=h1.step h2 h3;have b1:=h1.dx.getD (i:=i') (by omega);have b2:=h1.dy.getD (i:=i') (by omega);have b3:=h1.hc;have b4:=h1.lz;have b5:=h1.lx;simp only at b1 b2 b3 b4 b5;refine⟨by omega,by rw[J8];simp;omega,by omega,_,⟨hs,by simp,by simp only;omega⟩,?_⟩;have e1:Zd.wrap (t:Int)=((t % 4294967296:Nat):Int):=by rw[Zv];simp
    simp only[];rw[YT (by decide) (by simp),w64 (by omega),e1];simp;rw[show((t:Int) % 4294967296)=((t % 4294967296:Nat):Int)by omega];exact .inl (WN _ _ _)
  ·obtain⟨xs,ys,out,carry,i⟩:=x;have hp: ¬i<xs.length:=by simpa using hp
   have hi:=hx.hi;have lz:=hx.lz;have hc:=hx.hc;have hl:=hx.lx;simp only at hi lz hc hl⊢;have:i=xs.length:=by omega
   subst this;refine⟨by omega,by rw[J8];simp;omega,out.set xs.length carry,?_,hx.dz.set (by omega),by simp;omega,?_⟩
   ·rw[QG4 (by omega)];simp[WN,Hg];congr 1;rw[Yb (by simp;omega)]
   ·have hv:QH 4294967296 (out.set xs.length carry)=m+n:=by
     have h1:(out.set xs.length carry)[xs.length]? =some carry:=by rw[Zq];simp;omega
     have h2:=QX (B:=4294967296) h1;rw[Qe (by simp;omega),XT]at h2;have h3:=hx.inv;simp only at h3;rw[Qe (l:=xs) (by omega),Qe (l:=ys) hx.ly]at h3;have:=hx.sum;simp only at this;omega
    rw[hv];exact hK _ (.b hlt)
def QI4:Ctr
 | [.x false [.b m a],.x false [.b n b]]=>some fun K=>(a<=549755813888/\b<=549755813888)/\K (bA (m+n) (max a b+1))
 | _=>none
theorem Jl {w:World}{O:Nat->Prop}{ρ:Env}{x:AV}{m n:Nat}{l:List AV}{vals:List Value}(h:Qr w O ρ (x:: .x false [.b m n]::l) vals):m<2^n:=by
 cases h with
 | cons _ h=>exact WR h
theorem JR {P:Program}{g:Nat}{tab:List Value}{f:Nat}{l:List AV}{K:AV->Prop}(h: ∀w O ρ vals,Qr w O ρ l vals->Eng.Spec P g tab f l K):Eng.Spec P g tab f l K:=
 fun w O vals h1 h2 h3=>h w O YE vals h3 w O vals h1 h2 h3
theorem ok_Add {g:Nat}{tab:List Value}:CtrOK Tryz.prog g tab 126 QI4:=by
 refine⟨Qg Tryz.func126 (by kernel_rfl),fun l T hT K hK=> ?_⟩;unfold QI4 at hT;split at hT
 ·rename_i m a n b;cases hT
  exact JR fun w O ρ vals hc=>Wg (Qn QYo QM Tryz.func126 (by kernel_rfl) (by kernel_rfl) (by rfl) (QYp m a n b _ hK.1.1 hK.1.2 (WR hc) (Jl hc) fun _ h=>h)) hK.2
 ·cases hT
end Go.Proofs
namespace Go.Proofs
open Go Go.Eng
structure VT where
 cur:List Nat
 b:Nat
 i:Nat
structure VU (ds es:List Nat)(x:VT):Prop where
 dc:Dig 4294967296 x.cur
 lc:x.cur.length=ds.length
 hi:x.i<=ds.length
 hb:x.b<=1
 rest:x.cur.drop x.i=ds.drop x.i
 inv:QH 4294967296 (x.cur.take x.i)+QH 4294967296 (es.take x.i)=QH 4294967296 (ds.take x.i)+4294967296^x.i*x.b
def QUH (ds es:List Nat)(x:VT):List (Nat×AV):=[(0,wA 1000 ds.length),(1,wA 1001 es.length),(4,iA .u64 x.b),(8,wA 1000 ds.length),(9,iA .i64 ds.length),(10,iA .i64 x.i)]
def QNA (ds es:List Nat):LI:=fun id=>bif id.beq 7 then .cut ⟨VT,fun x=>⟨(5,iA .i64 x.i)::(7,iA .u64 (((ds.getD x.i 0:Int)-x.b-es.getD x.i 0) % 18446744073709551616))::QUH ds es x,[(1000,Qo x.cur),(1001,Qo es)]⟩,
  fun x=>VU ds es x/\x.i<ds.length,fun _=>0,fun x=>ds.length-x.i⟩
 else .inv ⟨VT,fun x=>⟨QUH ds es x,[(1000,Qo x.cur),(1001,Qo es)]⟩,VU ds es,fun x=>ds.length-x.i,fun _=>0⟩
theorem VU.step {ds es:List Nat}{x:VT}(h:VU ds es x)(_dd:Dig 4294967296 ds)(_de:Dig 4294967296 es)(hi:x.i<ds.length){v b':Nat}(hv:v<4294967296)(hb:b'<=1)
  (he:v+x.b+es.getD x.i 0=ds.getD x.i 0+4294967296*b'):VU ds es ⟨x.cur.set x.i v,b',x.i+1⟩:=by
 obtain⟨dc,lc,_,_,rest,inv⟩:=h;have gz:(x.cur.set x.i v)[x.i]? =some v:=by rw[Zq];simp;omega
 have gd:ds[x.i]? =some (ds.getD x.i 0):=by rw[Zi,Zg hi];rfl
 have ey:QH 4294967296 (es.take (x.i+1))=QH 4294967296 (es.take x.i)+4294967296^x.i*es.getD x.i 0:=by
  cases hy:es[x.i]? with
  | some d=>rw[QX hy,YY hy]
  | none=>
   have:es.length<=x.i:=by simpa using hy
   rw[Qe (by omega),Qe (by omega)];simp[Zi,hy]
 refine⟨dc.set hv,by simpa using lc,hi,hb,?_,?_⟩
 ·simp only;rw[Zx (by omega)];have:=congrArg (Yh 1) rest;rwa [Zz,Zz]at this
 ·simp only;rw[QX gz,XT,QX gd,ey,Ya];generalize (4294967296:Nat)^x.i=p at inv⊢;have e2:p*(v+x.b+es.getD x.i 0)=p*(ds.getD x.i 0+4294967296*b'):=by rw[he]
  rw[Zl,Zl,Zl,<-Zp]at e2;omega
set_option maxHeartbeats 1000000 in
theorem QVq (ds es:List Nat)(dd:Dig 4294967296 ds)(de:Dig 4294967296 es)(hl:ds.length<=1099511627776)(hle:es.length<=ds.length)(hv:QH 4294967296 es<=QH 4294967296 ds):QK (YW (X:=Unit) T6 (oF Tryz.f181) (QNA ds es) Tryz.f181 [wA 1000 ds.length,wA 1001 es.length] [(1000,Qo ds),(1001,Qo es)] (fun _=>True)
 (fun _=>⟨[],[(1000,Qo (fd 4294967296 ds.length (QH 4294967296 ds-QH 4294967296 es))),(1001,Qo es)]⟩)):=by
 refine HV (((∃(x:VT),(VU ds es x/\OfNat.ofNat 0=0)/\0=0/\ds.length=ds.length/\0=0/\es.length=es.length/\0=Za x.b/\0=0/\ds.length=ds.length/\Za ds.length=Za ds.length/\0=Za x.i/\196=196/\1=1/\(W ds=W x.cur∨QE (W ds) (W x.cur))/\196=196/\1=1/\(W es=W es∨QE (W es) (W es))/\True)/\∀(x:VT),VU ds es x->OfNat.ofNat 0=0->bif decide (Za x.i<Za ds.length)then(0<=Za x.i/\Za x.i<Za ds.length)/\∃(d:Int),ldE (W x.cur) (0+(Za x.i).toNat) 0 1=some [Zo (Ze Zd d)]/\(bif decide (Za x.i<Za es.length)then(0<=Za x.i/\Za x.i<Za es.length)/\∃(d_1:Int),ldE (W es) (0+(Za x.i).toNat) 0 1=some [Zo (Ze Zd d_1)]/\∃(x_1:VT),((VU ds es x_1/\x_1.i<ds.length)/\ds.length-x_1.i=ds.length-x.i)/\Za x.i=Za x_1.i/\Zc.wrap (Zc.wrap (Zc.wrap d-Za x.b)-Zc.wrap d_1)=(Za (ds.getD x_1.i 0)-Za x_1.b-Za (es.getD x_1.i 0))%18446744073709551616/\0=0/\ds.length=ds.length/\0=0/\es.length=es.length/\Za x.b=Za x_1.b/\0=0/\ds.length=ds.length/\Za ds.length=Za ds.length/\Za x.i=Za x_1.i/\196=196/\1=1/\(W x.cur=W x_1.cur∨QE (W x.cur) (W x_1.cur))/\196=196/\1=1/\(W es=W es∨QE (W es) (W es))/\True else ∃(x_1:VT),((VU ds es x_1/\x_1.i<ds.length)/\ds.length-x_1.i=ds.length-x.i)/\Za x.i=Za x_1.i/\Zc.wrap (Zc.wrap d-Za x.b)=(Za (ds.getD x_1.i 0)-Za x_1.b-Za (es.getD x_1.i 0))%18446744073709551616/\0=0/\ds.length=ds.length/\0=0/\es.length=es.length/\Za x.b=Za x_1.b/\0=0/\ds.length=ds.length/\Za ds.length=Za ds.length/\Za x.i=Za x_1.i/\196=196/\1=1/\(W x.cur=W x_1.cur∨QE (W x.cur) (W x_1.cur))/\196=196/\1=1/\(W es=W es∨QE (W es) (W es))/\True)/\∀(x_1:VT),VU ds es x_1/\x_1.i<ds.length->ds.length-x_1.i=ds.length-x.i->(0:Int)<=63/\(0<=Za x_1.i/\Za x_1.i<Za ds.length)/\0+(Za x_1.i).toNat<(W x_1.cur).length/\∃(x':VT),(VU ds es x'/\OfNat.ofNat 0=0/\ds.length-x'.i<ds.length-x.i)/\0=0/\ds.length=ds.length/\0=0/\es.length=es.length/\Q4 Zc ((Za (ds.getD x_1.i 0)-Za x_1.b-Za (es.getD x_1.i 0))%18446744073709551616) 63=Za x'.b/\0=0/\ds.length=ds.length/\Za ds.length=Za ds.length/\Zb.wrap (Za x_1.i+1)=Za x'.i/\196=196/\1=1/\((W x_1.cur).set (0+(Za x_1.i).toNat) [Zo (Ze Zd (Zd.wrap ((Za (ds.getD x_1.i 0)-Za x_1.b-Za (es.getD x_1.i 0))%18446744073709551616)))]=W x'.cur∨QE ((W x_1.cur).set (0+(Za x_1.i).toNat) [Zo (Ze Zd (Zd.wrap ((Za (ds.getD x_1.i 0)-Za x_1.b-Za (es.getD x_1.i 0))%18446744073709551616)))]) (W x'.cur))/\196=196/\1=1/\(W es=W es∨QE (W es) (W es))/\True else ∃(_x_1:Unit),True/\196=196/\1=1/\(W x.cur=W (fd 4294967296 ds.length (QH 4294967296 ds-QH 4294967296 es))∨QE (W x.cur) (W (fd 4294967296 ds.length (QH 4294967296 ds-QH 4294967296 es))))/\196=196/\1=1/\(W es=W es∨QE (W es) (W es))/\True)) ?_
 simp only[Zj,R0,R1,Ye,R4,R2];refine⟨⟨⟨ds,0,0⟩,⟨dd,rfl,Nat.zero_le _,by simp,rfl,by simp[QH]⟩,rfl,rfl,.inl rfl⟩,fun x hx=>QC (fun hp=>⟨by simp at hp;omega,?_⟩) (fun hp=> ?_)⟩
 ·obtain⟨cur,b,i⟩:=x;have hp:i<ds.length:=by simpa using hp
  obtain⟨w,hw⟩: ∃w,ds[i]? =some w:=⟨_,Zg hp⟩
  have dw:=dd.get hw;have hb:=hx.hb;have hcw:cur[i]? =some w:=by
   have:=congrArg (fun l:List Nat=>l[0]?) hx.rest;simpa [hw]using this
  simp only at hb⊢;refine⟨w,by simpa using YX hcw,QC (fun hq=>⟨by simp at hq;omega,?_⟩) (fun hq=> ?_),fun x1 h1 ht=> ?_⟩
  ·have hq:i<es.length:=by simpa using hq
   obtain⟨e,he⟩: ∃e,es[i]? =some e:=⟨_,Zg hq⟩
   have dE:=de.get he;refine⟨e,by simpa using YX he,⟨cur,b,i⟩,⟨⟨hx,hp⟩,rfl⟩,rfl,?_,rfl,rfl,.inl rfl⟩;simp only[YY hw,YY he,Jg];omega
  ·have hq: ¬i<es.length:=by simpa using hq
   have e0:es.getD i 0=0:=by simp[Zi,show es[i]? =none by simp;omega]
   refine⟨⟨cur,b,i⟩,⟨⟨hx,hp⟩,rfl⟩,rfl,?_,rfl,rfl,.inl rfl⟩;simp only[YY hw,e0,Jg];omega
  ·obtain⟨cur',b',i'⟩:=x1;obtain⟨h1,h2⟩:=h1;have hs:=fun v c=>h1.step dd de h2 (v:=v) (b':=c);have b1:=dd.getD (i:=i') (by omega);have b2:=de.getD (i:=i') (by omega);have b3:=h1.hb;have b4:=h1.lc;simp only at h2 ht b1 b2 b3 b4 hs⊢;generalize ds.getD i' 0=u at b1 hs;generalize es.getD i' 0=v at b2 hs;obtain⟨q,c,hq,hc,he⟩: ∃q c:Nat,q<4294967296/\c<=1/\q+b'+v=u+4294967296*c:=by
    by_cases h:b'+v<=u
    ·exact⟨u-b'-v,0,by omega,by omega,by omega⟩
    ·exact⟨u+4294967296-b'-v,1,by omega,by omega,by omega⟩
   refine⟨by omega,by omega,by rw[J8];simp;omega,_,⟨hs q c hq hc he,by simp only;omega⟩,?_,?_,?_⟩
   ·rw[YT (by decide) (by omega)];simp only[show(63:Int).toNat=63 from rfl];omega
   ·rw[w64 (by omega)];simp
   ·have:Zd.wrap (((u:Int)-b'-v) % 18446744073709551616)=(q:Int):=by rw[Zv];omega
    rw[this];exact .inl (by simpa using WN _ _ _)
 ·obtain⟨cur,b,i⟩:=x;have hp: ¬i<ds.length:=by simpa using hp
  have hi:=hx.hi;have lc:=hx.lc;have inv:=hx.inv;have hb:=hx.hb;have dc:=hx.dc;simp only at hi lc inv hb dc⊢;have:i=ds.length:=by omega
  subst this;rw[Qe (l:=cur) (by omega),Qe (l:=es) hle,Qe (l:=ds) (by omega)]at inv;have hlt:=JQ dc;rw[lc]at hlt;have hb0:b=0:=by
   rcases Yc.1 hb with h | h
   ·exact h
   ·subst h;omega
  subst hb0;have hcv:QH 4294967296 cur=QH 4294967296 ds-QH 4294967296 es:=by omega
  exact⟨(),.inl (by rw[<-hcv,<-lc,KF dc (by omega)])⟩
def QHF:Xt:=fun as0 H _=>match as0 with
 | [.x false [.w k 0 n],.x false [.w k2 0 n2]]=>match H k,H k2 with
  | some (.row t 1 xs),some (.row t2 1 ys)=>bif t.beq 196&&t2.beq 196&& !(k.beq k2)then
    some fun K=> ∃ds es,xs=W ds/\ys=W es/\n=ds.length/\n2=es.length/\Dig 4294967296 ds/\Dig 4294967296 es/\ds.length<=1099511627776/\es.length<=ds.length/\QH 4294967296 es<=QH 4294967296 ds/\
     K (.t []) (XO [(1000,k),(1001,k2)] (QR [(1000,Qo (fd 4294967296 ds.length (QH 4294967296 ds-QH 4294967296 es))),(1001,Qo es)]) H)
    else none
  | _,_=>none
 | _=>none
def L7:LC:=(126,QI4)::L6
def M7:List (Nat×Xt):=(181,QHF)::M2
noncomputable def T7:Qb:=mkT L7 M7 X3
theorem QFF {H:HP}{k k2:Nat}{b b2:Blk}(h:H k=some b)(h2:H k2=some b2)(hk:k≠k2)(l:X7 (some b)=true)(l2:X7 (some b2)=true)(f:H5 b=true)(f2:H5 b2=true):QAY [(1000,k),(1001,k2)] H (QR [(1000,b),(1001,b2)]):=by
 refine⟨by simp,by simpa using hk,fun p hp=> ?_,fun c hc=> ?_⟩
 ·simp at hp;rcases hp with rfl | rfl
  ·exact⟨b,rfl,h,l,f⟩
  ·exact⟨b2,rfl,h2,l2,f2⟩
 ·simp only[QR]at hc;cases h1:c.beq 1000 with
  | true=>simp[Zn h1]
  | false=>
   rw[h1]at hc;cases h2:c.beq 1001 with
   | true=>simp[Zn h2]
   | false=>rw[h2]at hc;simp at hc
theorem V6 {H:HP}{k:Nat}{b:Blk}(h:H k=some b)(l:X7 (some b)=true)(f:H5 b=true):QAY [(1000,k)] H (QR [(1000,b)]):=by
 refine⟨by simp,by simp,fun p hp=> ?_,fun c hc=> ?_⟩
 ·simp at hp;subst hp;exact⟨b,rfl,h,l,f⟩
 ·simp only[QR]at hc;cases h1:c.beq 1000 with
  | true=>simp[Zn h1]
  | false=>rw[h1]at hc;simp at hc
theorem QBm {k k2:Nat}(hk:k≠k2):lkB [(1000,k),(1001,k2)] k=some 1000/\lkB [(1000,k),(1001,k2)] k2=some 1001:=by
 constructor
 ·simp[lkB]
 ·have:k2.beq k=false:=by
   cases h:k2.beq k with
   | false=>rfl
   | true=>exact absurd (Zn h).symm hk
  simp[lkB,this]
theorem QRX {g:Nat}{tab:List Value}:We Tryz.prog g tab 181 QHF:=by
 refine⟨Qg Tryz.func181 (by kernel_rfl),fun l H d T hT K hK=> ?_⟩;unfold QHF at hT;split at hT
 ·rename_i k n k2 n2;split at hT
  ·rename_i t xs t2 ys e1 e2;cases hb:t.beq 196&&t2.beq 196&& !(k.beq k2)with
   | false=>rw[hb]at hT;cases hT
   | true=>
    rw[hb]at hT;cases hT
    simp only[Bool.and_eq_true,Bool.not_eq_true']at hb;obtain⟨⟨ht,ht2⟩,hk⟩:=hb;have ht:=Zn ht;have ht2:=Zn ht2;have hk:k≠k2:=fun e=>by subst e;simp at hk
    subst ht ht2;obtain⟨ds,es,rfl,rfl,rfl,rfl,dd,de,hl,hle,hv,hK⟩:=hK;refine XZ (R:=[(1000,k),(1001,k2)]) (N:=[]) (Hl:=[(1000,Qo ds),(1001,Qo es)]) QYo QM Tryz.func181 (by kernel_rfl) (by kernel_rfl) (by rfl)
     (as0:=[wA 1000 ds.length,wA 1001 es.length]) ?_ (QFF e1 e2 hk rfl rfl rfl rfl) rfl (by simp) (by simp) (fun _ h=>by cases h) (fun x=>⟨fun p hp=> ?_,fun p hp b hb=> ?_⟩) (QVq ds es dd de hl hle hv) (fun x _=> ?_)
    ·simp[JX,JW,JP,(QBm hk).1,(QBm hk).2,wA]
    ·simp at hp;rcases hp with rfl | rfl
     ·exact fun h=>by have h':some (Qo _)=none:=h;cases h'
     ·exact fun h=>by have h':some (Qo _)=none:=h;cases h'
    ·simp at hp;rcases hp with rfl | rfl
     ·have h':some (Qo _)=some b:=hb;cases h';rfl
     ·have h':some (Qo _)=some b:=hb;cases h';rfl
    ·exact⟨_,rfl,hK⟩
  ·cases hT
 ·cases hT
theorem QYq {g:Nat}{tab:List Value}:CtrsOK Tryz.prog g tab L7:= .cons ok_Add QYn
theorem QRY {g:Nat}{tab:List Value}:CtrMsOK Tryz.prog g tab M7:= .cons QRX QK3
theorem Qan {g:Nat}{tab:List Value}:Q8 Tryz.prog g tab T7:=QS QYq QRY GR
def QFG (m a n b:Nat)(K:AV->Prop):Prop:=QP T7 (oF Tryz.f137) noL Tryz.f137 [bA m a,bA n b] K
theorem QFH (m:Nat)(a:Nat)(n:Nat)(b:Nat)(K:AV->Prop):QFG m a n b K=(bif decide (JI m n<0)then K (AV.t [(false,[Zo (Yq (Zr (Zw [])))]),(false,[Zo (Ze Zb 1)])])else a<=1099511627776/\b<=1099511627776/\∃(ds:List Nat)(es:List Nat),W (fd 4294967296 (wl m) m)=W ds/\W (fd 4294967296 (wl n) n)=W es/\wl m=ds.length/\wl n=es.length/\(∀(d:Nat),d∈ds->d<4294967296)/\(∀(d:Nat),d∈es->d<4294967296)/\ds.length<=1099511627776/\es.length<=ds.length/\QH 4294967296 es<=QH 4294967296 ds/\∃(ds_1:List Nat),Zu (wl m) (Yh 0 (W (fd 4294967296 ds.length (QH 4294967296 ds-QH 4294967296 es))))=W ds_1/\(∀(d:Nat),d∈ds_1->d<4294967296)/\ds_1.length<=1099511627776/\K (AV.t [(false,[Ch.b (QH 4294967296 ds_1) (32*ds_1.length)]),(false,[Zo (Ze Zb 0)])])):=by kernel_rfl
def NatErr (m n:Nat)(c:Int)(av:AV):Prop:= ∃x,av= .t [(false,[x]),(false,[.v (.int .i64 c)])]/\NatIs m n (.x false [x])
theorem NatErr.conc {w:World}{O:Nat->Prop}{ρ:Env}{m n:Nat}{c:Int}{av:AV}{v:Value}(h:NatErr m n c av)(hc:ConcV w O ρ av v):ConcV w O ρ (.t [(false,[.b m n]),(false,[.v (.int .i64 c)])]) v:=by
 obtain⟨x,rfl,hx⟩:=h;obtain⟨vs,h1,h2⟩:=hc;cases h1 with
 | cons h1 h3=>exact⟨_,.cons (hx.conc (av:= .x false [x]) h1) h3,h2⟩
theorem QFI {P:Program}{g:Nat}{tab:List Value}{f:Nat}{l:List AV}{m n:Nat}{c:Int}{K:AV->Prop}(h:Eng.Spec P g tab f l (NatErr m n c))(hk:K (.t [(false,[.b m n]),(false,[.v (.int .i64 c)])])):Eng.Spec P g tab f l K:=
 Eng.Spec.res h fun _ _ _ _ hn hc=>⟨_,hk,hn.conc hc⟩
theorem Gh {m n:Nat}(h:n<=m):wl n<=wl m:=by
 have h1:(QA n).length<=(QA m).length:=Qd.2 (Yo h (XA m));unfold wl;omega
theorem QYr (m a n b:Nat)(ha:a<=549755813888)(hb:b<=549755813888)(hm:m<2^a)(_hn:n<2^b):QK (QFG m a n b (NatErr (bif decide (m<n)then 0 else m-n) a (bif decide (m<n)then 1 else 0))):=by
 refine⟨?_⟩;rw[QFH];have hwm:=QAh hm;have hpa:0<2^a:=Yp (by omega);refine QC (fun hp=> ?_) (fun hp=> ?_)
 ·have h:m<n:=by
   unfold JI at hp;rcases Nat.lt_or_ge m n with h | h
   ·exact h
   ·rw[if_neg (by omega)]at hp;split at hp<;>simp at hp
  simp only[h,decide_true,R7];exact⟨_,rfl,hpa,.inr ⟨[],rfl,rfl⟩⟩
 ·have h: ¬m<n:=by
   intro h;unfold JI at hp;rw[if_pos h]at hp;simp at hp
  simp only[h,decide_false,R8];have hv:QH 4294967296 (fd 4294967296 (wl m) (m-n))=m-n:=Qs (Yo (Nat.sub_le _ _) (YU m));refine⟨by omega,by omega,_,_,rfl,rfl,by rw[Qj],by rw[Qj],Dig.fd (by omega),Dig.fd (by omega),by rw[Qj];omega,by rw[Qj,Qj];exact Gh (by omega),by rw[Qs (YU m),Qs (YU n)];omega,fd 4294967296 (wl m) (m-n),?_,Dig.fd (by omega),by rw[Qj];omega,_,rfl,?_⟩
  ·rw[Qs (YU m),Qs (YU n),Qj,Yv,Hg,Yb (by rw[Qj];omega)]
  ·rw[hv];exact .b (by omega)
def QI5:Ctr
 | [.x false [.b m a],.x false [.b n b]]=>some fun K=>(a<=549755813888/\b<=549755813888)/\K (.t [(false,[.b (bif decide (m<n)then 0 else m-n) a]),(false,[.v (.int .i64 (bif decide (m<n)then 1 else 0))])])
 | _=>none
theorem ok_Sub {g:Nat}{tab:List Value}:CtrOK Tryz.prog g tab 137 QI5:=by
 refine⟨Qg Tryz.func137 (by kernel_rfl),fun l T hT K hK=> ?_⟩;unfold QI5 at hT;split at hT
 ·rename_i m a n b;cases hT
  exact JR fun w O ρ vals hc=>QFI (Qn Qan QM Tryz.func137 (by kernel_rfl) (by kernel_rfl) (by rfl) (QYr m a n b hK.1.1 hK.1.2 (WR hc) (Jl hc))) hK.2
 ·cases hT
def L8:LC:=(137,QI5)::L7
noncomputable def T8:Qb:=mkT L8 M7 X3
theorem QYs {g:Nat}{tab:List Value}:CtrsOK Tryz.prog g tab L8:= .cons ok_Sub QYq
theorem QYt {g:Nat}{tab:List Value}:Q8 Tryz.prog g tab T8:=QS QYs QRY GR
end Go.Proofs
namespace Go.Proofs
open Go Go.Eng
structure QFJ where
 out:List Nat
 i:Nat
structure QFK (xs ys:List Nat)(x:QFJ):Prop where
 dz:Dig 4294967296 x.out
 lz:x.out.length=xs.length+ys.length
 hi:x.i<=xs.length
 zero:x.out.drop (x.i+ys.length)=Zh (xs.length-x.i) 0
 inv:QH 4294967296 (x.out.take (x.i+ys.length))=QH 4294967296 (xs.take x.i)*QH 4294967296 ys
structure QBn where
 out:List Nat
 i:Nat
 carry:Nat
 k:Nat
structure GU (xs ys:List Nat)(x:QBn):Prop where
 dz:Dig 4294967296 x.out
 lz:x.out.length=xs.length+ys.length
 hi:x.i<xs.length
 hk:x.k<=ys.length
 hc:x.carry<4294967296
 zero:x.out.drop (x.i+ys.length)=Zh (xs.length-x.i) 0
 inv:QH 4294967296 (x.out.take (x.i+ys.length))+4294967296^(x.i+x.k)*x.carry=QH 4294967296 (xs.take x.i)*QH 4294967296 ys+4294967296^x.i*(xs.getD x.i 0*QH 4294967296 (ys.take x.k))
def QYu (xs ys:List Nat)(i:Nat):List (Nat×AV):=[(5,wA 30 xs.length),(6,wA 32 ys.length),(7,wA 38 (xs.length+ys.length)),(39,wA 30 xs.length),(40,iA .i64 xs.length),(41,iA .i64 i)]
def QYv (xs ys out:List Nat):List (Nat×Blk):=[(30,Qo xs),(32,Qo ys),(38,Qo out)]
def QI6 (xs ys:List Nat):LI:=fun id=>bif id.beq 11 then .inv ⟨QBn,fun x=>⟨(8,iA .i64 x.i)::(9,iA .u32 (xs.getD x.i 0:Nat))::(10,iA .u64 x.carry)::(46,wA 32 ys.length)::(47,iA .i64 ys.length)::(48,iA .i64 x.k)::QYu xs ys x.i,QYv xs ys x.out⟩,
  GU xs ys,fun x=>ys.length-x.k,fun x=>xs.length-x.i⟩
 else .inv ⟨QFJ,fun x=>⟨QYu xs ys x.i,QYv xs ys x.out⟩,QFK xs ys,fun x=>xs.length-x.i,fun _=>0⟩
def QAi (m a n b:Nat)(K:AV->Prop):Prop:=QP T8 (oF Tryz.f75) (QI6 (fd 4294967296 (wl m) m) (fd 4294967296 (wl n) n)) Tryz.f75 [bA m a,bA n b] K
theorem H9 (m:Nat)(a:Nat)(n:Nat)(b:Nat)(K:AV->Prop):QAi m a n b K=(bif decide (Zb.wrap (Za (QA m).length+Za (QA n).length)<=8)then m<18446744073709551616/\n<18446744073709551616/\(0<=Zc.wrap (Za m*Za n)/\Zc.wrap (Za m*Za n)<18446744073709551616)/\K (AV.x false [Ch.b (Zc.wrap (Za m*Za n)).toNat 64])else a<=1099511627776/\b<=1099511627776/\(0<=Zb.wrap (Za (wl m)+Za (wl n))/\Zb.wrap (Za (wl m)+Za (wl n))<=Zb.wrap (Za (wl m)+Za (wl n))/\4*Zb.wrap (Za (wl m)+Za (wl n))<=281474976710656/\Zb.wrap (Za (wl m)+Za (wl n))<=9223372036854775807)/\(∃(x:QFJ),(QFK (fd 4294967296 (wl m) m) (fd 4294967296 (wl n) n) x/\OfNat.ofNat 0=0)/\0=0/\wl m=(fd 4294967296 (wl m) m).length/\0=0/\wl n=(fd 4294967296 (wl n) n).length/\0=0/\(Zb.wrap (Za (wl m)+Za (wl n))).toNat=(fd 4294967296 (wl m) m).length+(fd 4294967296 (wl n) n).length/\0=0/\wl m=(fd 4294967296 (wl m) m).length/\Za (wl m)=Za (fd 4294967296 (wl m) m).length/\0=Za x.i/\196=196/\1=1/\(W (fd 4294967296 (wl m) m)=W (fd 4294967296 (wl m) m)∨QE (W (fd 4294967296 (wl m) m)) (W (fd 4294967296 (wl m) m)))/\196=196/\1=1/\(W (fd 4294967296 (wl n) n)=W (fd 4294967296 (wl n) n)∨QE (W (fd 4294967296 (wl n) n)) (W (fd 4294967296 (wl n) n)))/\196=196/\1=1/\(Zh (Zb.wrap (Za (wl m)+Za (wl n))).toNat [Zo (Ze Zd 0)]=W x.out∨QE (Zh (Zb.wrap (Za (wl m)+Za (wl n))).toNat [Zo (Ze Zd 0)]) (W x.out))/\True)/\∀(x:QFJ),QFK (fd 4294967296 (wl m) m) (fd 4294967296 (wl n) n) x->OfNat.ofNat 0=0->bif decide (Za x.i<Za (fd 4294967296 (wl m) m).length)then(0<=Za x.i/\Za x.i<Za (fd 4294967296 (wl m) m).length)/\∃(d:Int),ldE (W (fd 4294967296 (wl m) m)) (0+(Za x.i).toNat) 0 1=some [Zo (Ze Zd d)]/\(∃(x_1:QBn),(GU (fd 4294967296 (wl m) m) (fd 4294967296 (wl n) n) x_1/\(fd 4294967296 (wl m) m).length-x_1.i=(fd 4294967296 (wl m) m).length-x.i)/\Za x.i=Za x_1.i/\d=Za ((fd 4294967296 (wl m) m).getD x_1.i 0)/\0=Za x_1.carry/\0=0/\(fd 4294967296 (wl n) n).length=(fd 4294967296 (wl n) n).length/\Za (fd 4294967296 (wl n) n).length=Za (fd 4294967296 (wl n) n).length/\0=Za x_1.k/\0=0/\(fd 4294967296 (wl m) m).length=(fd 4294967296 (wl m) m).length/\0=0/\(fd 4294967296 (wl n) n).length=(fd 4294967296 (wl n) n).length/\0=0/\(fd 4294967296 (wl m) m).length+(fd 4294967296 (wl n) n).length=(fd 4294967296 (wl m) m).length+(fd 4294967296 (wl n) n).length/\0=0/\(fd 4294967296 (wl m) m).length=(fd 4294967296 (wl m) m).length/\Za (fd 4294967296 (wl m) m).length=Za (fd 4294967296 (wl m) m).length/\Za x.i=Za x_1.i/\196=196/\1=1/\(W (fd 4294967296 (wl m) m)=W (fd 4294967296 (wl m) m)∨QE (W (fd 4294967296 (wl m) m)) (W (fd 4294967296 (wl m) m)))/\196=196/\1=1/\(W (fd 4294967296 (wl n) n)=W (fd 4294967296 (wl n) n)∨QE (W (fd 4294967296 (wl n) n)) (W (fd 4294967296 (wl n) n)))/\196=196/\1=1/\(W x.out=W x_1.out∨QE (W x.out) (W x_1.out))/\True)/\∀(x_1:QBn),GU (fd 4294967296 (wl m) m) (fd 4294967296 (wl n) n) x_1->(fd 4294967296 (wl m) m).length-x_1.i=(fd 4294967296 (wl m) m).length-x.i->bif decide (Za x_1.k<Za (fd 4294967296 (wl n) n).length)then(0<=Za x_1.k/\Za x_1.k<Za (fd 4294967296 (wl n) n).length)/\∃(d:Int),ldE (W (fd 4294967296 (wl n) n)) (0+(Za x_1.k).toNat) 0 1=some [Zo (Ze Zd d)]/\(0<=Zb.wrap (Za x_1.i+Za x_1.k)/\Zb.wrap (Za x_1.i+Za x_1.k)<Za ((fd 4294967296 (wl m) m).length+(fd 4294967296 (wl n) n).length))/\∃(d_1:Int),ldE (W x_1.out) (0+(Zb.wrap (Za x_1.i+Za x_1.k)).toNat) 0 1=some [Zo (Ze Zd d_1)]/\(0<=Zb.wrap (Za x_1.i+Za x_1.k)/\Zb.wrap (Za x_1.i+Za x_1.k)<Za ((fd 4294967296 (wl m) m).length+(fd 4294967296 (wl n) n).length))/\0+(Zb.wrap (Za x_1.i+Za x_1.k)).toNat<(W x_1.out).length/\(0:Int)<=32/\∃(x':QBn),(GU (fd 4294967296 (wl m) m) (fd 4294967296 (wl n) n) x'/\(fd 4294967296 (wl m) m).length-x'.i=(fd 4294967296 (wl m) m).length-x.i/\(fd 4294967296 (wl n) n).length-x'.k<(fd 4294967296 (wl n) n).length-x_1.k)/\Za x_1.i=Za x'.i/\Za ((fd 4294967296 (wl m) m).getD x_1.i 0)=Za ((fd 4294967296 (wl m) m).getD x'.i 0)/\Q4 Zc (Zc.wrap (Za x_1.carry+Zc.wrap (Zc.wrap (Zc.wrap (Za ((fd 4294967296 (wl m) m).getD x_1.i 0))*Zc.wrap d)+Zc.wrap d_1))) 32=Za x'.carry/\0=0/\(fd 4294967296 (wl n) n).length=(fd 4294967296 (wl n) n).length/\Za (fd 4294967296 (wl n) n).length=Za (fd 4294967296 (wl n) n).length/\Zb.wrap (Za x_1.k+1)=Za x'.k/\0=0/\(fd 4294967296 (wl m) m).length=(fd 4294967296 (wl m) m).length/\0=0/\(fd 4294967296 (wl n) n).length=(fd 4294967296 (wl n) n).length/\0=0/\(fd 4294967296 (wl m) m).length+(fd 4294967296 (wl n) n).length=(fd 4294967296 (wl m) m).length+(fd 4294967296 (wl n) n).length/\0=0/\(fd 4294967296 (wl m) m).length=(fd 4294967296 (wl m) m).length/\Za (fd 4294967296 (wl m) m).length=Za (fd 4294967296 (wl m) m).length/\Za x_1.i=Za x'.i/\196=196/\1=1/\(W (fd 4294967296 (wl m) m)=W (fd 4294967296 (wl m) m)∨QE (W (fd 4294967296 (wl m) m)) (W (fd 4294967296 (wl m) m)))/\196=196/\1=1/\(W (fd 4294967296 (wl n) n)=W (fd 4294967296 (wl n) n)∨QE (W (fd 4294967296 (wl n) n)) (W (fd 4294967296 (wl n) n)))/\196=196/\1=1/\((W x_1.out).set (0+(Zb.wrap (Za x_1.i+Za x_1.k)).toNat) [Zo (Ze Zd (Zd.wrap (Zc.wrap (Za x_1.carry+Zc.wrap (Zc.wrap (Zc.wrap (Za ((fd 4294967296 (wl m) m).getD x_1.i 0))*Zc.wrap d)+Zc.wrap d_1)))))]=W x'.out∨QE ((W x_1.out).set (0+(Zb.wrap (Za x_1.i+Za x_1.k)).toNat) [Zo (Ze Zd (Zd.wrap (Zc.wrap (Za x_1.carry+Zc.wrap (Zc.wrap (Zc.wrap (Za ((fd 4294967296 (wl m) m).getD x_1.i 0))*Zc.wrap d)+Zc.wrap d_1)))))]) (W x'.out))/\True else(0<=Zb.wrap (Za x_1.i+Za (fd 4294967296 (wl n) n).length)/\Zb.wrap (Za x_1.i+Za (fd 4294967296 (wl n) n).length)<Za ((fd 4294967296 (wl m) m).length+(fd 4294967296 (wl n) n).length))/\0+(Zb.wrap (Za x_1.i+Za (fd 4294967296 (wl n) n).length)).toNat<(W x_1.out).length/\∃(x':QFJ),(QFK (fd 4294967296 (wl m) m) (fd 4294967296 (wl n) n) x'/\OfNat.ofNat 0=0/\(fd 4294967296 (wl m) m).length-x'.i<(fd 4294967296 (wl m) m).length-x.i)/\0=0/\(fd 4294967296 (wl m) m).length=(fd 4294967296 (wl m) m).length/\0=0/\(fd 4294967296 (wl n) n).length=(fd 4294967296 (wl n) n).length/\0=0/\(fd 4294967296 (wl m) m).length+(fd 4294967296 (wl n) n).length=(fd 4294967296 (wl m) m).length+(fd 4294967296 (wl n) n).length/\0=0/\(fd 4294967296 (wl m) m).length=(fd 4294967296 (wl m) m).length/\Za (fd 4294967296 (wl m) m).length=Za (fd 4294967296 (wl m) m).length/\Zb.wrap (Za x_1.i+1)=Za x'.i/\196=196/\1=1/\(W (fd 4294967296 (wl m) m)=W (fd 4294967296 (wl m) m)∨QE (W (fd 4294967296 (wl m) m)) (W (fd 4294967296 (wl m) m)))/\196=196/\1=1/\(W (fd 4294967296 (wl n) n)=W (fd 4294967296 (wl n) n)∨QE (W (fd 4294967296 (wl n) n)) (W (fd 4294967296 (wl n) n)))/\196=196/\1=1/\((W x_1.out).set (0+(Zb.wrap (Za x_1.i+Za (fd 4294967296 (wl n) n).length)).toNat) [Zo (Ze Zd (Zd.wrap (Za x_1.carry)))]=W x'.out∨QE ((W x_1.out).set (0+(Zb.wrap (Za x_1.i+Za (fd 4294967296 (wl n) n).length)).toNat) [Zo (Ze Zd (Zd.wrap (Za x_1.carry)))]) (W x'.out))/\True else ∃(ds:List Nat),Zu ((fd 4294967296 (wl m) m).length+(fd 4294967296 (wl n) n).length) (Yh 0 (W x.out))=W ds/\(∀(d:Nat),d∈ds->d<4294967296)/\ds.length<=1099511627776/\K (AV.x false [Ch.b (QH 4294967296 ds) (32*ds.length)])):=by kernel_rfl
theorem GU.step {xs ys:List Nat}{x:QBn}(h:GU xs ys x)(dx:Dig 4294967296 xs)(dy:Dig 4294967296 ys)(hk:x.k<ys.length){t:Nat}(ht:t=x.carry+(xs.getD x.i 0*ys.getD x.k 0+x.out.getD (x.i+x.k) 0)):
  GU xs ys ⟨x.out.set (x.i+x.k) (t % 4294967296),x.i,t/4294967296,x.k+1⟩:=by
 obtain⟨dz,lz,hi,_,hc,zero,inv⟩:=h;have b1:=dx.getD (i:=x.i) (by omega);have b2:=dy.getD (i:=x.k) (by omega);have b3:=dz.getD (i:=x.i+x.k) (by omega);have gz:(x.out.take (x.i+ys.length))[x.i+x.k]? =some (x.out.getD (x.i+x.k) 0):=by
  rw[List.getElem?_take,if_pos (by omega),Zi,Zg (by omega)];rfl
 have gy:ys[x.k]? =some (ys.getD x.k 0):=by rw[Zi,Zg hk];rfl
 have hs:=Vo (B:=4294967296) (v:=t % 4294967296) gz;have ht2:t<4294967296*4294967296:=by
  have:xs.getD x.i 0*ys.getD x.k 0<=4294967295*4294967295:=Yi (by omega) (by omega);omega
 refine⟨dz.set (Yj _ (by omega)),by simpa using lz,hi,hk,Ym ht2,?_,?_⟩
 ·simp only;rw[Zx (by omega)];exact zero
 ·simp only;rw[List.take_set,QX gy,show x.i+(x.k+1)=x.i+x.k+1 by omega,Ya];have e3:4294967296^(x.i+x.k)=4294967296^x.i*4294967296^x.k:=Yl _ _ _;have e4:4294967296^(x.i+x.k)*t=4294967296^(x.i+x.k)*x.carry+4294967296^(x.i+x.k)*(xs.getD x.i 0*ys.getD x.k 0)+4294967296^(x.i+x.k)*x.out.getD (x.i+x.k) 0:=by
   rw[ht,Zl,Zl,Nat.add_assoc]
  have e5:4294967296^(x.i+x.k)*t=4294967296^(x.i+x.k)*4294967296*(t/4294967296)+4294967296^(x.i+x.k)*(t % 4294967296):=by
   conv=>lhs;rw[<-Yf t 4294967296]
   rw[Zl,Zp]
  have e6:4294967296^x.i*(xs.getD x.i 0*(QH 4294967296 (ys.take x.k)+4294967296^x.k*ys.getD x.k 0))=4294967296^x.i*(xs.getD x.i 0*QH 4294967296 (ys.take x.k))+4294967296^(x.i+x.k)*(xs.getD x.i 0*ys.getD x.k 0):=by
   rw[e3];grind
  rw[e6];omega
theorem GU.done {xs ys:List Nat}{x:QBn}(h:GU xs ys x)(hk:x.k=ys.length):QFK xs ys ⟨x.out.set (x.i+ys.length) x.carry,x.i+1⟩:=by
 obtain⟨dz,lz,hi,_,hc,zero,inv⟩:=h;rw[hk]at inv;have gz:(x.out.set (x.i+ys.length) x.carry)[x.i+ys.length]? =some x.carry:=by rw[Zq];simp;omega
 have gx:xs[x.i]? =some (xs.getD x.i 0):=by rw[Zi,Zg hi];rfl
 refine⟨dz.set hc,by simpa using lz,hi,?_,?_⟩
 ·simp only;rw[Zx (by omega)];have:=congrArg (Yh 1) zero;rw[Zz,List.drop_replicate]at this;rw[show x.i+1+ys.length=x.i+ys.length+1 by omega,this];congr 1
 ·simp only;rw[show x.i+1+ys.length=x.i+ys.length+1 by omega,QX gz,XT,QX gx,inv,Qe (Yu _)];grind
theorem QUI (m a n b:Nat)(K:AV->Prop)(ha:a<=274877906944)(hb:b<=274877906944)(hm:m<2^a)(hn:n<2^b)(hK: ∀av,NatIs (m*n) (a+b) av->K av):QK (QAi m a n b K):=by
 refine⟨?_⟩;rw[H9];have hlt:m*n<2^(a+b):=by rw[Yl];exact Nat.mul_lt_mul'' hm hn
 have hwm:=QAh hm;have hwn:=QAh hn;have lm:=XK hm;have ln:=XK hn;refine QC (fun h1=> ?_) (fun h1=> ?_)
 ·have h1:=R5 h1;simp only[Zj]at h1⊢;rw[w64 (by omega)]at h1;have h1:(QA m).length+(QA n).length<=8:=by omega
  have k1:=XA m;have k2:=XA n;have k3:m*n<256^((QA m).length+(QA n).length):=by rw[Yl];exact Nat.mul_lt_mul'' k1 k2
  have k4:(256:Nat)^((QA m).length+(QA n).length)<=256^8:=Zt (by omega) h1;have k5:(256:Nat)^(QA m).length<=256^8:=Zt (by omega) (by omega);have k6:(256:Nat)^(QA n).length<=256^8:=Zt (by omega) (by omega);have e1:((m:Int)*n)=((m*n:Nat):Int):=by simp
  rw[e1,Xs (by omega),Zm];exact⟨by omega,by omega,by omega,hK _ (.b hlt)⟩
 ·have vx:QH 4294967296 (fd 4294967296 (wl m) m)=m:=Qs (YU m);have vy:QH 4294967296 (fd 4294967296 (wl n) n)=n:=Qs (YU n);have dx:Dig 4294967296 (fd 4294967296 (wl m) m):=Dig.fd (by omega);have dy:Dig 4294967296 (fd 4294967296 (wl n) n):=Dig.fd (by omega);have lx:(fd 4294967296 (wl m) m).length=wl m:=Qj;have ly:(fd 4294967296 (wl n) n).length=wl n:=Qj;generalize fd 4294967296 (wl m) m=xs at*;generalize fd 4294967296 (wl n) n=ys at*;simp only[Zj,R0,R1,Ye,R4,R2];rw[w64 (by omega)];have e1:((wl m:Int)+wl n).toNat=xs.length+ys.length:=by omega
  simp only[e1,lx,ly,R0];rw[<-lx,<-ly];refine⟨by omega,by omega,⟨by omega,by omega,by omega⟩,⟨⟨Zh (xs.length+ys.length) 0,0⟩,⟨Dig.zeros (by omega),by simp,by simp,by simp,by simp[QH,VQ,List.take_replicate]⟩,rfl,.inl (Gf _)⟩,fun x hx=>QC (fun hp=> ?_) (fun hp=> ?_)⟩
  ·obtain⟨out,i⟩:=x;have hp:i<xs.length:=by simpa using hp
   obtain⟨w,hw⟩: ∃w,xs[i]? =some w:=⟨_,Zg hp⟩
   simp only at hx⊢;refine⟨by omega,w,by simpa using YX hw,⟨⟨out,i,0,0⟩,⟨⟨hx.dz,hx.lz,hp,by simp,by simp,hx.zero,?_⟩,rfl⟩,rfl,by simp only;rw[YY hw],rfl,rfl,rfl,.inl rfl⟩,fun y hy ht=>QC (fun hq=> ?_) (fun hq=> ?_)⟩
   ·have:=hx.inv;simp only at this⊢;rw[this];simp[QH]
   ·obtain⟨out',i',carry,k⟩:=y;have hq:k<ys.length:=by simpa using hq
    obtain⟨v,hv⟩: ∃v,ys[k]? =some v:=⟨_,Zg hq⟩
    have hs:=fun t=>hy.step dx dy hq (t:=t);have b1:=dx.getD (i:=i') (by omega);have b2:=dy.get hv;have b3:=hy.dz.getD (i:=i'+k) (by omega);have b4:=hy.hc;have b5:=hy.hi;have b6:=hy.lz;have gz:out'[i'+k]? =some (out'.getD (i'+k) 0):=by rw[Zi,Zg (by simp only at b5 b6;omega)];rfl
    simp only at hs b1 b2 b3 b4 b5 b6 ht⊢;rw[YY hv]at hs;have f1:Zb.wrap ((i':Int)+k)=((i'+k:Nat):Int):=by rw[w64 (by omega)];simp
    simp only[f1,Zm];have hm1:xs.getD i' 0*v<=4294967295*4294967295:=Yi (by omega) (by omega);have f2:Zc.wrap ((carry:Int)+Zc.wrap (Zc.wrap (Zc.wrap ((xs.getD i' 0:Nat):Int)*Zc.wrap (v:Int))+Zc.wrap ((out'.getD (i'+k) 0:Nat):Int)))=((carry+(xs.getD i' 0*v+out'.getD (i'+k) 0):Nat):Int):=by
     have e0:(((xs.getD i' 0:Nat):Int)*(v:Int))=((xs.getD i' 0*v:Nat):Int):=by simp
     rw[Xs (n:=((xs.getD i' 0:Nat):Int)) (by omega),Xs (n:=(v:Int)) (by omega),Xs (n:=((out'.getD (i'+k) 0:Nat):Int)) (by omega),e0];generalize xs.getD i' 0*v=p at hm1⊢;rw[Xs (n:=(p:Int)) (by omega),Xs (n:=(p:Int)+_) (by omega),Xs (by omega)];simp
    refine⟨by omega,v,by simpa using YX hv,by omega,_,YX gz,by omega,by rw[J8];omega,by omega,_,⟨hs _ rfl,ht,by simp only;omega⟩,?_⟩;rw[f2,YT (by decide) (by omega),w64 (by omega)];generalize carry+(xs.getD i' 0*v+out'.getD (i'+k) 0)=t;have e2:Zd.wrap (t:Int)=((t % 4294967296:Nat):Int):=by rw[Zv];simp
    rw[e2,WN];refine⟨rfl,rfl,?_,by simp,rfl,.inl rfl⟩;simp only[show(32:Int).toNat=32 from rfl];omega
   ·obtain⟨out',i',carry,k⟩:=y;have hq: ¬k<ys.length:=by simpa using hq
    have hk:=hy.hk;have b4:=hy.hc;have b5:=hy.hi;have b6:=hy.lz;have hd:=hy.done (by simp only at hk⊢;omega);simp only at b4 b5 b6 ht hd⊢;have f1:Zb.wrap ((i':Int)+ys.length)=((i'+ys.length:Nat):Int):=by rw[w64 (by omega)];simp
    simp only[f1,Zm];refine⟨by omega,by rw[J8];omega,_,⟨hd,by simp only;omega⟩,?_⟩;rw[w64 (by omega),QG4 (by omega),WN];exact⟨by simp,.inl rfl⟩
  ·obtain⟨out,i⟩:=x;have hp: ¬i<xs.length:=by simpa using hp
   have hi:=hx.hi;have lz:=hx.lz;have inv:=hx.inv;simp only at hi lz inv⊢;have:i=xs.length:=by omega
   subst this;refine⟨out,?_,hx.dz,by omega,?_⟩
   ·rw[Yv,Hg,Yb (by omega)]
   ·rw[Qe (l:=out) (by omega),Qe (l:=xs) (by omega),vx,vy]at inv;rw[inv];exact hK _ (.b hlt)
def QFL:Ctr
 | [.x false [.b m a],.x false [.b n b]]=>some fun K=>(a<=274877906944/\b<=274877906944)/\K (bA (m*n) (a+b))
 | _=>none
theorem ok_Mul {g:Nat}{tab:List Value}:CtrOK Tryz.prog g tab 75 QFL:=by
 refine⟨Qg Tryz.func75 (by kernel_rfl),fun l T hT K hK=> ?_⟩;unfold QFL at hT;split at hT
 ·rename_i m a n b;cases hT
  exact JR fun w O ρ vals hc=>Wg (Qn QYt QM Tryz.func75 (by kernel_rfl) (by kernel_rfl) (by rfl) (QUI m a n b _ hK.1.1 hK.1.2 (WR hc) (Jl hc) fun _ h=>h)) hK.2
 ·cases hT
def L9:LC:=(75,QFL)::L8
noncomputable def T9:Qb:=mkT L9 M7 X3
theorem QYw {g:Nat}{tab:List Value}:CtrsOK Tryz.prog g tab L9:= .cons ok_Mul QYs
theorem QRZ {g:Nat}{tab:List Value}:Q8 Tryz.prog g tab T9:=QS QYw QRY GR
end Go.Proofs
namespace Go.Proofs
open Go Go.Eng
structure QCF where
 out:List Nat
 i:Nat
structure QAj (xs:List Nat)(s:Nat)(x:QCF):Prop where
 dz:Dig 4294967296 x.out
 lz:x.out.length=xs.length+1
 hi:x.i<=xs.length
 top:x.out.getD x.i 0<2^s
 zero:x.out.drop (x.i+1)=Zh (xs.length-x.i) 0
 inv:QH 4294967296 (x.out.take (x.i+1))=QH 4294967296 (xs.take x.i)*2^s
def QNB (xs:List Nat)(s:Nat):LI:=fun _=> .inv ⟨QCF,fun x=>⟨[(1,iA .i64 s),(5,wA 12 (xs.length+1)),(13,wA 1000 xs.length),(14,iA .i64 xs.length),(15,iA .i64 x.i)],[(1000,Qo xs),(12,Qo x.out)]⟩,QAj xs s,fun x=>xs.length-x.i,fun _=>0⟩
theorem QAj.step {xs:List Nat}{s:Nat}{x:QCF}(h:QAj xs s x)(dx:Dig 4294967296 xs)(hs:s<32)(hi:x.i<xs.length){w:Nat}(hw:xs[x.i]? =some w):
  orI .u32 (x.out.getD x.i 0:Nat) (w*2^s % 4294967296:Nat)=((x.out.getD x.i 0+w*2^s % 4294967296:Nat):Int)/\
  QAj xs s ⟨(x.out.set x.i (x.out.getD x.i 0+w*2^s % 4294967296)).set (x.i+1) (w*2^s/4294967296),x.i+1⟩:=by
 obtain⟨dz,lz,_,top,zero,inv⟩:=h;have dw:=dx.get hw;obtain⟨p,hp⟩: ∃p,2^s=p:=⟨_,rfl⟩;obtain⟨q,hq⟩: ∃q,2^(32-s)=q:=⟨_,rfl⟩;have hpq:p*q=4294967296:=by rw[<-hp,<-hq,<-Yl,show s+(32-s)=32 by omega]
 have hp0:0<p:=by rw[<-hp];exact Yp (by omega)
 have hq0:0<q:=by rw[<-hq];exact Yp (by omega)
 have e1:w*p % 4294967296=p*(w % q):=by rw[<-hpq,Yr w p,Nat.mul_mod_mul_left]
 have e2:w*p/4294967296=w/q:=by rw[<-hpq,Yr w p,Nat.mul_div_mul_left _ _ hp0]
 have e3:p*(w % q)+p<=4294967296:=by
  rw[<-hpq];have:p*(w % q+1)<=p*q:=Nat.mul_le_mul_left _ (Yj _ hq0);rwa [Zl,Nat.mul_one]at this
 have e4:w/q<p:=by
  apply Ym;rw[Yr,hpq];exact dw
 have hple:p<=4294967296:=by omega
 rw[hp]at top inv⊢;rw[e1,e2];have gi:x.out[x.i]? =some (x.out.getD x.i 0):=by rw[Zi,Zg (by omega)];rfl
 refine⟨?_,?_⟩
 ·rw[KD];have:=QDC (a:=w % q) (b:=x.out.getD x.i 0) (s:=s) (by rw[hp];exact top) (by rw[hp];omega);rw[hp]at this;rw[this,Yn]
 ·refine⟨(dz.set (by omega)).set (by omega),by simpa using lz,hi,?_,?_,?_⟩
  ·simp only;rw[YY (d:=w/q) (by rw[Zq];simp;omega),hp];exact e4
  ·simp only;rw[Zx (by omega),Zx (by omega)];have:=congrArg (Yh 1) zero;rw[Zz,List.drop_replicate]at this;rw[this];congr 1
  ·simp only;have g1:((x.out.set x.i (x.out.getD x.i 0+p*(w % q))).set (x.i+1) (w/q))[x.i+1]? =some (w/q):=by rw[Zq];simp;omega
   rw[QX g1,XT,List.take_set,QX hw,Nat.add_mul,hp,<-inv];have g2:(x.out.take (x.i+1))[x.i]? =some (x.out.getD x.i 0):=by rw[List.getElem?_take,if_pos (by omega)];exact gi
   have h3:=Vo (B:=4294967296) (v:=x.out.getD x.i 0+p*(w % q)) g2;rw[Zl]at h3;rw[Ya];have e5:4294967296^x.i*w*p=4294967296^x.i*(p*(w % q))+4294967296^x.i*4294967296*(w/q):=by
    have:w*p=p*(w % q)+4294967296*(w/q):=by
     conv=>lhs;rw[<-Yf w q]
     rw[<-hpq];grind
    rw[Zp,this,Zl,Zp]
   omega
set_option maxHeartbeats 1000000 in
theorem QVr (xs:List Nat)(s:Nat)(dx:Dig 4294967296 xs)(hs:s<32)(hl:xs.length<=1099511627776):QK (YW (X:=Unit) T9 (oF Tryz.f219) (QNB xs s) Tryz.f219 [wA 1000 xs.length,iA .i64 s] [(1000,Qo xs)] (fun _=>True)
 (fun _=>⟨[(4,wA 1001 (xs.length+1))],[(1000,Qo xs),(1001,Qo (fd 4294967296 (xs.length+1) (QH 4294967296 xs*2^s)))]⟩)):=by
 refine HV (((0<=Zb.wrap (Za xs.length+1)/\Zb.wrap (Za xs.length+1)<=Zb.wrap (Za xs.length+1)/\4*Zb.wrap (Za xs.length+1)<=281474976710656/\Zb.wrap (Za xs.length+1)<=9223372036854775807)/\(∃(x:QCF),(QAj xs s x/\OfNat.ofNat 0=0)/\Za s=Za s/\0=0/\(Zb.wrap (Za xs.length+1)).toNat=xs.length+1/\0=0/\xs.length=xs.length/\Za xs.length=Za xs.length/\0=Za x.i/\196=196/\1=1/\(W xs=W xs∨QE (W xs) (W xs))/\196=196/\1=1/\(Zh (Zb.wrap (Za xs.length+1)).toNat [Zo (Ze Zd 0)]=W x.out∨QE (Zh (Zb.wrap (Za xs.length+1)).toNat [Zo (Ze Zd 0)]) (W x.out))/\True)/\∀(x:QCF),QAj xs s x->OfNat.ofNat 0=0->bif decide (Za x.i<Za xs.length)then(0<=Za x.i/\Za x.i<Za xs.length)/\∃(d:Int),ldE (W xs) (0+(Za x.i).toNat) 0 1=some [Zo (Ze Zd d)]/\0<=Za s/\(0<=Za x.i/\Za x.i<Za (xs.length+1))/\∃(d_1:Int),ldE (W x.out) (0+(Za x.i).toNat) 0 1=some [Zo (Ze Zd d_1)]/\(0<=Za x.i/\Za x.i<Za (xs.length+1))/\0+(Za x.i).toNat<(W x.out).length/\(0:Int)<=32/\(0<=Zb.wrap (Za x.i+1)/\Zb.wrap (Za x.i+1)<Za (xs.length+1))/\0+(Zb.wrap (Za x.i+1)).toNat<((W x.out).set (0+(Za x.i).toNat) [Zo (Ze Zd (orI Zd d_1 (Zd.wrap (X2 Zc (Zc.wrap d) (Za s)))))]).length/\∃(x':QCF),(QAj xs s x'/\OfNat.ofNat 0=0/\xs.length-x'.i<xs.length-x.i)/\Za s=Za s/\0=0/\xs.length+1=xs.length+1/\0=0/\xs.length=xs.length/\Za xs.length=Za xs.length/\Zb.wrap (Za x.i+1)=Za x'.i/\196=196/\1=1/\(W xs=W xs∨QE (W xs) (W xs))/\196=196/\1=1/\(((W x.out).set (0+(Za x.i).toNat) [Zo (Ze Zd (orI Zd d_1 (Zd.wrap (X2 Zc (Zc.wrap d) (Za s)))))]).set (0+(Zb.wrap (Za x.i+1)).toNat) [Zo (Ze Zd (Zd.wrap (Q4 Zc (X2 Zc (Zc.wrap d) (Za s)) 32)))]=W x'.out∨QE (((W x.out).set (0+(Za x.i).toNat) [Zo (Ze Zd (orI Zd d_1 (Zd.wrap (X2 Zc (Zc.wrap d) (Za s)))))]).set (0+(Zb.wrap (Za x.i+1)).toNat) [Zo (Ze Zd (Zd.wrap (Q4 Zc (X2 Zc (Zc.wrap d) (Za s)) 32)))]) (W x'.out))/\True else ∃(_x_1:Unit),True/\0=0/\xs.length+1=xs.length+1/\196=196/\1=1/\(W xs=W xs∨QE (W xs) (W xs))/\196=196/\1=1/\(W x.out=W (fd 4294967296 (xs.length+1) (QH 4294967296 xs*2^s))∨QE (W x.out) (W (fd 4294967296 (xs.length+1) (QH 4294967296 xs*2^s))))/\True)) ?_
 simp only[Zj,R0,R1,Ye,R4,R2];rw[w64 (by omega),show((xs.length:Int)+1).toNat=xs.length+1 by omega];simp only[R0];refine⟨⟨by omega,by omega,by omega⟩,⟨⟨Zh (xs.length+1) 0,0⟩,⟨Dig.zeros (by omega),by simp,by simp,by simp[Zi];exact Yp (by omega),by simp,by simp[QH]⟩,rfl,.inl (Gf _)⟩,fun x hx=>QC (fun hp=> ?_) (fun hp=> ?_)⟩
 ·obtain⟨out,i⟩:=x;have hp:i<xs.length:=by simpa using hp
  obtain⟨w,hw⟩: ∃w,xs[i]? =some w:=⟨_,Zg hp⟩
  obtain⟨h1,h2⟩:=hx.step dx hs hp hw;have lz:=hx.lz;have dw:=dx.get hw;have gz:out[i]? =some (out.getD i 0):=by rw[Zi,Zg (by simp only at lz;omega)];rfl
  simp only at h1 h2 lz⊢;have hp2:(2:Nat)^s<=2^31:=Zt (by omega) (by omega);have hwp:w*2^s<=4294967295*2^31:=Yi (by omega) hp2;have f1:X2 .u64 (Zc.wrap (w:Int)) (s:Int)=((w*2^s:Nat):Int):=by
   rw[Xs (by omega),VO (by simp[Ys];omega),Zm];have:(w:Int)*2^s=((w*2^s:Nat):Int):=by simp
   rw[this];exact Xs (by omega)
  have f2:Zd.wrap ((w*2^s:Nat):Int)=((w*2^s % 4294967296:Nat):Int):=by rw[Zv];simp
  have f3:Zd.wrap (Q4 .u64 ((w*2^s:Nat):Int) 32)=((w*2^s/4294967296:Nat):Int):=by
   rw[YT (by decide) (by omega)];simp only[show(32:Int).toNat=32 from rfl];rw[QG4 (by omega)];omega
  have f4:Zb.wrap ((i:Int)+1)=((i+1:Nat):Int):=by rw[w64 (by omega)];simp
  simp only[f4,Zm];refine⟨by omega,w,YX hw,by omega,by omega,_,YX gz,by omega,by rw[J8];omega,by omega,by omega,by rw[Yg,J8];omega,_,⟨h2,by simp only;omega⟩,rfl,.inl ?_⟩;rw[f1,f2,f3,h1,WN,WN]
 ·obtain⟨out,i⟩:=x;have hp: ¬i<xs.length:=by simpa using hp
  have hi:=hx.hi;have lz:=hx.lz;have inv:=hx.inv;have dz:=hx.dz;simp only at hi lz inv dz⊢;have:i=xs.length:=by omega
  subst this;rw[Qe (l:=out) (by omega),Qe (l:=xs) (by omega)]at inv;exact⟨(),.inl (by rw[<-inv,<-lz,KF dz (by omega)])⟩
def QHG:Xt:=fun as0 H d=>match as0 with
 | [.x false [.w k 0 n],.x false [.v (.int .i64 s)]]=>match H k,H d with
  | some (.row t 1 xs),none=>bif t.beq 196 then
    some fun K=> ∃ds,xs=W ds/\n=ds.length/\Dig 4294967296 ds/\ds.length<=1099511627776/\(0<=s/\s<32)/\
     K (wA d (ds.length+1)) (XO [(1000,k),(1001,d)] (QR [(1000,Qo ds),(1001,Qo (fd 4294967296 (ds.length+1) (QH 4294967296 ds*2^s.toNat)))]) H)
    else none
  | _,_=>none
 | _=>none
theorem QRa {g:Nat}{tab:List Value}:We Tryz.prog g tab 219 QHG:=by
 refine⟨Qg Tryz.func219 (by kernel_rfl),fun l H d T hT K hK=> ?_⟩;unfold QHG at hT;split at hT
 ·rename_i k n s;split at hT
  ·rename_i t xs e1 e2;cases hb:t.beq 196 with
   | false=>rw[hb]at hT;cases hT
   | true=>
    rw[hb]at hT;cases hT
    have ht:=Zn hb;subst ht;obtain⟨ds,rfl,rfl,dd,hl,⟨h0,h1⟩,hK⟩:=hK;obtain⟨s,rfl⟩:=Zs h0;refine XZ (R:=[(1000,k)]) (N:=[(1001,d)]) (Hl:=[(1000,Qo ds)]) QRZ QM Tryz.func219 (by kernel_rfl) (by kernel_rfl) (by rfl)
     (as0:=[wA 1000 ds.length,iA .i64 s]) ?_ (V6 e1 rfl rfl) rfl (by simp) (by simp) (fun p hp=>by simp at hp;subst hp;exact e2) (fun x=>⟨fun p hp=> ?_,fun p hp b hb=> ?_⟩) (QVr ds s dd (by omega) hl) (fun x _=> ?_)
    ·simp[JX,JW,JP,lkB,wA,iA]
    ·simp at hp;subst hp;exact fun h=>by have h':some (Qo _)=none:=h;cases h'
    ·simp at hp;rcases hp with rfl | rfl
     ·have h':some (Qo _)=some b:=hb;cases h';rfl
     ·have h':some (Qo _)=some b:=hb;cases h';rfl
    ·exact⟨_,rfl,hK⟩
  ·cases hT
 ·cases hT
end Go.Proofs
namespace Go.Proofs
open Go Go.Eng
def spl (us:List Nat)(o:Nat)(w:List Nat):List Nat:=us.take o++(w++us.drop (o+w.length))
def win (us:List Nat)(o n:Nat):List Nat:=(us.drop o).take n
structure QCG where
 wd:List Nat
 carry:Nat
 b:Nat
 i:Nat
structure QAk (wd0 vs:List Nat)(n d:Nat)(x:QCG):Prop where
 dw:Dig 4294967296 x.wd
 lw:x.wd.length=n+1
 hi:x.i<=n
 hc:x.carry<4294967296
 hb:x.b<=1
 rest:x.wd.drop x.i=wd0.drop x.i
 inv:QH 4294967296 (x.wd.take x.i)+d*QH 4294967296 (vs.take x.i)=QH 4294967296 (wd0.take x.i)+4294967296^x.i*(x.carry+x.b)
def wO (k o n:Nat):AV:= .x false [.w k o n]
def QDI (us vs:List Nat)(o n d:Nat):LI:=fun _=> .inv ⟨QCG,fun x=>⟨[(0,wO 1000 o (n+1)),(1,wA 1001 n),(2,iA .u64 d),(7,iA .u64 x.carry),(8,iA .u64 x.b),(13,wA 1001 n),(14,iA .i64 n),(15,iA .i64 x.i)],
 [(1000,Qo (spl us o x.wd)),(1001,Qo vs)]⟩,QAk (win us o (n+1)) vs n d,fun x=>n-x.i,fun _=>0⟩
def JJ (us vs:List Nat)(o n d:Nat):Nat:=(QH 4294967296 (win us o (n+1))+4294967296^(n+1)-d*QH 4294967296 (vs.take n)) % 4294967296^(n+1)
theorem Vp {us w:List Nat}{o:Nat}(h:o+w.length<=us.length):(spl us o w).length=us.length:=by simp[spl];omega
theorem Gi {us w:List Nat}{o i:Nat}(h:o+w.length<=us.length)(hi:i<w.length):(spl us o w)[o+i]? =w[i]? :=by
 unfold spl;rw[List.getElem?_append_right (by simp;omega),List.length_take,Nat.min_eq_left (by omega),show o+i-o=i by omega,List.getElem?_append_left hi]
theorem Gj {us w:List Nat}{o i v:Nat}(h:o+w.length<=us.length)(hi:i<w.length):(spl us o w).set (o+i) v=spl us o (w.set i v):=by
 unfold spl;rw[List.set_append_right _ _ (by simp;omega),List.length_take,Nat.min_eq_left (by omega),show o+i-o=i by omega,List.set_append_left _ _ hi,Yg]
theorem Ws {us:List Nat}{o n:Nat}(h:o+n<=us.length):(win us o n).length=n:=by simp[win];omega
theorem QDJ {us:List Nat}{o n:Nat}(h:o+n<=us.length):spl us o (win us o n)=us:=by
 unfold spl;rw[Ws h];unfold win;rw[<-Zz,List.take_append_drop,List.take_append_drop]
theorem J3 {B o n:Nat}{us:List Nat}(h:Dig B us):Dig B (win us o n):=(h.drop).take
theorem QCH {u c b:Nat}(hu:u<4294967296)(hc:c<=4294967296)(hb:b<=1)(h:c+b<=4294967296): ∃q e:Nat,q<4294967296/\e<=1/\q+c+b=u+4294967296*e/\(e=1↔u<c+b)/\
    ((u:Int)-c-b) % 18446744073709551616/9223372036854775808=e/\((u:Int)-c-b) % 18446744073709551616 % 4294967296=q:=by
  by_cases h':c+b<=u
  · exact⟨u-c-b,0,by omega,by omega,by omega,by omega,by omega,by omega⟩
  · exact⟨u+4294967296-c-b,1,by omega,by omega,by omega,by omega,by omega,by omega⟩
theorem QAk.step {wd0 vs:List Nat}{n d:Nat}{x:QCG}(h:QAk wd0 vs n d x)(hi:x.i<n)(h0:wd0.length=n+1){v:Nat}(hv:vs[x.i]? =some v)(hv2:v<4294967296)(hd:d<4294967296){u:Nat}(hu:wd0[x.i]? =some u){t q e:Nat}(ht:t=x.carry+d*v)(hq:q<4294967296)(he:e<=1)
  (hs:q+t % 4294967296+x.b=u+4294967296*e):QAk wd0 vs n d ⟨x.wd.set x.i q,t/4294967296,e,x.i+1⟩:=by
 obtain⟨dw,lw,_,hc,hb,rest,inv⟩:=h;have gz:(x.wd.set x.i q)[x.i]? =some q:=by rw[Zq];simp;omega
 have ht2:t<4294967296*4294967296:=by
  have:d*v<=4294967295*4294967295:=Yi (by omega) (by omega);omega
 refine⟨dw.set hq,by simpa using lw,hi,Ym ht2,he,?_,?_⟩
 ·simp only;rw[Zx (by omega)];have:=congrArg (Yh 1) rest;rwa [Zz,Zz]at this
 ·simp only;rw[QX gz,XT,QX hv,QX hu,Ya];generalize (4294967296:Nat)^x.i=p at inv⊢;have e1:p*t=p*x.carry+p*(d*v):=by rw[ht,Zl]
  have e2:p*t=p*4294967296*(t/4294967296)+p*(t % 4294967296):=by
   conv=>lhs;rw[<-Yf t 4294967296]
   rw[Zl,Zp]
  have e3:p*q+p*(t % 4294967296)+p*x.b=p*u+p*4294967296*e:=by
   rw[<-Zl,<-Zl,hs,Zl,Zp]
  have e4:d*(QH 4294967296 (vs.take x.i)+p*v)=d*QH 4294967296 (vs.take x.i)+p*(d*v):=by rw[Zl];grind
  rw[e4,Zl,Zp] ;rw[Zl]at inv;rw[Zp]at e2 e3;rw[Zp]at*;omega
set_option maxHeartbeats 1000000 in
theorem QHH (us vs:List Nat)(o n d:Nat)(du:Dig 4294967296 us)(dv:Dig 4294967296 vs)(hd:d<4294967296)(ho:o+(n+1)<=us.length)(hn:n<=vs.length)(hl:us.length<=2199023255552):QK (YW (X:=Unit) T9 (oF Tryz.f220) (QDI us vs o n d) Tryz.f220 [wO 1000 o (n+1),wA 1001 n,iA .u64 d] [(1000,Qo us),(1001,Qo vs)] (fun _=>True)
 (fun _=>⟨[(6,.x false [.v (.bool (decide (QH 4294967296 (win us o (n+1))<d*QH 4294967296 (vs.take n))))])],[(1000,Qo (spl us o (fd 4294967296 (n+1) (JJ us vs o n d)))),(1001,Qo vs)]⟩)):=by
 refine HV (((∃(x:QCG),(QAk (win us o (n+1)) vs n d x/\OfNat.ofNat 0=0)/\o=o/\n+1=n+1/\0=0/\n=n/\Za d=Za d/\0=Za x.carry/\0=Za x.b/\0=0/\n=n/\Za n=Za n/\0=Za x.i/\196=196/\1=1/\(W us=W (spl us o x.wd)∨QE (W us) (W (spl us o x.wd)))/\196=196/\1=1/\(W vs=W vs∨QE (W vs) (W vs))/\True)/\∀(x:QCG),QAk (win us o (n+1)) vs n d x->OfNat.ofNat 0=0->bif decide (Za x.i<Za n)then(0<=Za x.i/\Za x.i<Za n)/\∃(d_1:Int),ldE (W vs) (0+(Za x.i).toNat) 0 1=some [Zo (Ze Zd d_1)]/\(0<=Za x.i/\Za x.i<Za (n+1))/\∃(d_2:Int),ldE (W (spl us o x.wd)) (o+(Za x.i).toNat) 0 1=some [Zo (Ze Zd d_2)]/\(0:Int)<=63/\(0<=Za x.i/\Za x.i<Za (n+1))/\o+(Za x.i).toNat<(W (spl us o x.wd)).length/\(0:Int)<=32/\∃(x':QCG),(QAk (win us o (n+1)) vs n d x'/\OfNat.ofNat 0=0/\n-x'.i<n-x.i)/\o=o/\n+1=n+1/\0=0/\n=n/\Za d=Za d/\Q4 Zc (Zc.wrap (Za x.carry+Zc.wrap (Za d*Zc.wrap d_1))) 32=Za x'.carry/\Q4 Zc (Zc.wrap (Zc.wrap (Zc.wrap d_2-Zc.wrap (Zd.wrap (Zc.wrap (Za x.carry+Zc.wrap (Za d*Zc.wrap d_1)))))-Za x.b)) 63=Za x'.b/\0=0/\n=n/\Za n=Za n/\Zb.wrap (Za x.i+1)=Za x'.i/\196=196/\1=1/\((W (spl us o x.wd)).set (o+(Za x.i).toNat) [Zo (Ze Zd (Zd.wrap (Zc.wrap (Zc.wrap (Zc.wrap d_2-Zc.wrap (Zd.wrap (Zc.wrap (Za x.carry+Zc.wrap (Za d*Zc.wrap d_1)))))-Za x.b))))]=W (spl us o x'.wd)∨QE ((W (spl us o x.wd)).set (o+(Za x.i).toNat) [Zo (Ze Zd (Zd.wrap (Zc.wrap (Zc.wrap (Zc.wrap d_2-Zc.wrap (Zd.wrap (Zc.wrap (Za x.carry+Zc.wrap (Za d*Zc.wrap d_1)))))-Za x.b))))]) (W (spl us o x'.wd)))/\196=196/\1=1/\(W vs=W vs∨QE (W vs) (W vs))/\True else(0<=Za n/\Za n<Za (n+1))/\∃(d_1:Int),ldE (W (spl us o x.wd)) (o+(Za n).toNat) 0 1=some [Zo (Ze Zd d_1)]/\(0<=Za n/\Za n<Za (n+1))/\o+(Za n).toNat<(W (spl us o x.wd)).length/\(0:Int)<=63/\∃(_x_1:Unit),True/\decide (Q4 Zc (Zc.wrap (Zc.wrap (Zc.wrap d_1-Za x.carry)-Za x.b)) 63>0)=decide (QH 4294967296 (win us o (n+1))<d*QH 4294967296 (Zu n vs))/\196=196/\1=1/\((W (spl us o x.wd)).set (o+(Za n).toNat) [Zo (Ze Zd (Zd.wrap (Zc.wrap (Zc.wrap (Zc.wrap d_1-Za x.carry)-Za x.b))))]=W (spl us o (fd 4294967296 (n+1) (JJ us vs o n d)))∨QE ((W (spl us o x.wd)).set (o+(Za n).toNat) [Zo (Ze Zd (Zd.wrap (Zc.wrap (Zc.wrap (Zc.wrap d_1-Za x.carry)-Za x.b))))]) (W (spl us o (fd 4294967296 (n+1) (JJ us vs o n d)))))/\196=196/\1=1/\(W vs=W vs∨QE (W vs) (W vs))/\True)) ?_
 have lw:=Ws ho;simp only[Zj,R0,R1,Ye,R4,R2];have spI: ∀w:List Nat,w.length=n+1->o+w.length<=us.length:=fun w hw=>by omega
 refine⟨⟨⟨win us o (n+1),0,0,0⟩,⟨J3 du,lw,by simp,by simp,by simp,rfl,by simp[QH]⟩,rfl,rfl,rfl,.inl (by simp only;rw[QDJ ho])⟩,fun x hx=>QC (fun hp=> ?_) (fun hp=> ?_)⟩
 ·obtain⟨wd,carry,b,i⟩:=x;have hp:i<n:=by simpa using hp
  obtain⟨v,hv⟩: ∃v,vs[i]? =some v:=⟨_,Zg (by omega)⟩
  obtain⟨u,hu⟩: ∃u,(win us o (n+1))[i]? =some u:=⟨_,Zg (by omega)⟩
  have dv2:=dv.get hv;have du2:=(J3 du).get hu;have hc:=hx.hc;have hb:=hx.hb;have lwd:=hx.lw;have hcw:wd[i]? =some u:=by
   have:=congrArg (fun l:List Nat=>l[0]?) hx.rest;simpa [hu]using this
  have hs:=fun t q e=>hx.step hp lw hv dv2 hd hu (t:=t) (q:=q) (e:=e);simp only at hc hb lwd hs⊢;have hm:d*v<=4294967295*4294967295:=Yi (by omega) (by omega);have f0:Zc.wrap ((carry:Int)+Zc.wrap ((d:Int)*Zc.wrap (v:Int)))=((carry+d*v:Nat):Int):=by
   rw[Xs (n:=(v:Int)) (by omega)];have:((d:Int)*v)=((d*v:Nat):Int):=by simp
   rw[this];generalize d*v=p at hm⊢;rw[Xs (n:=(p:Int)) (by omega),Xs (by omega)];simp
  generalize ht:carry+d*v=t at hs f0;have ht2:t<18446744073709551616:=by omega
  obtain⟨q,e,hq,he,hqe,_,r1,r2⟩:=QCH (u:=u) (c:=t % 4294967296) (b:=b) du2 (by omega) hb (by omega);have f1:Zc.wrap (Zc.wrap (Zc.wrap (u:Int)-Zc.wrap (Zd.wrap (t:Int)))-b)=((u:Int)-(t % 4294967296:Nat)-b) % 18446744073709551616:=by
   rw[Zv];simp only[Jg];omega
  have gs:(spl us o wd)[o+i]? =some u:=by rw[Gi (spI wd lwd) (by omega)];exact hcw
  simp only[Zm];refine⟨by omega,v,YX hv,by omega,u,YX gs,by omega,by omega,by rw[J8,Vp (spI wd lwd)];omega,by omega,_,⟨hs t q e rfl hq he hqe,by simp only;omega⟩,?_,?_,?_,?_⟩
  ·rw[f0,YT (by decide) (by omega)];simp only[show(32:Int).toNat=32 from rfl];omega
  ·rw[f0,f1,YT (by decide) (by omega)];simp only[show(63:Int).toNat=63 from rfl];exact r1
  ·rw[w64 (by omega)];simp
  ·rw[f0,f1,show Zd.wrap (((u:Int)-(t % 4294967296:Nat)-b) % 18446744073709551616)=(q:Int)by rw[Zv];exact r2,WN,Gj (spI wd lwd) (by omega)];exact .inl rfl
 ·obtain⟨wd,carry,b,i⟩:=x;have hp: ¬i<n:=by simpa using hp
  have hi:=hx.hi;have hc:=hx.hc;have hb:=hx.hb;have lwd:=hx.lw;have inv:=hx.inv;have dw:=hx.dw;have rest:=hx.rest;simp only at hi hc hb lwd inv dw rest⊢;have:i=n:=by omega
  subst this;obtain⟨u,hu⟩: ∃u,(win us o (i+1))[i]? =some u:=⟨_,Zg (by omega)⟩
  have du2:=(J3 du).get hu;have hcw:wd[i]? =some u:=by
   have:=congrArg (fun l:List Nat=>l[0]?) rest;simpa [hu]using this
  obtain⟨q,e,hq,he,hqe,_,r1,r2⟩:=QCH (u:=u) (c:=carry) (b:=b) du2 (by omega) hb (by omega);have f1:Zc.wrap (Zc.wrap (Zc.wrap (u:Int)-carry)-b)=((u:Int)-carry-b) % 18446744073709551616:=by
   simp only[Jg];omega
  have gs:(spl us o wd)[o+i]? =some u:=by rw[Gi (spI wd lwd) (by omega)];exact hcw
  -- the value
  have v0:=QX (B:=4294967296) hu;rw[Qe (by omega)]at v0;have gz:(wd.set i q)[i]? =some q:=by rw[Zq];simp;omega
  have v1:=QX (B:=4294967296) gz;rw[Qe (by simp;omega),XT]at v1;have hlt:=JQ (dw.set (i:=i) hq);rw[Yg,lwd]at hlt;have key:QH 4294967296 (wd.set i q)+d*QH 4294967296 (vs.take i)=QH 4294967296 (win us o (i+1))+4294967296^(i+1)*e:=by
   have h3:4294967296^i*q+4294967296^i*(carry+b)=4294967296^i*u+4294967296^(i+1)*e:=by
    rw[<-Zl,show q+(carry+b)=u+4294967296*e by omega,Zl,<-Zp,<-Ya]
   omega
  have hwlt:=JQ (J3 (o:=o) (n:=i+1) du);rw[lw]at hwlt;have hvv:QH 4294967296 (wd.set i q)=JJ us vs o i d:=by
   unfold JJ;generalize d*QH 4294967296 (vs.take i)=dv at key⊢;generalize (4294967296:Nat)^(i+1)=p at key hlt hwlt⊢;rcases Yc.1 he with h | h
   ·subst h;rw[Nat.mul_zero,Nat.add_zero]at key;rw[show QH 4294967296 (win us o (i+1))+p-dv=QH 4294967296 (wd.set i q)+p by omega,Nat.add_mod_right,Yk hlt]
   ·subst h;rw[Nat.mul_one]at key;rw[show QH 4294967296 (win us o (i+1))+p-dv=QH 4294967296 (wd.set i q)by omega,Yk hlt]
  simp only[Zm];refine⟨by omega,u,YX gs,by omega,by rw[J8,Vp (spI wd lwd)];omega,by omega,(),?_,?_⟩
  ·refine decide_eq_decide.2 ?_
   rw[f1,YT (by decide) (by omega)];simp only[show(63:Int).toNat=63 from rfl];rw[show((u:Int)-carry-b) % 18446744073709551616/2^63=e from r1];generalize d*QH 4294967296 (vs.take i)=dv at key⊢;generalize (4294967296:Nat)^(i+1)=p at key hlt hwlt;rcases Yc.1 he with h | h
   ·subst h;have: ¬QH 4294967296 (win us o (i+1))<dv:=by omega
    simp[this]
   ·subst h;have:QH 4294967296 (win us o (i+1))<dv:=by omega
    simp[this]
  ·rw[f1,show Zd.wrap (((u:Int)-carry-b) % 18446744073709551616)=(q:Int)by rw[Zv];exact r2,WN,Gj (spI wd lwd) (by omega),<-hvv];have hl2:(wd.set i q).length=i+1:=by simpa using lwd
   rw[<-hl2,KF (dw.set hq) (by omega)];exact .inl rfl
structure QK6 where
 wd:List Nat
 carry:Nat
 i:Nat
structure QHI (wd0 vs:List Nat)(n:Nat)(x:QK6):Prop where
 dw:Dig 4294967296 x.wd
 lw:x.wd.length=n+1
 hi:x.i<=n
 hc:x.carry<=1
 rest:x.wd.drop x.i=wd0.drop x.i
 inv:QH 4294967296 (x.wd.take x.i)+4294967296^x.i*x.carry=QH 4294967296 (wd0.take x.i)+QH 4294967296 (vs.take x.i)
def QFM (us vs:List Nat)(o n:Nat):LI:=fun _=> .inv ⟨QK6,fun x=>⟨[(0,wO 1000 o (n+1)),(1,wA 1001 n),(4,iA .u64 x.carry),(7,wA 1001 n),(8,iA .i64 n),(9,iA .i64 x.i)],
 [(1000,Qo (spl us o x.wd)),(1001,Qo vs)]⟩,QHI (win us o (n+1)) vs n,fun x=>n-x.i,fun _=>0⟩
def QBo (us vs:List Nat)(o n:Nat):Nat:=(QH 4294967296 (win us o (n+1))+QH 4294967296 (vs.take n)) % 4294967296^(n+1)
theorem QHI.step {wd0 vs:List Nat}{n:Nat}{x:QK6}(h:QHI wd0 vs n x)(hi:x.i<n)(h0:wd0.length=n+1){v:Nat}(hv:vs[x.i]? =some v)(hv2:v<4294967296){u:Nat}(hu:wd0[x.i]? =some u)(hu2:u<4294967296){t:Nat}(ht:t=x.carry+(u+v)):
  QHI wd0 vs n ⟨x.wd.set x.i (t % 4294967296),t/4294967296,x.i+1⟩:=by
 obtain⟨dw,lw,_,hc,rest,inv⟩:=h;have gz:(x.wd.set x.i (t % 4294967296))[x.i]? =some (t % 4294967296):=by rw[Zq];simp;omega
 refine⟨dw.set (Yj _ (by omega)),by simpa using lw,hi,by simp only;omega,?_,?_⟩
 ·simp only;rw[Zx (by omega)];have:=congrArg (Yh 1) rest;rwa [Zz,Zz]at this
 ·simp only;rw[QX gz,XT,QX hv,QX hu,Ya];generalize (4294967296:Nat)^x.i=p at inv⊢;have e1:p*t=p*x.carry+(p*u+p*v):=by rw[ht,Zl,Zl]
  have e2:p*t=p*4294967296*(t/4294967296)+p*(t % 4294967296):=by
   conv=>lhs;rw[<-Yf t 4294967296]
   rw[Zl,Zp]
  omega
set_option maxHeartbeats 1000000 in
theorem QK7 (us vs:List Nat)(o n:Nat)(du:Dig 4294967296 us)(dv:Dig 4294967296 vs)(ho:o+(n+1)<=us.length)(hn:n<=vs.length)(hl:us.length<=2199023255552):QK (YW (X:=Unit) T9 (oF Tryz.f221) (QFM us vs o n) Tryz.f221 [wO 1000 o (n+1),wA 1001 n] [(1000,Qo us),(1001,Qo vs)] (fun _=>True)
 (fun _=>⟨[],[(1000,Qo (spl us o (fd 4294967296 (n+1) (QBo us vs o n)))),(1001,Qo vs)]⟩)):=by
 refine HV (((∃(x:QK6),(QHI (win us o (n+1)) vs n x/\OfNat.ofNat 0=0)/\o=o/\n+1=n+1/\0=0/\n=n/\0=Za x.carry/\0=0/\n=n/\Za n=Za n/\0=Za x.i/\196=196/\1=1/\(W us=W (spl us o x.wd)∨QE (W us) (W (spl us o x.wd)))/\196=196/\1=1/\(W vs=W vs∨QE (W vs) (W vs))/\True)/\∀(x:QK6),QHI (win us o (n+1)) vs n x->OfNat.ofNat 0=0->bif decide (Za x.i<Za n)then(0<=Za x.i/\Za x.i<Za n)/\∃(d:Int),ldE (W vs) (0+(Za x.i).toNat) 0 1=some [Zo (Ze Zd d)]/\(0<=Za x.i/\Za x.i<Za (n+1))/\∃(d_1:Int),ldE (W (spl us o x.wd)) (o+(Za x.i).toNat) 0 1=some [Zo (Ze Zd d_1)]/\(0<=Za x.i/\Za x.i<Za (n+1))/\o+(Za x.i).toNat<(W (spl us o x.wd)).length/\(0:Int)<=32/\∃(x':QK6),(QHI (win us o (n+1)) vs n x'/\OfNat.ofNat 0=0/\n-x'.i<n-x.i)/\o=o/\n+1=n+1/\0=0/\n=n/\Q4 Zc (Zc.wrap (Za x.carry+Zc.wrap (Zc.wrap d_1+Zc.wrap d))) 32=Za x'.carry/\0=0/\n=n/\Za n=Za n/\Zb.wrap (Za x.i+1)=Za x'.i/\196=196/\1=1/\((W (spl us o x.wd)).set (o+(Za x.i).toNat) [Zo (Ze Zd (Zd.wrap (Zc.wrap (Za x.carry+Zc.wrap (Zc.wrap d_1+Zc.wrap d)))))]=W (spl us o x'.wd)∨QE ((W (spl us o x.wd)).set (o+(Za x.i).toNat) [Zo (Ze Zd (Zd.wrap (Zc.wrap (Za x.carry+Zc.wrap (Zc.wrap d_1+Zc.wrap d)))))]) (W (spl us o x'.wd)))/\196=196/\1=1/\(W vs=W vs∨QE (W vs) (W vs))/\True else(0<=Za n/\Za n<Za (n+1))/\∃(d:Int),ldE (W (spl us o x.wd)) (o+(Za n).toNat) 0 1=some [Zo (Ze Zd d)]/\(0<=Za n/\Za n<Za (n+1))/\o+(Za n).toNat<(W (spl us o x.wd)).length/\∃(_x_1:Unit),True/\196=196/\1=1/\((W (spl us o x.wd)).set (o+(Za n).toNat) [Zo (Ze Zd (Zd.wrap (d+Zd.wrap (Za x.carry))))]=W (spl us o (fd 4294967296 (n+1) (QBo us vs o n)))∨QE ((W (spl us o x.wd)).set (o+(Za n).toNat) [Zo (Ze Zd (Zd.wrap (d+Zd.wrap (Za x.carry))))]) (W (spl us o (fd 4294967296 (n+1) (QBo us vs o n)))))/\196=196/\1=1/\(W vs=W vs∨QE (W vs) (W vs))/\True)) ?_
 have lw:=Ws ho;simp only[Zj,R0,R1,Ye,R4,R2];have spI: ∀w:List Nat,w.length=n+1->o+w.length<=us.length:=fun w hw=>by omega
 refine⟨⟨⟨win us o (n+1),0,0⟩,⟨J3 du,lw,by simp,by simp,rfl,by simp[QH]⟩,rfl,rfl,.inl (by simp only;rw[QDJ ho])⟩,fun x hx=>QC (fun hp=> ?_) (fun hp=> ?_)⟩
 ·obtain⟨wd,carry,i⟩:=x;have hp:i<n:=by simpa using hp
  obtain⟨v,hv⟩: ∃v,vs[i]? =some v:=⟨_,Zg (by omega)⟩
  obtain⟨u,hu⟩: ∃u,(win us o (n+1))[i]? =some u:=⟨_,Zg (by omega)⟩
  have dv2:=dv.get hv;have du2:=(J3 du).get hu;have hc:=hx.hc;have lwd:=hx.lw;have hcw:wd[i]? =some u:=by
   have:=congrArg (fun l:List Nat=>l[0]?) hx.rest;simpa [hu]using this
  have hs:=fun t=>hx.step hp lw hv dv2 hu du2 (t:=t);simp only at hc lwd hs⊢;have gs:(spl us o wd)[o+i]? =some u:=by rw[Gi (spI wd lwd) (by omega)];exact hcw
  have f0:Zc.wrap ((carry:Int)+Zc.wrap (Zc.wrap (u:Int)+Zc.wrap (v:Int)))=((carry+(u+v):Nat):Int):=by
   simp only[Jg];omega
  generalize ht:carry+(u+v)=t at hs f0;simp only[Zm];refine⟨by omega,v,YX hv,by omega,u,YX gs,by omega,by rw[J8,Vp (spI wd lwd)];omega,by omega,_,⟨hs t rfl,by simp only;omega⟩,?_,?_,?_⟩
  ·rw[f0,YT (by decide) (by omega)];simp only[show(32:Int).toNat=32 from rfl];omega
  ·rw[w64 (by omega)];simp
  ·rw[f0,show Zd.wrap (t:Int)=((t % 4294967296:Nat):Int)by rw[Zv];simp,WN,Gj (spI wd lwd) (by omega)];exact .inl rfl
 ·obtain⟨wd,carry,i⟩:=x;have hp: ¬i<n:=by simpa using hp
  have hi:=hx.hi;have hc:=hx.hc;have lwd:=hx.lw;have inv:=hx.inv;have dw:=hx.dw;have rest:=hx.rest;simp only at hi hc lwd inv dw rest⊢;have:i=n:=by omega
  subst this;obtain⟨u,hu⟩: ∃u,(win us o (i+1))[i]? =some u:=⟨_,Zg (by omega)⟩
  have du2:=(J3 du).get hu;have hcw:wd[i]? =some u:=by
   have:=congrArg (fun l:List Nat=>l[0]?) rest;simpa [hu]using this
  have gs:(spl us o wd)[o+i]? =some u:=by rw[Gi (spI wd lwd) (by omega)];exact hcw
  have v0:=QX (B:=4294967296) hu;rw[Qe (by omega)]at v0;obtain⟨q,hq⟩: ∃q,(u+carry) % 4294967296=q:=⟨_,rfl⟩;have gz:(wd.set i q)[i]? =some q:=by rw[Zq];simp;omega
  have v1:=QX (B:=4294967296) gz;rw[Qe (by simp;omega),XT]at v1;have dq:=dw.set (i:=i) (v:=q) (by omega);have hlt:=JQ dq;rw[Yg,lwd]at hlt;have hvv:QH 4294967296 (wd.set i q)=QBo us vs o i:=by
   unfold QBo;have h3:QH 4294967296 (win us o (i+1))+QH 4294967296 (vs.take i)=QH 4294967296 (wd.set i q)+4294967296^(i+1)*((u+carry)/4294967296):=by
    have:4294967296^i*(u+carry)=4294967296^(i+1)*((u+carry)/4294967296)+4294967296^i*q:=by
     conv=>lhs;rw[<-Yf (u+carry) 4294967296,hq]
     rw[Zl,<-Zp,<-Ya]
    rw[Zl]at this;omega
   rw[h3,Nat.add_mul_mod_self_left,Yk hlt]
  simp only[Zm];refine⟨by omega,u,YX gs,by omega,by rw[J8,Vp (spI wd lwd)];omega,(),?_⟩;rw[show Zd.wrap ((u:Int)+Zd.wrap (carry:Int))=(q:Int)by simp only[Zv];omega,WN,Gj (spI wd lwd) (by omega),<-hvv];have hl2:(wd.set i q).length=i+1:=by simpa using lwd
  rw[<-hl2,KF dq (by omega)];exact .inl rfl
def UI:Xt:=fun as0 H _=>match as0 with
 | [.x false [.w k o n1],.x false [.w k2 0 n2],.x false [.v (.int .u64 d)]]=>match H k,H k2 with
  | some (.row t 1 xs),some (.row t2 1 ys)=>bif t.beq 196&&t2.beq 196&& !(k.beq k2)then
    some fun K=> ∃us vs,xs=W us/\ys=W vs/\n1=n2+1/\Dig 4294967296 us/\Dig 4294967296 vs/\(0<=d/\d<4294967296)/\o+(n2+1)<=us.length/\n2<=vs.length/\us.length<=2199023255552/\
     K (.x false [.v (.bool (decide (QH 4294967296 (win us o (n2+1))<d.toNat*QH 4294967296 (vs.take n2))))])
      (XO [(1000,k),(1001,k2)] (QR [(1000,Qo (spl us o (fd 4294967296 (n2+1) (JJ us vs o n2 d.toNat)))),(1001,Qo vs)]) H)
    else none
  | _,_=>none
 | _=>none
def Hk:Xt:=fun as0 H _=>match as0 with
 | [.x false [.w k o n1],.x false [.w k2 0 n2]]=>match H k,H k2 with
  | some (.row t 1 xs),some (.row t2 1 ys)=>bif t.beq 196&&t2.beq 196&& !(k.beq k2)then
    some fun K=> ∃us vs,xs=W us/\ys=W vs/\n1=n2+1/\Dig 4294967296 us/\Dig 4294967296 vs/\o+(n2+1)<=us.length/\n2<=vs.length/\us.length<=2199023255552/\
     K (.t []) (XO [(1000,k),(1001,k2)] (QR [(1000,Qo (spl us o (fd 4294967296 (n2+1) (QBo us vs o n2)))),(1001,Qo vs)]) H)
    else none
  | _,_=>none
 | _=>none
theorem QFN {g:Nat}{tab:List Value}:We Tryz.prog g tab 220 UI:=by
 refine⟨Qg Tryz.func220 (by kernel_rfl),fun l H d T hT K hK=> ?_⟩;unfold UI at hT;split at hT
 ·rename_i k o n1 k2 n2 d;split at hT
  ·rename_i t xs t2 ys e1 e2;cases hb:t.beq 196&&t2.beq 196&& !(k.beq k2)with
   | false=>rw[hb]at hT;cases hT
   | true=>
    rw[hb]at hT;cases hT
    simp only[Bool.and_eq_true,Bool.not_eq_true']at hb;obtain⟨⟨ht,ht2⟩,hk⟩:=hb;have ht:=Zn ht;have ht2:=Zn ht2;have hk:k≠k2:=fun e=>by subst e;simp at hk
    subst ht ht2;obtain⟨us,vs,rfl,rfl,rfl,du,dv,⟨h0,h1⟩,ho,hn,hl,hK⟩:=hK;obtain⟨d,rfl⟩:=Zs h0;refine XZ (R:=[(1000,k),(1001,k2)]) (N:=[]) (Hl:=[(1000,Qo us),(1001,Qo vs)]) QRZ QM Tryz.func220 (by kernel_rfl) (by kernel_rfl) (by rfl)
     (as0:=[wO 1000 o (n2+1),wA 1001 n2,iA .u64 d]) ?_ (QFF e1 e2 hk rfl rfl rfl rfl) rfl (by simp) (by simp) (fun _ h=>by cases h) (fun x=>⟨fun p hp=> ?_,fun p hp b hb=> ?_⟩) (QHH us vs o n2 d du dv (by omega) ho hn hl) (fun x _=> ?_)
    ·simp[JX,JW,JP,(QBm hk).1,(QBm hk).2,wA,wO,iA]
    ·simp at hp;rcases hp with rfl | rfl
     ·exact fun h=>by have h':some (Qo _)=none:=h;cases h'
     ·exact fun h=>by have h':some (Qo _)=none:=h;cases h'
    ·simp at hp;rcases hp with rfl | rfl
     ·have h':some (Qo _)=some b:=hb;cases h';rfl
     ·have h':some (Qo _)=some b:=hb;cases h';rfl
    ·exact⟨_,rfl,hK⟩
  ·cases hT
 ·cases hT
theorem QHJ {g:Nat}{tab:List Value}:We Tryz.prog g tab 221 Hk:=by
 refine⟨Qg Tryz.func221 (by kernel_rfl),fun l H d T hT K hK=> ?_⟩;unfold Hk at hT;split at hT
 ·rename_i k o n1 k2 n2;split at hT
  ·rename_i t xs t2 ys e1 e2;cases hb:t.beq 196&&t2.beq 196&& !(k.beq k2)with
   | false=>rw[hb]at hT;cases hT
   | true=>
    rw[hb]at hT;cases hT
    simp only[Bool.and_eq_true,Bool.not_eq_true']at hb;obtain⟨⟨ht,ht2⟩,hk⟩:=hb;have ht:=Zn ht;have ht2:=Zn ht2;have hk:k≠k2:=fun e=>by subst e;simp at hk
    subst ht ht2;obtain⟨us,vs,rfl,rfl,rfl,du,dv,ho,hn,hl,hK⟩:=hK;refine XZ (R:=[(1000,k),(1001,k2)]) (N:=[]) (Hl:=[(1000,Qo us),(1001,Qo vs)]) QRZ QM Tryz.func221 (by kernel_rfl) (by kernel_rfl) (by rfl)
     (as0:=[wO 1000 o (n2+1),wA 1001 n2]) ?_ (QFF e1 e2 hk rfl rfl rfl rfl) rfl (by simp) (by simp) (fun _ h=>by cases h) (fun x=>⟨fun p hp=> ?_,fun p hp b hb=> ?_⟩) (QK7 us vs o n2 du dv ho hn hl) (fun x _=> ?_)
    ·simp[JX,JW,JP,(QBm hk).1,(QBm hk).2,wA,wO]
    ·simp at hp;rcases hp with rfl | rfl
     ·exact fun h=>by have h':some (Qo _)=none:=h;cases h'
     ·exact fun h=>by have h':some (Qo _)=none:=h;cases h'
    ·simp at hp;rcases hp with rfl | rfl
     ·have h':some (Qo _)=some b:=hb;cases h';rfl
     ·have h':some (Qo _)=some b:=hb;cases h';rfl
    ·exact⟨_,rfl,hK⟩
  ·cases hT
 ·cases hT
end Go.Proofs
namespace Go.Proofs
open Go Go.Eng
def V7 (x r:Nat):Prop:=r<=32/\x<2^r/\(x=0∨(1<=r/\2^(r-1)<=x))
def QAl (x:Nat)(K:AV->Prop):Prop:=QP T9 (oF Tryz.f239) noL Tryz.f239 [iA .u32 x] K
def QHK:List UInt8:=(List.range 256).map fun x=>Zk (if x=0 then 0 else Nat.log2 x+1)
def QAm (y n:Int)(K:AV->Prop):Prop:= ∃b:UInt8,((0:Int)<=Zf.wrap y/\QHK[(Zf.wrap y).toNat]? =some b)/\K (.x false [.v (.int .i64 (Zb.wrap (n+Zb.wrap (Za b.toNat))))])
theorem QBp (x:Nat)(K:AV->Prop):QAl x K=(bif decide (Za x≥65536)then(0:Int)<=16/\(bif decide (Q4 .u32 (Za x) 16≥256)then(0:Int)<=8/\QAm (Q4 .u32 (Q4 .u32 (Za x) 16) 8) 24 K else QAm (Q4 .u32 (Za x) 16) 16 K)
 else(bif decide (Za x≥256)then(0:Int)<=8/\QAm (Q4 .u32 (Za x) 8) 8 K else QAm (Za x) 0 K)):=by kernel_rfl
theorem QHL {x r k:Nat}(h:V7 (x/2^k) r)(hx:2^k<=x)(hr:r+k<=32):V7 x (r+k):=by
 obtain⟨_,h1,h2⟩:=h;have hk:0<2^k:=Yp (by omega);have h0:x/2^k≠0:=by have:=Nat.div_pos hx hk;omega
 refine⟨hr,?_,.inr ?_⟩
 ·rw[Yl];exact(Nat.div_lt_iff_lt_mul hk).1 h1
 ·rcases h2 with h2 | ⟨h2,h3⟩
  ·exact absurd h2 h0
  ·refine⟨by omega,?_⟩;rw[show r+k-1=(r-1)+k by omega,Yl];exact(Nat.le_div_iff_mul_le hk).1 h3
theorem QI7 {x k:Nat}(hk:k<=32):Q4 .u32 (x:Int) (k:Int)=((x/2^k:Nat):Int):=by
 rw[YT (by simpa [Ys]using hk) (by simp),Zm];simp
theorem QVs:(List.range 256).all (fun x=>match QHK[x]? with | some b=>decide (b.toNat<=8)&&decide (x<2^b.toNat)&&(decide (x=0) || (decide (1<=b.toNat)&&decide (2^(b.toNat-1)<=x))) | none=>false)=true:=by kernel_rfl
theorem QRb {x:Nat}(h:x<256): ∃b:UInt8,QHK[x]? =some b/\b.toNat<=8/\V7 x b.toNat:=by
 have:=List.all_eq_true.1 QVs x (by simpa using h);split at this
 ·rename_i b hb;simp only[Bool.and_eq_true,Bool.or_eq_true,decide_eq_true_eq]at this;exact⟨b,hb,this.1.1,by omega,this.1.2,this.2⟩
 ·cases this
theorem Vq {y n:Nat}{K:AV->Prop}(hy:y<256)(hn:n<=24)(h: ∀r,r<=8->V7 y r->K (iA .i64 (n+r:Nat))):QAm (y:Int) (n:Int) K:=by
 obtain⟨b,h1,h2,h3⟩:=QRb hy;refine⟨b,⟨by rw[wu8 (by omega)];omega,by rw[wu8 (by omega),Zm];exact h1⟩,?_⟩;have:=h _ h2 h3;simp only[Zj];rw[w64 (n:=(b.toNat:Int)) (by omega),w64 (by omega)];have e:(n:Int)+b.toNat=((n+b.toNat:Nat):Int):=by simp
 rw[e];exact this
theorem QRc (x:Nat)(hx:x<4294967296):QK (QAl x fun av=> ∃r,V7 x r/\av=iA .i64 r):=by
 refine⟨?_⟩;rw[QBp];simp only[Zj];have s16:Q4 .u32 (x:Int) 16=((x/65536:Nat):Int):=QI7 (k:=16) (by omega);have s8:Q4 .u32 (x:Int) 8=((x/256:Nat):Int):=QI7 (k:=8) (by omega);have s24:Q4 .u32 ((x/65536:Nat):Int) 8=((x/65536/256:Nat):Int):=QI7 (k:=8) (by omega);simp only[s16,s8,s24];refine QC (fun h1=>⟨by omega,QC (fun h2=>⟨by omega,?_⟩) (fun h2=> ?_)⟩) (fun h1=>QC (fun h2=>⟨by omega,?_⟩) (fun h2=> ?_))
 ·have h1:=R5 h1;have h2:=R5 h2;refine Vq (n:=24) (by omega) (by omega) fun r hr hl=>⟨24+r,?_,rfl⟩;rw[Nat.div_div_eq_div_mul]at hl;rw[Yn];exact QHL (k:=24) hl (by omega) (by omega)
 ·have h1:=R5 h1;have h2:=R6 h2;refine Vq (n:=16) (by omega) (by omega) fun r hr hl=>⟨16+r,?_,rfl⟩;rw[Yn];exact QHL (k:=16) hl (by omega) (by omega)
 ·have h1:=R6 h1;have h2:=R5 h2;refine Vq (n:=8) (by omega) (by omega) fun r hr hl=>⟨8+r,?_,rfl⟩;rw[Yn];exact QHL (k:=8) hl (by omega) (by omega)
 ·have h1:=R6 h1;have h2:=R6 h2;refine Vq (n:=0) (by omega) (by omega) fun r hr hl=>⟨0+r,?_,rfl⟩;rw[Ye];exact hl
def QDK:Ctr
 | [.x false [.v (.int .u32 x)]]=>some fun K=>(0<=x/\x<4294967296)/\ ∀r,V7 x.toNat r->K (iA .i64 r)
 | _=>none
def QHM:Ctr
 | [.x false [.v (.int .u32 x)]]=>some fun K=>(0<=x/\x<4294967296)/\ ∀r,V7 x.toNat r->K (iA .i64 (32-r:Nat))
 | _=>none
theorem QNC {g:Nat}{tab:List Value}:CtrOK Tryz.prog g tab 239 QDK:=by
 refine⟨Qg Tryz.func239 (by kernel_rfl),fun l T hT K hK=> ?_⟩;unfold QDK at hT;split at hT
 ·cases hT
  obtain⟨⟨h0,h1⟩,hK⟩:=hK;rename_i x;obtain⟨x,rfl⟩:=Zs h0;refine Eng.Spec.res (Qn QRZ QM Tryz.func239 (by kernel_rfl) (by kernel_rfl) (by rfl) (QRc x (by omega))) ?_
  rintro w O av v ⟨r,hr,rfl⟩ hc;exact⟨_,hK r hr,hc⟩
 ·cases hT
def L10:LC:=(239,QDK)::L9
def M10:List (Nat×Xt):=(219,QHG)::(220,UI)::(221,Hk)::M7
noncomputable def T10:Qb:=mkT L10 M10 X3
theorem QUJ {g:Nat}{tab:List Value}:CtrsOK Tryz.prog g tab L10:= .cons QNC QYw
theorem QND {g:Nat}{tab:List Value}:CtrMsOK Tryz.prog g tab M10:= .cons QRa (.cons QFN (.cons QHJ QRY))
theorem QYx {g:Nat}{tab:List Value}:Q8 Tryz.prog g tab T10:=QS QUJ QND GR
def QCI (x:Nat)(K:AV->Prop):Prop:=QP T10 (oF Tryz.f218) noL Tryz.f218 [iA .u32 x] K
theorem QDL (x:Nat)(K:AV->Prop):QCI x K=((0<=Za x/\Za x<4294967296)/\∀(r:Nat),r<=32/\(Za x).toNat<2^r/\((Za x).toNat=0∨1<=r/\2^(r-1)<=(Za x).toNat)->K (AV.x false [Zo (Ze Zb (Zb.wrap (32-Za r)))])):=by kernel_rfl
theorem QVt (x:Nat)(hx:x<4294967296):QK (QCI x fun av=> ∃r,V7 x r/\av=iA .i64 (32-r:Nat)):=by
 refine⟨?_⟩;rw[QDL];simp only[Zj,Zm];refine⟨by omega,fun r hr=>⟨r,hr,?_⟩⟩;have:=hr.1;rw[w64 (by omega),show(32:Int)-r=((32-r:Nat):Int)by omega];rfl
theorem QRd {g:Nat}{tab:List Value}:CtrOK Tryz.prog g tab 218 QHM:=by
 refine⟨Qg Tryz.func218 (by kernel_rfl),fun l T hT K hK=> ?_⟩;unfold QHM at hT;split at hT
 ·cases hT
  obtain⟨⟨h0,h1⟩,hK⟩:=hK;rename_i x;obtain⟨x,rfl⟩:=Zs h0;refine Eng.Spec.res (Qn QYx QM Tryz.func218 (by kernel_rfl) (by kernel_rfl) (by rfl) (QVt x (by omega))) ?_
  rintro w O av v ⟨r,hr,rfl⟩ hc;exact⟨_,hK r hr,hc⟩
 ·cases hT
def L11:LC:=(218,QHM)::L10
noncomputable def T11:Qb:=mkT L11 M10 X3
theorem QNE {g:Nat}{tab:List Value}:CtrsOK Tryz.prog g tab L11:= .cons QRd QUJ
theorem QYy {g:Nat}{tab:List Value}:Q8 Tryz.prog g tab T11:=QS QNE QND GR
end Go.Proofs
