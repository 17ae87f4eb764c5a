/- Natural numbers, first part: trim, short. -/
import Derived.Test.YtfmgjnnkogpmmaaDoorTy
import Derived.Test.YtfmgjnnkogpmmaaDoorPl
import Derived.KernelRfl
import Derived.Lib.Bytealg
import Derived.Laws.Externs
open Int renaming ofNat → Za, ofNat_eq_natCast → Zj, toNat_natCast → Zm, eq_ofNat_of_zero_le → Zs
open Go.IntKind renaming i64 → Zb, u64 → Zc, u32 → Zd, u8 → Zf, wrap_u32 → Zv, bits → Ys, wrap_u8 → Yt
open Go.Value renaming int → Ze, string → Yq
open List renaming getElem?_eq_getElem → Zg, replicate → Zh, getD_eq_getElem?_getD → Zi, getElem?_set → Zq, take → Zu, drop_set_of_lt → Zx, drop_drop → Zz, take_of_length_le → Yb, map → Yd, length_set → Yg, drop → Yh, drop_zero → Yv
open UInt8 renaming ofNat → Zk, toNat_ofNat' → Zy
open Nat renaming mul_add → Zl, eq_of_beq_eq_true → Zn, mul_assoc → Zp, pow_le_pow_right → Zt, pow_succ → Ya, le_one_iff_eq_zero_or_eq_one → Yc, zero_add → Ye, div_add_mod → Yf, mul_le_mul → Yi, mod_lt → Yj, mod_eq_of_lt → Yk, pow_add → Yl, div_lt_of_lt_mul → Ym, add_comm → Yn, lt_of_le_of_lt → Yo, pow_pos → Yp, mul_comm → Yr, le_refl → Yu
open Go.Eng.Ch renaming v → Zo
open ByteArray renaming mk → Zr
open Array renaming mk → Zw
namespace Go.Proofs
open Go Go.Eng
def itE:List (Nat×OT):=[]
def itN:List (Nat×OT):=[]
def itA:List (Nat×OT):=[]
def QNp:List (Nat×OT):=itE++(itN++itA)
def QQU:List (Nat×Nat×Bool):=[]
noncomputable def mkT (l:List (Nat×Ctr))(m:List (Nat×YA))(x:List (Nat×Uu)):Qh:=⟨tbL Tryd.tyL,prL l,pmL m,pxL x,QIa Tryd.prog,itP Tryd.prog QNp,QQU⟩
noncomputable def T0:Qh:=mkT [] [] []
def noL:LI:=fun _=> .no
def QEi (l:List UInt8):AV:= .x false [.v (.string ⟨l.toArray⟩)]
def bA (m n:Nat):AV:= .x false [.b m n]
def iA (k:IntKind)(n:Int):AV:= .x false [.v (.int k n)]
def QJQ (l:List UInt8):LI:=fun _=> .inv ⟨List UInt8,fun x=>⟨[(0,QEi x)],[]⟩,fun x=>JL x=JL l,fun x=>x.length,fun _=>0⟩
def QHa (m n:Nat):LI:=fun _=> .inv ⟨Nat,fun i=>⟨[(0,bA m n),(3,iA .u64 (m/256^((QA m).length-i):Nat)),(6,iA .i64 (QA m).length),(7,iA .i64 i)],[]⟩,fun i=>i<=(QA m).length,fun i=>(QA m).length-i,fun _=>0⟩
theorem QL7 (l:List UInt8)(K:AV->Prop)(h:K (QEi (JL l))):QU (QCf T0 (QJQ l) Tryd.f55 [QEi l] K):=by
 refine HV (((∃(x:List UInt8),(JL x=JL l/\OfNat.ofNat 0=0)/\Zr (Zw l)=Zr (Zw x)/\True)/\∀(x:List UInt8),JL x=JL l->OfNat.ofNat 0=0->bif decide (Za (Zr (Zw x)).size>0)then ∃(b:UInt8),((0:Int)<=0/\(Zw x).toList[0]?=some b)/\bif Za b.toNat==0 then((0:Int)<=1/\1<=Za (Zr (Zw x)).size/\Za (Zr (Zw x)).size<=Za (Zr (Zw x)).size)/\∃(x':List UInt8),(JL x'=JL l/\OfNat.ofNat 0=0/\x'.length<x.length)/\(Zr (Zw x)).extract 1 (Za (Zr (Zw x)).size).toNat=Zr (Zw x')/\True else K (AV.x false [Zo (Yq (Zr (Zw x)))])else K (AV.x false [Zo (Yq (Zr (Zw x)))]))) ?_
 refine⟨⟨l,⟨rfl,rfl⟩,rfl,trivial⟩,fun x hx _=>QE (fun hp=> ?_) (fun hp=> ?_)⟩
 ·have hsz:ByteArray.size (Zr (Zw x))=x.length:=rfl;cases x with
  | nil=>simp[hsz]at hp
  | cons b x=>
   refine⟨b,⟨by omega,rfl⟩,QE (fun hb=> ?_) (fun hb=> ?_)⟩
   ·have hb0:b=0:=UInt8.toNat_inj.1 (by simpa using hb);rw[hsz];refine⟨⟨by omega,by simp only[List.length_cons,Zj];omega,by omega⟩,x,⟨?_,rfl,by simp⟩,?_,trivial⟩
    ·rw[<-hx];simp[JL,hb0]
    ·apply ByteArray.ext;simp
   ·have hb0: ¬b=0:=fun e=>by subst e;simp at hb
    have:JL (b::x)=b::x:=by simp[JL,hb0]
    rw[<-hx,this]at h;exact h
 ·have:x=[]:=by
   have hsz:ByteArray.size (Zr (Zw x))=x.length:=rfl;cases x with
   | nil=>rfl
   | cons b x=>rw[hsz]at hp;simp at hp
  subst this;rw[<-hx]at h;exact h
theorem QL8 (m n:Nat)(K:AV->Prop)(h:K (bA m n)):QU (QCf T0 (fun _=> .unroll 1) Tryd.f55 [bA m n] K):=by
 refine HV ((bif decide (Za (QA m).length>0)then ∃(b:UInt8),((0:Int)<=0/\(QA m)[0]?=some b)/\bif Za b.toNat==0 then False else K (AV.x false [Ch.b m n])else K (AV.x false [Ch.b m n]))) ?_
 refine QE (fun hp=> ?_) (fun _=>h);have h0:m≠0:=fun e=>by subst e;simp[Qy]at hp
 obtain⟨b,h1,h2⟩:=WT h0;exact⟨b,⟨by omega,h1⟩,QE (fun hb=>by simp at hb;omega) (fun _=>h)⟩
theorem QL9 (m n:Nat)(K:AV->Prop)(hm:m<18446744073709551616)(h:K (iA .u64 m)):QU (QCf T0 (QHa m n) Tryd.f58 [bA m n] K):=by
 refine HV (((∃(x:Nat),(x<=(QA m).length/\OfNat.ofNat 0=0)/\m=m/\n<=n/\0=Za (m/256^((QA m).length-x))/\Za (QA m).length=Za (QA m).length/\0=Za x/\True)/\∀(x:Nat),x<=(QA m).length->OfNat.ofNat 0=0->bif decide (Za x<Za (QA m).length)then(0:Int)<=8/\∃(b:UInt8),(0<=Za x/\(QA m)[(Za x).toNat]?=some b)/\∃(x':Nat),(x'<=(QA m).length/\OfNat.ofNat 0=0/\(QA m).length-x'<(QA m).length-x)/\m=m/\n<=n/\orI Zc (Xh Zc (Za (m/256^((QA m).length-x))) 8) (Zc.wrap (Za b.toNat))=Za (m/256^((QA m).length-x'))/\Za (QA m).length=Za (QA m).length/\Zb.wrap (Za x+1)=Za x'/\True else K (AV.x false [Zo (Ze Zc (Za (m/256^((QA m).length-x))))]))) ?_
 have hlt:=Q8 m;have hlen:(QA m).length<=8:=Qa.2 (by simpa using hm);refine⟨⟨0,⟨by omega,rfl⟩,rfl,Yu _,?_,rfl,rfl,trivial⟩,fun x hx _=>QE (fun hp=> ?_) (fun hp=> ?_)⟩
 ·rw[Nat.sub_zero,Nat.div_eq_of_lt hlt];rfl
 ·have hp:x<(QA m).length:=by simpa using hp
  refine⟨by omega,_,⟨Int.natCast_nonneg _,Jv hp⟩,x+1,⟨by omega,rfl,by omega⟩,rfl,Yu _,?_,rfl,?_,trivial⟩
  ·have e1:(QA m).length-x=((QA m).length-(x+1))+1:=by omega
   have e2:(QA m).length-1-Int.toNat (Za x)=(QA m).length-(x+1):=by simp only[Zj,Zm];omega
   rw[e1,e2];generalize (QA m).length-(x+1)=k;have h1:m/256^(k+1)=m/256^k/256:=by rw[Ya,Nat.div_div_eq_div_mul]
   rw[h1];have h2:m/256^k<18446744073709551616:=Yo (Nat.div_le_self _ _) hm;generalize m/256^k=y at h2;rw[Zy,Nat.mod_mod];have h3:Xh .u64 (Za (y/256)) 8=((2^8*(y/256):Nat):Int):=by
    have:((y/256:Nat):Int)*2^(min (8:Int).toNat IntKind.u64.bits)=((2^8*(y/256):Nat):Int):=by
     show((y/256:Nat):Int)*2^8=_
     omega
    show Zc.wrap _=_
    rw[Zj,this];exact WO (by omega) (by omega)
   rw[h3,show Zc.wrap (Za (y % 256))=((y % 256:Nat):Int)from WO (by simp;omega) (by simp;omega),Ve (by omega) (by omega)];show((_:Nat):Int)=_
   congr 1;omega
  ·rw[Ui]<;>simp<;>omega
 ·have hp: ¬x<(QA m).length:=by simpa using hp
  have:(QA m).length-x=0:=by omega
  rw[this,Nat.pow_zero,Nat.div_one];exact h
end Go.Proofs
namespace Go.Proofs
open Go Go.Eng
theorem QW:Tryd.prog.follows .mixedOrders=true:=by kernel_rfl
theorem QO0 {P:Program}{g:Nat}{tab:List Value}{T:Qh}{tb:TB}{pr:PR}{pm:PM}{px:PX}{mt:QLV}{it:Nat->Option (Func×OT)}{im:List (Nat×Nat×Bool)}(e:T=⟨tb,pr,pm,px,mt,it,im⟩)(h1:JZ P tb)(h2:QLU P g tab pr)(h3:QIW P g tab pm)(h4:QOa P px)(h5:QEA P mt)
  (h6: ∀f q,it f=some q->P.funcs[f]? =some q.1) (h7: ∀t i e j,tb t=some i->i.und= .slice e->tb e=some j->j.und= .int .u8->P.underlying e=some (.int .u8)):Q5 P g tab T:=by
 subst e;exact⟨h1,h2,h3,h4,h5,h6,h7⟩
theorem Qq {g:Nat}{tab:List Value}{l:List (Nat×Ctr)}{m:List (Nat×YA)}{x:List (Nat×Uu)}(h:CtrsOK Tryd.prog g tab l)(hm:CtrMsOK Tryd.prog g tab m)(hx:CtrXsOK Tryd.prog x):Q5 Tryd.prog g tab (mkT l m x):=
 QO0 (mkT.eq_1 l m x) Tryd.tb_ok (QOn h) (QOy hm) (QOz hx) (QIb Tryd.prog) (QOw Tryd.prog QNp) fun _ _ e j _ _ he hu=>by rw[(Tryd.tb_ok e j he).und,hu]
theorem Wt {w:World}{O:Nat->Prop}{ρ:Env}{m n:Nat}{v:Value}(h:ConcV w O ρ (QEi (QA m)) v)(hb:m<2^n):ConcV w O ρ (bA m n) v:=by
 have:=QGo h;subst this;exact XK (.b hb .nil)
theorem VK (l:List UInt8):QB l<2^(8*l.length):=by
 have:=Vf l;rwa [show(256:Nat)=2^8 from rfl,<-Nat.pow_mul]at this
def QEj:Ctr:=fun l=>match l with
 | [.x false [.b m n]]=>some fun K=>K (bA m n)
 | [.x false [.v (.string s)]]=>some fun K=>K (bA (QB s.data.toList) (8*s.data.toList.length))
 | _=>none
def QBN:Ctr:=fun l=>match l with
 | [.x false [.b m _]]=>some fun K=>m<18446744073709551616/\K (iA .u64 m)
 | _=>none
section
variable {g:Nat}{tab:List Value}
theorem QO1:Q5 Tryd.prog g tab T0:=Qq .nil .nil .nil
theorem QMA:CtrOK Tryd.prog g tab 55 QEj:=by
 refine⟨Qm Tryd.func55 (by kernel_rfl),fun l T hT K hK=> ?_⟩;unfold QEj at hT;split at hT
 ·cases hT
  exact QBG QO1 QW Tryd.func55 (by kernel_rfl) (by kernel_rfl) (QL8 _ _ K hK)
 ·rename_i s;cases hT
  refine Spec.res (QBG QO1 QW Tryd.func55 (by kernel_rfl) (by kernel_rfl) (QL7 s.data.toList (fun av=>av=QEi (JL s.data.toList)) rfl)) ?_
  rintro w O av v rfl hc;refine⟨_,hK,Wt ?_ (VK _)⟩;rw[Hx];exact hc
 ·cases hT
theorem QJR:CtrOK Tryd.prog g tab 58 QBN:=by
 refine⟨Qm Tryd.func58 (by kernel_rfl),fun l T hT K hK=> ?_⟩;unfold QBN at hT;split at hT
 ·cases hT
  exact QBG QO1 QW Tryd.func58 (by kernel_rfl) (by kernel_rfl) (QL9 _ _ K hK.1 hK.2)
 ·cases hT
def L1:LC:=[(55,QEj),(58,QBN)]
theorem QQV:CtrsOK Tryd.prog g tab L1:= .cons QMA (.cons QJR .nil)
end
noncomputable def T1:Qh:=mkT L1 [] []
theorem QQW {g:Nat}{tab:List Value}:Q5 Tryd.prog g tab T1:=Qq QQV .nil .nil
def noO:OT:=fun _=>([],[])
theorem Uv {n:Nat}(h:n<18446744073709551616):QB [Zk (n/72057594037927936),Zk (n/281474976710656),Zk (n/1099511627776),Zk (n/4294967296),Zk (n/16777216),Zk (n/65536),Zk (n/256),Zk n]=n:=by
 simp only[QB,List.foldl_cons,List.foldl_nil,Zy];omega
theorem JH {n k:Nat}(hk:k<=64):Zf.wrap (Q0 .u64 (Za n) (k:Int))=((Zk (n/2^k)).toNat:Int):=by
 rw[X2 (by simpa [Ys]using hk) (by simp),Yt];simp only[Zm,Zy,Zj];have:((2:Int)^k)=((2^k:Nat):Int):=by simp
 rw[this,<-Int.natCast_ediv];omega
set_option maxHeartbeats 1000000 in
theorem QCs (n:Nat)(K:AV->Prop)(h:n<18446744073709551616)(hK:K (bA n 64)):QU (Qc T1 (oF Tryd.f57) (fun _=> .unroll 9) Tryd.f57 [iA .u64 n] K):=by
 refine HV (((∀(vals:List Value),[Ze Zf 0,Ze Zf 0,Ze Zf 0,Ze Zf 0,Ze Zf 0,Ze Zf 0,Ze Zf 0,Ze Zf 0]=vals->[Ze Zf 0,Ze Zf 0,Ze Zf 0,Ze Zf 0,Ze Zf 0,Ze Zf 0,Ze Zf 0,Ze Zf 0]=vals->(0:Int)<=56/\((0:Int)<=0/\(0:Int)<8)/\0<8/\(0:Int)<=48/\((0:Int)<=1/\(1:Int)<8)/\1<8/\(0:Int)<=40/\((0:Int)<=2/\(2:Int)<8)/\2<8/\(0:Int)<=32/\((0:Int)<=3/\(3:Int)<8)/\3<8/\(0:Int)<=24/\((0:Int)<=4/\(4:Int)<8)/\4<8/\(0:Int)<=16/\((0:Int)<=5/\(5:Int)<8)/\5<8/\(0:Int)<=8/\((0:Int)<=6/\(6:Int)<8)/\6<8/\(0:Int)<=0/\((0:Int)<=7/\(7:Int)<8)/\7<8/\((0:Int)<=0/\(0:Int)<=8/\(8:Int)<=8/\8<=8)/\∃(bs:List UInt8),[[Zo (Ze Zf (Zf.wrap (Q0 Zc (Za n) 56)))],[Zo (Ze Zf (Zf.wrap (Q0 Zc (Za n) 48)))],[Zo (Ze Zf (Zf.wrap (Q0 Zc (Za n) 40)))],[Zo (Ze Zf (Zf.wrap (Q0 Zc (Za n) 32)))],[Zo (Ze Zf (Zf.wrap (Q0 Zc (Za n) 24)))],[Zo (Ze Zf (Zf.wrap (Q0 Zc (Za n) 16)))],[Zo (Ze Zf (Zf.wrap (Q0 Zc (Za n) 8)))],[Zo (Ze Zf (Zf.wrap (Q0 Zc (Za n) 0)))]]=Yd QK bs/\K (AV.x false [Ch.b (QB (Zw bs).toList) (8*(Zw bs).toList.length)]))/\[Ze Zf 0,Ze Zf 0,Ze Zf 0,Ze Zf 0,Ze Zf 0,Ze Zf 0,Ze Zf 0,Ze Zf 0]=[Ze Zf 0,Ze Zf 0,Ze Zf 0,Ze Zf 0,Ze Zf 0,Ze Zf 0,Ze Zf 0,Ze Zf 0])) ?_
 refine⟨fun vals hv _=> ?_,rfl⟩;repeat (refine And.intro (by omega) ?_)
 refine⟨[Zk (n/72057594037927936),Zk (n/281474976710656),Zk (n/1099511627776),Zk (n/4294967296),Zk (n/16777216),Zk (n/65536),Zk (n/256),Zk n],?_,?_⟩
 ·simp only[List.map_cons,List.map_nil,QK]
  rw[show Zf.wrap (Q0 .u64 (Za n) 56)=_ from JH (k:=56) (by omega),show Zf.wrap (Q0 .u64 (Za n) 48)=_ from JH (k:=48) (by omega),
   show Zf.wrap (Q0 .u64 (Za n) 40)=_ from JH (k:=40) (by omega),show Zf.wrap (Q0 .u64 (Za n) 32)=_ from JH (k:=32) (by omega),
   show Zf.wrap (Q0 .u64 (Za n) 24)=_ from JH (k:=24) (by omega),show Zf.wrap (Q0 .u64 (Za n) 16)=_ from JH (k:=16) (by omega),
   show Zf.wrap (Q0 .u64 (Za n) 8)=_ from JH (k:=8) (by omega),show Zf.wrap (Q0 .u64 (Za n) 0)=_ from JH (k:=0) (by omega)]
  simp
 ·simp only;rw[Uv h];exact hK
def KY:Ctr
 | [.x false [.v (.int .u64 n)]]=>some fun K=>(0<=n/\n<18446744073709551616)/\K (bA n.toNat 64)
 | _=>none
theorem QBO {g:Nat}{tab:List Value}:CtrOK Tryd.prog g tab 57 KY:=by
 refine⟨Qm Tryd.func57 (by kernel_rfl),fun l T hT K hK=> ?_⟩;unfold KY at hT;split at hT
 ·cases hT
  obtain⟨⟨h0,h1⟩,hK⟩:=hK;rename_i n;obtain⟨n,rfl⟩:=Zs h0;exact Qn QQW QW Tryd.func57 (by kernel_rfl) (by kernel_rfl) (by rfl) (QCs n K (by omega) (by simpa using hK))
 ·cases hT
def wl (m:Nat):Nat:=((QA m).length+3)/4
def QHb (m n:Nat):LI:=fun _=> .inv ⟨Nat,fun i=>⟨[(0,bA m n),(3,.x false [.w 12 0 (wl m)]),(14,iA .i64 (QA m).length),(15,iA .i64 i)],[(12,.row 98 1 (W (fd 4294967296 (wl m) (m % 256^i))))]⟩,
 fun i=>i<=(QA m).length,fun i=>(QA m).length-i,fun _=>0⟩
set_option maxHeartbeats 1000000 in
theorem QMB (m n:Nat)(hn:n<=1099511627776)(hm:m<2^n):QU (JK (X:=Unit) T1 (oF Tryd.f59) (QHb m n) Tryd.f59 [bA m n] [] (fun _=>True) (fun _=>⟨[(2,.x false [.w 0 0 (wl m)])],[(0,.row 98 1 (W (fd 4294967296 (wl m) m)))]⟩)):=by
 refine HV (((4:Int)≠0/\(0<=Zb.wrap ((Zb.wrap (Za (QA m).length+3)).tdiv 4)/\Zb.wrap ((Zb.wrap (Za (QA m).length+3)).tdiv 4)<=Zb.wrap ((Zb.wrap (Za (QA m).length+3)).tdiv 4)/\4*Zb.wrap ((Zb.wrap (Za (QA m).length+3)).tdiv 4)<=281474976710656/\Zb.wrap ((Zb.wrap (Za (QA m).length+3)).tdiv 4)<=9223372036854775807)/\(∃(x:Nat),(x<=(QA m).length/\OfNat.ofNat 0=0)/\m=m/\n<=n/\0=0/\(Zb.wrap ((Zb.wrap (Za (QA m).length+3)).tdiv 4)).toNat=wl m/\Za (QA m).length=Za (QA m).length/\0=Za x/\98=98/\1=1/\(Zh (Zb.wrap ((Zb.wrap (Za (QA m).length+3)).tdiv 4)).toNat [Zo (Ze Zd 0)]=W (fd 4294967296 (wl m) (m%256^x))∨QG (Zh (Zb.wrap ((Zb.wrap (Za (QA m).length+3)).tdiv 4)).toNat [Zo (Ze Zd 0)]) (W (fd 4294967296 (wl m) (m%256^x))))/\True)/\∀(x:Nat),x<=(QA m).length->OfNat.ofNat 0=0->bif decide (Za x<Za (QA m).length)then(4:Int)≠0/\(0<=Zb.wrap ((Za x).tdiv 4)/\Zb.wrap ((Za x).tdiv 4)<Za (wl m))/\∃(d:Int),ldE (W (fd 4294967296 (wl m) (m%256^x))) (0+(Zb.wrap ((Za x).tdiv 4)).toNat) 0 1=some [Zo (Ze Zd d)]/\∃(b:UInt8),(0<=Zb.wrap (Zb.wrap (Za (QA m).length-1)-Za x)/\(QA m)[(Zb.wrap (Zb.wrap (Za (QA m).length-1)-Za x)).toNat]?=some b)/\(4:Int)≠0/\0<=Zb.wrap ((Za x).tmod 4*8)/\(0<=Zb.wrap ((Za x).tdiv 4)/\Zb.wrap ((Za x).tdiv 4)<Za (wl m))/\0+(Zb.wrap ((Za x).tdiv 4)).toNat<(W (fd 4294967296 (wl m) (m%256^x))).length/\∃(x':Nat),(x'<=(QA m).length/\OfNat.ofNat 0=0/\(QA m).length-x'<(QA m).length-x)/\m=m/\n<=n/\0=0/\wl m=wl m/\Za (QA m).length=Za (QA m).length/\Zb.wrap (Za x+1)=Za x'/\98=98/\1=1/\((W (fd 4294967296 (wl m) (m%256^x))).set (0+(Zb.wrap ((Za x).tdiv 4)).toNat) [Zo (Ze Zd (orI Zd d (Xh Zd (Zd.wrap (Za b.toNat)) (Zb.wrap ((Za x).tmod 4*8)))))]=W (fd 4294967296 (wl m) (m%256^x'))∨QG ((W (fd 4294967296 (wl m) (m%256^x))).set (0+(Zb.wrap ((Za x).tdiv 4)).toNat) [Zo (Ze Zd (orI Zd d (Xh Zd (Zd.wrap (Za b.toNat)) (Zb.wrap ((Za x).tmod 4*8)))))]) (W (fd 4294967296 (wl m) (m%256^x'))))/\True else ∃(_x_1:Unit),True/\0=0/\wl m=wl m/\98=98/\1=1/\(W (fd 4294967296 (wl m) (m%256^x))=W (fd 4294967296 (wl m) m)∨QG (W (fd 4294967296 (wl m) (m%256^x))) (W (fd 4294967296 (wl m) m)))/\True)) ?_
 have hl:=XB hm;have hw: ∀x:Nat,x<=(QA m).length->(x:Int)<9223372036854775807:=fun x hx=>by omega
 generalize hlen:(QA m).length=len at hl hw;have hwl:wl m=(len+3)/4:=by unfold wl;rw[hlen]
 simp only[hwl];simp only[Zj,R0,R1,Ye,Yu,R4];simp(disch:=omega) only[w64,te,tm];have e1:(((len:Int)+3)/4).toNat=(len+3)/4:=by omega
 rw[e1];simp only[R0];refine⟨by omega,⟨by omega,by omega,by omega,by omega⟩,⟨0,by omega,rfl,.inl ?_⟩,fun x hx=>QE (fun hp=> ?_) (fun hp=> ?_)⟩
 ·rw[Nat.pow_zero,Nat.mod_one,QJE,W,List.map_replicate];rfl
 ·have hp:x<len:=by simpa using hp
  simp(disch:=omega) only[w64];have e2:((x:Int)/4).toNat=x/4:=by omega
  have e3:((len:Int)-1-x).toNat=len-1-x:=by omega
  have hj:x/4<(len+3)/4:=by omega
  rw[e2,e3];refine⟨by omega,by omega,_,X8 (JE hj),_,⟨by omega,Jv (by omega)⟩,by omega,by omega,by omega,by rw[Jg,Qj];exact hj,x+1,by omega,by omega,.inl ?_⟩;rw[hlen,show len-1-(len-1-x)=x by omega,Zy,Nat.mod_mod,<-QLz (by omega),<-Js];congr 4;rw[show((x:Int) % 4)=((x % 4:Nat):Int)by omega];exact QHR (QL0 m x) (by omega) (Yj _ (by omega))
 ·have hp: ¬x<len:=by simpa using hp
  have:x=len:=by omega
  subst this;exact⟨(),.inl (by rw[Yk (by rw[<-hlen];exact Q8 m)])⟩
def QBP:YA:=fun as0 H d=>match as0 with
  | [.x false [.b m n]]=>match H d with
    | none=>some fun K=>n<=1099511627776/\K (.x false [.w d 0 (wl m)]) (Xc [(0,d)] (QO [(0,.row 98 1 (W (fd 4294967296 (wl m) m)))]) H)
    | some _=>none
  | _=>none
theorem SpecM.pre {P:Program}{g:Nat}{tab:List Value}{f:Nat}{l:List AV}{H:HP}{K:KK}(h:(∀w O ρ vals,Qo w O ρ l vals->SpecM P g tab f l H K)):SpecM P g tab f l H K:=
 fun w0 M ρ w vals hg ht hs hc=>h w _ ρ vals hc w0 M ρ w vals hg ht hs hc
theorem Jw {w:World}{O:Nat->Prop}{ρ:Env}{m n:Nat}{l:List AV}{vals:List Value}(h:Qo w O ρ (.x false [.b m n]::l) vals):m<2^n:=by
 cases h with
 | cons h _=>exact(Jl h).2
theorem QJS {g:Nat}{tab:List Value}:J8 Tryd.prog g tab 59 QBP:=by
 refine⟨Qm Tryd.func59 (by kernel_rfl),fun l H d T hT K hK=> ?_⟩;unfold QBP at hT;split at hT
 ·split at hT
  ·rename_i hd;cases hT
   exact SpecM.pre fun w O ρ vals hc=>UM QQW QW Tryd.func59 (by kernel_rfl) (by kernel_rfl) (by rfl) (by rfl) hd (by kernel_rfl) (QMB _ _ hK.1 (Jw hc)) hK.2
  ·cases hT
 ·cases hT
end Go.Proofs
namespace Go.Proofs
open Go Go.Eng
def L2:LC:=(57,KY)::L1
def M2:List (Nat×YA):=[(59,QBP)]
noncomputable def T2:Qh:=mkT L2 M2 []
theorem QQX {g:Nat}{tab:List Value}:CtrsOK Tryd.prog g tab L2:= .cons QBO QQV
theorem QHc {g:Nat}{tab:List Value}:CtrMsOK Tryd.prog g tab M2:= .cons QJS .nil
theorem QRY {g:Nat}{tab:List Value}:Q5 Tryd.prog g tab T2:=Qq QQX QHc .nil
def tbs (ds:List Nat):List UInt8:=ds.foldl (fun(l:List UInt8) (d:Nat)=>Zk (d/16777216)::Zk (d/65536)::Zk (d/256)::Zk d::l) []
theorem H7 (ds:List Nat)(d:Nat):tbs (ds++[d])=[Zk (d/16777216),Zk (d/65536),Zk (d/256),Zk d]++tbs ds:=by
 unfold tbs;rw[List.foldl_append];rfl
theorem U7 (ds:List Nat):(tbs ds).length=4*ds.length:=by
 induction ds using Kp with
 | h0=>rfl
 | h1 l d ih=>rw[H7];simp[ih];omega
theorem be4 {d:Nat}(h:d<4294967296):QB [Zk (d/16777216),Zk (d/65536),Zk (d/256),Zk d]=d:=by
 simp only[QB,List.foldl_cons,List.foldl_nil,Zy];omega
theorem QMC {ds:List Nat}(h:Dig 4294967296 ds):QB (tbs ds)=QF 4294967296 ds:=by
 induction ds using Kp with
 | h0=>rfl
 | h1 l d ih=>
  have hd:=h d (by simp);have hl:=ih (fun x hx=>h x (by simp[hx]));rw[H7,Ws,be4 hd,hl,U7,JF];simp only[QF,Nat.mul_zero,Nat.add_zero];rw[Nat.pow_mul,show(256:Nat)^4=4294967296 from rfl,Yr,Yn]
theorem QRZ {α:Type}{p q:List α}{z1 z2 z3 z4 a b c e:α}{k:Nat}(hk:p.length=k):((((p++([z1,z2,z3,z4]++q)).set k a).set (k+1) b).set (k+2) c).set (k+3) e=p++([a,b,c,e]++q):=by
 subst hk;simp[]
theorem VL {n k:Nat}(hk:k<=32):Zf.wrap (Q0 .u32 (n:Int) (k:Int))=((Zk (n/2^k)).toNat:Int):=by
 rw[X2 (by simpa [Ys]using hk) (by simp),Yt];simp only[Zm,Zy];have:((2:Int)^k)=((2^k:Nat):Int):=by simp
 rw[this,<-Int.natCast_ediv];omega
theorem QHd (b:UInt8):[Zo (.int .u8 (b.toNat:Int))]=QK b:=rfl
def QJT (ds:List Nat):LI:=fun _=> .inv ⟨Nat,fun i=>⟨[(0,.x false [.s 1 (W ds)]),(3,.x false [.w 10 0 (4*ds.length)]),(11,.x false [.s 1 (W ds)]),(12,iA .i64 ds.length),(13,iA .i64 i)],
  [(10,.row 5 1 ((Zh (4*(ds.length-i)) 0++tbs (ds.take i)).map QK))]⟩,fun i=>i<=ds.length,fun i=>ds.length-i,fun _=>0⟩
set_option maxHeartbeats 1000000 in
theorem QO2 (ds:List Nat)(K:AV->Prop)(hd:Dig 4294967296 ds)(hn:ds.length<=1099511627776)(hK:K (bA (QF 4294967296 ds) (32*ds.length))):QU (Qc T2 (oF Tryd.f60) (QJT ds) Tryd.f60 [.x false [.s 1 (W ds)]] K):=by
 refine HV (((0<=Zb.wrap (4*Za (W ds).length)/\Zb.wrap (4*Za (W ds).length)<=Zb.wrap (4*Za (W ds).length)/\1*Zb.wrap (4*Za (W ds).length)<=281474976710656/\Zb.wrap (4*Za (W ds).length)<=9223372036854775807)/\(∃(x:Nat),(x<=ds.length/\OfNat.ofNat 0=0)/\1=1/\W ds=W ds/\0=0/\(Zb.wrap (4*Za (W ds).length)).toNat=4*ds.length/\1=1/\W ds=W ds/\Za (W ds).length=Za ds.length/\0=Za x/\5=5/\1=1/\(Zh (Zb.wrap (4*Za (W ds).length)).toNat [Zo (Ze Zf 0)]=Yd QK (Zh (4*(ds.length-x)) (OfNat.ofNat 0)++tbs (Zu x ds))∨QG (Zh (Zb.wrap (4*Za (W ds).length)).toNat [Zo (Ze Zf 0)]) (Yd QK (Zh (4*(ds.length-x)) (OfNat.ofNat 0)++tbs (Zu x ds))))/\True)/\∀(x:Nat),x<=ds.length->OfNat.ofNat 0=0->bif decide (Za x<Za ds.length)then(0<=Za x/\Za x<Za (W ds).length)/\∃(d:Int),ldE (W ds) (Za x).toNat 0 1=some [Zo (Ze Zd d)]/\(0:Int)<=24/\(0:Int)<=16/\(0:Int)<=8/\(0<=Zb.wrap (4*Zb.wrap (Zb.wrap (Za (W ds).length-1)-Za x))/\Zb.wrap (4*Zb.wrap (Zb.wrap (Za (W ds).length-1)-Za x))<Za (4*ds.length))/\0+(Zb.wrap (4*Zb.wrap (Zb.wrap (Za (W ds).length-1)-Za x))).toNat<(Yd QK (Zh (4*(ds.length-x)) (OfNat.ofNat 0)++tbs (Zu x ds))).length/\(0<=Zb.wrap (Zb.wrap (4*Zb.wrap (Zb.wrap (Za (W ds).length-1)-Za x))+1)/\Zb.wrap (Zb.wrap (4*Zb.wrap (Zb.wrap (Za (W ds).length-1)-Za x))+1)<Za (4*ds.length))/\0+(Zb.wrap (Zb.wrap (4*Zb.wrap (Zb.wrap (Za (W ds).length-1)-Za x))+1)).toNat<((Yd QK (Zh (4*(ds.length-x)) (OfNat.ofNat 0)++tbs (Zu x ds))).set (0+(Zb.wrap (4*Zb.wrap (Zb.wrap (Za (W ds).length-1)-Za x))).toNat) [Zo (Ze Zf (Zf.wrap (Q0 Zd d 24)))]).length/\(0<=Zb.wrap (Zb.wrap (4*Zb.wrap (Zb.wrap (Za (W ds).length-1)-Za x))+2)/\Zb.wrap (Zb.wrap (4*Zb.wrap (Zb.wrap (Za (W ds).length-1)-Za x))+2)<Za (4*ds.length))/\0+(Zb.wrap (Zb.wrap (4*Zb.wrap (Zb.wrap (Za (W ds).length-1)-Za x))+2)).toNat<(((Yd QK (Zh (4*(ds.length-x)) (OfNat.ofNat 0)++tbs (Zu x ds))).set (0+(Zb.wrap (4*Zb.wrap (Zb.wrap (Za (W ds).length-1)-Za x))).toNat) [Zo (Ze Zf (Zf.wrap (Q0 Zd d 24)))]).set (0+(Zb.wrap (Zb.wrap (4*Zb.wrap (Zb.wrap (Za (W ds).length-1)-Za x))+1)).toNat) [Zo (Ze Zf (Zf.wrap (Q0 Zd d 16)))]).length/\(0<=Zb.wrap (Zb.wrap (4*Zb.wrap (Zb.wrap (Za (W ds).length-1)-Za x))+3)/\Zb.wrap (Zb.wrap (4*Zb.wrap (Zb.wrap (Za (W ds).length-1)-Za x))+3)<Za (4*ds.length))/\0+(Zb.wrap (Zb.wrap (4*Zb.wrap (Zb.wrap (Za (W ds).length-1)-Za x))+3)).toNat<((((Yd QK (Zh (4*(ds.length-x)) (OfNat.ofNat 0)++tbs (Zu x ds))).set (0+(Zb.wrap (4*Zb.wrap (Zb.wrap (Za (W ds).length-1)-Za x))).toNat) [Zo (Ze Zf (Zf.wrap (Q0 Zd d 24)))]).set (0+(Zb.wrap (Zb.wrap (4*Zb.wrap (Zb.wrap (Za (W ds).length-1)-Za x))+1)).toNat) [Zo (Ze Zf (Zf.wrap (Q0 Zd d 16)))]).set (0+(Zb.wrap (Zb.wrap (4*Zb.wrap (Zb.wrap (Za (W ds).length-1)-Za x))+2)).toNat) [Zo (Ze Zf (Zf.wrap (Q0 Zd d 8)))]).length/\∃(x':Nat),(x'<=ds.length/\OfNat.ofNat 0=0/\ds.length-x'<ds.length-x)/\1=1/\W ds=W ds/\0=0/\4*ds.length=4*ds.length/\1=1/\W ds=W ds/\Za ds.length=Za ds.length/\Zb.wrap (Za x+1)=Za x'/\5=5/\1=1/\(((((Yd QK (Zh (4*(ds.length-x)) (OfNat.ofNat 0)++tbs (Zu x ds))).set (0+(Zb.wrap (4*Zb.wrap (Zb.wrap (Za (W ds).length-1)-Za x))).toNat) [Zo (Ze Zf (Zf.wrap (Q0 Zd d 24)))]).set (0+(Zb.wrap (Zb.wrap (4*Zb.wrap (Zb.wrap (Za (W ds).length-1)-Za x))+1)).toNat) [Zo (Ze Zf (Zf.wrap (Q0 Zd d 16)))]).set (0+(Zb.wrap (Zb.wrap (4*Zb.wrap (Zb.wrap (Za (W ds).length-1)-Za x))+2)).toNat) [Zo (Ze Zf (Zf.wrap (Q0 Zd d 8)))]).set (0+(Zb.wrap (Zb.wrap (4*Zb.wrap (Zb.wrap (Za (W ds).length-1)-Za x))+3)).toNat) [Zo (Ze Zf (Zf.wrap d))]=Yd QK (Zh (4*(ds.length-x')) (OfNat.ofNat 0)++tbs (Zu x' ds))∨QG (((((Yd QK (Zh (4*(ds.length-x)) (OfNat.ofNat 0)++tbs (Zu x ds))).set (0+(Zb.wrap (4*Zb.wrap (Zb.wrap (Za (W ds).length-1)-Za x))).toNat) [Zo (Ze Zf (Zf.wrap (Q0 Zd d 24)))]).set (0+(Zb.wrap (Zb.wrap (4*Zb.wrap (Zb.wrap (Za (W ds).length-1)-Za x))+1)).toNat) [Zo (Ze Zf (Zf.wrap (Q0 Zd d 16)))]).set (0+(Zb.wrap (Zb.wrap (4*Zb.wrap (Zb.wrap (Za (W ds).length-1)-Za x))+2)).toNat) [Zo (Ze Zf (Zf.wrap (Q0 Zd d 8)))]).set (0+(Zb.wrap (Zb.wrap (4*Zb.wrap (Zb.wrap (Za (W ds).length-1)-Za x))+3)).toNat) [Zo (Ze Zf (Zf.wrap d))]) (Yd QK (Zh (4*(ds.length-x')) (OfNat.ofNat 0)++tbs (Zu x' ds))))/\True else ∃(bs:List UInt8),Zu (4*ds.length) (Yh 0 (Yd QK (Zh (4*(ds.length-x)) (OfNat.ofNat 0)++tbs (Zu x ds))))=Yd QK bs/\K (AV.x false [Ch.b (QB (Zw bs).toList) (8*(Zw bs).toList.length)]))) ?_
 simp only[Jg];generalize hlen:ds.length=len at hn hK;simp only[Zj,R0,R1,Ye,R4];simp(disch:=omega) only[w64];have e1:((4:Int)*len).toNat=4*len:=by omega
 simp only[e1,R0];refine⟨⟨by omega,by omega,by omega,by omega⟩,⟨0,by omega,rfl,.inl ?_⟩,fun x hx=>QE (fun hp=> ?_) (fun hp=> ?_)⟩
 ·simp[tbs,QK]
 ·have hp:x<len:=by simpa using hp
  simp(disch:=omega) only[w64];obtain⟨d,hget⟩: ∃d,ds[x]? =some d:=⟨_,Zg (by omega)⟩
  have hdd:=hd.get hget;have f1:((4:Int)*((len:Int)-1-x)).toNat=4*(len-1-x):=by omega
  have f2:((4:Int)*((len:Int)-1-x)+1).toNat=4*(len-1-x)+1:=by omega
  have f3:((4:Int)*((len:Int)-1-x)+2).toNat=4*(len-1-x)+2:=by omega
  have f4:((4:Int)*((len:Int)-1-x)+3).toNat=4*(len-1-x)+3:=by omega
  have hl1:(Yd QK (Zh (4*(len-x)) 0++tbs (Zu x ds))).length=4*len:=by
   simp[U7,hlen];omega
  simp only[f1,f2,f3,f4,Yg,hl1,Zm];refine⟨by omega,_,X8 hget,?_⟩;repeat (refine And.intro (by omega) ?_)
  refine⟨x+1,⟨by omega,by omega⟩,by omega,.inl ?_⟩;have e5:len-x=(len-(x+1))+1:=by omega
  rw[List.take_add_one,hget,Option.toList_some,H7,e5,Zl,Nat.mul_one,<-List.replicate_append_replicate,List.append_assoc,show len-1-x=len-(x+1)by omega];rw[show Zh 4 (0:UInt8)=[0,0,0,0]from rfl]
  rw[show Zf.wrap (Q0 .u32 (d:Int) 24)=_ from VL (k:=24) (by omega),show Zf.wrap (Q0 .u32 (d:Int) 16)=_ from VL (k:=16) (by omega),
   show Zf.wrap (Q0 .u32 (d:Int) 8)=_ from VL (k:=8) (by omega)]
  rw[show Zf.wrap (d:Int)=((Zk d).toNat:Int)by rw[Yt,Zy];omega];simp only[QHd,<-List.map_set];congr 1;exact QRZ (by simp)
 ·have hp: ¬x<len:=by simpa using hp
  have:x=len:=by omega
  subst this;refine⟨tbs ds,?_,?_⟩
  ·have e0:Zu x ds=ds:=Yb (by omega);have e9:4*(x-x)=0:=by omega
   rw[e0,e9,List.replicate_zero,List.nil_append,Yv,Yb (by rw[List.length_map,U7];omega)]
  ·rw[QMC hd,U7,hlen,<-Zp];exact hK
def QEk:Ctr
 | [.x false [.s 1 xs]]=>some fun K=> ∃ds,xs=W ds/\Dig 4294967296 ds/\ds.length<=1099511627776/\K (bA (QF 4294967296 ds) (32*ds.length))
 | _=>none
theorem QMD {g:Nat}{tab:List Value}:CtrOK Tryd.prog g tab 60 QEk:=by
 refine⟨Qm Tryd.func60 (by kernel_rfl),fun l T hT K hK=> ?_⟩;unfold QEk at hT;split at hT
 ·cases hT
  obtain⟨ds,rfl,h1,h2,h3⟩:=hK;exact Qn QRY QW Tryd.func60 (by kernel_rfl) (by kernel_rfl) (by rfl) (QO2 ds K h1 h2 h3)
 ·cases hT
end Go.Proofs
namespace Go.Proofs
open Go Go.Eng
def KZ:Uu:=fun as0=>match as0 with
 | [.x false [.b m _],.x false [.b n _]]=>some fun K=>K (iA .i64 (Lib.compareBytes (QA m) (QA n)))
 | _=>none
def L3:LC:=(60,QEk)::L2
def X3:List (Nat×Uu):=[(82,KZ)]
noncomputable def T3:Qh:=mkT L3 M2 X3
theorem QBQ:QBI Tryd.prog 82 KZ:=by
 intro l T hT K hK w O ρ vals hc;unfold KZ at hT;split at hT
 ·cases hT
  cases hc with
  | cons h1 hc=>cases hc with
   | cons h2 hc=>
    cases hc
    obtain⟨rfl,_⟩:=Jl h1;obtain⟨rfl,_⟩:=Jl h2;refine⟨_,_,?_,QZ rfl,hK⟩;rw[run_callFunc_extern Tryd.func82 (by kernel_rfl) (by kernel_rfl) (by kernel_rfl) (e:=Extern.BytealgCompare.compare) (by kernel_rfl)];simp only[YV];rw[Lib.run_compareString];rfl
 ·cases hT
theorem QQY {g:Nat}{tab:List Value}:CtrsOK Tryd.prog g tab L3:= .cons QMD QQX
theorem Uw:CtrXsOK Tryd.prog X3:= .cons QBQ .nil
theorem QRa {g:Nat}{tab:List Value}:Q5 Tryd.prog g tab T3:=Qq QQY QHc Uw
def J2:Ctr
 | [.x false [.b m _],.x false [.b n _]]=>some fun K=>K (iA .i64 (Lib.compareBytes (QA m) (QA n)))
 | _=>none
def WB (m a n b:Nat)(K:AV->Prop):Prop:=Qc T3 (oF Tryd.f74) noL Tryd.f74 [bA m a,bA n b] K
theorem W3 (m:Nat)(a:Nat)(n:Nat)(b:Nat)(K:AV->Prop):WB m a n b K=(K (AV.x false [Zo (Ze Zb (Lib.compareBytes (QA m) (QA n)))])):=by kernel_rfl
theorem UP {g:Nat}{tab:List Value}:CtrOK Tryd.prog g tab 74 J2:=by
 refine⟨Qm Tryd.func74 (by kernel_rfl),fun l T hT K hK=> ?_⟩;unfold J2 at hT;split at hT
 ·cases hT
  exact Qn QRa QW Tryd.func74 (by kernel_rfl) (by kernel_rfl) (by rfl) (show QU (WB _ _ _ _ K)from⟨by rw[W3];exact hK⟩)
 ·cases hT
def L4:LC:=(74,J2)::L3
noncomputable def T4:Qh:=mkT L4 M2 X3
theorem QQZ {g:Nat}{tab:List Value}:CtrsOK Tryd.prog g tab L4:= .cons UP QQY
theorem QRb {g:Nat}{tab:List Value}:Q5 Tryd.prog g tab T4:=Qq QQZ QHc Uw
def Vh (m a n b:Nat)(K:AV->Prop):Prop:=Qc T4 (oF Tryd.f56) noL Tryd.f56 [bA m a,bA n b] K
theorem Ux (m:Nat)(a:Nat)(n:Nat)(b:Nat)(K:AV->Prop):Vh m a n b K=(K (AV.x false [Zo (Ze Zb (Lib.compareBytes (QA m) (QA n)))])):=by kernel_rfl
theorem QEl {g:Nat}{tab:List Value}:CtrOK Tryd.prog g tab 56 J2:=by
 refine⟨Qm Tryd.func56 (by kernel_rfl),fun l T hT K hK=> ?_⟩;unfold J2 at hT;split at hT
 ·cases hT
  exact Qn QRb QW Tryd.func56 (by kernel_rfl) (by kernel_rfl) (by rfl) (show QU (Vh _ _ _ _ K)from⟨by rw[Ux];exact hK⟩)
 ·cases hT
def L5:LC:=(56,J2)::L4
noncomputable def T5:Qh:=mkT L5 M2 X3
theorem QQa {g:Nat}{tab:List Value}:CtrsOK Tryd.prog g tab L5:= .cons QEl QQZ
theorem QO3 {g:Nat}{tab:List Value}:Q5 Tryd.prog g tab T5:=Qq QQa QHc Uw
def QF2 (n:Int)(K:AV->Prop):Prop:=Qc T5 (oF Tryd.f50) noL Tryd.f50 [iA .i64 n] K
theorem QEm (n:Int)(K:AV->Prop):QF2 n K=(bif decide (n<1)then K (AV.x false [Zo (Yq (Zr (Zw [])))])else(0<=Zc.wrap n/\Zc.wrap n<18446744073709551616)/\K (AV.x false [Ch.b (Zc.wrap n).toNat 64])):=by kernel_rfl
def QEn (x y:Nat):LI:=fun _=> .inv ⟨Nat×Nat,fun i=>⟨[(0,iA .u64 i.1),(1,iA .u64 i.2)],[]⟩,fun i=>Nat.gcd i.1 i.2=Nat.gcd x y/\i.1<18446744073709551616/\i.2<18446744073709551616,fun i=>i.2,fun _=>0⟩
theorem Wu (x:UInt8)(l:List UInt8):QB (x::l)=x.toNat*256^l.length+QB l:=by
 have:=Ws [x] l;simpa [QB]using this
theorem QEo: ∀{a b:List UInt8},a.length=b.length->Lib.compareBytes a b=YR (QB a) (QB b):=by
 intro a;induction a with
 | nil=>intro b h;cases b with
  | nil=>rfl
  | cons=>cases h
 | cons x a ih=>
  intro b h;cases b with
  | nil=>cases h
  | cons y b=>
   have hl:a.length=b.length:=by simpa using h
   rw[Lib.compareBytes,Wu,Wu,ih hl,hl];have h1:=Vf a;have h2:=Vf b;rw[hl]at h1;generalize 256^b.length=p at h1 h2;simp only[UInt8.lt_iff_toNat_lt];rcases Nat.lt_trichotomy x.toNat y.toNat with h | h | h
   ·rw[if_pos h];have:(x.toNat+1)*p<=y.toNat*p:=Nat.mul_le_mul_right _ h;rw[Nat.add_mul]at this;unfold YR;rw[if_pos (by omega)]
   ·rw[if_neg (by omega),if_neg (by omega),h];unfold YR;simp only[Nat.add_lt_add_iff_left,Nat.add_left_cancel_iff]
   ·rw[if_neg (by omega),if_pos h];have:(y.toNat+1)*p<=x.toNat*p:=Nat.mul_le_mul_right _ h;rw[Nat.add_mul]at this;unfold YR;rw[if_neg (by omega),if_neg (by omega)]
theorem UQ {m n:Nat}(h:(QA m).length<(QA n).length):m<n:=by
 have h1:=Qa (m:=n) (k:=(QA m).length);have h2:=Q8 m;have: ¬n<256^(QA m).length:=fun h'=>by have:=h1.2 h';omega
 omega
theorem QQb (m a n b:Nat)(K:AV->Prop)(h:K (iA .i64 (YR m n))):QU (Qc T5 (oF Tryd.f35) noL Tryd.f35 [bA m a,bA n b] K):=by
 refine HV ((bif decide (Za (QA m).length<Za (QA n).length)then K (AV.x false [Zo (Ze Zb (-1))])else bif decide (Za (QA m).length>Za (QA n).length)then K (AV.x false [Zo (Ze Zb 1)])else K (AV.x false [Zo (Ze Zb (Lib.compareBytes (QA m) (QA n)))]))) ?_
 refine QE (fun hp=> ?_) (fun hp=>QE (fun hq=> ?_) (fun hq=> ?_))
 ·have:=UQ (m:=m) (n:=n) (by simpa using hp);unfold YR at h;rw[if_pos this]at h;exact h
 ·have:=UQ (m:=n) (n:=m) (by simpa using hq);unfold YR at h;rw[if_neg (by omega),if_neg (by omega)]at h;exact h
 ·simp at hp hq;rw[QEo (by omega),XL,XL];exact h
def NatIs (m n:Nat)(av:AV):Prop:=m<2^n/\((∃n',av=bA m n')∨ ∃l,av= .x false [.v (.string ⟨l.toArray⟩)]/\l=QA m)
theorem NatIs.b {m n n':Nat}(h:m<2^n):NatIs m n (bA m n'):=⟨h,.inl ⟨n',rfl⟩⟩
theorem NatIs.conc {w:World}{O:Nat->Prop}{ρ:Env}{m n:Nat}{av:AV}{v:Value}(h:NatIs m n av)(hc:ConcV w O ρ av v):ConcV w O ρ (bA m n) v:=by
 obtain⟨h1,⟨n',rfl⟩ | ⟨l,rfl,rfl⟩⟩:=h
 ·obtain⟨rfl,_⟩:=Jl hc;exact XK (.b h1 .nil)
 ·exact Wt hc h1
theorem QRc (n:Int)(h:n<9223372036854775808):QU (QF2 n (NatIs n.toNat 63)):=by
 refine⟨?_⟩;rw[QEm];refine QE (fun hp=> ?_) (fun hp=> ?_)
 ·have hp:n<1:=by simpa using hp
  have:n.toNat=0:=by omega
  rw[this];exact⟨by omega,.inr ⟨[],rfl,rfl⟩⟩
 ·have hp: ¬n<1:=by simpa using hp
  rw[XV (by omega)];exact⟨by omega,.b (by omega)⟩
theorem QJU (x y:Nat)(K:AV->Prop)(hx:x<18446744073709551616)(hy:y<18446744073709551616)(h:K (iA .u64 (Nat.gcd x y:Nat))):QU (Qc T5 (oF Tryd.f76) (QEn x y) Tryd.f76 [iA .u64 x,iA .u64 y] K):=by
 refine HV (((∃(x_1:Nat×Nat),((x_1.fst.gcd x_1.snd=x.gcd y/\x_1.fst<18446744073709551616/\x_1.snd<18446744073709551616)/\OfNat.ofNat 0=0)/\Za x=Za x_1.fst/\Za y=Za x_1.snd/\True)/\∀(x_1:Nat×Nat),x_1.fst.gcd x_1.snd=x.gcd y/\x_1.fst<18446744073709551616/\x_1.snd<18446744073709551616->OfNat.ofNat 0=0->bif decide (Za x_1.snd>0)then Za x_1.snd≠0/\∃(x':Nat×Nat),((x'.fst.gcd x'.snd=x.gcd y/\x'.fst<18446744073709551616/\x'.snd<18446744073709551616)/\OfNat.ofNat 0=0/\x'.snd<x_1.snd)/\Za x_1.snd=Za x'.fst/\(Za x_1.fst).tmod (Za x_1.snd)=Za x'.snd/\True else K (AV.x false [Zo (Ze Zc (Za x_1.fst))]))) ?_
 refine⟨⟨(x,y),⟨⟨rfl,hx,hy⟩,rfl⟩,rfl,rfl,trivial⟩,fun p hp _=>QE (fun hq=> ?_) (fun hq=> ?_)⟩
 ·obtain⟨u,v⟩:=p;obtain⟨h1,h2,h3⟩:=hp;simp only at h1 h2 h3 hq⊢;have hv:v≠0:=by simp at hq;omega
  refine⟨by simp;omega,(v,u % v),⟨⟨?_,h3,Nat.lt_trans (Yj _ (by omega)) h3⟩,by simp,Yj _ (by omega)⟩,rfl,?_,trivial⟩
  ·rw[<-h1,Nat.gcd_comm v,<-Nat.gcd_rec,Nat.gcd_comm]
  ·simp only[Zj];rw[tm (by omega)];simp
 ·obtain⟨u,v⟩:=p;obtain⟨h1,h2,h3⟩:=hp;simp only at h1 h2 h3 hq⊢;have hv:v=0:=by simp at hq;omega
  subst hv;rw[Nat.gcd_zero_right]at h1;subst h1;exact h
def QF3:Ctr
 | [.x false [.b m _],.x false [.b n _]]=>some fun K=>K (iA .i64 (YR m n))
 | _=>none
def QO4:Ctr
 | [.x false [.v (.int .i64 n)]]=>some fun K=>n<9223372036854775808/\K (bA n.toNat 63)
 | _=>none
def H8:Ctr
 | [.x false [.v (.int .u64 x)],.x false [.v (.int .u64 y)]]=>some fun K=>((0<=x/\x<18446744073709551616)/\0<=y/\y<18446744073709551616)/\K (iA .u64 (Nat.gcd x.toNat y.toNat:Nat))
 | _=>none
theorem ok_Cmp {g:Nat}{tab:List Value}:CtrOK Tryd.prog g tab 35 QF3:=by
 refine⟨Qm Tryd.func35 (by kernel_rfl),fun l T hT K hK=> ?_⟩;unfold QF3 at hT;split at hT
 ·rename_i m a n b;cases hT
  have hG:=QQb m a n b K hK;exact Qn QO3 QW Tryd.func35 (by kernel_rfl) (by kernel_rfl) (by rfl) hG
 ·cases hT
theorem WC {P:Program}{g:Nat}{tab:List Value}{f:Nat}{l:List AV}{m n:Nat}{K:AV->Prop}(h:Eng.Spec P g tab f l (NatIs m n))(hk:K (bA m n)):Eng.Spec P g tab f l K:=
 Eng.Spec.res h fun _ _ _ _ hn hc=>⟨_,hk,hn.conc hc⟩
theorem QQc {g:Nat}{tab:List Value}:CtrOK Tryd.prog g tab 50 QO4:=by
 refine⟨Qm Tryd.func50 (by kernel_rfl),fun l T hT K hK=> ?_⟩;unfold QO4 at hT;split at hT
 ·cases hT
  exact WC (Qn QO3 QW Tryd.func50 (by kernel_rfl) (by kernel_rfl) (by rfl) (QRc _ hK.1)) hK.2
 ·cases hT
theorem QHe {g:Nat}{tab:List Value}:CtrOK Tryd.prog g tab 76 H8:=by
 refine⟨Qm Tryd.func76 (by kernel_rfl),fun l T hT K hK=> ?_⟩;unfold H8 at hT;split at hT
 ·cases hT
  rename_i x y;obtain⟨⟨⟨a1,a2⟩,a3,a4⟩,hK⟩:=hK;obtain⟨x,rfl⟩:=Zs a1;obtain⟨y,rfl⟩:=Zs a3;exact Qn QO3 QW Tryd.func76 (by kernel_rfl) (by kernel_rfl) (by rfl) (QJU x y K (by omega) (by omega) hK)
 ·cases hT
def L6:LC:=(35,QF3)::(50,QO4)::(76,H8)::L5
noncomputable def T6:Qh:=mkT L6 M2 X3
theorem QQd {g:Nat}{tab:List Value}:CtrsOK Tryd.prog g tab L6:= .cons ok_Cmp (.cons QQc (.cons QHe QQa))
theorem QQe {g:Nat}{tab:List Value}:Q5 Tryd.prog g tab T6:=Qq QQd QHc Uw
end Go.Proofs
namespace Go.Proofs
open Go Go.Eng
def wA (k n:Nat):AV:= .x false [.w k 0 n]
def Qr (ds:List Nat):Blk:= .row 98 1 (W ds)
structure G4 where
 xs:List Nat
 ys:List Nat
 out:List Nat
 carry:Nat
 i:Nat
structure H9 (s:Nat)(e:Nat)(x:G4):Prop where
 dx:Dig 4294967296 x.xs
 dy:Dig 4294967296 x.ys
 dz:Dig 4294967296 x.out
 lz:x.out.length=x.xs.length+1
 ly:x.ys.length<=x.xs.length
 lx:x.xs.length<=e
 hi:x.i<=x.xs.length
 hc:x.carry<=1
 sum:QF 4294967296 x.xs+QF 4294967296 x.ys=s
 inv:QF 4294967296 (x.out.take x.i)+4294967296^x.i*x.carry=QF 4294967296 (x.xs.take x.i)+QF 4294967296 (x.ys.take x.i)
structure QME (s e:Nat)(p:List Nat×List Nat):Prop where
 dx:Dig 4294967296 p.1
 dy:Dig 4294967296 p.2
 ly:p.2.length<=p.1.length
 lx:p.1.length<=e
 sum:QF 4294967296 p.1+QF 4294967296 p.2=s
def QMF (m a n b s e:Nat):LI:=fun id=>bif id.beq 4 then .cut ⟨Unit,fun _=>⟨[(0,bA m a),(1,bA n b)],[]⟩,fun _=>True,fun _=>0,fun _=>0⟩else bif id.beq 7 then .cut ⟨List Nat×List Nat,fun p=>⟨[(5,wA 30 p.1.length),(6,wA 32 p.2.length)],[(30,Qr p.1),(32,Qr p.2)]⟩,QME s e,fun _=>0,fun _=>0⟩
 else bif id.beq 15 then .cut ⟨G4×Nat,fun x=>⟨[(5,wA 30 x.1.xs.length),(6,wA 32 x.1.ys.length),(7,wA 43 (x.1.xs.length+1)),(8,iA .u64 x.2),(9,iA .i64 x.1.i),(44,wA 30 x.1.xs.length),(45,iA .i64 x.1.xs.length),(46,iA .i64 x.1.i)],
  [(30,Qr x.1.xs),(32,Qr x.1.ys),(43,Qr x.1.out)]⟩,fun x=>H9 s e x.1/\x.1.i<x.1.xs.length/\x.2=x.1.carry+x.1.xs.getD x.1.i 0+x.1.ys.getD x.1.i 0,fun _=>0,fun x=>x.1.xs.length-x.1.i⟩
 else .inv ⟨G4,fun x=>⟨[(5,wA 30 x.xs.length),(6,wA 32 x.ys.length),(7,wA 43 (x.xs.length+1)),(8,iA .u64 x.carry),(44,wA 30 x.xs.length),(45,iA .i64 x.xs.length),(46,iA .i64 x.i)],
 [(30,Qr x.xs),(32,Qr x.ys),(43,Qr x.out)]⟩,H9 s e,fun x=>x.xs.length-x.i,fun _=>0⟩
def QCt (m a n b e:Nat)(K:AV->Prop):Prop:=Qc T6 (oF Tryd.f51) (QMF m a n b (m+n) e) Tryd.f51 [bA m a,bA n b] K
theorem QCu (m:Nat)(a:Nat)(n:Nat)(b:Nat)(e:Nat)(K:AV->Prop):QCt m a n b e K=((bif decide (Za (QA m).length<8)then bif decide (Za (QA n).length<8)then m<18446744073709551616/\n<18446744073709551616/\(0<=Zc.wrap (Za m+Za n)/\Zc.wrap (Za m+Za n)<18446744073709551616)/\K (AV.x false [Ch.b (Zc.wrap (Za m+Za n)).toNat 64])else ∃(_x:Unit),(True/\OfNat.ofNat 0=0)/\m=m/\a<=a/\n=n/\b<=b/\True else ∃(_x:Unit),(True/\OfNat.ofNat 0=0)/\m=m/\a<=a/\n=n/\b<=b/\True)/\∀(_x:Unit),True->OfNat.ofNat 0=0->a<=1099511627776/\b<=1099511627776/\(bif decide (Za (wl m)<Za (wl n))then ∃(x:List Nat×List Nat),(QME (m+n) e x/\OfNat.ofNat 0=0)/\0=0/\wl n=x.fst.length/\0=0/\wl m=x.snd.length/\98=98/\1=1/\(W (fd 4294967296 (wl n) n)=W x.fst∨QG (W (fd 4294967296 (wl n) n)) (W x.fst))/\98=98/\1=1/\(W (fd 4294967296 (wl m) m)=W x.snd∨QG (W (fd 4294967296 (wl m) m)) (W x.snd))/\True else ∃(x:List Nat×List Nat),(QME (m+n) e x/\OfNat.ofNat 0=0)/\0=0/\wl m=x.fst.length/\0=0/\wl n=x.snd.length/\98=98/\1=1/\(W (fd 4294967296 (wl m) m)=W x.fst∨QG (W (fd 4294967296 (wl m) m)) (W x.fst))/\98=98/\1=1/\(W (fd 4294967296 (wl n) n)=W x.snd∨QG (W (fd 4294967296 (wl n) n)) (W x.snd))/\True)/\∀(x:List Nat×List Nat),QME (m+n) e x->OfNat.ofNat 0=0->(0<=Zb.wrap (Za x.fst.length+1)/\Zb.wrap (Za x.fst.length+1)<=Zb.wrap (Za x.fst.length+1)/\4*Zb.wrap (Za x.fst.length+1)<=281474976710656/\Zb.wrap (Za x.fst.length+1)<=9223372036854775807)/\(∃(x_1:G4),(H9 (m+n) e x_1/\OfNat.ofNat 0=0)/\0=0/\x.fst.length=x_1.xs.length/\0=0/\x.snd.length=x_1.ys.length/\0=0/\(Zb.wrap (Za x.fst.length+1)).toNat=x_1.xs.length+1/\0=Za x_1.carry/\0=0/\x.fst.length=x_1.xs.length/\Za x.fst.length=Za x_1.xs.length/\0=Za x_1.i/\98=98/\1=1/\(W x.fst=W x_1.xs∨QG (W x.fst) (W x_1.xs))/\98=98/\1=1/\(W x.snd=W x_1.ys∨QG (W x.snd) (W x_1.ys))/\98=98/\1=1/\(Zh (Zb.wrap (Za x.fst.length+1)).toNat [Zo (Ze Zd 0)]=W x_1.out∨QG (Zh (Zb.wrap (Za x.fst.length+1)).toNat [Zo (Ze Zd 0)]) (W x_1.out))/\True)/\∀(x:G4),H9 (m+n) e x->OfNat.ofNat 0=0->bif decide (Za x.i<Za x.xs.length)then(0<=Za x.i/\Za x.i<Za x.xs.length)/\∃(d:Int),ldE (W x.xs) (0+(Za x.i).toNat) 0 1=some [Zo (Ze Zd d)]/\(bif decide (Za x.i<Za x.ys.length)then(0<=Za x.i/\Za x.i<Za x.ys.length)/\∃(d_1:Int),ldE (W x.ys) (0+(Za x.i).toNat) 0 1=some [Zo (Ze Zd d_1)]/\∃(x_1:G4×Nat),((H9 (m+n) e x_1.fst/\x_1.fst.i<x_1.fst.xs.length/\x_1.snd=x_1.fst.carry+x_1.fst.xs.getD x_1.fst.i 0+x_1.fst.ys.getD x_1.fst.i 0)/\x_1.fst.xs.length-x_1.fst.i=x.xs.length-x.i)/\0=0/\x.xs.length=x_1.fst.xs.length/\0=0/\x.ys.length=x_1.fst.ys.length/\0=0/\x.xs.length+1=x_1.fst.xs.length+1/\Zc.wrap (Zc.wrap (Za x.carry+Zc.wrap d)+Zc.wrap d_1)=Za x_1.snd/\Za x.i=Za x_1.fst.i/\0=0/\x.xs.length=x_1.fst.xs.length/\Za x.xs.length=Za x_1.fst.xs.length/\Za x.i=Za x_1.fst.i/\98=98/\1=1/\(W x.xs=W x_1.fst.xs∨QG (W x.xs) (W x_1.fst.xs))/\98=98/\1=1/\(W x.ys=W x_1.fst.ys∨QG (W x.ys) (W x_1.fst.ys))/\98=98/\1=1/\(W x.out=W x_1.fst.out∨QG (W x.out) (W x_1.fst.out))/\True else ∃(x_1:G4×Nat),((H9 (m+n) e x_1.fst/\x_1.fst.i<x_1.fst.xs.length/\x_1.snd=x_1.fst.carry+x_1.fst.xs.getD x_1.fst.i 0+x_1.fst.ys.getD x_1.fst.i 0)/\x_1.fst.xs.length-x_1.fst.i=x.xs.length-x.i)/\0=0/\x.xs.length=x_1.fst.xs.length/\0=0/\x.ys.length=x_1.fst.ys.length/\0=0/\x.xs.length+1=x_1.fst.xs.length+1/\Zc.wrap (Za x.carry+Zc.wrap d)=Za x_1.snd/\Za x.i=Za x_1.fst.i/\0=0/\x.xs.length=x_1.fst.xs.length/\Za x.xs.length=Za x_1.fst.xs.length/\Za x.i=Za x_1.fst.i/\98=98/\1=1/\(W x.xs=W x_1.fst.xs∨QG (W x.xs) (W x_1.fst.xs))/\98=98/\1=1/\(W x.ys=W x_1.fst.ys∨QG (W x.ys) (W x_1.fst.ys))/\98=98/\1=1/\(W x.out=W x_1.fst.out∨QG (W x.out) (W x_1.fst.out))/\True)/\∀(x_1:G4×Nat),H9 (m+n) e x_1.fst/\x_1.fst.i<x_1.fst.xs.length/\x_1.snd=x_1.fst.carry+x_1.fst.xs.getD x_1.fst.i 0+x_1.fst.ys.getD x_1.fst.i 0->x_1.fst.xs.length-x_1.fst.i=x.xs.length-x.i->(0<=Za x_1.fst.i/\Za x_1.fst.i<Za (x_1.fst.xs.length+1))/\0+(Za x_1.fst.i).toNat<(W x_1.fst.out).length/\(0:Int)<=32/\∃(x':G4),(H9 (m+n) e x'/\OfNat.ofNat 0=0/\x'.xs.length-x'.i<x.xs.length-x.i)/\0=0/\x_1.fst.xs.length=x'.xs.length/\0=0/\x_1.fst.ys.length=x'.ys.length/\0=0/\x_1.fst.xs.length+1=x'.xs.length+1/\Q0 Zc (Za x_1.snd) 32=Za x'.carry/\0=0/\x_1.fst.xs.length=x'.xs.length/\Za x_1.fst.xs.length=Za x'.xs.length/\Zb.wrap (Za x_1.fst.i+1)=Za x'.i/\98=98/\1=1/\(W x_1.fst.xs=W x'.xs∨QG (W x_1.fst.xs) (W x'.xs))/\98=98/\1=1/\(W x_1.fst.ys=W x'.ys∨QG (W x_1.fst.ys) (W x'.ys))/\98=98/\1=1/\((W x_1.fst.out).set (0+(Za x_1.fst.i).toNat) [Zo (Ze Zd (Zd.wrap (Za x_1.snd)))]=W x'.out∨QG ((W x_1.fst.out).set (0+(Za x_1.fst.i).toNat) [Zo (Ze Zd (Zd.wrap (Za x_1.snd)))]) (W x'.out))/\True else(0<=Za x.xs.length/\Za x.xs.length<Za (x.xs.length+1))/\0+(Za x.xs.length).toNat<(W x.out).length/\∃(ds:List Nat),Zu (x.xs.length+1) (Yh 0 ((W x.out).set (0+(Za x.xs.length).toNat) [Zo (Ze Zd (Zd.wrap (Za x.carry)))]))=W ds/\(∀(d:Nat),d∈ds->d<4294967296)/\ds.length<=1099511627776/\K (AV.x false [Ch.b (QF 4294967296 ds) (32*ds.length)])):=by kernel_rfl
theorem X9 {l:List Nat}{i d:Nat}(h:l[i]? =some d):l.getD i 0=d:=by simp[Zi,h]
theorem H9.step {s e:Nat}{x:G4}(h:H9 s e x)(hi:x.i<x.xs.length){t:Nat}(ht:t=x.carry+x.xs.getD x.i 0+x.ys.getD x.i 0):
  H9 s e {x with out:=x.out.set x.i (t % 4294967296),carry:=t/4294967296,i:=x.i+1}:=by
 obtain⟨dx,dy,dz,lz,ly,lx,_,hc,sum,inv⟩:=h;have hx:=dx.getD (i:=x.i) (by omega);have hy:=dy.getD (i:=x.i) (by omega);have gx:x.xs[x.i]? =some (x.xs.getD x.i 0):=by rw[Zi,Zg hi];rfl
 have gz:(x.out.set x.i (t % 4294967296))[x.i]? =some (t % 4294967296):=by rw[Zq];simp;omega
 have ey:QF 4294967296 (x.ys.take (x.i+1))=QF 4294967296 (x.ys.take x.i)+4294967296^x.i*x.ys.getD x.i 0:=by
  cases hy:x.ys[x.i]? with
  | some d=>rw[QS hy,X9 hy]
  | none=>
   have:x.ys.length<=x.i:=by simpa using hy
   rw[Qd (by omega),Qd (by omega)];simp[Zi,hy]
 refine⟨dx,dy,dz.set (Yj _ (by omega)),by simpa using lz,ly,lx,hi,by simp only;omega,sum,?_⟩;simp only;rw[QS gz,XM,QS gx,ey,Ya];generalize (4294967296:Nat)^x.i=p at inv⊢;generalize x.xs.getD x.i 0=u at ht hx;generalize x.ys.getD x.i 0=v at ht hy;have e1:t=4294967296*(t/4294967296)+t % 4294967296:=(Yf t 4294967296).symm;have e2:p*t=p*x.carry+p*u+p*v:=by rw[ht,Zl,Zl]
 have e3:p*t=p*4294967296*(t/4294967296)+p*(t % 4294967296):=by
  conv=>lhs;rw[e1]
  rw[Zl,Zp]
 omega
theorem GA {m a:Nat}(h:m<2^a):wl m<=a+1:=by have:=XB h;unfold wl;omega
theorem X5 (m:Nat):m<4294967296^wl m:=by
 refine Nat.lt_of_lt_of_le (Q8 m) ?_
 rw[show(4294967296:Nat)=256^4 from rfl,<-Nat.pow_mul];exact Zt (by omega) (by unfold wl;omega)
theorem QQf (m a n b:Nat)(K:AV->Prop)(ha:a<=549755813888)(hb:b<=549755813888)(hm:m<2^a)(hn:n<2^b)(hK: ∀av,NatIs (m+n) (max a b+1) av->K av):QU (QCt m a n b (max a b+1) K):=by
 refine⟨?_⟩;rw[QCu];have hlt:m+n<2^(max a b+1):=by
  have h1:2^a<=2^max a b:=Zt (by omega) (by omega);have h2:2^b<=2^max a b:=Zt (by omega) (by omega);rw[Ya];omega
 have hwm:=GA hm;have hwn:=GA hn;have hB:max a b+1<=549755813889:=by omega
 refine⟨QE (fun h1=>QE (fun h2=> ?_) (fun _=>⟨(),by simp⟩)) (fun _=>⟨(),by simp⟩),fun _ _ _=>⟨by omega,by omega,QE (fun h1=> ?_) (fun h1=> ?_),fun p hp _=> ?_⟩⟩
 ·have k1:=Qa (m:=m) (k:=7);have k2:=Qa (m:=n) (k:=7);simp at h1 h2;have l1:=k1.1 (by omega);have l2:=k2.1 (by omega);simp only[Zj];rw[XV (by omega)];refine⟨by omega,by omega,by omega,hK _ ?_⟩;rw[show((m:Int)+n).toNat=m+n by omega];exact .b hlt
 ·refine⟨(fd 4294967296 (wl n) n,fd 4294967296 (wl m) m),⟨⟨Dig.fd (by omega),Dig.fd (by omega),by simp at h1;simp[Qj];omega,by simp[Qj];omega,by simp only;rw[Qt (X5 n),Qt (X5 m)];omega⟩,rfl⟩,?_⟩;simp[Qj]
 ·refine⟨(fd 4294967296 (wl m) m,fd 4294967296 (wl n) n),⟨⟨Dig.fd (by omega),Dig.fd (by omega),by simp at h1;simp[Qj];omega,by simp[Qj];omega,by simp only;rw[Qt (X5 n),Qt (X5 m)]⟩,rfl⟩,?_⟩;simp[Qj]
 ·obtain⟨xs,ys⟩:=p;obtain⟨dx,dy,ly,lx,sum⟩:=hp;simp only at dx dy ly lx sum⊢;simp only[Zj];rw[w64 (by omega),show((xs.length:Int)+1).toNat=xs.length+1 by omega];refine⟨⟨by omega,by omega,by omega,by omega⟩,⟨⟨xs,ys,Zh (xs.length+1) 0,0,0⟩,⟨⟨dx,dy,Dig.zeros (by omega),by simp,ly,lx,by simp,by simp,sum,by simp[QF]⟩,trivial⟩,?_⟩,fun x hx _=>QE (fun hp=>⟨by simp at hp;omega,?_⟩) (fun hp=> ?_)⟩
  ·simp[U5]
  ·obtain⟨xs,ys,out,carry,i⟩:=x;have hp:i<xs.length:=by simpa using hp
   obtain⟨d,hd⟩: ∃d,xs[i]? =some d:=⟨_,Zg hp⟩
   have dd:=hx.dx.get hd;have hc:=hx.hc;have hl:=hx.lx;simp only at dd hc hl⊢;refine⟨d,by simpa using X8 hd,QE (fun hq=>⟨by simp at hq;omega,?_⟩) (fun hq=> ?_),fun x1 h1 ht=> ?_⟩
   ·have hq:i<ys.length:=by simpa using hq
    obtain⟨e,he⟩: ∃e,ys[i]? =some e:=⟨_,Zg hq⟩
    have de:=hx.dy.get he;refine⟨e,by simpa using X8 he,(⟨xs,ys,out,carry,i⟩,carry+d+e),⟨⟨hx,hp,by simp only;rw[X9 hd,X9 he]⟩,rfl⟩,?_⟩;simp(disch:=omega) only[XV];simp
   ·have hq: ¬i<ys.length:=by simpa using hq
    refine⟨(⟨xs,ys,out,carry,i⟩,carry+d),⟨⟨hx,hp,by simp only;rw[X9 hd];simp[Zi,show ys[i]? =none by simp;omega]⟩,rfl⟩,?_⟩;simp(disch:=omega) only[XV];simp
   ·obtain⟨⟨xs',ys',out',carry',i'⟩,t⟩:=x1;obtain⟨h1,h2,h3⟩:=h1;simp only at h1 h2 h3 ht⊢;have hs:=h1.step h2 h3;have b1:=h1.dx.getD (i:=i') (by omega);have b2:=h1.dy.getD (i:=i') (by omega);have b3:=h1.hc;have b4:=h1.lz;have b5:=h1.lx;simp only at b1 b2 b3 b4 b5;refine⟨by omega,by rw[Jg];simp;omega,by omega,_,⟨hs,by simp,by simp only;omega⟩,?_⟩;have e1:Zd.wrap (t:Int)=((t % 4294967296:Nat):Int):=by rw[Zv];simp
    simp only[];rw[X2 (by decide) (by simp),w64 (by omega),e1];simp;rw[show((t:Int) % 4294967296)=((t % 4294967296:Nat):Int)by omega];exact .inl (Js _ _ _)
  ·obtain⟨xs,ys,out,carry,i⟩:=x;have hp: ¬i<xs.length:=by simpa using hp
   have hi:=hx.hi;have lz:=hx.lz;have hc:=hx.hc;have hl:=hx.lx;simp only at hi lz hc hl⊢;have:i=xs.length:=by omega
   subst this;refine⟨by omega,by rw[Jg];simp;omega,out.set xs.length carry,?_,hx.dz.set (by omega),by simp;omega,?_⟩
   ·rw[QEd (by omega)];simp[Js,UN];congr 1;rw[Yb (by simp;omega)]
   ·have hv:QF 4294967296 (out.set xs.length carry)=m+n:=by
     have h1:(out.set xs.length carry)[xs.length]? =some carry:=by rw[Zq];simp;omega
     have h2:=QS (B:=4294967296) h1;rw[Qd (by simp;omega),XM]at h2;have h3:=hx.inv;simp only at h3;rw[Qd (l:=xs) (by omega),Qd (l:=ys) hx.ly]at h3;have:=hx.sum;simp only at this;omega
    rw[hv];exact hK _ (.b hlt)
def QF4:Ctr
 | [.x false [.b m a],.x false [.b n b]]=>some fun K=>(a<=549755813888/\b<=549755813888)/\K (bA (m+n) (max a b+1))
 | _=>none
theorem JI {w:World}{O:Nat->Prop}{ρ:Env}{x:AV}{m n:Nat}{l:List AV}{vals:List Value}(h:Qo w O ρ (x:: .x false [.b m n]::l) vals):m<2^n:=by
 cases h with
 | cons _ h=>exact Jw h
theorem YZ {P:Program}{g:Nat}{tab:List Value}{f:Nat}{l:List AV}{K:AV->Prop}(h: ∀w O ρ vals,Qo w O ρ l vals->Eng.Spec P g tab f l K):Eng.Spec P g tab f l K:=
 fun w O vals h1 h2 h3=>h w O XT vals h3 w O vals h1 h2 h3
theorem ok_Add {g:Nat}{tab:List Value}:CtrOK Tryd.prog g tab 51 QF4:=by
 refine⟨Qm Tryd.func51 (by kernel_rfl),fun l T hT K hK=> ?_⟩;unfold QF4 at hT;split at hT
 ·rename_i m a n b;cases hT
  exact YZ fun w O ρ vals hc=>WC (Qn QQe QW Tryd.func51 (by kernel_rfl) (by kernel_rfl) (by rfl) (QQf m a n b _ hK.1.1 hK.1.2 (Jw hc) (JI hc) fun _ h=>h)) hK.2
 ·cases hT
end Go.Proofs
namespace Go.Proofs
open Go Go.Eng
structure Ka where
 cur:List Nat
 b:Nat
 i:Nat
structure Kb (ds es:List Nat)(x:Ka):Prop where
 dc:Dig 4294967296 x.cur
 lc:x.cur.length=ds.length
 hi:x.i<=ds.length
 hb:x.b<=1
 rest:x.cur.drop x.i=ds.drop x.i
 inv:QF 4294967296 (x.cur.take x.i)+QF 4294967296 (es.take x.i)=QF 4294967296 (ds.take x.i)+4294967296^x.i*x.b
def QNq (ds es:List Nat)(x:Ka):List (Nat×AV):=[(0,wA 1000 ds.length),(1,wA 1001 es.length),(4,iA .u64 x.b),(8,wA 1000 ds.length),(9,iA .i64 ds.length),(10,iA .i64 x.i)]
def QJV (ds es:List Nat):LI:=fun id=>bif id.beq 7 then .cut ⟨Ka,fun x=>⟨(5,iA .i64 x.i)::(7,iA .u64 (((ds.getD x.i 0:Int)-x.b-es.getD x.i 0) % 18446744073709551616))::QNq ds es x,[(1000,Qr x.cur),(1001,Qr es)]⟩,
  fun x=>Kb ds es x/\x.i<ds.length,fun _=>0,fun x=>ds.length-x.i⟩
 else .inv ⟨Ka,fun x=>⟨QNq ds es x,[(1000,Qr x.cur),(1001,Qr es)]⟩,Kb ds es,fun x=>ds.length-x.i,fun _=>0⟩
theorem Kb.step {ds es:List Nat}{x:Ka}(h:Kb ds es x)(_dd:Dig 4294967296 ds)(_de:Dig 4294967296 es)(hi:x.i<ds.length){v b':Nat}(hv:v<4294967296)(hb:b'<=1)
  (he:v+x.b+es.getD x.i 0=ds.getD x.i 0+4294967296*b'):Kb ds es ⟨x.cur.set x.i v,b',x.i+1⟩:=by
 obtain⟨dc,lc,_,_,rest,inv⟩:=h;have gz:(x.cur.set x.i v)[x.i]? =some v:=by rw[Zq];simp;omega
 have gd:ds[x.i]? =some (ds.getD x.i 0):=by rw[Zi,Zg hi];rfl
 have ey:QF 4294967296 (es.take (x.i+1))=QF 4294967296 (es.take x.i)+4294967296^x.i*es.getD x.i 0:=by
  cases hy:es[x.i]? with
  | some d=>rw[QS hy,X9 hy]
  | none=>
   have:es.length<=x.i:=by simpa using hy
   rw[Qd (by omega),Qd (by omega)];simp[Zi,hy]
 refine⟨dc.set hv,by simpa using lc,hi,hb,?_,?_⟩
 ·simp only;rw[Zx (by omega)];have:=congrArg (Yh 1) rest;rwa [Zz,Zz]at this
 ·simp only;rw[QS gz,XM,QS gd,ey,Ya];generalize (4294967296:Nat)^x.i=p at inv⊢;have e2:p*(v+x.b+es.getD x.i 0)=p*(ds.getD x.i 0+4294967296*b'):=by rw[he]
  rw[Zl,Zl,Zl,<-Zp]at e2;omega
set_option maxHeartbeats 1000000 in
theorem QO5 (ds es:List Nat)(dd:Dig 4294967296 ds)(de:Dig 4294967296 es)(hl:ds.length<=1099511627776)(hle:es.length<=ds.length)(hv:QF 4294967296 es<=QF 4294967296 ds):QU (JK (X:=Unit) T6 (oF Tryd.f75) (QJV ds es) Tryd.f75 [wA 1000 ds.length,wA 1001 es.length] [(1000,Qr ds),(1001,Qr es)] (fun _=>True)
 (fun _=>⟨[],[(1000,Qr (fd 4294967296 ds.length (QF 4294967296 ds-QF 4294967296 es))),(1001,Qr es)]⟩)):=by
 refine HV (((∃(x:Ka),(Kb ds es x/\OfNat.ofNat 0=0)/\0=0/\ds.length=ds.length/\0=0/\es.length=es.length/\0=Za x.b/\0=0/\ds.length=ds.length/\Za ds.length=Za ds.length/\0=Za x.i/\98=98/\1=1/\(W ds=W x.cur∨QG (W ds) (W x.cur))/\98=98/\1=1/\(W es=W es∨QG (W es) (W es))/\True)/\∀(x:Ka),Kb ds es x->OfNat.ofNat 0=0->bif decide (Za x.i<Za ds.length)then(0<=Za x.i/\Za x.i<Za ds.length)/\∃(d:Int),ldE (W x.cur) (0+(Za x.i).toNat) 0 1=some [Zo (Ze Zd d)]/\(bif decide (Za x.i<Za es.length)then(0<=Za x.i/\Za x.i<Za es.length)/\∃(d_1:Int),ldE (W es) (0+(Za x.i).toNat) 0 1=some [Zo (Ze Zd d_1)]/\∃(x_1:Ka),((Kb ds es x_1/\x_1.i<ds.length)/\ds.length-x_1.i=ds.length-x.i)/\Za x.i=Za x_1.i/\Zc.wrap (Zc.wrap (Zc.wrap d-Za x.b)-Zc.wrap d_1)=(Za (ds.getD x_1.i 0)-Za x_1.b-Za (es.getD x_1.i 0))%18446744073709551616/\0=0/\ds.length=ds.length/\0=0/\es.length=es.length/\Za x.b=Za x_1.b/\0=0/\ds.length=ds.length/\Za ds.length=Za ds.length/\Za x.i=Za x_1.i/\98=98/\1=1/\(W x.cur=W x_1.cur∨QG (W x.cur) (W x_1.cur))/\98=98/\1=1/\(W es=W es∨QG (W es) (W es))/\True else ∃(x_1:Ka),((Kb ds es x_1/\x_1.i<ds.length)/\ds.length-x_1.i=ds.length-x.i)/\Za x.i=Za x_1.i/\Zc.wrap (Zc.wrap d-Za x.b)=(Za (ds.getD x_1.i 0)-Za x_1.b-Za (es.getD x_1.i 0))%18446744073709551616/\0=0/\ds.length=ds.length/\0=0/\es.length=es.length/\Za x.b=Za x_1.b/\0=0/\ds.length=ds.length/\Za ds.length=Za ds.length/\Za x.i=Za x_1.i/\98=98/\1=1/\(W x.cur=W x_1.cur∨QG (W x.cur) (W x_1.cur))/\98=98/\1=1/\(W es=W es∨QG (W es) (W es))/\True)/\∀(x_1:Ka),Kb ds es x_1/\x_1.i<ds.length->ds.length-x_1.i=ds.length-x.i->(0:Int)<=63/\(0<=Za x_1.i/\Za x_1.i<Za ds.length)/\0+(Za x_1.i).toNat<(W x_1.cur).length/\∃(x':Ka),(Kb ds es x'/\OfNat.ofNat 0=0/\ds.length-x'.i<ds.length-x.i)/\0=0/\ds.length=ds.length/\0=0/\es.length=es.length/\Q0 Zc ((Za (ds.getD x_1.i 0)-Za x_1.b-Za (es.getD x_1.i 0))%18446744073709551616) 63=Za x'.b/\0=0/\ds.length=ds.length/\Za ds.length=Za ds.length/\Zb.wrap (Za x_1.i+1)=Za x'.i/\98=98/\1=1/\((W x_1.cur).set (0+(Za x_1.i).toNat) [Zo (Ze Zd (Zd.wrap ((Za (ds.getD x_1.i 0)-Za x_1.b-Za (es.getD x_1.i 0))%18446744073709551616)))]=W x'.cur∨QG ((W x_1.cur).set (0+(Za x_1.i).toNat) [Zo (Ze Zd (Zd.wrap ((Za (ds.getD x_1.i 0)-Za x_1.b-Za (es.getD x_1.i 0))%18446744073709551616)))]) (W x'.cur))/\98=98/\1=1/\(W es=W es∨QG (W es) (W es))/\True else ∃(_x_1:Unit),True/\98=98/\1=1/\(W x.cur=W (fd 4294967296 ds.length (QF 4294967296 ds-QF 4294967296 es))∨QG (W x.cur) (W (fd 4294967296 ds.length (QF 4294967296 ds-QF 4294967296 es))))/\98=98/\1=1/\(W es=W es∨QG (W es) (W es))/\True)) ?_
 simp only[Zj,R0,R1,Ye,R4,R2];refine⟨⟨⟨ds,0,0⟩,⟨dd,rfl,Nat.zero_le _,by simp,rfl,by simp[QF]⟩,rfl,rfl,.inl rfl⟩,fun x hx=>QE (fun hp=>⟨by simp at hp;omega,?_⟩) (fun hp=> ?_)⟩
 ·obtain⟨cur,b,i⟩:=x;have hp:i<ds.length:=by simpa using hp
  obtain⟨w,hw⟩: ∃w,ds[i]? =some w:=⟨_,Zg hp⟩
  have dw:=dd.get hw;have hb:=hx.hb;have hcw:cur[i]? =some w:=by
   have:=congrArg (fun l:List Nat=>l[0]?) hx.rest;simpa [hw]using this
  simp only at hb⊢;refine⟨w,by simpa using X8 hcw,QE (fun hq=>⟨by simp at hq;omega,?_⟩) (fun hq=> ?_),fun x1 h1 ht=> ?_⟩
  ·have hq:i<es.length:=by simpa using hq
   obtain⟨e,he⟩: ∃e,es[i]? =some e:=⟨_,Zg hq⟩
   have dE:=de.get he;refine⟨e,by simpa using X8 he,⟨cur,b,i⟩,⟨⟨hx,hp⟩,rfl⟩,rfl,?_,rfl,rfl,.inl rfl⟩;simp only[X9 hw,X9 he,JD];omega
  ·have hq: ¬i<es.length:=by simpa using hq
   have e0:es.getD i 0=0:=by simp[Zi,show es[i]? =none by simp;omega]
   refine⟨⟨cur,b,i⟩,⟨⟨hx,hp⟩,rfl⟩,rfl,?_,rfl,rfl,.inl rfl⟩;simp only[X9 hw,e0,JD];omega
  ·obtain⟨cur',b',i'⟩:=x1;obtain⟨h1,h2⟩:=h1;have hs:=fun v c=>h1.step dd de h2 (v:=v) (b':=c);have b1:=dd.getD (i:=i') (by omega);have b2:=de.getD (i:=i') (by omega);have b3:=h1.hb;have b4:=h1.lc;simp only at h2 ht b1 b2 b3 b4 hs⊢;generalize ds.getD i' 0=u at b1 hs;generalize es.getD i' 0=v at b2 hs;obtain⟨q,c,hq,hc,he⟩: ∃q c:Nat,q<4294967296/\c<=1/\q+b'+v=u+4294967296*c:=by
    by_cases h:b'+v<=u
    ·exact⟨u-b'-v,0,by omega,by omega,by omega⟩
    ·exact⟨u+4294967296-b'-v,1,by omega,by omega,by omega⟩
   refine⟨by omega,by omega,by rw[Jg];simp;omega,_,⟨hs q c hq hc he,by simp only;omega⟩,?_,?_,?_⟩
   ·rw[X2 (by decide) (by omega)];simp only[show(63:Int).toNat=63 from rfl];omega
   ·rw[w64 (by omega)];simp
   ·have:Zd.wrap (((u:Int)-b'-v) % 18446744073709551616)=(q:Int):=by rw[Zv];omega
    rw[this];exact .inl (by simpa using Js _ _ _)
 ·obtain⟨cur,b,i⟩:=x;have hp: ¬i<ds.length:=by simpa using hp
  have hi:=hx.hi;have lc:=hx.lc;have inv:=hx.inv;have hb:=hx.hb;have dc:=hx.dc;simp only at hi lc inv hb dc⊢;have:i=ds.length:=by omega
  subst this;rw[Qd (l:=cur) (by omega),Qd (l:=es) hle,Qd (l:=ds) (by omega)]at inv;have hlt:=YY dc;rw[lc]at hlt;have hb0:b=0:=by
   rcases Yc.1 hb with h | h
   ·exact h
   ·subst h;omega
  subst hb0;have hcv:QF 4294967296 cur=QF 4294967296 ds-QF 4294967296 es:=by omega
  exact⟨(),.inl (by rw[<-hcv,<-lc,We dc (by omega)])⟩
def QEp:YA:=fun as0 H _=>match as0 with
 | [.x false [.w k 0 n],.x false [.w k2 0 n2]]=>match H k,H k2 with
  | some (.row t 1 xs),some (.row t2 1 ys)=>bif t.beq 98&&t2.beq 98&& !(k.beq k2)then
    some fun K=> ∃ds es,xs=W ds/\ys=W es/\n=ds.length/\n2=es.length/\Dig 4294967296 ds/\Dig 4294967296 es/\ds.length<=1099511627776/\es.length<=ds.length/\QF 4294967296 es<=QF 4294967296 ds/\
     K (.t []) (Xc [(1000,k),(1001,k2)] (QO [(1000,Qr (fd 4294967296 ds.length (QF 4294967296 ds-QF 4294967296 es))),(1001,Qr es)]) H)
    else none
  | _,_=>none
 | _=>none
def L7:LC:=(51,QF4)::L6
def M7:List (Nat×YA):=(75,QEp)::M2
noncomputable def T7:Qh:=mkT L7 M7 X3
theorem QCv {H:HP}{k k2:Nat}{b b2:Blk}(h:H k=some b)(h2:H k2=some b2)(hk:k≠k2)(l:XI (some b)=true)(l2:XI (some b2)=true)(f:Ug b=true)(f2:Ug b2=true):Hw [(1000,k),(1001,k2)] H (QO [(1000,b),(1001,b2)]):=by
 refine⟨by simp,by simpa using hk,fun p hp=> ?_,fun c hc=> ?_⟩
 ·simp at hp;rcases hp with rfl | rfl
  ·exact⟨b,rfl,h,l,f⟩
  ·exact⟨b2,rfl,h2,l2,f2⟩
 ·simp only[QO]at hc;cases h1:c.beq 1000 with
  | true=>simp[Zn h1]
  | false=>
   rw[h1]at hc;cases h2:c.beq 1001 with
   | true=>simp[Zn h2]
   | false=>rw[h2]at hc;simp at hc
theorem GB {H:HP}{k:Nat}{b:Blk}(h:H k=some b)(l:XI (some b)=true)(f:Ug b=true):Hw [(1000,k)] H (QO [(1000,b)]):=by
 refine⟨by simp,by simp,fun p hp=> ?_,fun c hc=> ?_⟩
 ·simp at hp;subst hp;exact⟨b,rfl,h,l,f⟩
 ·simp only[QO]at hc;cases h1:c.beq 1000 with
  | true=>simp[Zn h1]
  | false=>rw[h1]at hc;simp at hc
theorem G5 {k k2:Nat}(hk:k≠k2):lkB [(1000,k),(1001,k2)] k=some 1000/\lkB [(1000,k),(1001,k2)] k2=some 1001:=by
 constructor
 ·simp[lkB]
 ·have:k2.beq k=false:=by
   cases h:k2.beq k with
   | false=>rfl
   | true=>exact absurd (Zn h).symm hk
  simp[lkB,this]
theorem QMG {g:Nat}{tab:List Value}:J8 Tryd.prog g tab 75 QEp:=by
 refine⟨Qm Tryd.func75 (by kernel_rfl),fun l H d T hT K hK=> ?_⟩;unfold QEp at hT;split at hT
 ·rename_i k n k2 n2;split at hT
  ·rename_i t xs t2 ys e1 e2;cases hb:t.beq 98&&t2.beq 98&& !(k.beq k2)with
   | false=>rw[hb]at hT;cases hT
   | true=>
    rw[hb]at hT;cases hT
    simp only[Bool.and_eq_true,Bool.not_eq_true']at hb;obtain⟨⟨ht,ht2⟩,hk⟩:=hb;have ht:=Zn ht;have ht2:=Zn ht2;have hk:k≠k2:=fun e=>by subst e;simp at hk
    subst ht ht2;obtain⟨ds,es,rfl,rfl,rfl,rfl,dd,de,hl,hle,hv,hK⟩:=hK;refine Xp (R:=[(1000,k),(1001,k2)]) (N:=[]) (Hl:=[(1000,Qr ds),(1001,Qr es)]) QQe QW Tryd.func75 (by kernel_rfl) (by kernel_rfl) (by rfl)
     (as0:=[wA 1000 ds.length,wA 1001 es.length]) ?_ (QCv e1 e2 hk rfl rfl rfl rfl) rfl (by simp) (by simp) (fun _ h=>by cases h) (fun x=>⟨fun p hp=> ?_,fun p hp b hb=> ?_⟩) (QO5 ds es dd de hl hle hv) (fun x _=> ?_)
    ·simp[Jf,Je,JJ,(G5 hk).1,(G5 hk).2,wA]
    ·simp at hp;rcases hp with rfl | rfl
     ·exact fun h=>by have h':some (Qr _)=none:=h;cases h'
     ·exact fun h=>by have h':some (Qr _)=none:=h;cases h'
    ·simp at hp;rcases hp with rfl | rfl
     ·have h':some (Qr _)=some b:=hb;cases h';rfl
     ·have h':some (Qr _)=some b:=hb;cases h';rfl
    ·exact⟨_,rfl,hK⟩
  ·cases hT
 ·cases hT
theorem QQg {g:Nat}{tab:List Value}:CtrsOK Tryd.prog g tab L7:= .cons ok_Add QQd
theorem QMH {g:Nat}{tab:List Value}:CtrMsOK Tryd.prog g tab M7:= .cons QMG QHc
theorem QRd {g:Nat}{tab:List Value}:Q5 Tryd.prog g tab T7:=Qq QQg QMH Uw
def QCw (m a n b:Nat)(K:AV->Prop):Prop:=Qc T7 (oF Tryd.f61) noL Tryd.f61 [bA m a,bA n b] K
theorem QCx (m:Nat)(a:Nat)(n:Nat)(b:Nat)(K:AV->Prop):QCw m a n b K=(bif decide (YR m n<0)then K (AV.t [(false,[Zo (Yq (Zr (Zw [])))]),(false,[Zo (Ze Zb 1)])])else a<=1099511627776/\b<=1099511627776/\∃(ds:List Nat)(es:List Nat),W (fd 4294967296 (wl m) m)=W ds/\W (fd 4294967296 (wl n) n)=W es/\wl m=ds.length/\wl n=es.length/\(∀(d:Nat),d∈ds->d<4294967296)/\(∀(d:Nat),d∈es->d<4294967296)/\ds.length<=1099511627776/\es.length<=ds.length/\QF 4294967296 es<=QF 4294967296 ds/\∃(ds_1:List Nat),Zu (wl m) (Yh 0 (W (fd 4294967296 ds.length (QF 4294967296 ds-QF 4294967296 es))))=W ds_1/\(∀(d:Nat),d∈ds_1->d<4294967296)/\ds_1.length<=1099511627776/\K (AV.t [(false,[Ch.b (QF 4294967296 ds_1) (32*ds_1.length)]),(false,[Zo (Ze Zb 0)])])):=by kernel_rfl
def NatErr (m n:Nat)(c:Int)(av:AV):Prop:= ∃x,av= .t [(false,[x]),(false,[.v (.int .i64 c)])]/\NatIs m n (.x false [x])
theorem NatErr.conc {w:World}{O:Nat->Prop}{ρ:Env}{m n:Nat}{c:Int}{av:AV}{v:Value}(h:NatErr m n c av)(hc:ConcV w O ρ av v):ConcV w O ρ (.t [(false,[.b m n]),(false,[.v (.int .i64 c)])]) v:=by
 obtain⟨x,rfl,hx⟩:=h;obtain⟨vs,h1,h2⟩:=hc;cases h1 with
 | cons h1 h3=>exact⟨_,.cons (hx.conc (av:= .x false [x]) h1) h3,h2⟩
theorem QCy {P:Program}{g:Nat}{tab:List Value}{f:Nat}{l:List AV}{m n:Nat}{c:Int}{K:AV->Prop}(h:Eng.Spec P g tab f l (NatErr m n c))(hk:K (.t [(false,[.b m n]),(false,[.v (.int .i64 c)])])):Eng.Spec P g tab f l K:=
 Eng.Spec.res h fun _ _ _ _ hn hc=>⟨_,hk,hn.conc hc⟩
theorem U8 {m n:Nat}(h:n<=m):wl n<=wl m:=by
 have h1:(QA n).length<=(QA m).length:=Qa.2 (Yo h (Q8 m));unfold wl;omega
theorem QQh (m a n b:Nat)(ha:a<=549755813888)(hb:b<=549755813888)(hm:m<2^a)(_hn:n<2^b):QU (QCw m a n b (NatErr (bif decide (m<n)then 0 else m-n) a (bif decide (m<n)then 1 else 0))):=by
 refine⟨?_⟩;rw[QCx];have hwm:=GA hm;have hpa:0<2^a:=Yp (by omega);refine QE (fun hp=> ?_) (fun hp=> ?_)
 ·have h:m<n:=by
   unfold YR at hp;rcases Nat.lt_or_ge m n with h | h
   ·exact h
   ·rw[if_neg (by omega)]at hp;split at hp<;>simp at hp
  simp only[h,decide_true,R7];exact⟨_,rfl,hpa,.inr ⟨[],rfl,rfl⟩⟩
 ·have h: ¬m<n:=by
   intro h;unfold YR at hp;rw[if_pos h]at hp;simp at hp
  simp only[h,decide_false,R8];have hv:QF 4294967296 (fd 4294967296 (wl m) (m-n))=m-n:=Qt (Yo (Nat.sub_le _ _) (X5 m));refine⟨by omega,by omega,_,_,rfl,rfl,by rw[Qj],by rw[Qj],Dig.fd (by omega),Dig.fd (by omega),by rw[Qj];omega,by rw[Qj,Qj];exact U8 (by omega),by rw[Qt (X5 m),Qt (X5 n)];omega,fd 4294967296 (wl m) (m-n),?_,Dig.fd (by omega),by rw[Qj];omega,_,rfl,?_⟩
  ·rw[Qt (X5 m),Qt (X5 n),Qj,Yv,UN,Yb (by rw[Qj];omega)]
  ·rw[hv];exact .b (by omega)
def QF5:Ctr
 | [.x false [.b m a],.x false [.b n b]]=>some fun K=>(a<=549755813888/\b<=549755813888)/\K (.t [(false,[.b (bif decide (m<n)then 0 else m-n) a]),(false,[.v (.int .i64 (bif decide (m<n)then 1 else 0))])])
 | _=>none
theorem ok_Sub {g:Nat}{tab:List Value}:CtrOK Tryd.prog g tab 61 QF5:=by
 refine⟨Qm Tryd.func61 (by kernel_rfl),fun l T hT K hK=> ?_⟩;unfold QF5 at hT;split at hT
 ·rename_i m a n b;cases hT
  exact YZ fun w O ρ vals hc=>QCy (Qn QRd QW Tryd.func61 (by kernel_rfl) (by kernel_rfl) (by rfl) (QQh m a n b hK.1.1 hK.1.2 (Jw hc) (JI hc))) hK.2
 ·cases hT
def L8:LC:=(61,QF5)::L7
noncomputable def T8:Qh:=mkT L8 M7 X3
theorem QQi {g:Nat}{tab:List Value}:CtrsOK Tryd.prog g tab L8:= .cons ok_Sub QQg
theorem QQj {g:Nat}{tab:List Value}:Q5 Tryd.prog g tab T8:=Qq QQi QMH Uw
end Go.Proofs
namespace Go.Proofs
open Go Go.Eng
structure QCz where
 out:List Nat
 i:Nat
structure QC0 (xs ys:List Nat)(x:QCz):Prop where
 dz:Dig 4294967296 x.out
 lz:x.out.length=xs.length+ys.length
 hi:x.i<=xs.length
 zero:x.out.drop (x.i+ys.length)=Zh (xs.length-x.i) 0
 inv:QF 4294967296 (x.out.take (x.i+ys.length))=QF 4294967296 (xs.take x.i)*QF 4294967296 ys
structure G6 where
 out:List Nat
 i:Nat
 carry:Nat
 k:Nat
structure Uy (xs ys:List Nat)(x:G6):Prop where
 dz:Dig 4294967296 x.out
 lz:x.out.length=xs.length+ys.length
 hi:x.i<xs.length
 hk:x.k<=ys.length
 hc:x.carry<4294967296
 zero:x.out.drop (x.i+ys.length)=Zh (xs.length-x.i) 0
 inv:QF 4294967296 (x.out.take (x.i+ys.length))+4294967296^(x.i+x.k)*x.carry=QF 4294967296 (xs.take x.i)*QF 4294967296 ys+4294967296^x.i*(xs.getD x.i 0*QF 4294967296 (ys.take x.k))
def QQk (xs ys:List Nat)(i:Nat):List (Nat×AV):=[(5,wA 30 xs.length),(6,wA 32 ys.length),(7,wA 38 (xs.length+ys.length)),(39,wA 30 xs.length),(40,iA .i64 xs.length),(41,iA .i64 i)]
def QQl (xs ys out:List Nat):List (Nat×Blk):=[(30,Qr xs),(32,Qr ys),(38,Qr out)]
def QF6 (xs ys:List Nat):LI:=fun id=>bif id.beq 11 then .inv ⟨G6,fun x=>⟨(8,iA .i64 x.i)::(9,iA .u32 (xs.getD x.i 0:Nat))::(10,iA .u64 x.carry)::(46,wA 32 ys.length)::(47,iA .i64 ys.length)::(48,iA .i64 x.k)::QQk xs ys x.i,QQl xs ys x.out⟩,
  Uy xs ys,fun x=>ys.length-x.k,fun x=>xs.length-x.i⟩
 else .inv ⟨QCz,fun x=>⟨QQk xs ys x.i,QQl xs ys x.out⟩,QC0 xs ys,fun x=>xs.length-x.i,fun _=>0⟩
def GC (m a n b:Nat)(K:AV->Prop):Prop:=Qc T8 (oF Tryd.f36) (QF6 (fd 4294967296 (wl m) m) (fd 4294967296 (wl n) n)) Tryd.f36 [bA m a,bA n b] K
theorem Uk (m:Nat)(a:Nat)(n:Nat)(b:Nat)(K:AV->Prop):GC m a n b K=(bif decide (Zb.wrap (Za (QA m).length+Za (QA n).length)<=8)then m<18446744073709551616/\n<18446744073709551616/\(0<=Zc.wrap (Za m*Za n)/\Zc.wrap (Za m*Za n)<18446744073709551616)/\K (AV.x false [Ch.b (Zc.wrap (Za m*Za n)).toNat 64])else a<=1099511627776/\b<=1099511627776/\(0<=Zb.wrap (Za (wl m)+Za (wl n))/\Zb.wrap (Za (wl m)+Za (wl n))<=Zb.wrap (Za (wl m)+Za (wl n))/\4*Zb.wrap (Za (wl m)+Za (wl n))<=281474976710656/\Zb.wrap (Za (wl m)+Za (wl n))<=9223372036854775807)/\(∃(x:QCz),(QC0 (fd 4294967296 (wl m) m) (fd 4294967296 (wl n) n) x/\OfNat.ofNat 0=0)/\0=0/\wl m=(fd 4294967296 (wl m) m).length/\0=0/\wl n=(fd 4294967296 (wl n) n).length/\0=0/\(Zb.wrap (Za (wl m)+Za (wl n))).toNat=(fd 4294967296 (wl m) m).length+(fd 4294967296 (wl n) n).length/\0=0/\wl m=(fd 4294967296 (wl m) m).length/\Za (wl m)=Za (fd 4294967296 (wl m) m).length/\0=Za x.i/\98=98/\1=1/\(W (fd 4294967296 (wl m) m)=W (fd 4294967296 (wl m) m)∨QG (W (fd 4294967296 (wl m) m)) (W (fd 4294967296 (wl m) m)))/\98=98/\1=1/\(W (fd 4294967296 (wl n) n)=W (fd 4294967296 (wl n) n)∨QG (W (fd 4294967296 (wl n) n)) (W (fd 4294967296 (wl n) n)))/\98=98/\1=1/\(Zh (Zb.wrap (Za (wl m)+Za (wl n))).toNat [Zo (Ze Zd 0)]=W x.out∨QG (Zh (Zb.wrap (Za (wl m)+Za (wl n))).toNat [Zo (Ze Zd 0)]) (W x.out))/\True)/\∀(x:QCz),QC0 (fd 4294967296 (wl m) m) (fd 4294967296 (wl n) n) x->OfNat.ofNat 0=0->bif decide (Za x.i<Za (fd 4294967296 (wl m) m).length)then(0<=Za x.i/\Za x.i<Za (fd 4294967296 (wl m) m).length)/\∃(d:Int),ldE (W (fd 4294967296 (wl m) m)) (0+(Za x.i).toNat) 0 1=some [Zo (Ze Zd d)]/\(∃(x_1:G6),(Uy (fd 4294967296 (wl m) m) (fd 4294967296 (wl n) n) x_1/\(fd 4294967296 (wl m) m).length-x_1.i=(fd 4294967296 (wl m) m).length-x.i)/\Za x.i=Za x_1.i/\d=Za ((fd 4294967296 (wl m) m).getD x_1.i 0)/\0=Za x_1.carry/\0=0/\(fd 4294967296 (wl n) n).length=(fd 4294967296 (wl n) n).length/\Za (fd 4294967296 (wl n) n).length=Za (fd 4294967296 (wl n) n).length/\0=Za x_1.k/\0=0/\(fd 4294967296 (wl m) m).length=(fd 4294967296 (wl m) m).length/\0=0/\(fd 4294967296 (wl n) n).length=(fd 4294967296 (wl n) n).length/\0=0/\(fd 4294967296 (wl m) m).length+(fd 4294967296 (wl n) n).length=(fd 4294967296 (wl m) m).length+(fd 4294967296 (wl n) n).length/\0=0/\(fd 4294967296 (wl m) m).length=(fd 4294967296 (wl m) m).length/\Za (fd 4294967296 (wl m) m).length=Za (fd 4294967296 (wl m) m).length/\Za x.i=Za x_1.i/\98=98/\1=1/\(W (fd 4294967296 (wl m) m)=W (fd 4294967296 (wl m) m)∨QG (W (fd 4294967296 (wl m) m)) (W (fd 4294967296 (wl m) m)))/\98=98/\1=1/\(W (fd 4294967296 (wl n) n)=W (fd 4294967296 (wl n) n)∨QG (W (fd 4294967296 (wl n) n)) (W (fd 4294967296 (wl n) n)))/\98=98/\1=1/\(W x.out=W x_1.out∨QG (W x.out) (W x_1.out))/\True)/\∀(x_1:G6),Uy (fd 4294967296 (wl m) m) (fd 4294967296 (wl n) n) x_1->(fd 4294967296 (wl m) m).length-x_1.i=(fd 4294967296 (wl m) m).length-x.i->bif decide (Za x_1.k<Za (fd 4294967296 (wl n) n).length)then(0<=Za x_1.k/\Za x_1.k<Za (fd 4294967296 (wl n) n).length)/\∃(d:Int),ldE (W (fd 4294967296 (wl n) n)) (0+(Za x_1.k).toNat) 0 1=some [Zo (Ze Zd d)]/\(0<=Zb.wrap (Za x_1.i+Za x_1.k)/\Zb.wrap (Za x_1.i+Za x_1.k)<Za ((fd 4294967296 (wl m) m).length+(fd 4294967296 (wl n) n).length))/\∃(d_1:Int),ldE (W x_1.out) (0+(Zb.wrap (Za x_1.i+Za x_1.k)).toNat) 0 1=some [Zo (Ze Zd d_1)]/\(0<=Zb.wrap (Za x_1.i+Za x_1.k)/\Zb.wrap (Za x_1.i+Za x_1.k)<Za ((fd 4294967296 (wl m) m).length+(fd 4294967296 (wl n) n).length))/\0+(Zb.wrap (Za x_1.i+Za x_1.k)).toNat<(W x_1.out).length/\(0:Int)<=32/\∃(x':G6),(Uy (fd 4294967296 (wl m) m) (fd 4294967296 (wl n) n) x'/\(fd 4294967296 (wl m) m).length-x'.i=(fd 4294967296 (wl m) m).length-x.i/\(fd 4294967296 (wl n) n).length-x'.k<(fd 4294967296 (wl n) n).length-x_1.k)/\Za x_1.i=Za x'.i/\Za ((fd 4294967296 (wl m) m).getD x_1.i 0)=Za ((fd 4294967296 (wl m) m).getD x'.i 0)/\Q0 Zc (Zc.wrap (Za x_1.carry+Zc.wrap (Zc.wrap (Zc.wrap (Za ((fd 4294967296 (wl m) m).getD x_1.i 0))*Zc.wrap d)+Zc.wrap d_1))) 32=Za x'.carry/\0=0/\(fd 4294967296 (wl n) n).length=(fd 4294967296 (wl n) n).length/\Za (fd 4294967296 (wl n) n).length=Za (fd 4294967296 (wl n) n).length/\Zb.wrap (Za x_1.k+1)=Za x'.k/\0=0/\(fd 4294967296 (wl m) m).length=(fd 4294967296 (wl m) m).length/\0=0/\(fd 4294967296 (wl n) n).length=(fd 4294967296 (wl n) n).length/\0=0/\(fd 4294967296 (wl m) m).length+(fd 4294967296 (wl n) n).length=(fd 4294967296 (wl m) m).length+(fd 4294967296 (wl n) n).length/\0=0/\(fd 4294967296 (wl m) m).length=(fd 4294967296 (wl m) m).length/\Za (fd 4294967296 (wl m) m).length=Za (fd 4294967296 (wl m) m).length/\Za x_1.i=Za x'.i/\98=98/\1=1/\(W (fd 4294967296 (wl m) m)=W (fd 4294967296 (wl m) m)∨QG (W (fd 4294967296 (wl m) m)) (W (fd 4294967296 (wl m) m)))/\98=98/\1=1/\(W (fd 4294967296 (wl n) n)=W (fd 4294967296 (wl n) n)∨QG (W (fd 4294967296 (wl n) n)) (W (fd 4294967296 (wl n) n)))/\98=98/\1=1/\((W x_1.out).set (0+(Zb.wrap (Za x_1.i+Za x_1.k)).toNat) [Zo (Ze Zd (Zd.wrap (Zc.wrap (Za x_1.carry+Zc.wrap (Zc.wrap (Zc.wrap (Za ((fd 4294967296 (wl m) m).getD x_1.i 0))*Zc.wrap d)+Zc.wrap d_1)))))]=W x'.out∨QG ((W x_1.out).set (0+(Zb.wrap (Za x_1.i+Za x_1.k)).toNat) [Zo (Ze Zd (Zd.wrap (Zc.wrap (Za x_1.carry+Zc.wrap (Zc.wrap (Zc.wrap (Za ((fd 4294967296 (wl m) m).getD x_1.i 0))*Zc.wrap d)+Zc.wrap d_1)))))]) (W x'.out))/\True else(0<=Zb.wrap (Za x_1.i+Za (fd 4294967296 (wl n) n).length)/\Zb.wrap (Za x_1.i+Za (fd 4294967296 (wl n) n).length)<Za ((fd 4294967296 (wl m) m).length+(fd 4294967296 (wl n) n).length))/\0+(Zb.wrap (Za x_1.i+Za (fd 4294967296 (wl n) n).length)).toNat<(W x_1.out).length/\∃(x':QCz),(QC0 (fd 4294967296 (wl m) m) (fd 4294967296 (wl n) n) x'/\OfNat.ofNat 0=0/\(fd 4294967296 (wl m) m).length-x'.i<(fd 4294967296 (wl m) m).length-x.i)/\0=0/\(fd 4294967296 (wl m) m).length=(fd 4294967296 (wl m) m).length/\0=0/\(fd 4294967296 (wl n) n).length=(fd 4294967296 (wl n) n).length/\0=0/\(fd 4294967296 (wl m) m).length+(fd 4294967296 (wl n) n).length=(fd 4294967296 (wl m) m).length+(fd 4294967296 (wl n) n).length/\0=0/\(fd 4294967296 (wl m) m).length=(fd 4294967296 (wl m) m).length/\Za (fd 4294967296 (wl m) m).length=Za (fd 4294967296 (wl m) m).length/\Zb.wrap (Za x_1.i+1)=Za x'.i/\98=98/\1=1/\(W (fd 4294967296 (wl m) m)=W (fd 4294967296 (wl m) m)∨QG (W (fd 4294967296 (wl m) m)) (W (fd 4294967296 (wl m) m)))/\98=98/\1=1/\(W (fd 4294967296 (wl n) n)=W (fd 4294967296 (wl n) n)∨QG (W (fd 4294967296 (wl n) n)) (W (fd 4294967296 (wl n) n)))/\98=98/\1=1/\((W x_1.out).set (0+(Zb.wrap (Za x_1.i+Za (fd 4294967296 (wl n) n).length)).toNat) [Zo (Ze Zd (Zd.wrap (Za x_1.carry)))]=W x'.out∨QG ((W x_1.out).set (0+(Zb.wrap (Za x_1.i+Za (fd 4294967296 (wl n) n).length)).toNat) [Zo (Ze Zd (Zd.wrap (Za x_1.carry)))]) (W x'.out))/\True else ∃(ds:List Nat),Zu ((fd 4294967296 (wl m) m).length+(fd 4294967296 (wl n) n).length) (Yh 0 (W x.out))=W ds/\(∀(d:Nat),d∈ds->d<4294967296)/\ds.length<=1099511627776/\K (AV.x false [Ch.b (QF 4294967296 ds) (32*ds.length)])):=by kernel_rfl
theorem Uy.step {xs ys:List Nat}{x:G6}(h:Uy xs ys x)(dx:Dig 4294967296 xs)(dy:Dig 4294967296 ys)(hk:x.k<ys.length){t:Nat}(ht:t=x.carry+(xs.getD x.i 0*ys.getD x.k 0+x.out.getD (x.i+x.k) 0)):
  Uy xs ys ⟨x.out.set (x.i+x.k) (t % 4294967296),x.i,t/4294967296,x.k+1⟩:=by
 obtain⟨dz,lz,hi,_,hc,zero,inv⟩:=h;have b1:=dx.getD (i:=x.i) (by omega);have b2:=dy.getD (i:=x.k) (by omega);have b3:=dz.getD (i:=x.i+x.k) (by omega);have gz:(x.out.take (x.i+ys.length))[x.i+x.k]? =some (x.out.getD (x.i+x.k) 0):=by
  rw[List.getElem?_take,if_pos (by omega),Zi,Zg (by omega)];rfl
 have gy:ys[x.k]? =some (ys.getD x.k 0):=by rw[Zi,Zg hk];rfl
 have hs:=Kq (B:=4294967296) (v:=t % 4294967296) gz;have ht2:t<4294967296*4294967296:=by
  have:xs.getD x.i 0*ys.getD x.k 0<=4294967295*4294967295:=Yi (by omega) (by omega);omega
 refine⟨dz.set (Yj _ (by omega)),by simpa using lz,hi,hk,Ym ht2,?_,?_⟩
 ·simp only;rw[Zx (by omega)];exact zero
 ·simp only;rw[List.take_set,QS gy,show x.i+(x.k+1)=x.i+x.k+1 by omega,Ya];have e3:4294967296^(x.i+x.k)=4294967296^x.i*4294967296^x.k:=Yl _ _ _;have e4:4294967296^(x.i+x.k)*t=4294967296^(x.i+x.k)*x.carry+4294967296^(x.i+x.k)*(xs.getD x.i 0*ys.getD x.k 0)+4294967296^(x.i+x.k)*x.out.getD (x.i+x.k) 0:=by
   rw[ht,Zl,Zl,Nat.add_assoc]
  have e5:4294967296^(x.i+x.k)*t=4294967296^(x.i+x.k)*4294967296*(t/4294967296)+4294967296^(x.i+x.k)*(t % 4294967296):=by
   conv=>lhs;rw[<-Yf t 4294967296]
   rw[Zl,Zp]
  have e6:4294967296^x.i*(xs.getD x.i 0*(QF 4294967296 (ys.take x.k)+4294967296^x.k*ys.getD x.k 0))=4294967296^x.i*(xs.getD x.i 0*QF 4294967296 (ys.take x.k))+4294967296^(x.i+x.k)*(xs.getD x.i 0*ys.getD x.k 0):=by
   rw[e3];grind
  rw[e6];omega
theorem Uy.done {xs ys:List Nat}{x:G6}(h:Uy xs ys x)(hk:x.k=ys.length):QC0 xs ys ⟨x.out.set (x.i+ys.length) x.carry,x.i+1⟩:=by
 obtain⟨dz,lz,hi,_,hc,zero,inv⟩:=h;rw[hk]at inv;have gz:(x.out.set (x.i+ys.length) x.carry)[x.i+ys.length]? =some x.carry:=by rw[Zq];simp;omega
 have gx:xs[x.i]? =some (xs.getD x.i 0):=by rw[Zi,Zg hi];rfl
 refine⟨dz.set hc,by simpa using lz,hi,?_,?_⟩
 ·simp only;rw[Zx (by omega)];have:=congrArg (Yh 1) zero;rw[Zz,List.drop_replicate]at this;rw[show x.i+1+ys.length=x.i+ys.length+1 by omega,this];congr 1
 ·simp only;rw[show x.i+1+ys.length=x.i+ys.length+1 by omega,QS gz,XM,QS gx,inv,Qd (Yu _)];grind
theorem QNr (m a n b:Nat)(K:AV->Prop)(ha:a<=274877906944)(hb:b<=274877906944)(hm:m<2^a)(hn:n<2^b)(hK: ∀av,NatIs (m*n) (a+b) av->K av):QU (GC m a n b K):=by
 refine⟨?_⟩;rw[Uk];have hlt:m*n<2^(a+b):=by rw[Yl];exact Nat.mul_lt_mul'' hm hn
 have hwm:=GA hm;have hwn:=GA hn;have lm:=XB hm;have ln:=XB hn;refine QE (fun h1=> ?_) (fun h1=> ?_)
 ·have h1:=R5 h1;simp only[Zj]at h1⊢;rw[w64 (by omega)]at h1;have h1:(QA m).length+(QA n).length<=8:=by omega
  have k1:=Q8 m;have k2:=Q8 n;have k3:m*n<256^((QA m).length+(QA n).length):=by rw[Yl];exact Nat.mul_lt_mul'' k1 k2
  have k4:(256:Nat)^((QA m).length+(QA n).length)<=256^8:=Zt (by omega) h1;have k5:(256:Nat)^(QA m).length<=256^8:=Zt (by omega) (by omega);have k6:(256:Nat)^(QA n).length<=256^8:=Zt (by omega) (by omega);have e1:((m:Int)*n)=((m*n:Nat):Int):=by simp
  rw[e1,XV (by omega),Zm];exact⟨by omega,by omega,by omega,hK _ (.b hlt)⟩
 ·have vx:QF 4294967296 (fd 4294967296 (wl m) m)=m:=Qt (X5 m);have vy:QF 4294967296 (fd 4294967296 (wl n) n)=n:=Qt (X5 n);have dx:Dig 4294967296 (fd 4294967296 (wl m) m):=Dig.fd (by omega);have dy:Dig 4294967296 (fd 4294967296 (wl n) n):=Dig.fd (by omega);have lx:(fd 4294967296 (wl m) m).length=wl m:=Qj;have ly:(fd 4294967296 (wl n) n).length=wl n:=Qj;generalize fd 4294967296 (wl m) m=xs at*;generalize fd 4294967296 (wl n) n=ys at*;simp only[Zj,R0,R1,Ye,R4,R2];rw[w64 (by omega)];have e1:((wl m:Int)+wl n).toNat=xs.length+ys.length:=by omega
  simp only[e1,lx,ly,R0];rw[<-lx,<-ly];refine⟨by omega,by omega,⟨by omega,by omega,by omega⟩,⟨⟨Zh (xs.length+ys.length) 0,0⟩,⟨Dig.zeros (by omega),by simp,by simp,by simp,by simp[QF,KV,List.take_replicate]⟩,rfl,.inl (U5 _)⟩,fun x hx=>QE (fun hp=> ?_) (fun hp=> ?_)⟩
  ·obtain⟨out,i⟩:=x;have hp:i<xs.length:=by simpa using hp
   obtain⟨w,hw⟩: ∃w,xs[i]? =some w:=⟨_,Zg hp⟩
   simp only at hx⊢;refine⟨by omega,w,by simpa using X8 hw,⟨⟨out,i,0,0⟩,⟨⟨hx.dz,hx.lz,hp,by simp,by simp,hx.zero,?_⟩,rfl⟩,rfl,by simp only;rw[X9 hw],rfl,rfl,rfl,.inl rfl⟩,fun y hy ht=>QE (fun hq=> ?_) (fun hq=> ?_)⟩
   ·have:=hx.inv;simp only at this⊢;rw[this];simp[QF]
   ·obtain⟨out',i',carry,k⟩:=y;have hq:k<ys.length:=by simpa using hq
    obtain⟨v,hv⟩: ∃v,ys[k]? =some v:=⟨_,Zg hq⟩
    have hs:=fun t=>hy.step dx dy hq (t:=t);have b1:=dx.getD (i:=i') (by omega);have b2:=dy.get hv;have b3:=hy.dz.getD (i:=i'+k) (by omega);have b4:=hy.hc;have b5:=hy.hi;have b6:=hy.lz;have gz:out'[i'+k]? =some (out'.getD (i'+k) 0):=by rw[Zi,Zg (by simp only at b5 b6;omega)];rfl
    simp only at hs b1 b2 b3 b4 b5 b6 ht⊢;rw[X9 hv]at hs;have f1:Zb.wrap ((i':Int)+k)=((i'+k:Nat):Int):=by rw[w64 (by omega)];simp
    simp only[f1,Zm];have hm1:xs.getD i' 0*v<=4294967295*4294967295:=Yi (by omega) (by omega);have f2:Zc.wrap ((carry:Int)+Zc.wrap (Zc.wrap (Zc.wrap ((xs.getD i' 0:Nat):Int)*Zc.wrap (v:Int))+Zc.wrap ((out'.getD (i'+k) 0:Nat):Int)))=((carry+(xs.getD i' 0*v+out'.getD (i'+k) 0):Nat):Int):=by
     have e0:(((xs.getD i' 0:Nat):Int)*(v:Int))=((xs.getD i' 0*v:Nat):Int):=by simp
     rw[XV (n:=((xs.getD i' 0:Nat):Int)) (by omega),XV (n:=(v:Int)) (by omega),XV (n:=((out'.getD (i'+k) 0:Nat):Int)) (by omega),e0];generalize xs.getD i' 0*v=p at hm1⊢;rw[XV (n:=(p:Int)) (by omega),XV (n:=(p:Int)+_) (by omega),XV (by omega)];simp
    refine⟨by omega,v,by simpa using X8 hv,by omega,_,X8 gz,by omega,by rw[Jg];omega,by omega,_,⟨hs _ rfl,ht,by simp only;omega⟩,?_⟩;rw[f2,X2 (by decide) (by omega),w64 (by omega)];generalize carry+(xs.getD i' 0*v+out'.getD (i'+k) 0)=t;have e2:Zd.wrap (t:Int)=((t % 4294967296:Nat):Int):=by rw[Zv];simp
    rw[e2,Js];refine⟨rfl,rfl,?_,by simp,rfl,.inl rfl⟩;simp only[show(32:Int).toNat=32 from rfl];omega
   ·obtain⟨out',i',carry,k⟩:=y;have hq: ¬k<ys.length:=by simpa using hq
    have hk:=hy.hk;have b4:=hy.hc;have b5:=hy.hi;have b6:=hy.lz;have hd:=hy.done (by simp only at hk⊢;omega);simp only at b4 b5 b6 ht hd⊢;have f1:Zb.wrap ((i':Int)+ys.length)=((i'+ys.length:Nat):Int):=by rw[w64 (by omega)];simp
    simp only[f1,Zm];refine⟨by omega,by rw[Jg];omega,_,⟨hd,by simp only;omega⟩,?_⟩;rw[w64 (by omega),QEd (by omega),Js];exact⟨by simp,.inl rfl⟩
  ·obtain⟨out,i⟩:=x;have hp: ¬i<xs.length:=by simpa using hp
   have hi:=hx.hi;have lz:=hx.lz;have inv:=hx.inv;simp only at hi lz inv⊢;have:i=xs.length:=by omega
   subst this;refine⟨out,?_,hx.dz,by omega,?_⟩
   ·rw[Yv,UN,Yb (by omega)]
   ·rw[Qd (l:=out) (by omega),Qd (l:=xs) (by omega),vx,vy]at inv;rw[inv];exact hK _ (.b hlt)
def QC1:Ctr
 | [.x false [.b m a],.x false [.b n b]]=>some fun K=>(a<=274877906944/\b<=274877906944)/\K (bA (m*n) (a+b))
 | _=>none
theorem ok_Mul {g:Nat}{tab:List Value}:CtrOK Tryd.prog g tab 36 QC1:=by
 refine⟨Qm Tryd.func36 (by kernel_rfl),fun l T hT K hK=> ?_⟩;unfold QC1 at hT;split at hT
 ·rename_i m a n b;cases hT
  exact YZ fun w O ρ vals hc=>WC (Qn QQj QW Tryd.func36 (by kernel_rfl) (by kernel_rfl) (by rfl) (QNr m a n b _ hK.1.1 hK.1.2 (Jw hc) (JI hc) fun _ h=>h)) hK.2
 ·cases hT
def L9:LC:=(36,QC1)::L8
noncomputable def T9:Qh:=mkT L9 M7 X3
theorem QQm {g:Nat}{tab:List Value}:CtrsOK Tryd.prog g tab L9:= .cons ok_Mul QQi
theorem QMI {g:Nat}{tab:List Value}:Q5 Tryd.prog g tab T9:=Qq QQm QMH Uw
end Go.Proofs
namespace Go.Proofs
open Go Go.Eng
structure QAX where
 out:List Nat
 i:Nat
structure GD (xs:List Nat)(s:Nat)(x:QAX):Prop where
 dz:Dig 4294967296 x.out
 lz:x.out.length=xs.length+1
 hi:x.i<=xs.length
 top:x.out.getD x.i 0<2^s
 zero:x.out.drop (x.i+1)=Zh (xs.length-x.i) 0
 inv:QF 4294967296 (x.out.take (x.i+1))=QF 4294967296 (xs.take x.i)*2^s
def QJW (xs:List Nat)(s:Nat):LI:=fun _=> .inv ⟨QAX,fun x=>⟨[(1,iA .i64 s),(5,wA 12 (xs.length+1)),(13,wA 1000 xs.length),(14,iA .i64 xs.length),(15,iA .i64 x.i)],[(1000,Qr xs),(12,Qr x.out)]⟩,GD xs s,fun x=>xs.length-x.i,fun _=>0⟩
theorem GD.step {xs:List Nat}{s:Nat}{x:QAX}(h:GD xs s x)(dx:Dig 4294967296 xs)(hs:s<32)(hi:x.i<xs.length){w:Nat}(hw:xs[x.i]? =some w):
  orI .u32 (x.out.getD x.i 0:Nat) (w*2^s % 4294967296:Nat)=((x.out.getD x.i 0+w*2^s % 4294967296:Nat):Int)/\
  GD xs s ⟨(x.out.set x.i (x.out.getD x.i 0+w*2^s % 4294967296)).set (x.i+1) (w*2^s/4294967296),x.i+1⟩:=by
 obtain⟨dz,lz,_,top,zero,inv⟩:=h;have dw:=dx.get hw;obtain⟨p,hp⟩: ∃p,2^s=p:=⟨_,rfl⟩;obtain⟨q,hq⟩: ∃q,2^(32-s)=q:=⟨_,rfl⟩;have hpq:p*q=4294967296:=by rw[<-hp,<-hq,<-Yl,show s+(32-s)=32 by omega]
 have hp0:0<p:=by rw[<-hp];exact Yp (by omega)
 have hq0:0<q:=by rw[<-hq];exact Yp (by omega)
 have e1:w*p % 4294967296=p*(w % q):=by rw[<-hpq,Yr w p,Nat.mul_mod_mul_left]
 have e2:w*p/4294967296=w/q:=by rw[<-hpq,Yr w p,Nat.mul_div_mul_left _ _ hp0]
 have e3:p*(w % q)+p<=4294967296:=by
  rw[<-hpq];have:p*(w % q+1)<=p*q:=Nat.mul_le_mul_left _ (Yj _ hq0);rwa [Zl,Nat.mul_one]at this
 have e4:w/q<p:=by
  apply Ym;rw[Yr,hpq];exact dw
 have hple:p<=4294967296:=by omega
 rw[hp]at top inv⊢;rw[e1,e2];have gi:x.out[x.i]? =some (x.out.getD x.i 0):=by rw[Zi,Zg (by omega)];rfl
 refine⟨?_,?_⟩
 ·rw[Wc];have:=QBJ (a:=w % q) (b:=x.out.getD x.i 0) (s:=s) (by rw[hp];exact top) (by rw[hp];omega);rw[hp]at this;rw[this,Yn]
 ·refine⟨(dz.set (by omega)).set (by omega),by simpa using lz,hi,?_,?_,?_⟩
  ·simp only;rw[X9 (d:=w/q) (by rw[Zq];simp;omega),hp];exact e4
  ·simp only;rw[Zx (by omega),Zx (by omega)];have:=congrArg (Yh 1) zero;rw[Zz,List.drop_replicate]at this;rw[this];congr 1
  ·simp only;have g1:((x.out.set x.i (x.out.getD x.i 0+p*(w % q))).set (x.i+1) (w/q))[x.i+1]? =some (w/q):=by rw[Zq];simp;omega
   rw[QS g1,XM,List.take_set,QS hw,Nat.add_mul,hp,<-inv];have g2:(x.out.take (x.i+1))[x.i]? =some (x.out.getD x.i 0):=by rw[List.getElem?_take,if_pos (by omega)];exact gi
   have h3:=Kq (B:=4294967296) (v:=x.out.getD x.i 0+p*(w % q)) g2;rw[Zl]at h3;rw[Ya];have e5:4294967296^x.i*w*p=4294967296^x.i*(p*(w % q))+4294967296^x.i*4294967296*(w/q):=by
    have:w*p=p*(w % q)+4294967296*(w/q):=by
     conv=>lhs;rw[<-Yf w q]
     rw[<-hpq];grind
    rw[Zp,this,Zl,Zp]
   omega
set_option maxHeartbeats 1000000 in
theorem QO6 (xs:List Nat)(s:Nat)(dx:Dig 4294967296 xs)(hs:s<32)(hl:xs.length<=1099511627776):QU (JK (X:=Unit) T9 (oF Tryd.f89) (QJW xs s) Tryd.f89 [wA 1000 xs.length,iA .i64 s] [(1000,Qr xs)] (fun _=>True)
 (fun _=>⟨[(4,wA 1001 (xs.length+1))],[(1000,Qr xs),(1001,Qr (fd 4294967296 (xs.length+1) (QF 4294967296 xs*2^s)))]⟩)):=by
 refine HV (((0<=Zb.wrap (Za xs.length+1)/\Zb.wrap (Za xs.length+1)<=Zb.wrap (Za xs.length+1)/\4*Zb.wrap (Za xs.length+1)<=281474976710656/\Zb.wrap (Za xs.length+1)<=9223372036854775807)/\(∃(x:QAX),(GD xs s x/\OfNat.ofNat 0=0)/\Za s=Za s/\0=0/\(Zb.wrap (Za xs.length+1)).toNat=xs.length+1/\0=0/\xs.length=xs.length/\Za xs.length=Za xs.length/\0=Za x.i/\98=98/\1=1/\(W xs=W xs∨QG (W xs) (W xs))/\98=98/\1=1/\(Zh (Zb.wrap (Za xs.length+1)).toNat [Zo (Ze Zd 0)]=W x.out∨QG (Zh (Zb.wrap (Za xs.length+1)).toNat [Zo (Ze Zd 0)]) (W x.out))/\True)/\∀(x:QAX),GD xs s x->OfNat.ofNat 0=0->bif decide (Za x.i<Za xs.length)then(0<=Za x.i/\Za x.i<Za xs.length)/\∃(d:Int),ldE (W xs) (0+(Za x.i).toNat) 0 1=some [Zo (Ze Zd d)]/\0<=Za s/\(0<=Za x.i/\Za x.i<Za (xs.length+1))/\∃(d_1:Int),ldE (W x.out) (0+(Za x.i).toNat) 0 1=some [Zo (Ze Zd d_1)]/\(0<=Za x.i/\Za x.i<Za (xs.length+1))/\0+(Za x.i).toNat<(W x.out).length/\(0:Int)<=32/\(0<=Zb.wrap (Za x.i+1)/\Zb.wrap (Za x.i+1)<Za (xs.length+1))/\0+(Zb.wrap (Za x.i+1)).toNat<((W x.out).set (0+(Za x.i).toNat) [Zo (Ze Zd (orI Zd d_1 (Zd.wrap (Xh Zc (Zc.wrap d) (Za s)))))]).length/\∃(x':QAX),(GD xs s x'/\OfNat.ofNat 0=0/\xs.length-x'.i<xs.length-x.i)/\Za s=Za s/\0=0/\xs.length+1=xs.length+1/\0=0/\xs.length=xs.length/\Za xs.length=Za xs.length/\Zb.wrap (Za x.i+1)=Za x'.i/\98=98/\1=1/\(W xs=W xs∨QG (W xs) (W xs))/\98=98/\1=1/\(((W x.out).set (0+(Za x.i).toNat) [Zo (Ze Zd (orI Zd d_1 (Zd.wrap (Xh Zc (Zc.wrap d) (Za s)))))]).set (0+(Zb.wrap (Za x.i+1)).toNat) [Zo (Ze Zd (Zd.wrap (Q0 Zc (Xh Zc (Zc.wrap d) (Za s)) 32)))]=W x'.out∨QG (((W x.out).set (0+(Za x.i).toNat) [Zo (Ze Zd (orI Zd d_1 (Zd.wrap (Xh Zc (Zc.wrap d) (Za s)))))]).set (0+(Zb.wrap (Za x.i+1)).toNat) [Zo (Ze Zd (Zd.wrap (Q0 Zc (Xh Zc (Zc.wrap d) (Za s)) 32)))]) (W x'.out))/\True else ∃(_x_1:Unit),True/\0=0/\xs.length+1=xs.length+1/\98=98/\1=1/\(W xs=W xs∨QG (W xs) (W xs))/\98=98/\1=1/\(W x.out=W (fd 4294967296 (xs.length+1) (QF 4294967296 xs*2^s))∨QG (W x.out) (W (fd 4294967296 (xs.length+1) (QF 4294967296 xs*2^s))))/\True)) ?_
 simp only[Zj,R0,R1,Ye,R4,R2];rw[w64 (by omega),show((xs.length:Int)+1).toNat=xs.length+1 by omega];simp only[R0];refine⟨⟨by omega,by omega,by omega⟩,⟨⟨Zh (xs.length+1) 0,0⟩,⟨Dig.zeros (by omega),by simp,by simp,by simp[Zi];exact Yp (by omega),by simp,by simp[QF]⟩,rfl,.inl (U5 _)⟩,fun x hx=>QE (fun hp=> ?_) (fun hp=> ?_)⟩
 ·obtain⟨out,i⟩:=x;have hp:i<xs.length:=by simpa using hp
  obtain⟨w,hw⟩: ∃w,xs[i]? =some w:=⟨_,Zg hp⟩
  obtain⟨h1,h2⟩:=hx.step dx hs hp hw;have lz:=hx.lz;have dw:=dx.get hw;have gz:out[i]? =some (out.getD i 0):=by rw[Zi,Zg (by simp only at lz;omega)];rfl
  simp only at h1 h2 lz⊢;have hp2:(2:Nat)^s<=2^31:=Zt (by omega) (by omega);have hwp:w*2^s<=4294967295*2^31:=Yi (by omega) hp2;have f1:Xh .u64 (Zc.wrap (w:Int)) (s:Int)=((w*2^s:Nat):Int):=by
   rw[XV (by omega),KU (by simp[Ys];omega),Zm];have:(w:Int)*2^s=((w*2^s:Nat):Int):=by simp
   rw[this];exact XV (by omega)
  have f2:Zd.wrap ((w*2^s:Nat):Int)=((w*2^s % 4294967296:Nat):Int):=by rw[Zv];simp
  have f3:Zd.wrap (Q0 .u64 ((w*2^s:Nat):Int) 32)=((w*2^s/4294967296:Nat):Int):=by
   rw[X2 (by decide) (by omega)];simp only[show(32:Int).toNat=32 from rfl];rw[QEd (by omega)];omega
  have f4:Zb.wrap ((i:Int)+1)=((i+1:Nat):Int):=by rw[w64 (by omega)];simp
  simp only[f4,Zm];refine⟨by omega,w,X8 hw,by omega,by omega,_,X8 gz,by omega,by rw[Jg];omega,by omega,by omega,by rw[Yg,Jg];omega,_,⟨h2,by simp only;omega⟩,rfl,.inl ?_⟩;rw[f1,f2,f3,h1,Js,Js]
 ·obtain⟨out,i⟩:=x;have hp: ¬i<xs.length:=by simpa using hp
  have hi:=hx.hi;have lz:=hx.lz;have inv:=hx.inv;have dz:=hx.dz;simp only at hi lz inv dz⊢;have:i=xs.length:=by omega
  subst this;rw[Qd (l:=out) (by omega),Qd (l:=xs) (by omega)]at inv;exact⟨(),.inl (by rw[<-inv,<-lz,We dz (by omega)])⟩
def QEq:YA:=fun as0 H d=>match as0 with
 | [.x false [.w k 0 n],.x false [.v (.int .i64 s)]]=>match H k,H d with
  | some (.row t 1 xs),none=>bif t.beq 98 then
    some fun K=> ∃ds,xs=W ds/\n=ds.length/\Dig 4294967296 ds/\ds.length<=1099511627776/\(0<=s/\s<32)/\
     K (wA d (ds.length+1)) (Xc [(1000,k),(1001,d)] (QO [(1000,Qr ds),(1001,Qr (fd 4294967296 (ds.length+1) (QF 4294967296 ds*2^s.toNat)))]) H)
    else none
  | _,_=>none
 | _=>none
theorem QMJ {g:Nat}{tab:List Value}:J8 Tryd.prog g tab 89 QEq:=by
 refine⟨Qm Tryd.func89 (by kernel_rfl),fun l H d T hT K hK=> ?_⟩;unfold QEq at hT;split at hT
 ·rename_i k n s;split at hT
  ·rename_i t xs e1 e2;cases hb:t.beq 98 with
   | false=>rw[hb]at hT;cases hT
   | true=>
    rw[hb]at hT;cases hT
    have ht:=Zn hb;subst ht;obtain⟨ds,rfl,rfl,dd,hl,⟨h0,h1⟩,hK⟩:=hK;obtain⟨s,rfl⟩:=Zs h0;refine Xp (R:=[(1000,k)]) (N:=[(1001,d)]) (Hl:=[(1000,Qr ds)]) QMI QW Tryd.func89 (by kernel_rfl) (by kernel_rfl) (by rfl)
     (as0:=[wA 1000 ds.length,iA .i64 s]) ?_ (GB e1 rfl rfl) rfl (by simp) (by simp) (fun p hp=>by simp at hp;subst hp;exact e2) (fun x=>⟨fun p hp=> ?_,fun p hp b hb=> ?_⟩) (QO6 ds s dd (by omega) hl) (fun x _=> ?_)
    ·simp[Jf,Je,JJ,lkB,wA,iA]
    ·simp at hp;subst hp;exact fun h=>by have h':some (Qr _)=none:=h;cases h'
    ·simp at hp;rcases hp with rfl | rfl
     ·have h':some (Qr _)=some b:=hb;cases h';rfl
     ·have h':some (Qr _)=some b:=hb;cases h';rfl
    ·exact⟨_,rfl,hK⟩
  ·cases hT
 ·cases hT
end Go.Proofs
namespace Go.Proofs
open Go Go.Eng
def spl (us:List Nat)(o:Nat)(w:List Nat):List Nat:=us.take o++(w++us.drop (o+w.length))
def win (us:List Nat)(o n:Nat):List Nat:=(us.drop o).take n
structure QAY where
 wd:List Nat
 carry:Nat
 b:Nat
 i:Nat
structure GF (wd0 vs:List Nat)(n d:Nat)(x:QAY):Prop where
 dw:Dig 4294967296 x.wd
 lw:x.wd.length=n+1
 hi:x.i<=n
 hc:x.carry<4294967296
 hb:x.b<=1
 rest:x.wd.drop x.i=wd0.drop x.i
 inv:QF 4294967296 (x.wd.take x.i)+d*QF 4294967296 (vs.take x.i)=QF 4294967296 (wd0.take x.i)+4294967296^x.i*(x.carry+x.b)
def wO (k o n:Nat):AV:= .x false [.w k o n]
def QBR (us vs:List Nat)(o n d:Nat):LI:=fun _=> .inv ⟨QAY,fun x=>⟨[(0,wO 1000 o (n+1)),(1,wA 1001 n),(2,iA .u64 d),(7,iA .u64 x.carry),(8,iA .u64 x.b),(13,wA 1001 n),(14,iA .i64 n),(15,iA .i64 x.i)],
 [(1000,Qr (spl us o x.wd)),(1001,Qr vs)]⟩,GF (win us o (n+1)) vs n d,fun x=>n-x.i,fun _=>0⟩
def YT (us vs:List Nat)(o n d:Nat):Nat:=(QF 4294967296 (win us o (n+1))+4294967296^(n+1)-d*QF 4294967296 (vs.take n)) % 4294967296^(n+1)
theorem Kr {us w:List Nat}{o:Nat}(h:o+w.length<=us.length):(spl us o w).length=us.length:=by simp[spl];omega
theorem U9 {us w:List Nat}{o i:Nat}(h:o+w.length<=us.length)(hi:i<w.length):(spl us o w)[o+i]? =w[i]? :=by
 unfold spl;rw[List.getElem?_append_right (by simp;omega),List.length_take,Nat.min_eq_left (by omega),show o+i-o=i by omega,List.getElem?_append_left hi]
theorem HA {us w:List Nat}{o i v:Nat}(h:o+w.length<=us.length)(hi:i<w.length):(spl us o w).set (o+i) v=spl us o (w.set i v):=by
 unfold spl;rw[List.set_append_right _ _ (by simp;omega),List.length_take,Nat.min_eq_left (by omega),show o+i-o=i by omega,List.set_append_left _ _ hi,Yg]
theorem WQ {us:List Nat}{o n:Nat}(h:o+n<=us.length):(win us o n).length=n:=by simp[win];omega
theorem QBS {us:List Nat}{o n:Nat}(h:o+n<=us.length):spl us o (win us o n)=us:=by
 unfold spl;rw[WQ h];unfold win;rw[<-Zz,List.take_append_drop,List.take_append_drop]
theorem JY {B o n:Nat}{us:List Nat}(h:Dig B us):Dig B (win us o n):=(h.drop).take
theorem QAZ {u c b:Nat}(hu:u<4294967296)(hc:c<=4294967296)(hb:b<=1)(h:c+b<=4294967296): ∃q e:Nat,q<4294967296/\e<=1/\q+c+b=u+4294967296*e/\(e=1↔u<c+b)/\
    ((u:Int)-c-b) % 18446744073709551616/9223372036854775808=e/\((u:Int)-c-b) % 18446744073709551616 % 4294967296=q:=by
  by_cases h':c+b<=u
  · exact⟨u-c-b,0,by omega,by omega,by omega,by omega,by omega,by omega⟩
  · exact⟨u+4294967296-c-b,1,by omega,by omega,by omega,by omega,by omega,by omega⟩
theorem GF.step {wd0 vs:List Nat}{n d:Nat}{x:QAY}(h:GF wd0 vs n d x)(hi:x.i<n)(h0:wd0.length=n+1){v:Nat}(hv:vs[x.i]? =some v)(hv2:v<4294967296)(hd:d<4294967296){u:Nat}(hu:wd0[x.i]? =some u){t q e:Nat}(ht:t=x.carry+d*v)(hq:q<4294967296)(he:e<=1)
  (hs:q+t % 4294967296+x.b=u+4294967296*e):GF wd0 vs n d ⟨x.wd.set x.i q,t/4294967296,e,x.i+1⟩:=by
 obtain⟨dw,lw,_,hc,hb,rest,inv⟩:=h;have gz:(x.wd.set x.i q)[x.i]? =some q:=by rw[Zq];simp;omega
 have ht2:t<4294967296*4294967296:=by
  have:d*v<=4294967295*4294967295:=Yi (by omega) (by omega);omega
 refine⟨dw.set hq,by simpa using lw,hi,Ym ht2,he,?_,?_⟩
 ·simp only;rw[Zx (by omega)];have:=congrArg (Yh 1) rest;rwa [Zz,Zz]at this
 ·simp only;rw[QS gz,XM,QS hv,QS hu,Ya];generalize (4294967296:Nat)^x.i=p at inv⊢;have e1:p*t=p*x.carry+p*(d*v):=by rw[ht,Zl]
  have e2:p*t=p*4294967296*(t/4294967296)+p*(t % 4294967296):=by
   conv=>lhs;rw[<-Yf t 4294967296]
   rw[Zl,Zp]
  have e3:p*q+p*(t % 4294967296)+p*x.b=p*u+p*4294967296*e:=by
   rw[<-Zl,<-Zl,hs,Zl,Zp]
  have e4:d*(QF 4294967296 (vs.take x.i)+p*v)=d*QF 4294967296 (vs.take x.i)+p*(d*v):=by rw[Zl];grind
  rw[e4,Zl,Zp] ;rw[Zl]at inv;rw[Zp]at e2 e3;rw[Zp]at*;omega
set_option maxHeartbeats 1000000 in
theorem QEr (us vs:List Nat)(o n d:Nat)(du:Dig 4294967296 us)(dv:Dig 4294967296 vs)(hd:d<4294967296)(ho:o+(n+1)<=us.length)(hn:n<=vs.length)(hl:us.length<=2199023255552):QU (JK (X:=Unit) T9 (oF Tryd.f90) (QBR us vs o n d) Tryd.f90 [wO 1000 o (n+1),wA 1001 n,iA .u64 d] [(1000,Qr us),(1001,Qr vs)] (fun _=>True)
 (fun _=>⟨[(6,.x false [.v (.bool (decide (QF 4294967296 (win us o (n+1))<d*QF 4294967296 (vs.take n))))])],[(1000,Qr (spl us o (fd 4294967296 (n+1) (YT us vs o n d)))),(1001,Qr vs)]⟩)):=by
 refine HV (((∃(x:QAY),(GF (win us o (n+1)) vs n d x/\OfNat.ofNat 0=0)/\o=o/\n+1=n+1/\0=0/\n=n/\Za d=Za d/\0=Za x.carry/\0=Za x.b/\0=0/\n=n/\Za n=Za n/\0=Za x.i/\98=98/\1=1/\(W us=W (spl us o x.wd)∨QG (W us) (W (spl us o x.wd)))/\98=98/\1=1/\(W vs=W vs∨QG (W vs) (W vs))/\True)/\∀(x:QAY),GF (win us o (n+1)) vs n d x->OfNat.ofNat 0=0->bif decide (Za x.i<Za n)then(0<=Za x.i/\Za x.i<Za n)/\∃(d_1:Int),ldE (W vs) (0+(Za x.i).toNat) 0 1=some [Zo (Ze Zd d_1)]/\(0<=Za x.i/\Za x.i<Za (n+1))/\∃(d_2:Int),ldE (W (spl us o x.wd)) (o+(Za x.i).toNat) 0 1=some [Zo (Ze Zd d_2)]/\(0:Int)<=63/\(0<=Za x.i/\Za x.i<Za (n+1))/\o+(Za x.i).toNat<(W (spl us o x.wd)).length/\(0:Int)<=32/\∃(x':QAY),(GF (win us o (n+1)) vs n d x'/\OfNat.ofNat 0=0/\n-x'.i<n-x.i)/\o=o/\n+1=n+1/\0=0/\n=n/\Za d=Za d/\Q0 Zc (Zc.wrap (Za x.carry+Zc.wrap (Za d*Zc.wrap d_1))) 32=Za x'.carry/\Q0 Zc (Zc.wrap (Zc.wrap (Zc.wrap d_2-Zc.wrap (Zd.wrap (Zc.wrap (Za x.carry+Zc.wrap (Za d*Zc.wrap d_1)))))-Za x.b)) 63=Za x'.b/\0=0/\n=n/\Za n=Za n/\Zb.wrap (Za x.i+1)=Za x'.i/\98=98/\1=1/\((W (spl us o x.wd)).set (o+(Za x.i).toNat) [Zo (Ze Zd (Zd.wrap (Zc.wrap (Zc.wrap (Zc.wrap d_2-Zc.wrap (Zd.wrap (Zc.wrap (Za x.carry+Zc.wrap (Za d*Zc.wrap d_1)))))-Za x.b))))]=W (spl us o x'.wd)∨QG ((W (spl us o x.wd)).set (o+(Za x.i).toNat) [Zo (Ze Zd (Zd.wrap (Zc.wrap (Zc.wrap (Zc.wrap d_2-Zc.wrap (Zd.wrap (Zc.wrap (Za x.carry+Zc.wrap (Za d*Zc.wrap d_1)))))-Za x.b))))]) (W (spl us o x'.wd)))/\98=98/\1=1/\(W vs=W vs∨QG (W vs) (W vs))/\True else(0<=Za n/\Za n<Za (n+1))/\∃(d_1:Int),ldE (W (spl us o x.wd)) (o+(Za n).toNat) 0 1=some [Zo (Ze Zd d_1)]/\(0<=Za n/\Za n<Za (n+1))/\o+(Za n).toNat<(W (spl us o x.wd)).length/\(0:Int)<=63/\∃(_x_1:Unit),True/\decide (Q0 Zc (Zc.wrap (Zc.wrap (Zc.wrap d_1-Za x.carry)-Za x.b)) 63>0)=decide (QF 4294967296 (win us o (n+1))<d*QF 4294967296 (Zu n vs))/\98=98/\1=1/\((W (spl us o x.wd)).set (o+(Za n).toNat) [Zo (Ze Zd (Zd.wrap (Zc.wrap (Zc.wrap (Zc.wrap d_1-Za x.carry)-Za x.b))))]=W (spl us o (fd 4294967296 (n+1) (YT us vs o n d)))∨QG ((W (spl us o x.wd)).set (o+(Za n).toNat) [Zo (Ze Zd (Zd.wrap (Zc.wrap (Zc.wrap (Zc.wrap d_1-Za x.carry)-Za x.b))))]) (W (spl us o (fd 4294967296 (n+1) (YT us vs o n d)))))/\98=98/\1=1/\(W vs=W vs∨QG (W vs) (W vs))/\True)) ?_
 have lw:=WQ ho;simp only[Zj,R0,R1,Ye,R4,R2];have spI: ∀w:List Nat,w.length=n+1->o+w.length<=us.length:=fun w hw=>by omega
 refine⟨⟨⟨win us o (n+1),0,0,0⟩,⟨JY du,lw,by simp,by simp,by simp,rfl,by simp[QF]⟩,rfl,rfl,rfl,.inl (by simp only;rw[QBS ho])⟩,fun x hx=>QE (fun hp=> ?_) (fun hp=> ?_)⟩
 ·obtain⟨wd,carry,b,i⟩:=x;have hp:i<n:=by simpa using hp
  obtain⟨v,hv⟩: ∃v,vs[i]? =some v:=⟨_,Zg (by omega)⟩
  obtain⟨u,hu⟩: ∃u,(win us o (n+1))[i]? =some u:=⟨_,Zg (by omega)⟩
  have dv2:=dv.get hv;have du2:=(JY du).get hu;have hc:=hx.hc;have hb:=hx.hb;have lwd:=hx.lw;have hcw:wd[i]? =some u:=by
   have:=congrArg (fun l:List Nat=>l[0]?) hx.rest;simpa [hu]using this
  have hs:=fun t q e=>hx.step hp lw hv dv2 hd hu (t:=t) (q:=q) (e:=e);simp only at hc hb lwd hs⊢;have hm:d*v<=4294967295*4294967295:=Yi (by omega) (by omega);have f0:Zc.wrap ((carry:Int)+Zc.wrap ((d:Int)*Zc.wrap (v:Int)))=((carry+d*v:Nat):Int):=by
   rw[XV (n:=(v:Int)) (by omega)];have:((d:Int)*v)=((d*v:Nat):Int):=by simp
   rw[this];generalize d*v=p at hm⊢;rw[XV (n:=(p:Int)) (by omega),XV (by omega)];simp
  generalize ht:carry+d*v=t at hs f0;have ht2:t<18446744073709551616:=by omega
  obtain⟨q,e,hq,he,hqe,_,r1,r2⟩:=QAZ (u:=u) (c:=t % 4294967296) (b:=b) du2 (by omega) hb (by omega);have f1:Zc.wrap (Zc.wrap (Zc.wrap (u:Int)-Zc.wrap (Zd.wrap (t:Int)))-b)=((u:Int)-(t % 4294967296:Nat)-b) % 18446744073709551616:=by
   rw[Zv];simp only[JD];omega
  have gs:(spl us o wd)[o+i]? =some u:=by rw[U9 (spI wd lwd) (by omega)];exact hcw
  simp only[Zm];refine⟨by omega,v,X8 hv,by omega,u,X8 gs,by omega,by omega,by rw[Jg,Kr (spI wd lwd)];omega,by omega,_,⟨hs t q e rfl hq he hqe,by simp only;omega⟩,?_,?_,?_,?_⟩
  ·rw[f0,X2 (by decide) (by omega)];simp only[show(32:Int).toNat=32 from rfl];omega
  ·rw[f0,f1,X2 (by decide) (by omega)];simp only[show(63:Int).toNat=63 from rfl];exact r1
  ·rw[w64 (by omega)];simp
  ·rw[f0,f1,show Zd.wrap (((u:Int)-(t % 4294967296:Nat)-b) % 18446744073709551616)=(q:Int)by rw[Zv];exact r2,Js,HA (spI wd lwd) (by omega)];exact .inl rfl
 ·obtain⟨wd,carry,b,i⟩:=x;have hp: ¬i<n:=by simpa using hp
  have hi:=hx.hi;have hc:=hx.hc;have hb:=hx.hb;have lwd:=hx.lw;have inv:=hx.inv;have dw:=hx.dw;have rest:=hx.rest;simp only at hi hc hb lwd inv dw rest⊢;have:i=n:=by omega
  subst this;obtain⟨u,hu⟩: ∃u,(win us o (i+1))[i]? =some u:=⟨_,Zg (by omega)⟩
  have du2:=(JY du).get hu;have hcw:wd[i]? =some u:=by
   have:=congrArg (fun l:List Nat=>l[0]?) rest;simpa [hu]using this
  obtain⟨q,e,hq,he,hqe,_,r1,r2⟩:=QAZ (u:=u) (c:=carry) (b:=b) du2 (by omega) hb (by omega);have f1:Zc.wrap (Zc.wrap (Zc.wrap (u:Int)-carry)-b)=((u:Int)-carry-b) % 18446744073709551616:=by
   simp only[JD];omega
  have gs:(spl us o wd)[o+i]? =some u:=by rw[U9 (spI wd lwd) (by omega)];exact hcw
  -- the value
  have v0:=QS (B:=4294967296) hu;rw[Qd (by omega)]at v0;have gz:(wd.set i q)[i]? =some q:=by rw[Zq];simp;omega
  have v1:=QS (B:=4294967296) gz;rw[Qd (by simp;omega),XM]at v1;have hlt:=YY (dw.set (i:=i) hq);rw[Yg,lwd]at hlt;have key:QF 4294967296 (wd.set i q)+d*QF 4294967296 (vs.take i)=QF 4294967296 (win us o (i+1))+4294967296^(i+1)*e:=by
   have h3:4294967296^i*q+4294967296^i*(carry+b)=4294967296^i*u+4294967296^(i+1)*e:=by
    rw[<-Zl,show q+(carry+b)=u+4294967296*e by omega,Zl,<-Zp,<-Ya]
   omega
  have hwlt:=YY (JY (o:=o) (n:=i+1) du);rw[lw]at hwlt;have hvv:QF 4294967296 (wd.set i q)=YT us vs o i d:=by
   unfold YT;generalize d*QF 4294967296 (vs.take i)=dv at key⊢;generalize (4294967296:Nat)^(i+1)=p at key hlt hwlt⊢;rcases Yc.1 he with h | h
   ·subst h;rw[Nat.mul_zero,Nat.add_zero]at key;rw[show QF 4294967296 (win us o (i+1))+p-dv=QF 4294967296 (wd.set i q)+p by omega,Nat.add_mod_right,Yk hlt]
   ·subst h;rw[Nat.mul_one]at key;rw[show QF 4294967296 (win us o (i+1))+p-dv=QF 4294967296 (wd.set i q)by omega,Yk hlt]
  simp only[Zm];refine⟨by omega,u,X8 gs,by omega,by rw[Jg,Kr (spI wd lwd)];omega,by omega,(),?_,?_⟩
  ·refine decide_eq_decide.2 ?_
   rw[f1,X2 (by decide) (by omega)];simp only[show(63:Int).toNat=63 from rfl];rw[show((u:Int)-carry-b) % 18446744073709551616/2^63=e from r1];generalize d*QF 4294967296 (vs.take i)=dv at key⊢;generalize (4294967296:Nat)^(i+1)=p at key hlt hwlt;rcases Yc.1 he with h | h
   ·subst h;have: ¬QF 4294967296 (win us o (i+1))<dv:=by omega
    simp[this]
   ·subst h;have:QF 4294967296 (win us o (i+1))<dv:=by omega
    simp[this]
  ·rw[f1,show Zd.wrap (((u:Int)-carry-b) % 18446744073709551616)=(q:Int)by rw[Zv];exact r2,Js,HA (spI wd lwd) (by omega),<-hvv];have hl2:(wd.set i q).length=i+1:=by simpa using lwd
   rw[<-hl2,We (dw.set hq) (by omega)];exact .inl rfl
structure QHf where
 wd:List Nat
 carry:Nat
 i:Nat
structure QEs (wd0 vs:List Nat)(n:Nat)(x:QHf):Prop where
 dw:Dig 4294967296 x.wd
 lw:x.wd.length=n+1
 hi:x.i<=n
 hc:x.carry<=1
 rest:x.wd.drop x.i=wd0.drop x.i
 inv:QF 4294967296 (x.wd.take x.i)+4294967296^x.i*x.carry=QF 4294967296 (wd0.take x.i)+QF 4294967296 (vs.take x.i)
def QC2 (us vs:List Nat)(o n:Nat):LI:=fun _=> .inv ⟨QHf,fun x=>⟨[(0,wO 1000 o (n+1)),(1,wA 1001 n),(4,iA .u64 x.carry),(7,wA 1001 n),(8,iA .i64 n),(9,iA .i64 x.i)],
 [(1000,Qr (spl us o x.wd)),(1001,Qr vs)]⟩,QEs (win us o (n+1)) vs n,fun x=>n-x.i,fun _=>0⟩
def G7 (us vs:List Nat)(o n:Nat):Nat:=(QF 4294967296 (win us o (n+1))+QF 4294967296 (vs.take n)) % 4294967296^(n+1)
theorem QEs.step {wd0 vs:List Nat}{n:Nat}{x:QHf}(h:QEs wd0 vs n x)(hi:x.i<n)(h0:wd0.length=n+1){v:Nat}(hv:vs[x.i]? =some v)(hv2:v<4294967296){u:Nat}(hu:wd0[x.i]? =some u)(hu2:u<4294967296){t:Nat}(ht:t=x.carry+(u+v)):
  QEs wd0 vs n ⟨x.wd.set x.i (t % 4294967296),t/4294967296,x.i+1⟩:=by
 obtain⟨dw,lw,_,hc,rest,inv⟩:=h;have gz:(x.wd.set x.i (t % 4294967296))[x.i]? =some (t % 4294967296):=by rw[Zq];simp;omega
 refine⟨dw.set (Yj _ (by omega)),by simpa using lw,hi,by simp only;omega,?_,?_⟩
 ·simp only;rw[Zx (by omega)];have:=congrArg (Yh 1) rest;rwa [Zz,Zz]at this
 ·simp only;rw[QS gz,XM,QS hv,QS hu,Ya];generalize (4294967296:Nat)^x.i=p at inv⊢;have e1:p*t=p*x.carry+(p*u+p*v):=by rw[ht,Zl,Zl]
  have e2:p*t=p*4294967296*(t/4294967296)+p*(t % 4294967296):=by
   conv=>lhs;rw[<-Yf t 4294967296]
   rw[Zl,Zp]
  omega
set_option maxHeartbeats 1000000 in
theorem QHg (us vs:List Nat)(o n:Nat)(du:Dig 4294967296 us)(dv:Dig 4294967296 vs)(ho:o+(n+1)<=us.length)(hn:n<=vs.length)(hl:us.length<=2199023255552):QU (JK (X:=Unit) T9 (oF Tryd.f91) (QC2 us vs o n) Tryd.f91 [wO 1000 o (n+1),wA 1001 n] [(1000,Qr us),(1001,Qr vs)] (fun _=>True)
 (fun _=>⟨[],[(1000,Qr (spl us o (fd 4294967296 (n+1) (G7 us vs o n)))),(1001,Qr vs)]⟩)):=by
 refine HV (((∃(x:QHf),(QEs (win us o (n+1)) vs n x/\OfNat.ofNat 0=0)/\o=o/\n+1=n+1/\0=0/\n=n/\0=Za x.carry/\0=0/\n=n/\Za n=Za n/\0=Za x.i/\98=98/\1=1/\(W us=W (spl us o x.wd)∨QG (W us) (W (spl us o x.wd)))/\98=98/\1=1/\(W vs=W vs∨QG (W vs) (W vs))/\True)/\∀(x:QHf),QEs (win us o (n+1)) vs n x->OfNat.ofNat 0=0->bif decide (Za x.i<Za n)then(0<=Za x.i/\Za x.i<Za n)/\∃(d:Int),ldE (W vs) (0+(Za x.i).toNat) 0 1=some [Zo (Ze Zd d)]/\(0<=Za x.i/\Za x.i<Za (n+1))/\∃(d_1:Int),ldE (W (spl us o x.wd)) (o+(Za x.i).toNat) 0 1=some [Zo (Ze Zd d_1)]/\(0<=Za x.i/\Za x.i<Za (n+1))/\o+(Za x.i).toNat<(W (spl us o x.wd)).length/\(0:Int)<=32/\∃(x':QHf),(QEs (win us o (n+1)) vs n x'/\OfNat.ofNat 0=0/\n-x'.i<n-x.i)/\o=o/\n+1=n+1/\0=0/\n=n/\Q0 Zc (Zc.wrap (Za x.carry+Zc.wrap (Zc.wrap d_1+Zc.wrap d))) 32=Za x'.carry/\0=0/\n=n/\Za n=Za n/\Zb.wrap (Za x.i+1)=Za x'.i/\98=98/\1=1/\((W (spl us o x.wd)).set (o+(Za x.i).toNat) [Zo (Ze Zd (Zd.wrap (Zc.wrap (Za x.carry+Zc.wrap (Zc.wrap d_1+Zc.wrap d)))))]=W (spl us o x'.wd)∨QG ((W (spl us o x.wd)).set (o+(Za x.i).toNat) [Zo (Ze Zd (Zd.wrap (Zc.wrap (Za x.carry+Zc.wrap (Zc.wrap d_1+Zc.wrap d)))))]) (W (spl us o x'.wd)))/\98=98/\1=1/\(W vs=W vs∨QG (W vs) (W vs))/\True else(0<=Za n/\Za n<Za (n+1))/\∃(d:Int),ldE (W (spl us o x.wd)) (o+(Za n).toNat) 0 1=some [Zo (Ze Zd d)]/\(0<=Za n/\Za n<Za (n+1))/\o+(Za n).toNat<(W (spl us o x.wd)).length/\∃(_x_1:Unit),True/\98=98/\1=1/\((W (spl us o x.wd)).set (o+(Za n).toNat) [Zo (Ze Zd (Zd.wrap (d+Zd.wrap (Za x.carry))))]=W (spl us o (fd 4294967296 (n+1) (G7 us vs o n)))∨QG ((W (spl us o x.wd)).set (o+(Za n).toNat) [Zo (Ze Zd (Zd.wrap (d+Zd.wrap (Za x.carry))))]) (W (spl us o (fd 4294967296 (n+1) (G7 us vs o n)))))/\98=98/\1=1/\(W vs=W vs∨QG (W vs) (W vs))/\True)) ?_
 have lw:=WQ ho;simp only[Zj,R0,R1,Ye,R4,R2];have spI: ∀w:List Nat,w.length=n+1->o+w.length<=us.length:=fun w hw=>by omega
 refine⟨⟨⟨win us o (n+1),0,0⟩,⟨JY du,lw,by simp,by simp,rfl,by simp[QF]⟩,rfl,rfl,.inl (by simp only;rw[QBS ho])⟩,fun x hx=>QE (fun hp=> ?_) (fun hp=> ?_)⟩
 ·obtain⟨wd,carry,i⟩:=x;have hp:i<n:=by simpa using hp
  obtain⟨v,hv⟩: ∃v,vs[i]? =some v:=⟨_,Zg (by omega)⟩
  obtain⟨u,hu⟩: ∃u,(win us o (n+1))[i]? =some u:=⟨_,Zg (by omega)⟩
  have dv2:=dv.get hv;have du2:=(JY du).get hu;have hc:=hx.hc;have lwd:=hx.lw;have hcw:wd[i]? =some u:=by
   have:=congrArg (fun l:List Nat=>l[0]?) hx.rest;simpa [hu]using this
  have hs:=fun t=>hx.step hp lw hv dv2 hu du2 (t:=t);simp only at hc lwd hs⊢;have gs:(spl us o wd)[o+i]? =some u:=by rw[U9 (spI wd lwd) (by omega)];exact hcw
  have f0:Zc.wrap ((carry:Int)+Zc.wrap (Zc.wrap (u:Int)+Zc.wrap (v:Int)))=((carry+(u+v):Nat):Int):=by
   simp only[JD];omega
  generalize ht:carry+(u+v)=t at hs f0;simp only[Zm];refine⟨by omega,v,X8 hv,by omega,u,X8 gs,by omega,by rw[Jg,Kr (spI wd lwd)];omega,by omega,_,⟨hs t rfl,by simp only;omega⟩,?_,?_,?_⟩
  ·rw[f0,X2 (by decide) (by omega)];simp only[show(32:Int).toNat=32 from rfl];omega
  ·rw[w64 (by omega)];simp
  ·rw[f0,show Zd.wrap (t:Int)=((t % 4294967296:Nat):Int)by rw[Zv];simp,Js,HA (spI wd lwd) (by omega)];exact .inl rfl
 ·obtain⟨wd,carry,i⟩:=x;have hp: ¬i<n:=by simpa using hp
  have hi:=hx.hi;have hc:=hx.hc;have lwd:=hx.lw;have inv:=hx.inv;have dw:=hx.dw;have rest:=hx.rest;simp only at hi hc lwd inv dw rest⊢;have:i=n:=by omega
  subst this;obtain⟨u,hu⟩: ∃u,(win us o (i+1))[i]? =some u:=⟨_,Zg (by omega)⟩
  have du2:=(JY du).get hu;have hcw:wd[i]? =some u:=by
   have:=congrArg (fun l:List Nat=>l[0]?) rest;simpa [hu]using this
  have gs:(spl us o wd)[o+i]? =some u:=by rw[U9 (spI wd lwd) (by omega)];exact hcw
  have v0:=QS (B:=4294967296) hu;rw[Qd (by omega)]at v0;obtain⟨q,hq⟩: ∃q,(u+carry) % 4294967296=q:=⟨_,rfl⟩;have gz:(wd.set i q)[i]? =some q:=by rw[Zq];simp;omega
  have v1:=QS (B:=4294967296) gz;rw[Qd (by simp;omega),XM]at v1;have dq:=dw.set (i:=i) (v:=q) (by omega);have hlt:=YY dq;rw[Yg,lwd]at hlt;have hvv:QF 4294967296 (wd.set i q)=G7 us vs o i:=by
   unfold G7;have h3:QF 4294967296 (win us o (i+1))+QF 4294967296 (vs.take i)=QF 4294967296 (wd.set i q)+4294967296^(i+1)*((u+carry)/4294967296):=by
    have:4294967296^i*(u+carry)=4294967296^(i+1)*((u+carry)/4294967296)+4294967296^i*q:=by
     conv=>lhs;rw[<-Yf (u+carry) 4294967296,hq]
     rw[Zl,<-Zp,<-Ya]
    rw[Zl]at this;omega
   rw[h3,Nat.add_mul_mod_self_left,Yk hlt]
  simp only[Zm];refine⟨by omega,u,X8 gs,by omega,by rw[Jg,Kr (spI wd lwd)];omega,(),?_⟩;rw[show Zd.wrap ((u:Int)+Zd.wrap (carry:Int))=(q:Int)by simp only[Zv];omega,Js,HA (spI wd lwd) (by omega),<-hvv];have hl2:(wd.set i q).length=i+1:=by simpa using lwd
  rw[<-hl2,We dq (by omega)];exact .inl rfl
def VM:YA:=fun as0 H _=>match as0 with
 | [.x false [.w k o n1],.x false [.w k2 0 n2],.x false [.v (.int .u64 d)]]=>match H k,H k2 with
  | some (.row t 1 xs),some (.row t2 1 ys)=>bif t.beq 98&&t2.beq 98&& !(k.beq k2)then
    some fun K=> ∃us vs,xs=W us/\ys=W vs/\n1=n2+1/\Dig 4294967296 us/\Dig 4294967296 vs/\(0<=d/\d<4294967296)/\o+(n2+1)<=us.length/\n2<=vs.length/\us.length<=2199023255552/\
     K (.x false [.v (.bool (decide (QF 4294967296 (win us o (n2+1))<d.toNat*QF 4294967296 (vs.take n2))))])
      (Xc [(1000,k),(1001,k2)] (QO [(1000,Qr (spl us o (fd 4294967296 (n2+1) (YT us vs o n2 d.toNat)))),(1001,Qr vs)]) H)
    else none
  | _,_=>none
 | _=>none
def UR:YA:=fun as0 H _=>match as0 with
 | [.x false [.w k o n1],.x false [.w k2 0 n2]]=>match H k,H k2 with
  | some (.row t 1 xs),some (.row t2 1 ys)=>bif t.beq 98&&t2.beq 98&& !(k.beq k2)then
    some fun K=> ∃us vs,xs=W us/\ys=W vs/\n1=n2+1/\Dig 4294967296 us/\Dig 4294967296 vs/\o+(n2+1)<=us.length/\n2<=vs.length/\us.length<=2199023255552/\
     K (.t []) (Xc [(1000,k),(1001,k2)] (QO [(1000,Qr (spl us o (fd 4294967296 (n2+1) (G7 us vs o n2)))),(1001,Qr vs)]) H)
    else none
  | _,_=>none
 | _=>none
theorem QC3 {g:Nat}{tab:List Value}:J8 Tryd.prog g tab 90 VM:=by
 refine⟨Qm Tryd.func90 (by kernel_rfl),fun l H d T hT K hK=> ?_⟩;unfold VM at hT;split at hT
 ·rename_i k o n1 k2 n2 d;split at hT
  ·rename_i t xs t2 ys e1 e2;cases hb:t.beq 98&&t2.beq 98&& !(k.beq k2)with
   | false=>rw[hb]at hT;cases hT
   | true=>
    rw[hb]at hT;cases hT
    simp only[Bool.and_eq_true,Bool.not_eq_true']at hb;obtain⟨⟨ht,ht2⟩,hk⟩:=hb;have ht:=Zn ht;have ht2:=Zn ht2;have hk:k≠k2:=fun e=>by subst e;simp at hk
    subst ht ht2;obtain⟨us,vs,rfl,rfl,rfl,du,dv,⟨h0,h1⟩,ho,hn,hl,hK⟩:=hK;obtain⟨d,rfl⟩:=Zs h0;refine Xp (R:=[(1000,k),(1001,k2)]) (N:=[]) (Hl:=[(1000,Qr us),(1001,Qr vs)]) QMI QW Tryd.func90 (by kernel_rfl) (by kernel_rfl) (by rfl)
     (as0:=[wO 1000 o (n2+1),wA 1001 n2,iA .u64 d]) ?_ (QCv e1 e2 hk rfl rfl rfl rfl) rfl (by simp) (by simp) (fun _ h=>by cases h) (fun x=>⟨fun p hp=> ?_,fun p hp b hb=> ?_⟩) (QEr us vs o n2 d du dv (by omega) ho hn hl) (fun x _=> ?_)
    ·simp[Jf,Je,JJ,(G5 hk).1,(G5 hk).2,wA,wO,iA]
    ·simp at hp;rcases hp with rfl | rfl
     ·exact fun h=>by have h':some (Qr _)=none:=h;cases h'
     ·exact fun h=>by have h':some (Qr _)=none:=h;cases h'
    ·simp at hp;rcases hp with rfl | rfl
     ·have h':some (Qr _)=some b:=hb;cases h';rfl
     ·have h':some (Qr _)=some b:=hb;cases h';rfl
    ·exact⟨_,rfl,hK⟩
  ·cases hT
 ·cases hT
theorem QEt {g:Nat}{tab:List Value}:J8 Tryd.prog g tab 91 UR:=by
 refine⟨Qm Tryd.func91 (by kernel_rfl),fun l H d T hT K hK=> ?_⟩;unfold UR at hT;split at hT
 ·rename_i k o n1 k2 n2;split at hT
  ·rename_i t xs t2 ys e1 e2;cases hb:t.beq 98&&t2.beq 98&& !(k.beq k2)with
   | false=>rw[hb]at hT;cases hT
   | true=>
    rw[hb]at hT;cases hT
    simp only[Bool.and_eq_true,Bool.not_eq_true']at hb;obtain⟨⟨ht,ht2⟩,hk⟩:=hb;have ht:=Zn ht;have ht2:=Zn ht2;have hk:k≠k2:=fun e=>by subst e;simp at hk
    subst ht ht2;obtain⟨us,vs,rfl,rfl,rfl,du,dv,ho,hn,hl,hK⟩:=hK;refine Xp (R:=[(1000,k),(1001,k2)]) (N:=[]) (Hl:=[(1000,Qr us),(1001,Qr vs)]) QMI QW Tryd.func91 (by kernel_rfl) (by kernel_rfl) (by rfl)
     (as0:=[wO 1000 o (n2+1),wA 1001 n2]) ?_ (QCv e1 e2 hk rfl rfl rfl rfl) rfl (by simp) (by simp) (fun _ h=>by cases h) (fun x=>⟨fun p hp=> ?_,fun p hp b hb=> ?_⟩) (QHg us vs o n2 du dv ho hn hl) (fun x _=> ?_)
    ·simp[Jf,Je,JJ,(G5 hk).1,(G5 hk).2,wA,wO]
    ·simp at hp;rcases hp with rfl | rfl
     ·exact fun h=>by have h':some (Qr _)=none:=h;cases h'
     ·exact fun h=>by have h':some (Qr _)=none:=h;cases h'
    ·simp at hp;rcases hp with rfl | rfl
     ·have h':some (Qr _)=some b:=hb;cases h';rfl
     ·have h':some (Qr _)=some b:=hb;cases h';rfl
    ·exact⟨_,rfl,hK⟩
  ·cases hT
 ·cases hT
end Go.Proofs
namespace Go.Proofs
open Go Go.Eng
def K9 (x r:Nat):Prop:=r<=32/\x<2^r/\(x=0∨(1<=r/\2^(r-1)<=x))
def GG (x:Nat)(K:AV->Prop):Prop:=Qc T9 (oF Tryd.f98) noL Tryd.f98 [iA .u32 x] K
def QEu:List UInt8:=(List.range 256).map fun x=>Zk (if x=0 then 0 else Nat.log2 x+1)
def GH (y n:Int)(K:AV->Prop):Prop:= ∃b:UInt8,((0:Int)<=Zf.wrap y/\QEu[(Zf.wrap y).toNat]? =some b)/\K (.x false [.v (.int .i64 (Zb.wrap (n+Zb.wrap (Za b.toNat))))])
theorem G8 (x:Nat)(K:AV->Prop):GG x K=(bif decide (Za x≥65536)then(0:Int)<=16/\(bif decide (Q0 .u32 (Za x) 16≥256)then(0:Int)<=8/\GH (Q0 .u32 (Q0 .u32 (Za x) 16) 8) 24 K else GH (Q0 .u32 (Za x) 16) 16 K)
 else(bif decide (Za x≥256)then(0:Int)<=8/\GH (Q0 .u32 (Za x) 8) 8 K else GH (Za x) 0 K)):=by kernel_rfl
theorem QEv {x r k:Nat}(h:K9 (x/2^k) r)(hx:2^k<=x)(hr:r+k<=32):K9 x (r+k):=by
 obtain⟨_,h1,h2⟩:=h;have hk:0<2^k:=Yp (by omega);have h0:x/2^k≠0:=by have:=Nat.div_pos hx hk;omega
 refine⟨hr,?_,.inr ?_⟩
 ·rw[Yl];exact(Nat.div_lt_iff_lt_mul hk).1 h1
 ·rcases h2 with h2 | ⟨h2,h3⟩
  ·exact absurd h2 h0
  ·refine⟨by omega,?_⟩;rw[show r+k-1=(r-1)+k by omega,Yl];exact(Nat.le_div_iff_mul_le hk).1 h3
theorem QF7 {x k:Nat}(hk:k<=32):Q0 .u32 (x:Int) (k:Int)=((x/2^k:Nat):Int):=by
 rw[X2 (by simpa [Ys]using hk) (by simp),Zm];simp
theorem QO7:(List.range 256).all (fun x=>match QEu[x]? with | some b=>decide (b.toNat<=8)&&decide (x<2^b.toNat)&&(decide (x=0) || (decide (1<=b.toNat)&&decide (2^(b.toNat-1)<=x))) | none=>false)=true:=by kernel_rfl
theorem QMK {x:Nat}(h:x<256): ∃b:UInt8,QEu[x]? =some b/\b.toNat<=8/\K9 x b.toNat:=by
 have:=List.all_eq_true.1 QO7 x (by simpa using h);split at this
 ·rename_i b hb;simp only[Bool.and_eq_true,Bool.or_eq_true,decide_eq_true_eq]at this;exact⟨b,hb,this.1.1,by omega,this.1.2,this.2⟩
 ·cases this
theorem Ks {y n:Nat}{K:AV->Prop}(hy:y<256)(hn:n<=24)(h: ∀r,r<=8->K9 y r->K (iA .i64 (n+r:Nat))):GH (y:Int) (n:Int) K:=by
 obtain⟨b,h1,h2,h3⟩:=QMK hy;refine⟨b,⟨by rw[wu8 (by omega)];omega,by rw[wu8 (by omega),Zm];exact h1⟩,?_⟩;have:=h _ h2 h3;simp only[Zj];rw[w64 (n:=(b.toNat:Int)) (by omega),w64 (by omega)];have e:(n:Int)+b.toNat=((n+b.toNat:Nat):Int):=by simp
 rw[e];exact this
theorem QML (x:Nat)(hx:x<4294967296):QU (GG x fun av=> ∃r,K9 x r/\av=iA .i64 r):=by
 refine⟨?_⟩;rw[G8];simp only[Zj];have s16:Q0 .u32 (x:Int) 16=((x/65536:Nat):Int):=QF7 (k:=16) (by omega);have s8:Q0 .u32 (x:Int) 8=((x/256:Nat):Int):=QF7 (k:=8) (by omega);have s24:Q0 .u32 ((x/65536:Nat):Int) 8=((x/65536/256:Nat):Int):=QF7 (k:=8) (by omega);simp only[s16,s8,s24];refine QE (fun h1=>⟨by omega,QE (fun h2=>⟨by omega,?_⟩) (fun h2=> ?_)⟩) (fun h1=>QE (fun h2=>⟨by omega,?_⟩) (fun h2=> ?_))
 ·have h1:=R5 h1;have h2:=R5 h2;refine Ks (n:=24) (by omega) (by omega) fun r hr hl=>⟨24+r,?_,rfl⟩;rw[Nat.div_div_eq_div_mul]at hl;rw[Yn];exact QEv (k:=24) hl (by omega) (by omega)
 ·have h1:=R5 h1;have h2:=R6 h2;refine Ks (n:=16) (by omega) (by omega) fun r hr hl=>⟨16+r,?_,rfl⟩;rw[Yn];exact QEv (k:=16) hl (by omega) (by omega)
 ·have h1:=R6 h1;have h2:=R5 h2;refine Ks (n:=8) (by omega) (by omega) fun r hr hl=>⟨8+r,?_,rfl⟩;rw[Yn];exact QEv (k:=8) hl (by omega) (by omega)
 ·have h1:=R6 h1;have h2:=R6 h2;refine Ks (n:=0) (by omega) (by omega) fun r hr hl=>⟨0+r,?_,rfl⟩;rw[Ye];exact hl
def QBT:Ctr
 | [.x false [.v (.int .u32 x)]]=>some fun K=>(0<=x/\x<4294967296)/\ ∀r,K9 x.toNat r->K (iA .i64 r)
 | _=>none
def QEw:Ctr
 | [.x false [.v (.int .u32 x)]]=>some fun K=>(0<=x/\x<4294967296)/\ ∀r,K9 x.toNat r->K (iA .i64 (32-r:Nat))
 | _=>none
theorem QJX {g:Nat}{tab:List Value}:CtrOK Tryd.prog g tab 98 QBT:=by
 refine⟨Qm Tryd.func98 (by kernel_rfl),fun l T hT K hK=> ?_⟩;unfold QBT at hT;split at hT
 ·cases hT
  obtain⟨⟨h0,h1⟩,hK⟩:=hK;rename_i x;obtain⟨x,rfl⟩:=Zs h0;refine Eng.Spec.res (Qn QMI QW Tryd.func98 (by kernel_rfl) (by kernel_rfl) (by rfl) (QML x (by omega))) ?_
  rintro w O av v ⟨r,hr,rfl⟩ hc;exact⟨_,hK r hr,hc⟩
 ·cases hT
def L10:LC:=(98,QBT)::L9
def M10:List (Nat×YA):=(89,QEq)::(90,VM)::(91,UR)::M7
noncomputable def T10:Qh:=mkT L10 M10 X3
theorem QNs {g:Nat}{tab:List Value}:CtrsOK Tryd.prog g tab L10:= .cons QJX QQm
theorem QJY {g:Nat}{tab:List Value}:CtrMsOK Tryd.prog g tab M10:= .cons QMJ (.cons QC3 (.cons QEt QMH))
theorem QQn {g:Nat}{tab:List Value}:Q5 Tryd.prog g tab T10:=Qq QNs QJY Uw
def QAa (x:Nat)(K:AV->Prop):Prop:=Qc T10 (oF Tryd.f88) noL Tryd.f88 [iA .u32 x] K
theorem QBU (x:Nat)(K:AV->Prop):QAa x K=((0<=Za x/\Za x<4294967296)/\∀(r:Nat),r<=32/\(Za x).toNat<2^r/\((Za x).toNat=0∨1<=r/\2^(r-1)<=(Za x).toNat)->K (AV.x false [Zo (Ze Zb (Zb.wrap (32-Za r)))])):=by kernel_rfl
theorem QO8 (x:Nat)(hx:x<4294967296):QU (QAa x fun av=> ∃r,K9 x r/\av=iA .i64 (32-r:Nat)):=by
 refine⟨?_⟩;rw[QBU];simp only[Zj,Zm];refine⟨by omega,fun r hr=>⟨r,hr,?_⟩⟩;have:=hr.1;rw[w64 (by omega),show(32:Int)-r=((32-r:Nat):Int)by omega];rfl
theorem QMM {g:Nat}{tab:List Value}:CtrOK Tryd.prog g tab 88 QEw:=by
 refine⟨Qm Tryd.func88 (by kernel_rfl),fun l T hT K hK=> ?_⟩;unfold QEw at hT;split at hT
 ·cases hT
  obtain⟨⟨h0,h1⟩,hK⟩:=hK;rename_i x;obtain⟨x,rfl⟩:=Zs h0;refine Eng.Spec.res (Qn QQn QW Tryd.func88 (by kernel_rfl) (by kernel_rfl) (by rfl) (QO8 x (by omega))) ?_
  rintro w O av v ⟨r,hr,rfl⟩ hc;exact⟨_,hK r hr,hc⟩
 ·cases hT
def L11:LC:=(88,QEw)::L10
noncomputable def T11:Qh:=mkT L11 M10 X3
theorem QJZ {g:Nat}{tab:List Value}:CtrsOK Tryd.prog g tab L11:= .cons QMM QNs
theorem QQo {g:Nat}{tab:List Value}:Q5 Tryd.prog g tab T11:=Qq QJZ QJY Uw
end Go.Proofs
