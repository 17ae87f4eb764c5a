/- roam: check, Number at one point, Value, Near; arm.Joints and the joint behind it; RoamNear. -/
import Derived.Test.YtfhfenokfkenoaaGreatDoorA2
import Derived.Test.YtfhfenokfkenoaaGreatDoorPB
open Go.IntKind renaming i64 → Za
open Int renaming ofNat → Zb, ofNat_eq_natCast → Zi
open List renaming map → Zc, take → Ze, take_of_length_le → Zf, getElem?_eq_getElem → Zk, length_map → Zm, length_take → Zo, mem_of_getElem? → Zp, take_add_one → Zq, drop_zero → Zs
open Go.Value renaming int → Zd, string → Zh, bool → Zl, slice → Zn
open Go.Eng.Ch renaming r → Zg, v → Zj, s → Zr
namespace Go.Proofs
open Go Go.Eng
def Vf:Rat:=((1:Int):Rat)/((2:Int):Rat)
def QMt (s:Int)(L:Qf)(k:Int):Rat:=L.lo+(L.hi-L.lo)*((k:Rat)/(s:Rat))
def XD (a:ArmV)(s:Int)(ks:List Int):List Rat:=List.zipWith (QMt s) a.links ks
def Kz (s:Int)(L:Qf)(q:Rat):Rat:=Vf-(q-L.lo)/(L.hi-L.lo)*(s:Rat)
def QBr (s:Int)(L:Qf)(q:Rat):Int:= -(Kz s L q).floor
def Qs (a:ArmV)(s:Int)(qs:List Rat):List Int:=List.zipWith (QBr s) a.links qs
def WH (L:Qf):List Ch:=[.i 258 true (QB L)]
def Qbo (l:List Qf):Blk:= .row 223 1 (l.map WH)
theorem QWP {l:List Qf}{i:Nat}{L:Qf}(h:l[i]? =some L):ldE (l.map WH) i 0 1=some (WH L):=by
 simp only[ldE,List.getElem?_map,h];rfl
theorem QQ5:Vf+Vf=1:=by decide+kernel
theorem Ga {s:Int}(hs:1<=s){L:Qf}{q:Rat}(hl:L.lo<L.hi)(h1:L.lo<=q)(h2:q<=L.hi):0<=QBr s L q/\QBr s L q<=s/\ -s<=(Kz s L q).floor/\(Kz s L q).floor<=0:=by
 have hp:0<(L.hi-L.lo)⁻¹:=Rat.inv_pos.2 (by grind);have e:(L.hi-L.lo)*(L.hi-L.lo)⁻¹=1:=Rat.mul_inv_cancel _ (by grind);have y0:0<=(q-L.lo)/(L.hi-L.lo):=by
  rw[Rat.div_def];exact Rat.mul_nonneg (by grind) (Rat.le_of_lt hp)
 have y1:(q-L.lo)/(L.hi-L.lo)<=1:=by
  rw[Rat.div_def,<-e];exact Rat.mul_le_mul_of_nonneg_right (by grind) (Rat.le_of_lt hp)
 have s0:(0:Rat)<=(s:Rat):=Rat.intCast_nonneg.2 (by omega);have hh:=QQ5;have z0:0<=(q-L.lo)/(L.hi-L.lo)*(s:Rat):=Rat.mul_nonneg y0 s0;have z1:(q-L.lo)/(L.hi-L.lo)*(s:Rat)<=(s:Rat):=by
  have:=Rat.mul_le_mul_of_nonneg_right y1 s0;rwa [Rat.one_mul]at this
 have a1:(((-s:Int)):Rat)<=Kz s L q:=by
  unfold Kz;rw[Rat.intCast_neg];grind
 have f1: -s<=(Kz s L q).floor:=Rat.le_floor_iff.2 a1
 have f2:(Kz s L q).floor<1:=Rat.floor_lt_iff.2 (by
  unfold Kz;have:((1:Int):Rat)=1:=rfl;rw[this]
  grind)
 unfold QBr;omega
def mtL:List (Nat×String×Nat)->QNH
 | [],_,_=>none
 | p::l,t,n=>bif t.beq p.1&&p.2.1==n then some p.2.2 else mtL l t n
def mtV:List (Nat×String×Nat):=[(258, "Value",259)]
noncomputable def mkTV (l:List (Nat×Ctr))(m:List (Nat×XJ))(x:List (Nat×V3)):QZ:=⟨tbL Tryz.tyL,prL l,pmL m,pxL x,mtL mtV,itP Tryz.prog QCd,QNv⟩
theorem QQ6 {P:Program}: ∀{l:List (Nat×String×Nat)},(∀p∈l,QAP P p.1 p.2.1=some p.2.2)-> ∀t n f,mtL l t n=some f->QAP P t n=some f
 | [],_,_,_,_,h=>by cases h
 | p::l,hl,t,n,f,h=>by
  unfold mtL at h;cases hb:t.beq p.1&&p.2.1==n with
  | false=>rw[hb]at h;exact QQ6 (fun q hq=>hl q (by simp[hq])) t n f h
  | true=>
   rw[hb]at h;cases h
   simp only[Bool.and_eq_true,beq_iff_eq]at hb;have:=Nat.eq_of_beq_eq_true hb.1;subst this;rw[<-hb.2];exact hl p (by simp)
theorem QYw {P:Program}{l:List (Nat×String×Nat)}(h: ∀p∈l,QAP P p.1 p.2.1=some p.2.2):QAO P (mtL l):=fun t name f hf v w=>QAQ P t name f (QQ6 h t name f hf) v w
theorem QYx:QAO Tryz.prog (mtL mtV):=QYw fun p hp=>by
 simp only[mtV,List.mem_singleton]at hp;subst hp;kernel_rfl
theorem Wl {g:Nat}{tab:List Value}{l:List (Nat×Ctr)}{m:List (Nat×XJ)}{x:List (Nat×V3)}(h:CtrsOK Tryz.prog g tab l)(hm:CtrMsOK Tryz.prog g tab m)(hx:CtrXsOK Tryz.prog x):Qz Tryz.prog g tab (mkTV l m x):=
 QHt (mkTV.eq_1 l m x) Tryz.tb_ok (QDc h) (QHm hm) (QHn hx) QYx (QHl Tryz.prog QCd) fun _ _ e j _ _ he hu=>by rw[(Tryz.tb_ok e j he).und,hu]
def QGs:List (Nat×XJ):=(206,Uz)::M48
def QYy:LC:=(202,Vc)::(203,QEP)::(162,U6)::L53
theorem H5:XB QGs:= .cons QCt GX
theorem QQ7:QG QYy:= .cons Hu (.cons QKM (.cons QMS QaP))
abbrev QGt (x:Int)(y:Int)(K:AV->Prop):Prop:=(((-9223372036854775808<=x/\x<9223372036854775808)/\ -9223372036854775808<=y/\y<9223372036854775808)/\((y:Rat)≠0))/\(K (.t [(true,[.r ((x:Rat)/(y:Rat)) 128]),(false,[.v (.int .i64 0)])]))
theorem QQ8 (x:Int)(y:Int)(K:AV->Prop)(hK:QGt x y K):QM (QR (mkTV QYy QGs X4) (oF Tryz.f146) noL Tryz.f146 [iA .i64 x,iA .i64 y] K):=by
 obtain⟨hc,hK⟩:=hK;refine HV (((-9223372036854775808<=x/\x<9223372036854775808)/\(-9223372036854775808<=y/\y<9223372036854775808)/\128<=4294967296/\((↑y:Rat)≠OfNat.ofNat 0->K (AV.t [(true,[Zg ((↑x:Rat)/(↑y:Rat)) 128]),(false,[Zj (Zd Za 0)])]))/\((↑y:Rat)=OfNat.ofNat 0->K (AV.t [(true,[Zj (Zl false),Zj (Zh (ByteArray.mk (Array.mk []))),Zj (Zh (ByteArray.mk (Array.mk [])))]),(false,[Zj (Zd Za 12)])])))) ?_
 try simp only[Zi,R0,R1,Nat.zero_add,Nat.le_refl,R4,R2,R3]
 exact⟨hc.1.1,hc.1.2,by omega,fun _=>hK,fun h=>absurd h hc.2⟩
def QBs:Ctr
 | [.x false [.v (.int .i64 x)],.x false [.v (.int .i64 y)]]=>some fun K=>QGt x y K
 | _=>none
theorem QMu:QI 146 QBs:=by
 refine okL Tryz.func146 fun l T hT K hK=> ?_
 unfold QBs at hT;split at hT<;>cases hT
 exact spL (Wl QQ7 H5 Qg) QK Tryz.func146 (QQ8 _ _ K hK)
def QYz:LC:=(146,QBs)::QYy
theorem QQ9:QG QYz:= .cons QMu QQ7
theorem QMv (a:ArmV)(s:Int)(hc:(QJ a)/\(1<=s/\s<=12))(K:AV->Prop)(hK:K (iA .i64 0)):QM (QR (mkTV QYz QGs X4) (oF Tryz.f161) noL Tryz.f161 [J5 a,iA .i64 s] K):=by
 refine HV ((∃(a_1:ArmV),[Zj (Zh a.name),Zg a.x 63,Zg a.y 63,Zj (Zl a.half),Zg a.t 63,Zr 16 (Zc QB a.links)]=[Zj (Zh a_1.name),Zg a_1.x 63,Zg a_1.y 63,Zj (Zl a_1.half),Zg a_1.t 63,Zr 16 (Zc QB a_1.links)]/\QJ a_1/\bif decide (s<1)then K (AV.x false [Zj (Zd Za 1)])else bif decide (s>12)then K (AV.x false [Zj (Zd Za 1)])else K (AV.x false [Zj (Zd Za 0)]))) ?_
 try simp only[Zi,R0,R1,Nat.zero_add,Nat.le_refl,R4,R2,R3]
 exact⟨a,rfl,hc.1,QF (fun h=>by have:=R5 h;omega) (fun _=>QF (fun h=>by have:=R5 h;omega) (fun _=>hK))⟩
def H6:Ctr
 | [.x true xs,.x false [.v (.int .i64 s)]]=>some fun K=> ∃(a:ArmV),xs=XM a/\((QJ a)/\(1<=s/\s<=12))/\(K (iA .i64 0))
 | _=>none
theorem QJS:QI 161 H6:=by
 refine okL Tryz.func161 fun l T hT K hK=> ?_
 unfold H6 at hT;split at hT<;>cases hT
 obtain⟨a,rfl,hc,hK⟩:=hK;exact spL (Wl QQ9 H5 Qg) QK Tryz.func161 (QMv _ _ hc K hK)
def QY0:LC:=(161,H6)::QYz
theorem QRA:QG QY0:= .cons QJS QQ9
theorem QUw (_hc:True)(K:AV->Prop)(hK:K (.t [(false,[.v (.int .i64 6)]),(false,[.v (.int .i64 0)])])):QM (QR (mkTV QY0 QGs X4) (oF Tryz.f169) (fun _=> .unroll 3) Tryz.f169 [iA .i64 2,iA .i64 3,.x false [.s 1 (ints [1,2])]] K):=by
 refine HV ((((0:Int)<=0/\(0:Int)<2)/\∃(d:Int),some [Zj (Zd Za 1)]=some [Zj (Zd Za d)]/\bif decide (d<0)then K (AV.t [(false,[Zj (Zd Za 0)]),(false,[Zj (Zd Za 17)])])else bif decide (d>3)then K (AV.t [(false,[Zj (Zd Za 0)]),(false,[Zj (Zd Za 17)])])else((0:Int)<=1/\(1:Int)<2)/\∃(d_1:Int),some [Zj (Zd Za 2)]=some [Zj (Zd Za d_1)]/\bif decide (d_1<0)then K (AV.t [(false,[Zj (Zd Za 0)]),(false,[Zj (Zd Za 17)])])else bif decide (d_1>3)then K (AV.t [(false,[Zj (Zd Za 0)]),(false,[Zj (Zd Za 17)])])else K (AV.t [(false,[Zj (Zd Za (Za.wrap (Za.wrap (Za.wrap (0+d)*4)+d_1)))]),(false,[Zj (Zd Za 0)])]))) ?_
 try simp only[Zi,R0,R1,Nat.zero_add,Nat.le_refl,R4,R2,R3]
 exact⟨by omega,1,rfl,QF (fun h=>by simp at h) (fun _=>QF (fun h=>by simp at h) (fun _=>⟨by omega,2,rfl,QF (fun h=>by simp at h) (fun _=>QF (fun h=>by simp at h) (fun _=>hK))⟩))⟩
def QEo:Ctr
 | [.x false [.v (.int .i64 2)],.x false [.v (.int .i64 3)],.x false [.s 1 [[.v (.int .i64 1)],[.v (.int .i64 2)]]]]=>some fun K=>(True)/\(K (.t [(false,[.v (.int .i64 6)]),(false,[.v (.int .i64 0)])]))
 | _=>none
theorem QRB:QI 169 QEo:=by
 refine okL Tryz.func169 fun l T hT K hK=> ?_
 unfold QEo at hT;split at hT<;>cases hT
 obtain⟨hc,hK⟩:=hK;exact spL (Wl QRA H5 Qg) QK Tryz.func169 (QUw  hc K hK)
def QY1:LC:=(169,QEo)::QY0
theorem QRC:QG QY1:= .cons QRB QRA
abbrev QC8 (a:ArmV)(K:AV->Prop):Prop:=((QJ a))/\(K (.t [(false,[.s 1 (a.links.map WH)]),(false,[.v (.int .i64 0)])]))
theorem QMw (a:ArmV)(K:AV->Prop)(hK:QC8 a K):QM (QR (mkTV QY1 QGs X4) (oF Tryz.f163) (fun _=> .inv ⟨Nat,fun i=>⟨[(5,.x false [.w 500 0 i]),(14,.x false [.s 16 (a.links.map QB)]),(15,iA .i64 a.links.length),(16,iA .i64 i)],[(500,Qbo (a.links.take i))]⟩,fun i=>i<=a.links.length,fun i=>a.links.length-i,fun _=>0⟩) Tryz.f163 [J5 a] K):=by
 obtain⟨hc,hK⟩:=hK;refine HV ((∃(a_1:ArmV),[Zj (Zh a.name),Zg a.x 63,Zg a.y 63,Zj (Zl a.half),Zg a.t 63,Zr 16 (Zc QB a.links)]=[Zj (Zh a_1.name),Zg a_1.x 63,Zg a_1.y 63,Zj (Zl a_1.half),Zg a_1.t 63,Zr 16 (Zc QB a_1.links)]/\QJ a_1/\(∃(x:Nat),(x<=a.links.length/\OfNat.ofNat 0=0)/\Zn none 0 0=Zn none 0 0/\0=0/\x=0/\16=16/\Zc QB a.links=Zc QB a.links/\Zb (Zc QB a.links).length=Zb a.links.length/\0=Zb x/\Zc WH (Ze x a.links)=[]/\True)/\∀(x:Nat),x<=a.links.length->OfNat.ofNat 0=0->bif decide (Zb x<Zb a.links.length)then(0<=Zb x/\Zb x<Zb (Zc QB a.links).length)/\∃(q:Rat),∃(n:Nat),∃(q_1:Rat),∃(n_1:Nat),∃(q_2:Rat),∃(n_2:Nat),∃(q_3:Rat),∃(n_3:Nat),∃(q_4:Rat),∃(n_4:Nat),∃(ys:List (List Ch)),ldE (Zc QB a.links) (Zb x).toNat 0 16=some [Zg q n,Zg q_1 n_1,Zg q_2 n_2,Zg q_3 n_3,Zg q_4 n_4,Zr 6 ys]/\((x+1)*16<=140737488355328/\x+1<=9223372036854775807)/\∃(x':Nat),(x'<=a.links.length/\OfNat.ofNat 0=0/\a.links.length-x'<a.links.length-x)/\0=0/\x+1=x'/\16=16/\Zc QB a.links=Zc QB a.links/\Zb a.links.length=Zb a.links.length/\Za.wrap (Zb x+1)=Zb x'/\223=223/\1=1/\(Ze x (Zc WH (Ze x a.links))++[[Ch.i 258 true [Zg q n,Zg q_1 n_1,Zg q_2 n_2,Zg q_3 n_3,Zg q_4 n_4,Zr 6 ys]]]=Zc WH (Ze x' a.links)∨QC (Ze x (Zc WH (Ze x a.links))++[[Ch.i 258 true [Zg q n,Zg q_1 n_1,Zg q_2 n_2,Zg q_3 n_3,Zg q_4 n_4,Zr 6 ys]]]) (Zc WH (Ze x' a.links)))/\True else K (AV.t [(false,[Zr 1 (Ze x (List.drop 0 (Zc WH (Ze x a.links))))]),(false,[Zj (Zd Za 0)])]))) ?_
 try simp only[Zi,R0,R1,R4]
 have hn:=hc.n;simp only[Zm];refine⟨a,rfl,hc,⟨0,by omega,rfl,trivial,rfl,rfl⟩,fun x hx=>QF (fun hp=> ?_) (fun hp=> ?_)⟩
 ·have hp:x<a.links.length:=by have:=R5 hp;omega
  obtain⟨L,hL⟩: ∃L,a.links[x]? =some L:=⟨_,Zk hp⟩
  refine⟨by omega,_,_,_,_,_,_,_,_,_,_,_,Ko (by simpa using hL),by omega,x+1,⟨by omega,by omega⟩,rfl,by rw[w64 (by omega)];simp,.inl ?_⟩;rw[Zf (by rw[Zm,Zo];omega),Zq,hL,List.map_append];rfl
 ·have hp:x=a.links.length:=by have:=R6 hp;omega
  subst hp;rw[Zs,Zf (l:=Zc WH _) (by rw[Zm,Zo];omega),List.take_length];exact hK
def H7:Ctr
 | [.x true xs]=>some fun K=> ∃(a:ArmV),xs=XM a/\QC8 a K
 | _=>none
theorem QJT:QI 163 H7:=by
 refine okL Tryz.func163 fun l T hT K hK=> ?_
 unfold H7 at hT;split at hT<;>cases hT
 obtain⟨a,rfl,hK⟩:=hK;exact spL (Wl QRC H5 Qg) QK Tryz.func163 (QMw _ K hK)
def QY2:LC:=(163,H7)::QY1
theorem QRD:QG QY2:= .cons QJT QRC
theorem QRE (L:Qf)(q:Rat)(b:Nat)(hc:(b<=1000000))(K:AV->Prop)(hK:K (rA (L.lo+(L.hi-L.lo)*q) (63+(63+63+1+b)+1))):QM (QR (mkTV QY2 QGs X4) (oF Tryz.f259) noL Tryz.f259 [.x true (QB L),rA q b] K):=by
 refine HV ((127<=4294967296/\127+b<=4294967296/\63+(127+b)+1<=4294967296/\K (AV.x true [Zg (L.lo+(L.hi-L.lo)*q) (63+(127+b)+1)]))) ?_
 try simp only[Zi,R0,R1,Nat.zero_add,Nat.le_refl,R4,R2,R3]
 exact⟨by omega,by omega,by omega,hK⟩
def QBt:Ctr
 | [.x true xs,.x true [.r q b]]=>some fun K=> ∃(L:Qf),xs=QB L/\((b<=1000000))/\(K (rA (L.lo+(L.hi-L.lo)*q) (63+(63+63+1+b)+1)))
 | _=>none
theorem ok_hValue:QI 259 QBt:=by
 refine okL Tryz.func259 fun l T hT K hK=> ?_
 unfold QBt at hT;split at hT<;>cases hT
 obtain⟨L,rfl,hc,hK⟩:=hK;exact spL (Wl QRD H5 Qg) QK Tryz.func259 (QRE _ _ _ hc K hK)
def QUx:LC:=(259,QBt)::QY2
noncomputable def Qb7:QZ:=mkTV QUx QGs X4
theorem QRF:QG QUx:= .cons ok_hValue QRD
end Go.Proofs
namespace Go.Proofs
open Go Go.Eng
theorem QGu {P:Program}{g:Nat}{tab:List Value}{f:Nat}{c:Ctr}(hc:CtrOK P g tab f c){as0:List AV}{H:HP}{K:KK}{d:Nat}(h:QCP (prL [(f,c)]) (fun _ _ _ _=>none) f d as0 H K):SpecM P g tab f as0 H K:=fun w0 M ρ w vals hg ht hs ha=>by
 subst hg ht;exact(Wt (QDc (.cons hc .nil)) (QNE.mk (fun _ _ _ _ _ (h:none=some _)=>nomatch h) (fun _ _ _ _ _ (h:none=some _)=>nomatch h)) hs ha h).2
theorem Jz {l:List Int}{i:Nat}{k:Int}(h:l[i]? =some k):ldE (ints l) i 0 1=some [.v (.int .i64 k)]:=by
 simp only[ldE,ints,List.getElem?_map,h];rfl
def H8:XJ:=fun as0 H _=>match as0 with
 | [.x true ds,.x true [.r q b]]=>some fun K=> ∃L,ds=QB L/\b<=1000000/\K (rA (L.lo+(L.hi-L.lo)*q) (63+(63+63+1+b)+1)) H
 | _=>none
def QMx:List (Nat×XJ):=(259,H8)::QGs
theorem QJU:XP 259 H8:=by
 refine⟨ok_hValue.enter,fun l H d T hT K hK=> ?_⟩;unfold H8 at hT;split at hT
 ·cases hT
  obtain⟨L,rfl,hc,hK⟩:=hK;exact QGu ok_hValue (d:=0) ⟨L,rfl,hc,hK⟩
 ·cases hT
theorem QEp:XB QMx:= .cons QJU H5
abbrev QC9 (a:ArmV)(s:Int)(ks:List Int)(K:AV->Prop):Prop:=((QJ a)/\(1<=s/\s<=12)/\(ks.length=a.links.length/\ ∀k∈ks,0<=k/\k<=s))/\(K (.t [(false,[.s 3 (lR 319 (XD a s ks))]),(false,[.v (.int .i64 0)])]))
set_option maxHeartbeats 1000000 in
theorem QMy (a:ArmV)(s:Int)(ks:List Int)(K:AV->Prop)(hK:QC9 a s ks K):QM (QR (mkTV QUx QMx X4) (oF Tryz.f101) (fun _=> .inv ⟨Nat,fun i=>⟨[(1,iA .i64 s),(2,.x false [.s 1 (ints ks)]),(9,.x false [.s 1 (a.links.map WH)]),(11,.x false [.w 500 0 i]),(36,.x false [.s 1 (ints ks)]),(37,iA .i64 ks.length),(38,iA .i64 i)],[(500,QBH 319 ((XD a s ks).take i))]⟩,fun i=>i<=ks.length,fun i=>ks.length-i,fun _=>0⟩) Tryz.f101 [J5 a,iA .i64 s,.x false [.s 1 (ints ks)]] K):=by
 obtain⟨hc,hK⟩:=hK;refine HV ((∃(a_1:ArmV),[Zj (Zh a.name),Zg a.x 63,Zg a.y 63,Zj (Zl a.half),Zg a.t 63,Zr 16 (Zc QB a.links)]=[Zj (Zh a_1.name),Zg a_1.x 63,Zg a_1.y 63,Zj (Zl a_1.half),Zg a_1.t 63,Zr 16 (Zc QB a_1.links)]/\(QJ a_1/\1<=s/\s<=12)/\bif Zb (ints ks).length !=Zb (Zc QB a.links).length then K (AV.t [(false,[Zj (Zn none 0 0)]),(false,[Zj (Zd Za 1)])])else ∃(a_2:ArmV),[Zj (Zh a.name),Zg a.x 63,Zg a.y 63,Zj (Zl a.half),Zg a.t 63,Zr 16 (Zc QB a.links)]=[Zj (Zh a_2.name),Zg a_2.x 63,Zg a_2.y 63,Zj (Zl a_2.half),Zg a_2.t 63,Zr 16 (Zc QB a_2.links)]/\QJ a_2/\(∃(x:Nat),(x<=ks.length/\OfNat.ofNat 0=0)/\s=s/\1=1/\ints ks=ints ks/\1=1/\Zc WH a_2.links=Zc WH a.links/\Zn none 0 0=Zn none 0 0/\0=0/\x=0/\1=1/\ints ks=ints ks/\Zb (ints ks).length=Zb ks.length/\0=Zb x/\Zc (fun(q:Rat)=>[Zg q 319]) (Ze x (XD a s ks))=[]/\True)/\∀(x:Nat),x<=ks.length->OfNat.ofNat 0=0->bif decide (Zb x<Zb ks.length)then(0<=Zb x/\Zb x<Zb (ints ks).length)/\∃(d:Int),ldE (ints ks) (Zb x).toNat 0 1=some [Zj (Zd Za d)]/\bif decide (d<0)then K (AV.t [(false,[Zj (Zn none 0 0)]),(false,[Zj (Zd Za 17)])])else bif decide (d>s)then K (AV.t [(false,[Zj (Zn none 0 0)]),(false,[Zj (Zd Za 17)])])else(((-9223372036854775808<=d/\d<9223372036854775808)/\ -9223372036854775808<=s/\s<9223372036854775808)/\(↑s:Rat)≠OfNat.ofNat 0)/\(0<=Zb x/\Zb x<Zb (Zc WH a.links).length)/\∃(ds:List Ch),ldE (Zc WH a.links) (Zb x).toNat 0 1=some [Ch.i 258 true ds]/\∃(L:Qf),ds=[Zg L.len 63,Zg L.lo 63,Zg L.hi 63,Zg L.sp 63,Zg L.br 63,Zr 6 (Zc Xl L.shape)]/\128<=1000000/\((x+1)*40<=140737488355328/\x+1<=9223372036854775807)/\∃(x':Nat),(x'<=ks.length/\OfNat.ofNat 0=0/\ks.length-x'<ks.length-x)/\s=s/\1=1/\ints ks=ints ks/\1=1/\Zc WH a.links=Zc WH a.links/\0=0/\x+1=x'/\1=1/\ints ks=ints ks/\Zb ks.length=Zb ks.length/\Za.wrap (Zb x+1)=Zb x'/\25=25/\3=3/\(Ze x (Zc (fun(q:Rat)=>[Zg q 319]) (Ze x (XD a s ks)))++[[Zg (L.lo+(L.hi-L.lo)*((↑d:Rat)/(↑s:Rat))) 319]]=Zc (fun(q:Rat)=>[Zg q 319]) (Ze x' (XD a s ks))∨QC (Ze x (Zc (fun(q:Rat)=>[Zg q 319]) (Ze x (XD a s ks)))++[[Zg (L.lo+(L.hi-L.lo)*((↑d:Rat)/(↑s:Rat))) 319]]) (Zc (fun(q:Rat)=>[Zg q 319]) (Ze x' (XD a s ks))))/\True else K (AV.t [(false,[Zr 3 (Ze x (List.drop 0 (Zc (fun(q:Rat)=>[Zg q 319]) (Ze x (XD a s ks)))))]),(false,[Zj (Zd Za 0)])]))) ?_
 try simp only[Zi,R0,R1,R4]
 obtain⟨hg,⟨s1,s2⟩,hl,hks⟩:=hc;have hn:=hg.n;have lv:(XD a s ks).length=ks.length:=by simp[XD,hl]
 simp only[Zm,Qw];refine⟨a,rfl,⟨hg,s1,s2⟩,QF (fun h=>by simp[hl]at h) (fun _=>⟨a,rfl,hg,⟨0,by omega,rfl,rfl,trivial,rfl,rfl⟩,fun x hx=>QF (fun hp=> ?_) (fun hp=> ?_)⟩)⟩
 ·have hp:x<ks.length:=by have:=R5 hp;omega
  obtain⟨k,hk⟩: ∃k,ks[x]? =some k:=⟨_,Zk hp⟩
  have hkb:=hks k (Zp hk);obtain⟨L,hL⟩: ∃L,a.links[x]? =some L:=⟨_,Zk (by omega)⟩
  have hv:(XD a s ks)[x]? =some (QMt s L k):=by simp[XD,List.getElem?_zipWith,hL,hk]
  refine⟨by omega,k,Jz (by simpa using hk),QF (fun h=>by have:=R5 h;omega) (fun _=>QF (fun h=>by have:=R5 h;omega) (fun _=>⟨⟨by omega,?_⟩,by omega,_,QWP (by simpa using hL),L,rfl,by omega,by omega,x+1,⟨by omega,by omega⟩,rfl,by rw[w64 (by omega)];simp,.inl ?_⟩))⟩
  ·intro h;have h2:(0:Rat)<((s:Int):Rat):=Rat.intCast_pos.2 (by omega);grind
  ·rw[Zf (by rw[Zm,Zo];omega),Zq,hv,List.map_append];rfl
 ·have hp:x=ks.length:=by have:=R6 hp;omega
  subst hp;rw[Zs,Zf (by rw[Zm,Zo];omega),Zf (by omega)];exact hK
def H9:Ctr
 | [.x true xs,.x false [.v (.int .i64 s)],.x false [.s 1 ys]]=>some fun K=> ∃(a:ArmV) (ks:List Int),xs=XM a/\ys=ints ks/\QC9 a s ks K
 | _=>none
theorem ok_roValue:QI 101 H9:=by
 refine okL Tryz.func101 fun l T hT K hK=> ?_
 unfold H9 at hT;split at hT<;>cases hT
 obtain⟨a,ks,rfl,rfl,hK⟩:=hK;exact spL (Wl QRF QEp Qg) QK Tryz.func101 (QMy _ _ _ K hK)
def QY3:LC:=(101,H9)::QUx
theorem QRG:QG QY3:= .cons ok_roValue QRF
set_option maxHeartbeats 1000000 in
theorem QRH (a:ArmV)(s:Int)(n:Nat)(qs:List Rat)(hc:(QJ a)/\(1<=s/\s<=12)/\(qs.length=a.links.length/\Fit a qs/\n<=100000))(K:AV->Prop)(hK:K (.t [(false,[.s 1 (ints (Qs a s qs))]),(false,[.v (.int .i64 0)])])):QM (QR (mkTV QY3 QMx X4) (oF Tryz.f100) (fun _=> .inv ⟨Nat,fun i=>⟨[(1,iA .i64 s),(2,sR n qs),(10,.x false [.w 500 0 i]),(11,.x false [.p 11 0]),(36,.x false [.s 16 (a.links.map QB)]),(37,iA .i64 a.links.length),(38,iA .i64 i)],[(11,.box 25 [.r Vf 128]),(500,X2 ((Qs a s qs).take i))]⟩,fun i=>i<=a.links.length,fun i=>a.links.length-i,fun _=>0⟩) Tryz.f100 [J5 a,iA .i64 s,sR n qs] K):=by
 refine HV ((∃(a_1:ArmV),[Zj (Zh a.name),Zg a.x 63,Zg a.y 63,Zj (Zl a.half),Zg a.t 63,Zr 16 (Zc QB a.links)]=[Zj (Zh a_1.name),Zg a_1.x 63,Zg a_1.y 63,Zj (Zl a_1.half),Zg a_1.t 63,Zr 16 (Zc QB a_1.links)]/\(QJ a_1/\1<=s/\s<=12)/\∃(a_2:ArmV),∃(n_1:Nat),∃(qs_1:List Rat),[Zj (Zh a.name),Zg a.x 63,Zg a.y 63,Zj (Zl a.half),Zg a.t 63,Zr 16 (Zc QB a.links)]=[Zj (Zh a_2.name),Zg a_2.x 63,Zg a_2.y 63,Zj (Zl a_2.half),Zg a_2.t 63,Zr 16 (Zc QB a_2.links)]/\lR n qs=lR n_1 qs_1/\(QJ a_2/\n_1<=1000000/\qs_1.length=a_2.links.length)/\((∀(i:Nat) (L:Qf) (q:Rat),a_2.links[i]?=some L->qs_1[i]?=some q->L.lo<=q/\q<=L.hi)->((((-9223372036854775808:Int)<=1/\(1:Int)<9223372036854775808)/\(-9223372036854775808:Int)<=2/\(2:Int)<9223372036854775808)/\(↑(2:Int):Rat)≠OfNat.ofNat 0)/\(∃(x:Nat),(x<=a.links.length/\OfNat.ofNat 0=0)/\s=s/\3=3/\lR n qs=lR n qs/\Zn none 0 0=Zn none 0 0/\0=0/\x=0/\0=0/\16=16/\Zc QB a.links=Zc QB a.links/\Zb (Zc QB a.links).length=Zb a.links.length/\0=Zb x/\25=25/\(↑(1:Int):Rat)/(↑(2:Int):Rat)=Vf/\128<=128/\ints (Ze x (Qs a s qs))=[]/\True)/\∀(x:Nat),x<=a.links.length->OfNat.ofNat 0=0->bif decide (Zb x<Zb a.links.length)then(0<=Zb x/\Zb x<Zb (Zc QB a.links).length)/\∃(q:Rat),∃(n_2:Nat),∃(q_1:Rat),∃(n_3:Nat),∃(q_2:Rat),∃(n_4:Nat),∃(q_3:Rat),∃(n_5:Nat),∃(q_4:Rat),∃(n_6:Nat),∃(ys:List (List Ch)),ldE (Zc QB a.links) (Zb x).toNat 0 16=some [Zg q n_2,Zg q_1 n_3,Zg q_2 n_4,Zg q_3 n_5,Zg q_4 n_6,Zr 6 ys]/\(0<=Zb x/\Zb x<Zb (lR n qs).length)/\∃(q:Rat),∃(n_7:Nat),ldE (lR n qs) (Zb x).toNat 0 3=some [Zg q n_7]/\n_7+n_3+1<=4294967296/\n_4+n_3+1<=4294967296/\n_7+n_3+1+(n_4+n_3+1)<=4294967296/\(q_2-q_1≠OfNat.ofNat 0->(-9223372036854775808<=s/\s<9223372036854775808)/\n_7+n_3+1+(n_4+n_3+1)+64<=4294967296/\128+(n_7+n_3+1+(n_4+n_3+1)+64)+1<=4294967296/\(128+(n_7+n_3+1+(n_4+n_3+1)+64)+1<=2000000000/\ -9223372036854775808<(Vf-(q-q_1)/(q_2-q_1)*↑s).floor/\(Vf-(q-q_1)/(q_2-q_1)*↑s).floor<9223372036854775808)/\((x+1)*8<=140737488355328/\x+1<=9223372036854775807)/\∃(x':Nat),(x'<=a.links.length/\OfNat.ofNat 0=0/\a.links.length-x'<a.links.length-x)/\s=s/\3=3/\lR n qs=lR n qs/\0=0/\x+1=x'/\0=0/\16=16/\Zc QB a.links=Zc QB a.links/\Zb a.links.length=Zb a.links.length/\Za.wrap (Zb x+1)=Zb x'/\25=25/\Vf=Vf/\128<=128/\3=3/\1=1/\(Ze x (ints (Ze x (Qs a s qs)))++[[Zj (Zd Za (Za.wrap (0-(Vf-(q-q_1)/(q_2-q_1)*↑s).floor)))]]=ints (Ze x' (Qs a s qs))∨QC (Ze x (ints (Ze x (Qs a s qs)))++[[Zj (Zd Za (Za.wrap (0-(Vf-(q-q_1)/(q_2-q_1)*↑s).floor)))]]) (ints (Ze x' (Qs a s qs))))/\True)/\(q_2-q_1=OfNat.ofNat 0->(-9223372036854775808<=s/\s<9223372036854775808)/\False)else K (AV.t [(false,[Zr 1 (Ze x (List.drop 0 (ints (Ze x (Qs a s qs)))))]),(false,[Zj (Zd Za 0)])]))/\(¬Fit a_2 qs_1->K (AV.t [(false,[Zj (Zn none 0 0)]),(false,[Zj (Zd Za 17)])])))) ?_
 try simp only[Zi,R0,R1,Nat.le_refl,R4]
 obtain⟨hg,⟨s1,s2⟩,hl,hf,hnn⟩:=hc;have hn:=hg.n;have lv:(Qs a s qs).length=a.links.length:=by simp[Qs,hl]
 simp only[Zm,WD];refine⟨a,rfl,⟨hg,s1,s2⟩,a,n,qs,rfl,rfl,⟨hg,by omega,hl⟩,fun _=>⟨⟨⟨⟨by omega,by omega⟩,by omega,by omega⟩,by decide+kernel⟩,⟨0,by omega,rfl,trivial,rfl,rfl,rfl⟩,fun x hx=>QF (fun hp=> ?_) (fun hp=> ?_)⟩,fun h=>absurd hf h⟩
 ·have hp:x<a.links.length:=by have:=R5 hp;omega
  obtain⟨L,hL⟩: ∃L,a.links[x]? =some L:=⟨_,Zk (by omega)⟩
  obtain⟨q,hq⟩: ∃q,qs[x]? =some q:=⟨_,Zk (by omega)⟩
  obtain⟨h1,h2⟩:=hf x L q hL hq;have gl:=hg.links L (Zp hL);have glim:=gl.lim;obtain⟨b1,b2,b3,b4⟩:=Ga s1 glim h1 h2;have hv:(Qs a s qs)[x]? =some (QBr s L q):=by simp[Qs,List.getElem?_zipWith,hL,hq]
  have hw:Za.wrap (0-(Kz s L q).floor)=QBr s L q:=by rw[w64 (by omega)];unfold QBr;omega
  refine⟨by omega,_,_,_,_,_,_,_,_,_,_,_,Ko (by simpa using hL),by omega,q,n,KO (by simpa using hq),by omega,by omega,by omega,fun hne=>⟨by omega,by omega,by omega,⟨by omega,show _<(Kz s L q).floor by omega,show(Kz s L q).floor<_ by omega⟩,by omega,x+1,⟨by omega,by omega⟩,rfl,by rw[w64 (by omega)];simp,.inl ?_⟩,fun h0=> ?_⟩
  ·show _++[[Zj (Zd .i64 (Za.wrap (0-(Kz s L q).floor)))]]=_
   rw[hw,Zf (by rw[Qw,Zo];omega),Zq,hv];simp[ints]
  ·exfalso;grind
 ·have hp:x=a.links.length:=by have:=R6 hp;omega
  subst hp;rw[Zs,Zf (by rw[Qw,Zo];omega),Zf (by omega)];exact hK
def U8:Ctr
 | [.x true xs,.x false [.v (.int .i64 s)],.x false [.s 3 ys]]=>some fun K=> ∃(a:ArmV) (n:Nat) (qs:List Rat),xs=XM a/\ys=lR n qs/\((QJ a)/\(1<=s/\s<=12)/\(qs.length=a.links.length/\Fit a qs/\n<=100000))/\(K (.t [(false,[.s 1 (ints (Qs a s qs))]),(false,[.v (.int .i64 0)])]))
 | _=>none
theorem QDA:QI 100 U8:=by
 refine okL Tryz.func100 fun l T hT K hK=> ?_
 unfold U8 at hT;split at hT<;>cases hT
 obtain⟨a,n,qs,rfl,rfl,hc,hK⟩:=hK;exact spL (Wl QRG QEp Qg) QK Tryz.func100 (QRH _ _ _ _ hc K hK)
def QMz:LC:=(100,U8)::QY3
noncomputable def Qa9:QZ:=mkTV QMz QMx X4
theorem QEq:QG QMz:= .cons QDA QRG
theorem QY4:Q7 Qa9:=Wl QEq QEp Qg
end Go.Proofs
namespace Go.Proofs
open Go Go.Eng
theorem QRI {a:ArmV}{s:Int}{qs:List Rat}(hg:QJ a)(hs:1<=s)(hf:Fit a qs): ∀k∈Qs a s qs,0<=k/\k<=s:=by
 intro k hk;obtain⟨i,hi⟩:=List.getElem?_of_mem hk
 unfold Qs at hi;rw[List.getElem?_zipWith_eq_some]at hi;obtain⟨L,q,hL,hq,rfl⟩:=hi;obtain⟨h1,h2⟩:=hf i L q hL hq;obtain⟨b1,b2,_⟩:=Ga hs (hg.links L (Zp hL)).lim h1 h2;exact⟨b1,b2⟩
def Qbp:LC:=QMz
noncomputable def Qb8:QZ:=mkTV Qbp QMx X4
end Go.Proofs
