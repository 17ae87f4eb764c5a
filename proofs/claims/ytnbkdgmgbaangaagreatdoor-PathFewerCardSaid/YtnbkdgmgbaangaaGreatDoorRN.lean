/- roam: check, Number at one point, Value, Near; arm.Joints and the joint behind it; RoamNear. -/
import Derived.Test.YtnbkdgmgbaangaaGreatDoorA2
import Derived.Test.YtnbkdgmgbaangaaGreatDoorPB
open Go.IntKind renaming i64 → Za
open Int renaming ofNat → Zb, ofNat_eq_natCast → Zi
open List renaming map → Zc, take → Ze, take_of_length_le → Zf, getElem?_eq_getElem → Zk, length_map → Zm, length_take → Zo, mem_of_getElem? → Zr, take_add_one → Zs, drop_zero → Zu
open Go.Value renaming int → Zd, string → Zh, bool → Zl, slice → Zn
open Go.Eng.Ch renaming r → Zg, v → Zj, s → Zt
open Nat renaming zero_add → Zp, le_refl → Zq
namespace Go.Proofs
open Go Go.Eng
def VL:Rat:=((1:Int):Rat)/((2:Int):Rat)
def QUm (s:Int)(L:Qg)(k:Int):Rat:=L.lo+(L.hi-L.lo)*((k:Rat)/(s:Rat))
def XN (a:QN)(s:Int)(ks:List Int):List Rat:=List.zipWith (QUm s) a.links ks
def Kd (s:Int)(L:Qg)(q:Rat):Rat:=VL-(q-L.lo)/(L.hi-L.lo)*(s:Rat)
def QC8 (s:Int)(L:Qg)(q:Rat):Int:= -(Kd s L q).floor
def Qk (a:QN)(s:Int)(qs:List Rat):List Int:=List.zipWith (QC8 s) a.links qs
def Js (L:Qg):List Ch:=[.i 259 true (QB L)]
def QiF (l:List Qg):Blk:= .row 224 1 (l.map Js)
theorem Qa2 {l:List Qg}{i:Nat}{L:Qg}(h:l[i]? =some L):ldE (l.map Js) i 0 1=some (Js L):=by
 simp only[ldE,List.getElem?_map,h];rfl
theorem QUn:VL+VL=1:=by decide+kernel
theorem G0 {s:Int}(hs:1<=s){L:Qg}{q:Rat}(hl:L.lo<L.hi)(h1:L.lo<=q)(h2:q<=L.hi):0<=QC8 s L q/\QC8 s L q<=s/\ -s<=(Kd s L q).floor/\(Kd s L q).floor<=0:=by
 have hp:0<(L.hi-L.lo)⁻¹:=Rat.inv_pos.2 (by grind);have e:(L.hi-L.lo)*(L.hi-L.lo)⁻¹=1:=Rat.mul_inv_cancel _ (by grind);have y0:0<=(q-L.lo)/(L.hi-L.lo):=by
  rw[Rat.div_def];exact Rat.mul_nonneg (by grind) (Rat.le_of_lt hp)
 have y1:(q-L.lo)/(L.hi-L.lo)<=1:=by
  rw[Rat.div_def,<-e];exact Rat.mul_le_mul_of_nonneg_right (by grind) (Rat.le_of_lt hp)
 have s0:(0:Rat)<=(s:Rat):=Rat.intCast_nonneg.2 (by omega);have hh:=QUn;have z0:0<=(q-L.lo)/(L.hi-L.lo)*(s:Rat):=Rat.mul_nonneg y0 s0;have z1:(q-L.lo)/(L.hi-L.lo)*(s:Rat)<=(s:Rat):=by
  have:=Rat.mul_le_mul_of_nonneg_right y1 s0;rwa [Rat.one_mul]at this
 have a1:(((-s:Int)):Rat)<=Kd s L q:=by
  unfold Kd;rw[Rat.intCast_neg];grind
 have f1: -s<=(Kd s L q).floor:=Rat.le_floor_iff.2 a1
 have f2:(Kd s L q).floor<1:=Rat.floor_lt_iff.2 (by
  unfold Kd;have:((1:Int):Rat)=1:=rfl;rw[this]
  grind)
 unfold QC8;omega
def mtL:List (Nat×String×Nat)->QQl
 | [],_,_=>none
 | p::l,t,n=>bif t.beq p.1&&p.2.1==n then some p.2.2 else mtL l t n
def mtV:List (Nat×String×Nat):=[(259, "Value",263)]
noncomputable def mkTV (l:List (Nat×Ctr))(m:List (Nat×XM))(x:List (Nat×Vi)):QU:=⟨tbL Tryz.tyL,prL l,pmL m,pxL x,mtL mtV,itP Tryz.prog QEi,QRN⟩
theorem QUo {P:Program}: ∀{l:List (Nat×String×Nat)},(∀p∈l,QA5 P p.1 p.2.1=some p.2.2)-> ∀t n f,mtL l t n=some f->QA5 P t n=some f
 | [],_,_,_,_,h=>by cases h
 | p::l,hl,t,n,f,h=>by
  unfold mtL at h;cases hb:t.beq p.1&&p.2.1==n with
  | false=>rw[hb]at h;exact QUo (fun q hq=>hl q (by simp[hq])) t n f h
  | true=>
   rw[hb]at h;cases h
   simp only[Bool.and_eq_true,beq_iff_eq]at hb;have:=Nat.eq_of_beq_eq_true hb.1;subst this;rw[<-hb.2];exact hl p (by simp)
theorem QeD {P:Program}{l:List (Nat×String×Nat)}(h: ∀p∈l,QA5 P p.1 p.2.1=some p.2.2):QA4 P (mtL l):=fun t name f hf v w=>QA6 P t name f (QUo h t name f hf) v w
theorem QeE:QA4 Tryz.prog (mtL mtV):=QeD fun p hp=>by
 simp only[mtV,List.mem_singleton]at hp;subst hp;kernel_rfl
theorem WX {g:Nat}{tab:List Value}{l:List (Nat×Ctr)}{m:List (Nat×XM)}{x:List (Nat×Vi)}(h:CtrsOK Tryz.prog g tab l)(hm:CtrMsOK Tryz.prog g tab m)(hx:CtrXsOK Tryz.prog x):QM Tryz.prog g tab (mkTV l m x):=
 QLB (mkTV.eq_1 l m x) Tryz.tb_ok (QF8 h) (QK4 hm) (QK5 hx) QeE (QK3 Tryz.prog QEi) fun _ _ e j _ _ he hu=>by rw[(Tryz.tb_ok e j he).und,hu]
def QJ8:List (Nat×XM):=(210,Uq)::M48
def QeF:List (Nat×Ctr):=(206,VJ)::(207,QHI)::(166,Ux)::L53
noncomputable def QhQ:QU:=mkTV QeF QJ8 X4
theorem GB:CtrMsOK Tryz.prog QH QG QJ8:= .cons QFC Gk
theorem QUp:CtrsOK Tryz.prog QH QG QeF:= .cons Hw (.cons QNd (.cons QPi Qf6))
theorem QeG:QM Tryz.prog QH QG QhQ:=WX QUp GB Ql
def QQH:OT:=fun _=>([],[])
def G4 (x:Int)(y:Int)(K:AV->Prop):Prop:=QX QhQ QQH noL Tryz.f150 [iA .i64 x,iA .i64 y] K
theorem QC9 (x:Int)(y:Int)(K:AV->Prop):G4 x y K=((-9223372036854775808<=x/\x<9223372036854775808)/\(-9223372036854775808<=y/\y<9223372036854775808)/\128<=4294967296/\((↑y:Rat)≠OfNat.ofNat 0->K (AV.t [(true,[Zg ((↑x:Rat)/(↑y:Rat)) 128]),(false,[Zj (Zd Za 0)])]))/\((↑y:Rat)=OfNat.ofNat 0->K (AV.t [(true,[Zj (Zl false),Zj (Zh (ByteArray.mk (Array.mk []))),Zj (Zh (ByteArray.mk (Array.mk [])))]),(false,[Zj (Zd Za 12)])]))):=by kernel_rfl
theorem QUq (x:Int)(y:Int)(hc:((-9223372036854775808<=x/\x<9223372036854775808)/\ -9223372036854775808<=y/\y<9223372036854775808)/\((y:Rat)≠0))(K:AV->Prop)(hK:K (.t [(true,[.r ((x:Rat)/(y:Rat)) 128]),(false,[.v (.int .i64 0)])])):QR (G4 x y K):=by
 refine⟨?_⟩;rw[QC9];try simp only[Zi,R0,R1,Zp,Zq,R4,R2,R3]
 exact⟨hc.1.1,hc.1.2,by omega,fun _=>hK,fun h=>absurd h hc.2⟩
def QDA:Ctr:=fun as0=>match as0 with
 | [.x false [.v (.int .i64 x)],.x false [.v (.int .i64 y)]]=>some fun K=>(((-9223372036854775808<=x/\x<9223372036854775808)/\ -9223372036854775808<=y/\y<9223372036854775808)/\((y:Rat)≠0))/\(K (.t [(true,[.r ((x:Rat)/(y:Rat)) 128]),(false,[.v (.int .i64 0)])]))
 | _=>none
theorem QQI:CtrOK Tryz.prog QH QG 150 QDA:=by
 refine⟨QK Tryz.func150 (by kernel_rfl),fun l T hT K hK=> ?_⟩;unfold QDA at hT;split at hT
 ·cases hT
  obtain⟨hc,hK⟩:=hK;exact QJ QeG QP Tryz.func150 (by kernel_rfl) (by kernel_rfl) (by rfl) (QUq _ _ hc K hK)
 ·cases hT
def QeH:List (Nat×Ctr):=(150,QDA)::QeF
noncomputable def QhR:QU:=mkTV QeH QJ8 X4
theorem QUr:CtrsOK Tryz.prog QH QG QeH:= .cons QQI QUp
theorem QeI:QM Tryz.prog QH QG QhR:=WX QUr GB Ql
def QMn:OT:=fun _=>([],[])
def U4 (a:QN)(s:Int)(K:AV->Prop):Prop:=QX QhR QMn noL Tryz.f165 [Jy a,iA .i64 s] K
theorem QAU (a:QN)(s:Int)(K:AV->Prop):U4 a s K=(∃(a_1:QN),[Zj (Zh a.name),Zg a.x 63,Zg a.y 63,Zj (Zl a.half),Zg a.t 63,Zt 16 (Zc QB a.links)]=[Zj (Zh a_1.name),Zg a_1.x 63,Zg a_1.y 63,Zj (Zl a_1.half),Zg a_1.t 63,Zt 16 (Zc QB a_1.links)]/\QO a_1/\bif decide (s<1)then K (AV.x false [Zj (Zd Za 1)])else bif decide (s>12)then K (AV.x false [Zj (Zd Za 1)])else K (AV.x false [Zj (Zd Za 0)])):=by kernel_rfl
theorem QQJ (a:QN)(s:Int)(hc:(QO a)/\(1<=s/\s<=12))(K:AV->Prop)(hK:K (iA .i64 0)):QR (U4 a s K):=by
 refine⟨?_⟩;rw[QAU];try simp only[Zi,R0,R1,Zp,Zq,R4,R2,R3]
 exact⟨a,rfl,hc.1,QF (fun h=>by have:=R5 h;omega) (fun _=>QF (fun h=>by have:=R5 h;omega) (fun _=>hK))⟩
def GC:Ctr:=fun as0=>match as0 with
 | [.x true xs,.x false [.v (.int .i64 s)]]=>some fun K=> ∃(a:QN),xs=XX a/\((QO a)/\(1<=s/\s<=12))/\(K (iA .i64 0))
 | _=>none
theorem QMo:CtrOK Tryz.prog QH QG 165 GC:=by
 refine⟨QK Tryz.func165 (by kernel_rfl),fun l T hT K hK=> ?_⟩;unfold GC at hT;split at hT
 ·cases hT
  obtain⟨a,rfl,hc,hK⟩:=hK;exact QJ QeI QP Tryz.func165 (by kernel_rfl) (by kernel_rfl) (by rfl) (QQJ _ _ hc K hK)
 ·cases hT
def QeJ:List (Nat×Ctr):=(165,GC)::QeH
noncomputable def QhS:QU:=mkTV QeJ QJ8 X4
theorem QUs:CtrsOK Tryz.prog QH QG QeJ:= .cons QMo QUr
theorem QeK:QM Tryz.prog QH QG QhS:=WX QUs GB Ql
def QUt:OT:=fun _=>([],[])
def QDB  (K:AV->Prop):Prop:=QX QhS QUt (fun _=> .unroll 3) Tryz.f173 [iA .i64 2,iA .i64 3,.x false [.s 1 (ints [1,2])]] K
theorem QEH (K:AV->Prop):QDB K=(((0:Int)<=0/\(0:Int)<2)/\∃(d:Int),some [Zj (Zd Za 1)]=some [Zj (Zd Za d)]/\bif decide (d<0)then K (AV.t [(false,[Zj (Zd Za 0)]),(false,[Zj (Zd Za 17)])])else bif decide (d>3)then K (AV.t [(false,[Zj (Zd Za 0)]),(false,[Zj (Zd Za 17)])])else((0:Int)<=1/\(1:Int)<2)/\∃(d_1:Int),some [Zj (Zd Za 2)]=some [Zj (Zd Za d_1)]/\bif decide (d_1<0)then K (AV.t [(false,[Zj (Zd Za 0)]),(false,[Zj (Zd Za 17)])])else bif decide (d_1>3)then K (AV.t [(false,[Zj (Zd Za 0)]),(false,[Zj (Zd Za 17)])])else K (AV.t [(false,[Zj (Zd Za (Za.wrap (Za.wrap (Za.wrap (0+d)*4)+d_1)))]),(false,[Zj (Zd Za 0)])])):=by kernel_rfl
theorem QZG  (hc:True)(K:AV->Prop)(hK:K (.t [(false,[.v (.int .i64 6)]),(false,[.v (.int .i64 0)])])):QR (QDB  K):=by
 refine⟨?_⟩;rw[QEH];try simp only[Zi,R0,R1,Zp,Zq,R4,R2,R3]
 exact⟨by omega,1,rfl,QF (fun h=>by simp at h) (fun _=>QF (fun h=>by simp at h) (fun _=>⟨by omega,2,rfl,QF (fun h=>by simp at h) (fun _=>QF (fun h=>by simp at h) (fun _=>hK))⟩))⟩
def QHj:Ctr:=fun as0=>match as0 with
 | [.x false [.v (.int .i64 2)],.x false [.v (.int .i64 3)],.x false [.s 1 [[.v (.int .i64 1)],[.v (.int .i64 2)]]]]=>some fun K=>(True)/\(K (.t [(false,[.v (.int .i64 6)]),(false,[.v (.int .i64 0)])]))
 | _=>none
theorem QUu:CtrOK Tryz.prog QH QG 173 QHj:=by
 refine⟨QK Tryz.func173 (by kernel_rfl),fun l T hT K hK=> ?_⟩;unfold QHj at hT;split at hT
 ·cases hT
  obtain⟨hc,hK⟩:=hK;exact QJ QeK QP Tryz.func173 (by kernel_rfl) (by kernel_rfl) (by rfl) (QZG  hc K hK)
 ·cases hT
def QeL:List (Nat×Ctr):=(173,QHj)::QeJ
noncomputable def QhT:QU:=mkTV QeL QJ8 X4
theorem QUv:CtrsOK Tryz.prog QH QG QeL:= .cons QUu QUs
theorem QeM:QM Tryz.prog QH QG QhT:=WX QUv GB Ql
def QMp:OT:=fun _=>([],[])
def U5 (a:QN)(K:AV->Prop):Prop:=QX QhT QMp (fun _=> .inv ⟨Nat,fun i=>⟨[(5,.x false [.w 500 0 i]),(14,.x false [.s 16 (a.links.map QB)]),(15,iA .i64 a.links.length),(16,iA .i64 i)],[(500,QiF (a.links.take i))]⟩,fun i=>i<=a.links.length,fun i=>a.links.length-i,fun _=>0⟩) Tryz.f167 [Jy a] K
theorem QAV (a:QN)(K:AV->Prop):U5 a K=(∃(a_1:QN),[Zj (Zh a.name),Zg a.x 63,Zg a.y 63,Zj (Zl a.half),Zg a.t 63,Zt 16 (Zc QB a.links)]=[Zj (Zh a_1.name),Zg a_1.x 63,Zg a_1.y 63,Zj (Zl a_1.half),Zg a_1.t 63,Zt 16 (Zc QB a_1.links)]/\QO a_1/\(∃(x:Nat),(x<=a.links.length/\OfNat.ofNat 0=0)/\Zn none 0 0=Zn none 0 0/\0=0/\x=0/\16=16/\Zc QB a.links=Zc QB a.links/\Zb (Zc QB a.links).length=Zb a.links.length/\0=Zb x/\Zc Js (Ze x a.links)=[]/\True)/\∀(x:Nat),x<=a.links.length->OfNat.ofNat 0=0->bif decide (Zb x<Zb a.links.length)then(0<=Zb x/\Zb x<Zb (Zc QB a.links).length)/\∃(q:Rat)(n:Nat)(q_1:Rat)(n_1:Nat)(q_2:Rat)(n_2:Nat)(q_3:Rat)(n_3:Nat)(q_4:Rat)(n_4:Nat)(ys:List (List Ch)),ldE (Zc QB a.links) (Zb x).toNat 0 16=some [Zg q n,Zg q_1 n_1,Zg q_2 n_2,Zg q_3 n_3,Zg q_4 n_4,Zt 6 ys]/\((x+1)*16<=140737488355328/\x+1<=9223372036854775807)/\∃(x':Nat),(x'<=a.links.length/\OfNat.ofNat 0=0/\a.links.length-x'<a.links.length-x)/\0=0/\x+1=x'/\16=16/\Zc QB a.links=Zc QB a.links/\Zb a.links.length=Zb a.links.length/\Za.wrap (Zb x+1)=Zb x'/\224=224/\1=1/\(Ze x (Zc Js (Ze x a.links))++[[Ch.i 259 true [Zg q n,Zg q_1 n_1,Zg q_2 n_2,Zg q_3 n_3,Zg q_4 n_4,Zt 6 ys]]]=Zc Js (Ze x' a.links)∨QC (Ze x (Zc Js (Ze x a.links))++[[Ch.i 259 true [Zg q n,Zg q_1 n_1,Zg q_2 n_2,Zg q_3 n_3,Zg q_4 n_4,Zt 6 ys]]]) (Zc Js (Ze x' a.links)))/\True else K (AV.t [(false,[Zt 1 (Ze x (List.drop 0 (Zc Js (Ze x a.links))))]),(false,[Zj (Zd Za 0)])])):=by kernel_rfl
theorem QQK (a:QN)(hc:(QO a))(K:AV->Prop)(hK:K (.t [(false,[.s 1 (a.links.map Js)]),(false,[.v (.int .i64 0)])])):QR (U5 a K):=by
 refine⟨?_⟩;rw[QAV];try simp only[Zi,R0,R1,Zp,Zq,R4,R2,R3]
 have hn:=hc.n;simp only[Zm];refine⟨a,rfl,hc,⟨0,by omega,rfl,trivial,rfl,rfl⟩,fun x hx=>QF (fun hp=> ?_) (fun hp=> ?_)⟩
 ·have hp:x<a.links.length:=by have:=R5 hp;omega
  obtain⟨L,hL⟩: ∃L,a.links[x]? =some L:=⟨_,Zk hp⟩
  refine⟨by omega,_,_,_,_,_,_,_,_,_,_,_,KU (by simpa using hL),by omega,x+1,⟨by omega,by omega⟩,rfl,by rw[w64 (by omega)];simp,.inl ?_⟩;rw[Zf (by rw[Zm,Zo];omega),Zs,hL,List.map_append];rfl
 ·have hp:x=a.links.length:=by have:=R6 hp;omega
  subst hp;rw[Zu,Zf (l:=Zc Js _) (by rw[Zm,Zo];omega),List.take_length];exact hK
def GD:Ctr:=fun as0=>match as0 with
 | [.x true xs]=>some fun K=> ∃(a:QN),xs=XX a/\((QO a))/\(K (.t [(false,[.s 1 (a.links.map Js)]),(false,[.v (.int .i64 0)])]))
 | _=>none
theorem QMq:CtrOK Tryz.prog QH QG 167 GD:=by
 refine⟨QK Tryz.func167 (by kernel_rfl),fun l T hT K hK=> ?_⟩;unfold GD at hT;split at hT
 ·cases hT
  obtain⟨a,rfl,hc,hK⟩:=hK;exact QJ QeM QP Tryz.func167 (by kernel_rfl) (by kernel_rfl) (by rfl) (QQK _ hc K hK)
 ·cases hT
def QeN:List (Nat×Ctr):=(167,GD)::QeL
noncomputable def QhU:QU:=mkTV QeN QJ8 X4
theorem QUw:CtrsOK Tryz.prog QH QG QeN:= .cons QMq QUv
theorem QeO:QM Tryz.prog QH QG QhU:=WX QUw GB Ql
def QQL:OT:=fun id=>bif id.beq 1 then([0,1,2,3,4,5,6,7,8,10,9,11,12,13],[[],[0],[1,0],[],[3],[4,3],[],[6],[7,6],[5,4,3,8,7,6],[],[9,5,4,3,8,7,6,10],[2,1,0,11,9,5,4,3,8,7,6,10],[12,2,1,0,11,9,5,4,3,8,7,6,10]])else([],[])
def G5 (L:Qg)(q:Rat)(b:Nat)(K:AV->Prop):Prop:=QX QhU QQL noL Tryz.f263 [.x true (QB L),rA q b] K
theorem QDC (L:Qg)(q:Rat)(b:Nat)(K:AV->Prop):G5 L q b K=(127<=4294967296/\127+b<=4294967296/\63+(127+b)+1<=4294967296/\K (AV.x true [Zg (L.lo+(L.hi-L.lo)*q) (63+(127+b)+1)])):=by kernel_rfl
theorem QUx (L:Qg)(q:Rat)(b:Nat)(hc:(b<=1000000))(K:AV->Prop)(hK:K (rA (L.lo+(L.hi-L.lo)*q) (63+(63+63+1+b)+1))):QR (G5 L q b K):=by
 refine⟨?_⟩;rw[QDC];try simp only[Zi,R0,R1,Zp,Zq,R4,R2,R3]
 exact⟨by omega,by omega,by omega,hK⟩
def QDD:Ctr:=fun as0=>match as0 with
 | [.x true xs,.x true [.r q b]]=>some fun K=> ∃(L:Qg),xs=QB L/\((b<=1000000))/\(K (rA (L.lo+(L.hi-L.lo)*q) (63+(63+63+1+b)+1)))
 | _=>none
theorem ok_hValue:CtrOK Tryz.prog QH QG 263 QDD:=by
 refine⟨QK Tryz.func263 (by kernel_rfl),fun l T hT K hK=> ?_⟩;unfold QDD at hT;split at hT
 ·cases hT
  obtain⟨L,rfl,hc,hK⟩:=hK;exact QJ QeO QP Tryz.func263 (by kernel_rfl) (by kernel_rfl) (by rfl) (QUx _ _ _ hc K hK)
 ·cases hT
def QZH:List (Nat×Ctr):=(263,QDD)::QeN
noncomputable def QiY:QU:=mkTV QZH QJ8 X4
theorem QUy:CtrsOK Tryz.prog QH QG QZH:= .cons ok_hValue QUw
end Go.Proofs
namespace Go.Proofs
open Go Go.Eng
theorem QJ9 {P:Program}{g:Nat}{tab:List Value}{f:Nat}{c:Ctr}(hc:CtrOK P g tab f c){as0:List AV}{H:HP}{K:KK}{d:Nat}(h:QEU (prL [(f,c)]) (fun _ _ _ _=>none) f d as0 H K):SpecM P g tab f as0 H K:=fun w0 M ρ w vals hg ht hs ha=>by
 subst hg ht;exact(Wd (QF8 (.cons hc .nil)) (QQi.mk (fun _ _ _ _ _ (h:none=some _)=>nomatch h) (fun _ _ _ _ _ (h:none=some _)=>nomatch h)) hs ha h).2
theorem Jk {l:List Int}{i:Nat}{k:Int}(h:l[i]? =some k):ldE (ints l) i 0 1=some [.v (.int .i64 k)]:=by
 simp only[ldE,ints,List.getElem?_map,h];rfl
def GF:XM:=fun as0 H _=>match as0 with
 | [.x true ds,.x true [.r q b]]=>some fun K=> ∃L,ds=QB L/\b<=1000000/\K (rA (L.lo+(L.hi-L.lo)*q) (63+(63+63+1+b)+1)) H
 | _=>none
def QQM:List (Nat×XM):=(263,GF)::QJ8
noncomputable def QhV:QU:=mkTV QZH QQM X4
theorem QMr:XQ Tryz.prog QH QG 263 GF:=by
 refine⟨ok_hValue.enter,fun l H d T hT K hK=> ?_⟩;unfold GF at hT;split at hT
 ·cases hT
  obtain⟨L,rfl,hc,hK⟩:=hK;exact QJ9 ok_hValue (d:=0) ⟨L,rfl,hc,hK⟩
 ·cases hT
theorem QHk:CtrMsOK Tryz.prog QH QG QQM:= .cons QMr GB
theorem QeP:QM Tryz.prog QH QG QhV:=WX QUy QHk Ql
def QMs:OT:=fun id=>bif id.beq 16 then([0,1,2,3,4,5,6,7,8,9],[[],[],[],[1,2],[3,1,2],[],[4,3,1,2,5],[6,4,3,1,2,5],[0,7,6,4,3,1,2,5],[8,0,7,6,4,3,1,2,5]])else([],[])
def U6 (a:QN)(s:Int)(ks:List Int)(K:AV->Prop):Prop:=QX QhV QMs (fun _=> .inv ⟨Nat,fun i=>⟨[(1,iA .i64 s),(2,.x false [.s 1 (ints ks)]),(9,.x false [.s 1 (a.links.map Js)]),(11,.x false [.w 500 0 i]),(36,.x false [.s 1 (ints ks)]),(37,iA .i64 ks.length),(38,iA .i64 i)],[(500,QB8 319 ((XN a s ks).take i))]⟩,fun i=>i<=ks.length,fun i=>ks.length-i,fun _=>0⟩) Tryz.f105 [Jy a,iA .i64 s,.x false [.s 1 (ints ks)]] K
theorem QAW (a:QN)(s:Int)(ks:List Int)(K:AV->Prop):U6 a s ks K=(∃(a_1:QN),[Zj (Zh a.name),Zg a.x 63,Zg a.y 63,Zj (Zl a.half),Zg a.t 63,Zt 16 (Zc QB a.links)]=[Zj (Zh a_1.name),Zg a_1.x 63,Zg a_1.y 63,Zj (Zl a_1.half),Zg a_1.t 63,Zt 16 (Zc QB a_1.links)]/\(QO a_1/\1<=s/\s<=12)/\bif Zb (ints ks).length !=Zb (Zc QB a.links).length then K (AV.t [(false,[Zj (Zn none 0 0)]),(false,[Zj (Zd Za 1)])])else ∃(a_2:QN),[Zj (Zh a.name),Zg a.x 63,Zg a.y 63,Zj (Zl a.half),Zg a.t 63,Zt 16 (Zc QB a.links)]=[Zj (Zh a_2.name),Zg a_2.x 63,Zg a_2.y 63,Zj (Zl a_2.half),Zg a_2.t 63,Zt 16 (Zc QB a_2.links)]/\QO a_2/\(∃(x:Nat),(x<=ks.length/\OfNat.ofNat 0=0)/\s=s/\1=1/\ints ks=ints ks/\1=1/\Zc Js a_2.links=Zc Js a.links/\Zn none 0 0=Zn none 0 0/\0=0/\x=0/\1=1/\ints ks=ints ks/\Zb (ints ks).length=Zb ks.length/\0=Zb x/\Zc (fun(q:Rat)=>[Zg q 319]) (Ze x (XN a s ks))=[]/\True)/\∀(x:Nat),x<=ks.length->OfNat.ofNat 0=0->bif decide (Zb x<Zb ks.length)then(0<=Zb x/\Zb x<Zb (ints ks).length)/\∃(d:Int),ldE (ints ks) (Zb x).toNat 0 1=some [Zj (Zd Za d)]/\bif decide (d<0)then K (AV.t [(false,[Zj (Zn none 0 0)]),(false,[Zj (Zd Za 17)])])else bif decide (d>s)then K (AV.t [(false,[Zj (Zn none 0 0)]),(false,[Zj (Zd Za 17)])])else(((-9223372036854775808<=d/\d<9223372036854775808)/\ -9223372036854775808<=s/\s<9223372036854775808)/\(↑s:Rat)≠OfNat.ofNat 0)/\(0<=Zb x/\Zb x<Zb (Zc Js a.links).length)/\∃(ds:List Ch),ldE (Zc Js a.links) (Zb x).toNat 0 1=some [Ch.i 259 true ds]/\∃(L:Qg),ds=[Zg L.len 63,Zg L.lo 63,Zg L.hi 63,Zg L.sp 63,Zg L.br 63,Zt 6 (Zc XW L.shape)]/\128<=1000000/\((x+1)*40<=140737488355328/\x+1<=9223372036854775807)/\∃(x':Nat),(x'<=ks.length/\OfNat.ofNat 0=0/\ks.length-x'<ks.length-x)/\s=s/\1=1/\ints ks=ints ks/\1=1/\Zc Js a.links=Zc Js a.links/\0=0/\x+1=x'/\1=1/\ints ks=ints ks/\Zb ks.length=Zb ks.length/\Za.wrap (Zb x+1)=Zb x'/\25=25/\3=3/\(Ze x (Zc (fun(q:Rat)=>[Zg q 319]) (Ze x (XN a s ks)))++[[Zg (L.lo+(L.hi-L.lo)*((↑d:Rat)/(↑s:Rat))) 319]]=Zc (fun(q:Rat)=>[Zg q 319]) (Ze x' (XN a s ks))∨QC (Ze x (Zc (fun(q:Rat)=>[Zg q 319]) (Ze x (XN a s ks)))++[[Zg (L.lo+(L.hi-L.lo)*((↑d:Rat)/(↑s:Rat))) 319]]) (Zc (fun(q:Rat)=>[Zg q 319]) (Ze x' (XN a s ks))))/\True else K (AV.t [(false,[Zt 3 (Ze x (List.drop 0 (Zc (fun(q:Rat)=>[Zg q 319]) (Ze x (XN a s ks)))))]),(false,[Zj (Zd Za 0)])])):=by kernel_rfl
theorem QQN (a:QN)(s:Int)(ks:List Int)(hc:(QO a)/\(1<=s/\s<=12)/\(ks.length=a.links.length/\ ∀k∈ks,0<=k/\k<=s))(K:AV->Prop)(hK:K (.t [(false,[.s 3 (lR 319 (XN a s ks))]),(false,[.v (.int .i64 0)])])):QR (U6 a s ks K):=by
 refine⟨?_⟩;rw[QAW];try simp only[Zi,R0,R1,Zp,Zq,R4,R2,R3]
 obtain⟨hg,⟨s1,s2⟩,hl,hks⟩:=hc;have hn:=hg.n;have lv:(XN a s ks).length=ks.length:=by simp[XN,hl]
 simp only[Zm,Qu];refine⟨a,rfl,⟨hg,s1,s2⟩,QF (fun h=>by simp[hl]at h) (fun _=>⟨a,rfl,hg,⟨0,by omega,rfl,rfl,trivial,rfl,rfl⟩,fun x hx=>QF (fun hp=> ?_) (fun hp=> ?_)⟩)⟩
 ·have hp:x<ks.length:=by have:=R5 hp;omega
  obtain⟨k,hk⟩: ∃k,ks[x]? =some k:=⟨_,Zk hp⟩
  have hkb:=hks k (Zr hk);obtain⟨L,hL⟩: ∃L,a.links[x]? =some L:=⟨_,Zk (by omega)⟩
  have hv:(XN a s ks)[x]? =some (QUm s L k):=by simp[XN,List.getElem?_zipWith,hL,hk]
  refine⟨by omega,k,Jk (by simpa using hk),QF (fun h=>by have:=R5 h;omega) (fun _=>QF (fun h=>by have:=R5 h;omega) (fun _=>⟨⟨by omega,?_⟩,by omega,_,Qa2 (by simpa using hL),L,rfl,by omega,by omega,x+1,⟨by omega,by omega⟩,rfl,by rw[w64 (by omega)];simp,.inl ?_⟩))⟩
  ·intro h;have h2:(0:Rat)<((s:Int):Rat):=Rat.intCast_pos.2 (by omega);grind
  ·rw[Zf (by rw[Zm,Zo];omega),Zs,hv,List.map_append];rfl
 ·have hp:x=ks.length:=by have:=R6 hp;omega
  subst hp;rw[Zu,Zf (by rw[Zm,Zo];omega),Zf (by omega)];exact hK
def GG:Ctr:=fun as0=>match as0 with
 | [.x true xs,.x false [.v (.int .i64 s)],.x false [.s 1 ys]]=>some fun K=> ∃(a:QN) (ks:List Int),xs=XX a/\ys=ints ks/\((QO a)/\(1<=s/\s<=12)/\(ks.length=a.links.length/\ ∀k∈ks,0<=k/\k<=s))/\(K (.t [(false,[.s 3 (lR 319 (XN a s ks))]),(false,[.v (.int .i64 0)])]))
 | _=>none
theorem ok_roValue:CtrOK Tryz.prog QH QG 105 GG:=by
 refine⟨QK Tryz.func105 (by kernel_rfl),fun l T hT K hK=> ?_⟩;unfold GG at hT;split at hT
 ·cases hT
  obtain⟨a,ks,rfl,rfl,hc,hK⟩:=hK;exact QJ QeP QP Tryz.func105 (by kernel_rfl) (by kernel_rfl) (by rfl) (QQN _ _ _ hc K hK)
 ·cases hT
def QeQ:List (Nat×Ctr):=(105,GG)::QZH
noncomputable def QhW:QU:=mkTV QeQ QQM X4
theorem QUz:CtrsOK Tryz.prog QH QG QeQ:= .cons ok_roValue QUy
theorem QeR:QM Tryz.prog QH QG QhW:=WX QUz QHk Ql
def QQO:OT:=fun id=>bif id.beq 12 then([0,1,2,3,4,5,7,8,9,10,16,6,11,12,13,14,15,17,18],[[],[],[0,1],[2,0,1],[],[4],[3,2,0,1,5,4],[],[7],[],[9],[8,7,10,9,6,3,2,0,1,5,4],[6,3,2,0,1,5,4,11,8,7,10,9],[12,6,3,2,0,1,5,4,11,8,7,10,9],[13,12,6,3,2,0,1,5,4,11,8,7,10,9],[13,12,6,3,2,0,1,5,4,11,8,7,10,9],[],[16,14,13,12,6,3,2,0,1,5,4,11,8,7,10,9],[15,13,12,6,3,2,0,1,5,4,11,8,7,10,9,17,16,14]])else bif id.beq 13 then([0,1,2,3,4,5,6,7,8,9,10,11],[[],[],[],[2],[1,3,2],[0,4,1,3,2],[5,0,4,1,3,2],[6,5,0,4,1,3,2],[7,6,5,0,4,1,3,2],[7,6,5,0,4,1,3,2],[8,7,6,5,0,4,1,3,2],[9,7,6,5,0,4,1,3,2,10,8]])else([],[])
def G6 (a:QN)(s:Int)(n:Nat)(qs:List Rat)(K:AV->Prop):Prop:=QX QhW QQO (fun _=> .inv ⟨Nat,fun i=>⟨[(1,iA .i64 s),(2,sR n qs),(10,.x false [.w 500 0 i]),(11,.x false [.p 11 0]),(36,.x false [.s 16 (a.links.map QB)]),(37,iA .i64 a.links.length),(38,iA .i64 i)],[(11,.box 25 [.r VL 128]),(500,Xv ((Qk a s qs).take i))]⟩,fun i=>i<=a.links.length,fun i=>a.links.length-i,fun _=>0⟩) Tryz.f104 [Jy a,iA .i64 s,sR n qs] K
theorem QDE (a:QN)(s:Int)(n:Nat)(qs:List Rat)(K:AV->Prop):G6 a s n qs K=(∃(a_1:QN),[Zj (Zh a.name),Zg a.x 63,Zg a.y 63,Zj (Zl a.half),Zg a.t 63,Zt 16 (Zc QB a.links)]=[Zj (Zh a_1.name),Zg a_1.x 63,Zg a_1.y 63,Zj (Zl a_1.half),Zg a_1.t 63,Zt 16 (Zc QB a_1.links)]/\(QO a_1/\1<=s/\s<=12)/\∃(a_2:QN)(n_1:Nat)(qs_1:List Rat),[Zj (Zh a.name),Zg a.x 63,Zg a.y 63,Zj (Zl a.half),Zg a.t 63,Zt 16 (Zc QB a.links)]=[Zj (Zh a_2.name),Zg a_2.x 63,Zg a_2.y 63,Zj (Zl a_2.half),Zg a_2.t 63,Zt 16 (Zc QB a_2.links)]/\lR n qs=lR n_1 qs_1/\(QO a_2/\n_1<=1000000/\qs_1.length=a_2.links.length)/\((∀(i:Nat) (L:Qg) (q:Rat),a_2.links[i]?=some L->qs_1[i]?=some q->L.lo<=q/\q<=L.hi)->((((-9223372036854775808:Int)<=1/\(1:Int)<9223372036854775808)/\(-9223372036854775808:Int)<=2/\(2:Int)<9223372036854775808)/\(↑(2:Int):Rat)≠OfNat.ofNat 0)/\(∃(x:Nat),(x<=a.links.length/\OfNat.ofNat 0=0)/\s=s/\3=3/\lR n qs=lR n qs/\Zn none 0 0=Zn none 0 0/\0=0/\x=0/\0=0/\16=16/\Zc QB a.links=Zc QB a.links/\Zb (Zc QB a.links).length=Zb a.links.length/\0=Zb x/\25=25/\(↑(1:Int):Rat)/(↑(2:Int):Rat)=VL/\128<=128/\ints (Ze x (Qk a s qs))=[]/\True)/\∀(x:Nat),x<=a.links.length->OfNat.ofNat 0=0->bif decide (Zb x<Zb a.links.length)then(0<=Zb x/\Zb x<Zb (Zc QB a.links).length)/\∃(q:Rat)(n_2:Nat)(q_1:Rat)(n_3:Nat)(q_2:Rat)(n_4:Nat)(q_3:Rat)(n_5:Nat)(q_4:Rat)(n_6:Nat)(ys:List (List Ch)),ldE (Zc QB a.links) (Zb x).toNat 0 16=some [Zg q n_2,Zg q_1 n_3,Zg q_2 n_4,Zg q_3 n_5,Zg q_4 n_6,Zt 6 ys]/\(0<=Zb x/\Zb x<Zb (lR n qs).length)/\∃(q:Rat)(n_7:Nat),ldE (lR n qs) (Zb x).toNat 0 3=some [Zg q n_7]/\n_7+n_3+1<=4294967296/\n_4+n_3+1<=4294967296/\n_7+n_3+1+(n_4+n_3+1)<=4294967296/\(q_2-q_1≠OfNat.ofNat 0->(-9223372036854775808<=s/\s<9223372036854775808)/\n_7+n_3+1+(n_4+n_3+1)+64<=4294967296/\128+(n_7+n_3+1+(n_4+n_3+1)+64)+1<=4294967296/\(128+(n_7+n_3+1+(n_4+n_3+1)+64)+1<=2000000000/\ -9223372036854775808<(VL-(q-q_1)/(q_2-q_1)*↑s).floor/\(VL-(q-q_1)/(q_2-q_1)*↑s).floor<9223372036854775808)/\((x+1)*8<=140737488355328/\x+1<=9223372036854775807)/\∃(x':Nat),(x'<=a.links.length/\OfNat.ofNat 0=0/\a.links.length-x'<a.links.length-x)/\s=s/\3=3/\lR n qs=lR n qs/\0=0/\x+1=x'/\0=0/\16=16/\Zc QB a.links=Zc QB a.links/\Zb a.links.length=Zb a.links.length/\Za.wrap (Zb x+1)=Zb x'/\25=25/\VL=VL/\128<=128/\3=3/\1=1/\(Ze x (ints (Ze x (Qk a s qs)))++[[Zj (Zd Za (Za.wrap (0-(VL-(q-q_1)/(q_2-q_1)*↑s).floor)))]]=ints (Ze x' (Qk a s qs))∨QC (Ze x (ints (Ze x (Qk a s qs)))++[[Zj (Zd Za (Za.wrap (0-(VL-(q-q_1)/(q_2-q_1)*↑s).floor)))]]) (ints (Ze x' (Qk a s qs))))/\True)/\(q_2-q_1=OfNat.ofNat 0->(-9223372036854775808<=s/\s<9223372036854775808)/\False)else K (AV.t [(false,[Zt 1 (Ze x (List.drop 0 (ints (Ze x (Qk a s qs)))))]),(false,[Zj (Zd Za 0)])]))/\(¬Fit a_2 qs_1->K (AV.t [(false,[Zj (Zn none 0 0)]),(false,[Zj (Zd Za 17)])]))):=by kernel_rfl
theorem QU0 (a:QN)(s:Int)(n:Nat)(qs:List Rat)(hc:(QO a)/\(1<=s/\s<=12)/\(qs.length=a.links.length/\Fit a qs/\n<=100000))(K:AV->Prop)(hK:K (.t [(false,[.s 1 (ints (Qk a s qs))]),(false,[.v (.int .i64 0)])])):QR (G6 a s n qs K):=by
 refine⟨?_⟩;rw[QDE];try simp only[Zi,R0,R1,Zp,Zq,R4,R2,R3]
 obtain⟨hg,⟨s1,s2⟩,hl,hf,hnn⟩:=hc;have hn:=hg.n;have lv:(Qk a s qs).length=a.links.length:=by simp[Qk,hl]
 simp only[Zm,WT];refine⟨a,rfl,⟨hg,s1,s2⟩,a,n,qs,rfl,rfl,⟨hg,by omega,hl⟩,fun _=>⟨⟨⟨⟨by omega,by omega⟩,by omega,by omega⟩,by decide+kernel⟩,⟨0,by omega,rfl,trivial,rfl,rfl,rfl⟩,fun x hx=>QF (fun hp=> ?_) (fun hp=> ?_)⟩,fun h=>absurd hf h⟩
 ·have hp:x<a.links.length:=by have:=R5 hp;omega
  obtain⟨L,hL⟩: ∃L,a.links[x]? =some L:=⟨_,Zk (by omega)⟩
  obtain⟨q,hq⟩: ∃q,qs[x]? =some q:=⟨_,Zk (by omega)⟩
  obtain⟨h1,h2⟩:=hf x L q hL hq;have gl:=hg.links L (Zr hL);have glim:=gl.lim;obtain⟨b1,b2,b3,b4⟩:=G0 s1 glim h1 h2;have hv:(Qk a s qs)[x]? =some (QC8 s L q):=by simp[Qk,List.getElem?_zipWith,hL,hq]
  have hw:Za.wrap (0-(Kd s L q).floor)=QC8 s L q:=by rw[w64 (by omega)];unfold QC8;omega
  refine⟨by omega,_,_,_,_,_,_,_,_,_,_,_,KU (by simpa using hL),by omega,q,n,VG (by simpa using hq),by omega,by omega,by omega,fun hne=>⟨by omega,by omega,by omega,⟨by omega,show _<(Kd s L q).floor by omega,show(Kd s L q).floor<_ by omega⟩,by omega,x+1,⟨by omega,by omega⟩,rfl,by rw[w64 (by omega)];simp,.inl ?_⟩,fun h0=> ?_⟩
  ·show _++[[Zj (Zd .i64 (Za.wrap (0-(Kd s L q).floor)))]]=_
   rw[hw,Zf (by rw[Qu,Zo];omega),Zs,hv];simp[ints]
  ·exfalso;grind
 ·have hp:x=a.links.length:=by have:=R6 hp;omega
  subst hp;rw[Zu,Zf (by rw[Qu,Zo];omega),Zf (by omega)];exact hK
def U7:Ctr:=fun as0=>match as0 with
 | [.x true xs,.x false [.v (.int .i64 s)],.x false [.s 3 ys]]=>some fun K=> ∃(a:QN) (n:Nat) (qs:List Rat),xs=XX a/\ys=lR n qs/\((QO a)/\(1<=s/\s<=12)/\(qs.length=a.links.length/\Fit a qs/\n<=100000))/\(K (.t [(false,[.s 1 (ints (Qk a s qs))]),(false,[.v (.int .i64 0)])]))
 | _=>none
theorem QFY:CtrOK Tryz.prog QH QG 104 U7:=by
 refine⟨QK Tryz.func104 (by kernel_rfl),fun l T hT K hK=> ?_⟩;unfold U7 at hT;split at hT
 ·cases hT
  obtain⟨a,n,qs,rfl,rfl,hc,hK⟩:=hK;exact QJ QeR QP Tryz.func104 (by kernel_rfl) (by kernel_rfl) (by rfl) (QU0 _ _ _ _ hc K hK)
 ·cases hT
def QQP:List (Nat×Ctr):=(104,U7)::QeQ
noncomputable def QhX:QU:=mkTV QQP QQM X4
theorem QHl:CtrsOK Tryz.prog QH QG QQP:= .cons QFY QUz
theorem QeS:QM Tryz.prog QH QG QhX:=WX QHl QHk Ql
end Go.Proofs
namespace Go.Proofs
open Go Go.Eng
theorem QU1 {a:QN}{s:Int}{qs:List Rat}(hg:QO a)(hs:1<=s)(hf:Fit a qs): ∀k∈Qk a s qs,0<=k/\k<=s:=by
 intro k hk;obtain⟨i,hi⟩:=List.getElem?_of_mem hk
 unfold Qk at hi;rw[List.getElem?_zipWith_eq_some]at hi;obtain⟨L,q,hL,hq,rfl⟩:=hi;obtain⟨h1,h2⟩:=hf i L q hL hq;obtain⟨b1,b2,_⟩:=G0 hs (hg.links L (Zr hL)).lim h1 h2;exact⟨b1,b2⟩
def QiG:List (Nat×Ctr):=QQP
noncomputable def QiZ:QU:=mkTV QiG QQM X4
end Go.Proofs
