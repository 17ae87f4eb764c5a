/- roam: check, Number at one point, Value, Near; arm.Joints and the joint behind it; RoamNear. -/
import Derived.Test.YtnbkdgmgbaangaaGreatDoorA2
import Derived.Test.YtnbkdgmgbaangaaGreatDoorPB
open Go.IntKind renaming i64 → Za
open Int renaming ofNat → Zb, ofNat_eq_natCast → Zi
open List renaming map → Zc, take → Ze, take_of_length_le → Zf, getElem?_eq_getElem → Zk, length_map → Zm, length_take → Zo, mem_of_getElem? → Zr, take_add_one → Zs, drop_zero → Zu
open Go.Value renaming int → Zd, string → Zh, bool → Zl, slice → Zn
open Go.Eng.Ch renaming r → Zg, v → Zj, s → Zt
open Nat renaming zero_add → Zp, le_refl → Zq
namespace Go.Proofs
open Go Go.Eng
def VJ:Rat:=((1:Int):Rat)/((2:Int):Rat)
def QUs (s:Int)(L:Qi)(k:Int):Rat:=L.lo+(L.hi-L.lo)*((k:Rat)/(s:Rat))
def XM (a:QN)(s:Int)(ks:List Int):List Rat:=List.zipWith (QUs s) a.links ks
def Kc (s:Int)(L:Qi)(q:Rat):Rat:=VJ-(q-L.lo)/(L.hi-L.lo)*(s:Rat)
def QC1 (s:Int)(L:Qi)(q:Rat):Int:= -(Kc s L q).floor
def Qp (a:QN)(s:Int)(qs:List Rat):List Int:=List.zipWith (QC1 s) a.links qs
def Js (L:Qi):List Ch:=[.i 259 true (QB L)]
def QiG (l:List Qi):Blk:= .row 224 1 (l.map Js)
theorem Qa3 {l:List Qi}{i:Nat}{L:Qi}(h:l[i]? =some L):ldE (l.map Js) i 0 1=some (Js L):=by
 simp only[ldE,List.getElem?_map,h];rfl
theorem QUt:VJ+VJ=1:=by decide+kernel
theorem Gw {s:Int}(hs:1<=s){L:Qi}{q:Rat}(hl:L.lo<L.hi)(h1:L.lo<=q)(h2:q<=L.hi):0<=QC1 s L q/\QC1 s L q<=s/\ -s<=(Kc s L q).floor/\(Kc s L q).floor<=0:=by
 have hp:0<(L.hi-L.lo)⁻¹:=Rat.inv_pos.2 (by grind);have e:(L.hi-L.lo)*(L.hi-L.lo)⁻¹=1:=Rat.mul_inv_cancel _ (by grind);have y0:0<=(q-L.lo)/(L.hi-L.lo):=by
  rw[Rat.div_def];exact Rat.mul_nonneg (by grind) (Rat.le_of_lt hp)
 have y1:(q-L.lo)/(L.hi-L.lo)<=1:=by
  rw[Rat.div_def,<-e];exact Rat.mul_le_mul_of_nonneg_right (by grind) (Rat.le_of_lt hp)
 have s0:(0:Rat)<=(s:Rat):=Rat.intCast_nonneg.2 (by omega);have hh:=QUt;have z0:0<=(q-L.lo)/(L.hi-L.lo)*(s:Rat):=Rat.mul_nonneg y0 s0;have z1:(q-L.lo)/(L.hi-L.lo)*(s:Rat)<=(s:Rat):=by
  have:=Rat.mul_le_mul_of_nonneg_right y1 s0;rwa [Rat.one_mul]at this
 have a1:(((-s:Int)):Rat)<=Kc s L q:=by
  unfold Kc;rw[Rat.intCast_neg];grind
 have f1: -s<=(Kc s L q).floor:=Rat.le_floor_iff.2 a1
 have f2:(Kc s L q).floor<1:=Rat.floor_lt_iff.2 (by
  unfold Kc;have:((1:Int):Rat)=1:=rfl;rw[this]
  grind)
 unfold QC1;omega
def mtL:List (Nat×String×Nat)->QQr
 | [],_,_=>none
 | p::l,t,n=>bif t.beq p.1&&p.2.1==n then some p.2.2 else mtL l t n
def mtV:List (Nat×String×Nat):=[(259, "Value",263)]
noncomputable def mkTV (l:List (Nat×Ctr))(m:List (Nat×XL))(x:List (Nat×Vg)):QU:=⟨tbL Tryz.tyL,prL l,pmL m,pxL x,mtL mtV,itP Tryz.prog QEb,QRT⟩
theorem QUu {P:Program}: ∀{l:List (Nat×String×Nat)},(∀p∈l,QAz P p.1 p.2.1=some p.2.2)-> ∀t n f,mtL l t n=some f->QAz P t n=some f
 | [],_,_,_,_,h=>by cases h
 | p::l,hl,t,n,f,h=>by
  unfold mtL at h;cases hb:t.beq p.1&&p.2.1==n with
  | false=>rw[hb]at h;exact QUu (fun q hq=>hl q (by simp[hq])) t n f h
  | true=>
   rw[hb]at h;cases h
   simp only[Bool.and_eq_true,beq_iff_eq]at hb;have:=Nat.eq_of_beq_eq_true hb.1;subst this;rw[<-hb.2];exact hl p (by simp)
theorem QeE {P:Program}{l:List (Nat×String×Nat)}(h: ∀p∈l,QAz P p.1 p.2.1=some p.2.2):QAy P (mtL l):=fun t name f hf v w=>QA0 P t name f (QUu h t name f hf) v w
theorem QeF:QAy Tryz.prog (mtL mtV):=QeE fun p hp=>by
 simp only[mtV,List.mem_singleton]at hp;subst hp;kernel_rfl
theorem WY {g:Nat}{tab:List Value}{l:List (Nat×Ctr)}{m:List (Nat×XL)}{x:List (Nat×Vg)}(h:CtrsOK Tryz.prog g tab l)(hm:CtrMsOK Tryz.prog g tab m)(hx:CtrXsOK Tryz.prog x):QM Tryz.prog g tab (mkTV l m x):=
 QK9 (mkTV.eq_1 l m x) Tryz.tb_ok (QF3 h) (QK2 hm) (QK3 hx) QeF (QK1 Tryz.prog QEb) fun _ _ e j _ _ he hu=>by rw[(Tryz.tb_ok e j he).und,hu]
def QJ7:List (Nat×XL):=(210,Uo)::M48
def QeG:List (Nat×Ctr):=(206,VI)::(207,QHD)::(166,Uv)::L53
noncomputable def QhR:QU:=mkTV QeG QJ7 X4
theorem H8:CtrMsOK Tryz.prog QH QG QJ7:= .cons QE5 Gg
theorem QUv:CtrsOK Tryz.prog QH QG QeG:= .cons Ht (.cons QNg (.cons QPo Qf7))
theorem QeH:QM Tryz.prog QH QG QhR:=WY QUv H8 Qk
def QQO:OT:=fun _=>([],[])
def Gx (x:Int)(y:Int)(K:AV->Prop):Prop:=QX QhR QQO noL Tryz.f150 [iA .i64 x,iA .i64 y] K
theorem QC2 (x:Int)(y:Int)(K:AV->Prop):Gx x y K=((-9223372036854775808<=x/\x<9223372036854775808)/\(-9223372036854775808<=y/\y<9223372036854775808)/\128<=4294967296/\((↑y:Rat)≠OfNat.ofNat 0->K (AV.t [(true,[Zg ((↑x:Rat)/(↑y:Rat)) 128]),(false,[Zj (Zd Za 0)])]))/\((↑y:Rat)=OfNat.ofNat 0->K (AV.t [(true,[Zj (Zl false),Zj (Zh (ByteArray.mk (Array.mk []))),Zj (Zh (ByteArray.mk (Array.mk [])))]),(false,[Zj (Zd Za 12)])]))):=by kernel_rfl
theorem QUw (x:Int)(y:Int)(hc:((-9223372036854775808<=x/\x<9223372036854775808)/\ -9223372036854775808<=y/\y<9223372036854775808)/\((y:Rat)≠0))(K:AV->Prop)(hK:K (.t [(true,[.r ((x:Rat)/(y:Rat)) 128]),(false,[.v (.int .i64 0)])])):QR (Gx x y K):=by
 refine⟨?_⟩;rw[QC2];try simp only[Zi,R0,R1,Zp,Zq,R4,R2,R3]
 exact⟨hc.1.1,hc.1.2,by omega,fun _=>hK,fun h=>absurd h hc.2⟩
def QC3:Ctr:=fun as0=>match as0 with
 | [.x false [.v (.int .i64 x)],.x false [.v (.int .i64 y)]]=>some fun K=>(((-9223372036854775808<=x/\x<9223372036854775808)/\ -9223372036854775808<=y/\y<9223372036854775808)/\((y:Rat)≠0))/\(K (.t [(true,[.r ((x:Rat)/(y:Rat)) 128]),(false,[.v (.int .i64 0)])]))
 | _=>none
theorem QQP:CtrOK Tryz.prog QH QG 150 QC3:=by
 refine⟨QK Tryz.func150 (by kernel_rfl),fun l T hT K hK=> ?_⟩;unfold QC3 at hT;split at hT
 ·cases hT
  obtain⟨hc,hK⟩:=hK;exact QJ QeH QP Tryz.func150 (by kernel_rfl) (by kernel_rfl) (by rfl) (QUw _ _ hc K hK)
 ·cases hT
def QeI:List (Nat×Ctr):=(150,QC3)::QeG
noncomputable def QhS:QU:=mkTV QeI QJ7 X4
theorem QUx:CtrsOK Tryz.prog QH QG QeI:= .cons QQP QUv
theorem QeJ:QM Tryz.prog QH QG QhS:=WY QUx H8 Qk
def QMn:OT:=fun _=>([],[])
def U2 (a:QN)(s:Int)(K:AV->Prop):Prop:=QX QhS QMn noL Tryz.f165 [Jy a,iA .i64 s] K
theorem QAP (a:QN)(s:Int)(K:AV->Prop):U2 a s K=(∃(a_1:QN),[Zj (Zh a.name),Zg a.x 63,Zg a.y 63,Zj (Zl a.half),Zg a.t 63,Zt 16 (Zc QB a.links)]=[Zj (Zh a_1.name),Zg a_1.x 63,Zg a_1.y 63,Zj (Zl a_1.half),Zg a_1.t 63,Zt 16 (Zc QB a_1.links)]/\QO a_1/\bif decide (s<1)then K (AV.x false [Zj (Zd Za 1)])else bif decide (s>12)then K (AV.x false [Zj (Zd Za 1)])else K (AV.x false [Zj (Zd Za 0)])):=by kernel_rfl
theorem QQQ (a:QN)(s:Int)(hc:(QO a)/\(1<=s/\s<=12))(K:AV->Prop)(hK:K (iA .i64 0)):QR (U2 a s K):=by
 refine⟨?_⟩;rw[QAP];try simp only[Zi,R0,R1,Zp,Zq,R4,R2,R3]
 exact⟨a,rfl,hc.1,QF (fun h=>by have:=R5 h;omega) (fun _=>QF (fun h=>by have:=R5 h;omega) (fun _=>hK))⟩
def H9:Ctr:=fun as0=>match as0 with
 | [.x true xs,.x false [.v (.int .i64 s)]]=>some fun K=> ∃(a:QN),xs=XW a/\((QO a)/\(1<=s/\s<=12))/\(K (iA .i64 0))
 | _=>none
theorem QMo:CtrOK Tryz.prog QH QG 165 H9:=by
 refine⟨QK Tryz.func165 (by kernel_rfl),fun l T hT K hK=> ?_⟩;unfold H9 at hT;split at hT
 ·cases hT
  obtain⟨a,rfl,hc,hK⟩:=hK;exact QJ QeJ QP Tryz.func165 (by kernel_rfl) (by kernel_rfl) (by rfl) (QQQ _ _ hc K hK)
 ·cases hT
def QeK:List (Nat×Ctr):=(165,H9)::QeI
noncomputable def QhT:QU:=mkTV QeK QJ7 X4
theorem QUy:CtrsOK Tryz.prog QH QG QeK:= .cons QMo QUx
theorem QeL:QM Tryz.prog QH QG QhT:=WY QUy H8 Qk
def QUz:OT:=fun _=>([],[])
def QC4  (K:AV->Prop):Prop:=QX QhT QUz (fun _=> .unroll 3) Tryz.f173 [iA .i64 2,iA .i64 3,.x false [.s 1 (ints [1,2])]] K
theorem QEA (K:AV->Prop):QC4 K=(((0:Int)<=0/\(0:Int)<2)/\∃(d:Int),some [Zj (Zd Za 1)]=some [Zj (Zd Za d)]/\bif decide (d<0)then K (AV.t [(false,[Zj (Zd Za 0)]),(false,[Zj (Zd Za 17)])])else bif decide (d>3)then K (AV.t [(false,[Zj (Zd Za 0)]),(false,[Zj (Zd Za 17)])])else((0:Int)<=1/\(1:Int)<2)/\∃(d_1:Int),some [Zj (Zd Za 2)]=some [Zj (Zd Za d_1)]/\bif decide (d_1<0)then K (AV.t [(false,[Zj (Zd Za 0)]),(false,[Zj (Zd Za 17)])])else bif decide (d_1>3)then K (AV.t [(false,[Zj (Zd Za 0)]),(false,[Zj (Zd Za 17)])])else K (AV.t [(false,[Zj (Zd Za (Za.wrap (Za.wrap (Za.wrap (0+d)*4)+d_1)))]),(false,[Zj (Zd Za 0)])])):=by kernel_rfl
theorem QZI  (hc:True)(K:AV->Prop)(hK:K (.t [(false,[.v (.int .i64 6)]),(false,[.v (.int .i64 0)])])):QR (QC4  K):=by
 refine⟨?_⟩;rw[QEA];try simp only[Zi,R0,R1,Zp,Zq,R4,R2,R3]
 exact⟨by omega,1,rfl,QF (fun h=>by simp at h) (fun _=>QF (fun h=>by simp at h) (fun _=>⟨by omega,2,rfl,QF (fun h=>by simp at h) (fun _=>QF (fun h=>by simp at h) (fun _=>hK))⟩))⟩
def QHg:Ctr:=fun as0=>match as0 with
 | [.x false [.v (.int .i64 2)],.x false [.v (.int .i64 3)],.x false [.s 1 [[.v (.int .i64 1)],[.v (.int .i64 2)]]]]=>some fun K=>(True)/\(K (.t [(false,[.v (.int .i64 6)]),(false,[.v (.int .i64 0)])]))
 | _=>none
theorem QU0:CtrOK Tryz.prog QH QG 173 QHg:=by
 refine⟨QK Tryz.func173 (by kernel_rfl),fun l T hT K hK=> ?_⟩;unfold QHg at hT;split at hT
 ·cases hT
  obtain⟨hc,hK⟩:=hK;exact QJ QeL QP Tryz.func173 (by kernel_rfl) (by kernel_rfl) (by rfl) (QZI  hc K hK)
 ·cases hT
def QeM:List (Nat×Ctr):=(173,QHg)::QeK
noncomputable def QhU:QU:=mkTV QeM QJ7 X4
theorem QU1:CtrsOK Tryz.prog QH QG QeM:= .cons QU0 QUy
theorem QeN:QM Tryz.prog QH QG QhU:=WY QU1 H8 Qk
def QMp:OT:=fun _=>([],[])
def U3 (a:QN)(K:AV->Prop):Prop:=QX QhU QMp (fun _=> .inv ⟨Nat,fun i=>⟨[(5,.x false [.w 500 0 i]),(14,.x false [.s 16 (a.links.map QB)]),(15,iA .i64 a.links.length),(16,iA .i64 i)],[(500,QiG (a.links.take i))]⟩,fun i=>i<=a.links.length,fun i=>a.links.length-i,fun _=>0⟩) Tryz.f167 [Jy a] K
theorem QAQ (a:QN)(K:AV->Prop):U3 a K=(∃(a_1:QN),[Zj (Zh a.name),Zg a.x 63,Zg a.y 63,Zj (Zl a.half),Zg a.t 63,Zt 16 (Zc QB a.links)]=[Zj (Zh a_1.name),Zg a_1.x 63,Zg a_1.y 63,Zj (Zl a_1.half),Zg a_1.t 63,Zt 16 (Zc QB a_1.links)]/\QO a_1/\(∃(x:Nat),(x<=a.links.length/\OfNat.ofNat 0=0)/\Zn none 0 0=Zn none 0 0/\0=0/\x=0/\16=16/\Zc QB a.links=Zc QB a.links/\Zb (Zc QB a.links).length=Zb a.links.length/\0=Zb x/\Zc Js (Ze x a.links)=[]/\True)/\∀(x:Nat),x<=a.links.length->OfNat.ofNat 0=0->bif decide (Zb x<Zb a.links.length)then(0<=Zb x/\Zb x<Zb (Zc QB a.links).length)/\∃(q:Rat)(n:Nat)(q_1:Rat)(n_1:Nat)(q_2:Rat)(n_2:Nat)(q_3:Rat)(n_3:Nat)(q_4:Rat)(n_4:Nat)(ys:List (List Ch)),ldE (Zc QB a.links) (Zb x).toNat 0 16=some [Zg q n,Zg q_1 n_1,Zg q_2 n_2,Zg q_3 n_3,Zg q_4 n_4,Zt 6 ys]/\((x+1)*16<=140737488355328/\x+1<=9223372036854775807)/\∃(x':Nat),(x'<=a.links.length/\OfNat.ofNat 0=0/\a.links.length-x'<a.links.length-x)/\0=0/\x+1=x'/\16=16/\Zc QB a.links=Zc QB a.links/\Zb a.links.length=Zb a.links.length/\Za.wrap (Zb x+1)=Zb x'/\224=224/\1=1/\(Ze x (Zc Js (Ze x a.links))++[[Ch.i 259 true [Zg q n,Zg q_1 n_1,Zg q_2 n_2,Zg q_3 n_3,Zg q_4 n_4,Zt 6 ys]]]=Zc Js (Ze x' a.links)∨QC (Ze x (Zc Js (Ze x a.links))++[[Ch.i 259 true [Zg q n,Zg q_1 n_1,Zg q_2 n_2,Zg q_3 n_3,Zg q_4 n_4,Zt 6 ys]]]) (Zc Js (Ze x' a.links)))/\True else K (AV.t [(false,[Zt 1 (Ze x (List.drop 0 (Zc Js (Ze x a.links))))]),(false,[Zj (Zd Za 0)])])):=by kernel_rfl
theorem QQR (a:QN)(hc:(QO a))(K:AV->Prop)(hK:K (.t [(false,[.s 1 (a.links.map Js)]),(false,[.v (.int .i64 0)])])):QR (U3 a K):=by
 refine⟨?_⟩;rw[QAQ];try simp only[Zi,R0,R1,Zp,Zq,R4,R2,R3]
 have hn:=hc.n;simp only[Zm];refine⟨a,rfl,hc,⟨0,by omega,rfl,trivial,rfl,rfl⟩,fun x hx=>QF (fun hp=> ?_) (fun hp=> ?_)⟩
 ·have hp:x<a.links.length:=by have:=R5 hp;omega
  obtain⟨L,hL⟩: ∃L,a.links[x]? =some L:=⟨_,Zk hp⟩
  refine⟨by omega,_,_,_,_,_,_,_,_,_,_,_,KT (by simpa using hL),by omega,x+1,⟨by omega,by omega⟩,rfl,by rw[w64 (by omega)];simp,.inl ?_⟩;rw[Zf (by rw[Zm,Zo];omega),Zs,hL,List.map_append];rfl
 ·have hp:x=a.links.length:=by have:=R6 hp;omega
  subst hp;rw[Zu,Zf (l:=Zc Js _) (by rw[Zm,Zo];omega),List.take_length];exact hK
def GA:Ctr:=fun as0=>match as0 with
 | [.x true xs]=>some fun K=> ∃(a:QN),xs=XW a/\((QO a))/\(K (.t [(false,[.s 1 (a.links.map Js)]),(false,[.v (.int .i64 0)])]))
 | _=>none
theorem QMq:CtrOK Tryz.prog QH QG 167 GA:=by
 refine⟨QK Tryz.func167 (by kernel_rfl),fun l T hT K hK=> ?_⟩;unfold GA at hT;split at hT
 ·cases hT
  obtain⟨a,rfl,hc,hK⟩:=hK;exact QJ QeN QP Tryz.func167 (by kernel_rfl) (by kernel_rfl) (by rfl) (QQR _ hc K hK)
 ·cases hT
def QeO:List (Nat×Ctr):=(167,GA)::QeM
noncomputable def QhV:QU:=mkTV QeO QJ7 X4
theorem QU2:CtrsOK Tryz.prog QH QG QeO:= .cons QMq QU1
theorem QeP:QM Tryz.prog QH QG QhV:=WY QU2 H8 Qk
def QQS:OT:=fun id=>bif id.beq 1 then([0,1,2,3,4,5,6,7,8,10,9,11,12,13],[[],[0],[1,0],[],[3],[4,3],[],[6],[7,6],[5,4,3,8,7,6],[],[9,5,4,3,8,7,6,10],[2,1,0,11,9,5,4,3,8,7,6,10],[12,2,1,0,11,9,5,4,3,8,7,6,10]])else([],[])
def Gy (L:Qi)(q:Rat)(b:Nat)(K:AV->Prop):Prop:=QX QhV QQS noL Tryz.f263 [.x true (QB L),rA q b] K
theorem QC5 (L:Qi)(q:Rat)(b:Nat)(K:AV->Prop):Gy L q b K=(127<=4294967296/\127+b<=4294967296/\63+(127+b)+1<=4294967296/\K (AV.x true [Zg (L.lo+(L.hi-L.lo)*q) (63+(127+b)+1)])):=by kernel_rfl
theorem QU3 (L:Qi)(q:Rat)(b:Nat)(hc:(b<=1000000))(K:AV->Prop)(hK:K (rA (L.lo+(L.hi-L.lo)*q) (63+(63+63+1+b)+1))):QR (Gy L q b K):=by
 refine⟨?_⟩;rw[QC5];try simp only[Zi,R0,R1,Zp,Zq,R4,R2,R3]
 exact⟨by omega,by omega,by omega,hK⟩
def QC6:Ctr:=fun as0=>match as0 with
 | [.x true xs,.x true [.r q b]]=>some fun K=> ∃(L:Qi),xs=QB L/\((b<=1000000))/\(K (rA (L.lo+(L.hi-L.lo)*q) (63+(63+63+1+b)+1)))
 | _=>none
theorem ok_hValue:CtrOK Tryz.prog QH QG 263 QC6:=by
 refine⟨QK Tryz.func263 (by kernel_rfl),fun l T hT K hK=> ?_⟩;unfold QC6 at hT;split at hT
 ·cases hT
  obtain⟨L,rfl,hc,hK⟩:=hK;exact QJ QeP QP Tryz.func263 (by kernel_rfl) (by kernel_rfl) (by rfl) (QU3 _ _ _ hc K hK)
 ·cases hT
def QZJ:List (Nat×Ctr):=(263,QC6)::QeO
noncomputable def QiZ:QU:=mkTV QZJ QJ7 X4
theorem QU4:CtrsOK Tryz.prog QH QG QZJ:= .cons ok_hValue QU2
end Go.Proofs
namespace Go.Proofs
open Go Go.Eng
theorem QJ8 {P:Program}{g:Nat}{tab:List Value}{f:Nat}{c:Ctr}(hc:CtrOK P g tab f c){as0:List AV}{H:HP}{K:KK}{d:Nat}(h:QEN (prL [(f,c)]) (fun _ _ _ _=>none) f d as0 H K):SpecM P g tab f as0 H K:=fun w0 M ρ w vals hg ht hs ha=>by
 subst hg ht;exact(We (QF3 (.cons hc .nil)) (QQo.mk (fun _ _ _ _ _ (h:none=some _)=>nomatch h) (fun _ _ _ _ _ (h:none=some _)=>nomatch h)) hs ha h).2
theorem Jk {l:List Int}{i:Nat}{k:Int}(h:l[i]? =some k):ldE (ints l) i 0 1=some [.v (.int .i64 k)]:=by
 simp only[ldE,ints,List.getElem?_map,h];rfl
def GB:XL:=fun as0 H _=>match as0 with
 | [.x true ds,.x true [.r q b]]=>some fun K=> ∃L,ds=QB L/\b<=1000000/\K (rA (L.lo+(L.hi-L.lo)*q) (63+(63+63+1+b)+1)) H
 | _=>none
def QQT:List (Nat×XL):=(263,GB)::QJ7
noncomputable def QhW:QU:=mkTV QZJ QQT X4
theorem QMr:XP Tryz.prog QH QG 263 GB:=by
 refine⟨ok_hValue.enter,fun l H d T hT K hK=> ?_⟩;unfold GB at hT;split at hT
 ·cases hT
  obtain⟨L,rfl,hc,hK⟩:=hK;exact QJ8 ok_hValue (d:=0) ⟨L,rfl,hc,hK⟩
 ·cases hT
theorem QHh:CtrMsOK Tryz.prog QH QG QQT:= .cons QMr H8
theorem QeQ:QM Tryz.prog QH QG QhW:=WY QU4 QHh Qk
def QMs:OT:=fun id=>bif id.beq 16 then([0,1,2,3,4,5,6,7,8,9],[[],[],[],[1,2],[3,1,2],[],[4,3,1,2,5],[6,4,3,1,2,5],[0,7,6,4,3,1,2,5],[8,0,7,6,4,3,1,2,5]])else([],[])
def U4 (a:QN)(s:Int)(ks:List Int)(K:AV->Prop):Prop:=QX QhW QMs (fun _=> .inv ⟨Nat,fun i=>⟨[(1,iA .i64 s),(2,.x false [.s 1 (ints ks)]),(9,.x false [.s 1 (a.links.map Js)]),(11,.x false [.w 500 0 i]),(36,.x false [.s 1 (ints ks)]),(37,iA .i64 ks.length),(38,iA .i64 i)],[(500,QB2 319 ((XM a s ks).take i))]⟩,fun i=>i<=ks.length,fun i=>ks.length-i,fun _=>0⟩) Tryz.f105 [Jy a,iA .i64 s,.x false [.s 1 (ints ks)]] K
theorem QAR (a:QN)(s:Int)(ks:List Int)(K:AV->Prop):U4 a s ks K=(∃(a_1:QN),[Zj (Zh a.name),Zg a.x 63,Zg a.y 63,Zj (Zl a.half),Zg a.t 63,Zt 16 (Zc QB a.links)]=[Zj (Zh a_1.name),Zg a_1.x 63,Zg a_1.y 63,Zj (Zl a_1.half),Zg a_1.t 63,Zt 16 (Zc QB a_1.links)]/\(QO a_1/\1<=s/\s<=12)/\bif Zb (ints ks).length !=Zb (Zc QB a.links).length then K (AV.t [(false,[Zj (Zn none 0 0)]),(false,[Zj (Zd Za 1)])])else ∃(a_2:QN),[Zj (Zh a.name),Zg a.x 63,Zg a.y 63,Zj (Zl a.half),Zg a.t 63,Zt 16 (Zc QB a.links)]=[Zj (Zh a_2.name),Zg a_2.x 63,Zg a_2.y 63,Zj (Zl a_2.half),Zg a_2.t 63,Zt 16 (Zc QB a_2.links)]/\QO a_2/\(∃(x:Nat),(x<=ks.length/\OfNat.ofNat 0=0)/\s=s/\1=1/\ints ks=ints ks/\1=1/\Zc Js a_2.links=Zc Js a.links/\Zn none 0 0=Zn none 0 0/\0=0/\x=0/\1=1/\ints ks=ints ks/\Zb (ints ks).length=Zb ks.length/\0=Zb x/\Zc (fun(q:Rat)=>[Zg q 319]) (Ze x (XM a s ks))=[]/\True)/\∀(x:Nat),x<=ks.length->OfNat.ofNat 0=0->bif decide (Zb x<Zb ks.length)then(0<=Zb x/\Zb x<Zb (ints ks).length)/\∃(d:Int),ldE (ints ks) (Zb x).toNat 0 1=some [Zj (Zd Za d)]/\bif decide (d<0)then K (AV.t [(false,[Zj (Zn none 0 0)]),(false,[Zj (Zd Za 17)])])else bif decide (d>s)then K (AV.t [(false,[Zj (Zn none 0 0)]),(false,[Zj (Zd Za 17)])])else(((-9223372036854775808<=d/\d<9223372036854775808)/\ -9223372036854775808<=s/\s<9223372036854775808)/\(↑s:Rat)≠OfNat.ofNat 0)/\(0<=Zb x/\Zb x<Zb (Zc Js a.links).length)/\∃(ds:List Ch),ldE (Zc Js a.links) (Zb x).toNat 0 1=some [Ch.i 259 true ds]/\∃(L:Qi),ds=[Zg L.len 63,Zg L.lo 63,Zg L.hi 63,Zg L.sp 63,Zg L.br 63,Zt 6 (Zc XV L.shape)]/\128<=1000000/\((x+1)*40<=140737488355328/\x+1<=9223372036854775807)/\∃(x':Nat),(x'<=ks.length/\OfNat.ofNat 0=0/\ks.length-x'<ks.length-x)/\s=s/\1=1/\ints ks=ints ks/\1=1/\Zc Js a.links=Zc Js a.links/\0=0/\x+1=x'/\1=1/\ints ks=ints ks/\Zb ks.length=Zb ks.length/\Za.wrap (Zb x+1)=Zb x'/\25=25/\3=3/\(Ze x (Zc (fun(q:Rat)=>[Zg q 319]) (Ze x (XM a s ks)))++[[Zg (L.lo+(L.hi-L.lo)*((↑d:Rat)/(↑s:Rat))) 319]]=Zc (fun(q:Rat)=>[Zg q 319]) (Ze x' (XM a s ks))∨QC (Ze x (Zc (fun(q:Rat)=>[Zg q 319]) (Ze x (XM a s ks)))++[[Zg (L.lo+(L.hi-L.lo)*((↑d:Rat)/(↑s:Rat))) 319]]) (Zc (fun(q:Rat)=>[Zg q 319]) (Ze x' (XM a s ks))))/\True else K (AV.t [(false,[Zt 3 (Ze x (List.drop 0 (Zc (fun(q:Rat)=>[Zg q 319]) (Ze x (XM a s ks)))))]),(false,[Zj (Zd Za 0)])])):=by kernel_rfl
theorem QQU (a:QN)(s:Int)(ks:List Int)(hc:(QO a)/\(1<=s/\s<=12)/\(ks.length=a.links.length/\ ∀k∈ks,0<=k/\k<=s))(K:AV->Prop)(hK:K (.t [(false,[.s 3 (lR 319 (XM a s ks))]),(false,[.v (.int .i64 0)])])):QR (U4 a s ks K):=by
 refine⟨?_⟩;rw[QAR];try simp only[Zi,R0,R1,Zp,Zq,R4,R2,R3]
 obtain⟨hg,⟨s1,s2⟩,hl,hks⟩:=hc;have hn:=hg.n;have lv:(XM a s ks).length=ks.length:=by simp[XM,hl]
 simp only[Zm,Qu];refine⟨a,rfl,⟨hg,s1,s2⟩,QF (fun h=>by simp[hl]at h) (fun _=>⟨a,rfl,hg,⟨0,by omega,rfl,rfl,trivial,rfl,rfl⟩,fun x hx=>QF (fun hp=> ?_) (fun hp=> ?_)⟩)⟩
 ·have hp:x<ks.length:=by have:=R5 hp;omega
  obtain⟨k,hk⟩: ∃k,ks[x]? =some k:=⟨_,Zk hp⟩
  have hkb:=hks k (Zr hk);obtain⟨L,hL⟩: ∃L,a.links[x]? =some L:=⟨_,Zk (by omega)⟩
  have hv:(XM a s ks)[x]? =some (QUs s L k):=by simp[XM,List.getElem?_zipWith,hL,hk]
  refine⟨by omega,k,Jk (by simpa using hk),QF (fun h=>by have:=R5 h;omega) (fun _=>QF (fun h=>by have:=R5 h;omega) (fun _=>⟨⟨by omega,?_⟩,by omega,_,Qa3 (by simpa using hL),L,rfl,by omega,by omega,x+1,⟨by omega,by omega⟩,rfl,by rw[w64 (by omega)];simp,.inl ?_⟩))⟩
  ·intro h;have h2:(0:Rat)<((s:Int):Rat):=Rat.intCast_pos.2 (by omega);grind
  ·rw[Zf (by rw[Zm,Zo];omega),Zs,hv,List.map_append];rfl
 ·have hp:x=ks.length:=by have:=R6 hp;omega
  subst hp;rw[Zu,Zf (by rw[Zm,Zo];omega),Zf (by omega)];exact hK
def GC:Ctr:=fun as0=>match as0 with
 | [.x true xs,.x false [.v (.int .i64 s)],.x false [.s 1 ys]]=>some fun K=> ∃(a:QN) (ks:List Int),xs=XW a/\ys=ints ks/\((QO a)/\(1<=s/\s<=12)/\(ks.length=a.links.length/\ ∀k∈ks,0<=k/\k<=s))/\(K (.t [(false,[.s 3 (lR 319 (XM a s ks))]),(false,[.v (.int .i64 0)])]))
 | _=>none
theorem ok_roValue:CtrOK Tryz.prog QH QG 105 GC:=by
 refine⟨QK Tryz.func105 (by kernel_rfl),fun l T hT K hK=> ?_⟩;unfold GC at hT;split at hT
 ·cases hT
  obtain⟨a,ks,rfl,rfl,hc,hK⟩:=hK;exact QJ QeQ QP Tryz.func105 (by kernel_rfl) (by kernel_rfl) (by rfl) (QQU _ _ _ hc K hK)
 ·cases hT
def QeR:List (Nat×Ctr):=(105,GC)::QZJ
noncomputable def QhX:QU:=mkTV QeR QQT X4
theorem QU5:CtrsOK Tryz.prog QH QG QeR:= .cons ok_roValue QU4
theorem QeS:QM Tryz.prog QH QG QhX:=WY QU5 QHh Qk
def QQV:OT:=fun id=>bif id.beq 12 then([0,1,2,3,4,5,7,8,9,10,16,6,11,12,13,14,15,17,18],[[],[],[0,1],[2,0,1],[],[4],[3,2,0,1,5,4],[],[7],[],[9],[8,7,10,9,6,3,2,0,1,5,4],[6,3,2,0,1,5,4,11,8,7,10,9],[12,6,3,2,0,1,5,4,11,8,7,10,9],[13,12,6,3,2,0,1,5,4,11,8,7,10,9],[13,12,6,3,2,0,1,5,4,11,8,7,10,9],[],[16,14,13,12,6,3,2,0,1,5,4,11,8,7,10,9],[15,13,12,6,3,2,0,1,5,4,11,8,7,10,9,17,16,14]])else bif id.beq 13 then([0,1,2,3,4,5,6,7,8,9,10,11],[[],[],[],[2],[1,3,2],[0,4,1,3,2],[5,0,4,1,3,2],[6,5,0,4,1,3,2],[7,6,5,0,4,1,3,2],[7,6,5,0,4,1,3,2],[8,7,6,5,0,4,1,3,2],[9,7,6,5,0,4,1,3,2,10,8]])else([],[])
def Gz (a:QN)(s:Int)(n:Nat)(qs:List Rat)(K:AV->Prop):Prop:=QX QhX QQV (fun _=> .inv ⟨Nat,fun i=>⟨[(1,iA .i64 s),(2,sR n qs),(10,.x false [.w 500 0 i]),(11,.x false [.p 11 0]),(36,.x false [.s 16 (a.links.map QB)]),(37,iA .i64 a.links.length),(38,iA .i64 i)],[(11,.box 25 [.r VJ 128]),(500,Xu ((Qp a s qs).take i))]⟩,fun i=>i<=a.links.length,fun i=>a.links.length-i,fun _=>0⟩) Tryz.f104 [Jy a,iA .i64 s,sR n qs] K
theorem QC7 (a:QN)(s:Int)(n:Nat)(qs:List Rat)(K:AV->Prop):Gz a s n qs K=(∃(a_1:QN),[Zj (Zh a.name),Zg a.x 63,Zg a.y 63,Zj (Zl a.half),Zg a.t 63,Zt 16 (Zc QB a.links)]=[Zj (Zh a_1.name),Zg a_1.x 63,Zg a_1.y 63,Zj (Zl a_1.half),Zg a_1.t 63,Zt 16 (Zc QB a_1.links)]/\(QO a_1/\1<=s/\s<=12)/\∃(a_2:QN)(n_1:Nat)(qs_1:List Rat),[Zj (Zh a.name),Zg a.x 63,Zg a.y 63,Zj (Zl a.half),Zg a.t 63,Zt 16 (Zc QB a.links)]=[Zj (Zh a_2.name),Zg a_2.x 63,Zg a_2.y 63,Zj (Zl a_2.half),Zg a_2.t 63,Zt 16 (Zc QB a_2.links)]/\lR n qs=lR n_1 qs_1/\(QO a_2/\n_1<=1000000/\qs_1.length=a_2.links.length)/\((∀(i:Nat) (L:Qi) (q:Rat),a_2.links[i]?=some L->qs_1[i]?=some q->L.lo<=q/\q<=L.hi)->((((-9223372036854775808:Int)<=1/\(1:Int)<9223372036854775808)/\(-9223372036854775808:Int)<=2/\(2:Int)<9223372036854775808)/\(↑(2:Int):Rat)≠OfNat.ofNat 0)/\(∃(x:Nat),(x<=a.links.length/\OfNat.ofNat 0=0)/\s=s/\3=3/\lR n qs=lR n qs/\Zn none 0 0=Zn none 0 0/\0=0/\x=0/\0=0/\16=16/\Zc QB a.links=Zc QB a.links/\Zb (Zc QB a.links).length=Zb a.links.length/\0=Zb x/\25=25/\(↑(1:Int):Rat)/(↑(2:Int):Rat)=VJ/\128<=128/\ints (Ze x (Qp a s qs))=[]/\True)/\∀(x:Nat),x<=a.links.length->OfNat.ofNat 0=0->bif decide (Zb x<Zb a.links.length)then(0<=Zb x/\Zb x<Zb (Zc QB a.links).length)/\∃(q:Rat)(n_2:Nat)(q_1:Rat)(n_3:Nat)(q_2:Rat)(n_4:Nat)(q_3:Rat)(n_5:Nat)(q_4:Rat)(n_6:Nat)(ys:List (List Ch)),ldE (Zc QB a.links) (Zb x).toNat 0 16=some [Zg q n_2,Zg q_1 n_3,Zg q_2 n_4,Zg q_3 n_5,Zg q_4 n_6,Zt 6 ys]/\(0<=Zb x/\Zb x<Zb (lR n qs).length)/\∃(q:Rat)(n_7:Nat),ldE (lR n qs) (Zb x).toNat 0 3=some [Zg q n_7]/\n_7+n_3+1<=4294967296/\n_4+n_3+1<=4294967296/\n_7+n_3+1+(n_4+n_3+1)<=4294967296/\(q_2-q_1≠OfNat.ofNat 0->(-9223372036854775808<=s/\s<9223372036854775808)/\n_7+n_3+1+(n_4+n_3+1)+64<=4294967296/\128+(n_7+n_3+1+(n_4+n_3+1)+64)+1<=4294967296/\(128+(n_7+n_3+1+(n_4+n_3+1)+64)+1<=2000000000/\ -9223372036854775808<(VJ-(q-q_1)/(q_2-q_1)*↑s).floor/\(VJ-(q-q_1)/(q_2-q_1)*↑s).floor<9223372036854775808)/\((x+1)*8<=140737488355328/\x+1<=9223372036854775807)/\∃(x':Nat),(x'<=a.links.length/\OfNat.ofNat 0=0/\a.links.length-x'<a.links.length-x)/\s=s/\3=3/\lR n qs=lR n qs/\0=0/\x+1=x'/\0=0/\16=16/\Zc QB a.links=Zc QB a.links/\Zb a.links.length=Zb a.links.length/\Za.wrap (Zb x+1)=Zb x'/\25=25/\VJ=VJ/\128<=128/\3=3/\1=1/\(Ze x (ints (Ze x (Qp a s qs)))++[[Zj (Zd Za (Za.wrap (0-(VJ-(q-q_1)/(q_2-q_1)*↑s).floor)))]]=ints (Ze x' (Qp a s qs))∨QC (Ze x (ints (Ze x (Qp a s qs)))++[[Zj (Zd Za (Za.wrap (0-(VJ-(q-q_1)/(q_2-q_1)*↑s).floor)))]]) (ints (Ze x' (Qp a s qs))))/\True)/\(q_2-q_1=OfNat.ofNat 0->(-9223372036854775808<=s/\s<9223372036854775808)/\False)else K (AV.t [(false,[Zt 1 (Ze x (List.drop 0 (ints (Ze x (Qp a s qs)))))]),(false,[Zj (Zd Za 0)])]))/\(¬Fit a_2 qs_1->K (AV.t [(false,[Zj (Zn none 0 0)]),(false,[Zj (Zd Za 17)])]))):=by kernel_rfl
theorem QU6 (a:QN)(s:Int)(n:Nat)(qs:List Rat)(hc:(QO a)/\(1<=s/\s<=12)/\(qs.length=a.links.length/\Fit a qs/\n<=100000))(K:AV->Prop)(hK:K (.t [(false,[.s 1 (ints (Qp a s qs))]),(false,[.v (.int .i64 0)])])):QR (Gz a s n qs K):=by
 refine⟨?_⟩;rw[QC7];try simp only[Zi,R0,R1,Zp,Zq,R4,R2,R3]
 obtain⟨hg,⟨s1,s2⟩,hl,hf,hnn⟩:=hc;have hn:=hg.n;have lv:(Qp a s qs).length=a.links.length:=by simp[Qp,hl]
 simp only[Zm,WT];refine⟨a,rfl,⟨hg,s1,s2⟩,a,n,qs,rfl,rfl,⟨hg,by omega,hl⟩,fun _=>⟨⟨⟨⟨by omega,by omega⟩,by omega,by omega⟩,by decide+kernel⟩,⟨0,by omega,rfl,trivial,rfl,rfl,rfl⟩,fun x hx=>QF (fun hp=> ?_) (fun hp=> ?_)⟩,fun h=>absurd hf h⟩
 ·have hp:x<a.links.length:=by have:=R5 hp;omega
  obtain⟨L,hL⟩: ∃L,a.links[x]? =some L:=⟨_,Zk (by omega)⟩
  obtain⟨q,hq⟩: ∃q,qs[x]? =some q:=⟨_,Zk (by omega)⟩
  obtain⟨h1,h2⟩:=hf x L q hL hq;have gl:=hg.links L (Zr hL);have glim:=gl.lim;obtain⟨b1,b2,b3,b4⟩:=Gw s1 glim h1 h2;have hv:(Qp a s qs)[x]? =some (QC1 s L q):=by simp[Qp,List.getElem?_zipWith,hL,hq]
  have hw:Za.wrap (0-(Kc s L q).floor)=QC1 s L q:=by rw[w64 (by omega)];unfold QC1;omega
  refine⟨by omega,_,_,_,_,_,_,_,_,_,_,_,KT (by simpa using hL),by omega,q,n,VF (by simpa using hq),by omega,by omega,by omega,fun hne=>⟨by omega,by omega,by omega,⟨by omega,show _<(Kc s L q).floor by omega,show(Kc s L q).floor<_ by omega⟩,by omega,x+1,⟨by omega,by omega⟩,rfl,by rw[w64 (by omega)];simp,.inl ?_⟩,fun h0=> ?_⟩
  ·show _++[[Zj (Zd .i64 (Za.wrap (0-(Kc s L q).floor)))]]=_
   rw[hw,Zf (by rw[Qu,Zo];omega),Zs,hv];simp[ints]
  ·exfalso;grind
 ·have hp:x=a.links.length:=by have:=R6 hp;omega
  subst hp;rw[Zu,Zf (by rw[Qu,Zo];omega),Zf (by omega)];exact hK
def U5:Ctr:=fun as0=>match as0 with
 | [.x true xs,.x false [.v (.int .i64 s)],.x false [.s 3 ys]]=>some fun K=> ∃(a:QN) (n:Nat) (qs:List Rat),xs=XW a/\ys=lR n qs/\((QO a)/\(1<=s/\s<=12)/\(qs.length=a.links.length/\Fit a qs/\n<=100000))/\(K (.t [(false,[.s 1 (ints (Qp a s qs))]),(false,[.v (.int .i64 0)])]))
 | _=>none
theorem QFR:CtrOK Tryz.prog QH QG 104 U5:=by
 refine⟨QK Tryz.func104 (by kernel_rfl),fun l T hT K hK=> ?_⟩;unfold U5 at hT;split at hT
 ·cases hT
  obtain⟨a,n,qs,rfl,rfl,hc,hK⟩:=hK;exact QJ QeS QP Tryz.func104 (by kernel_rfl) (by kernel_rfl) (by rfl) (QU6 _ _ _ _ hc K hK)
 ·cases hT
def QQW:List (Nat×Ctr):=(104,U5)::QeR
noncomputable def QhY:QU:=mkTV QQW QQT X4
theorem QHi:CtrsOK Tryz.prog QH QG QQW:= .cons QFR QU5
theorem QeT:QM Tryz.prog QH QG QhY:=WY QHi QHh Qk
end Go.Proofs
namespace Go.Proofs
open Go Go.Eng
theorem QU7 {a:QN}{s:Int}{qs:List Rat}(hg:QO a)(hs:1<=s)(hf:Fit a qs): ∀k∈Qp a s qs,0<=k/\k<=s:=by
 intro k hk;obtain⟨i,hi⟩:=List.getElem?_of_mem hk
 unfold Qp at hi;rw[List.getElem?_zipWith_eq_some]at hi;obtain⟨L,q,hL,hq,rfl⟩:=hi;obtain⟨h1,h2⟩:=hf i L q hL hq;obtain⟨b1,b2,_⟩:=Gw hs (hg.links L (Zr hL)).lim h1 h2;exact⟨b1,b2⟩
def QiH:List (Nat×Ctr):=QQW
noncomputable def Qia:QU:=mkTV QiH QQT X4
end Go.Proofs
