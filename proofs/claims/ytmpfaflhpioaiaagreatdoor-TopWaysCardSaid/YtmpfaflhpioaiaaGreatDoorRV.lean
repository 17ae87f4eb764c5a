/- rvFact: the fact that the laws on tops begin with. -/
import Derived.Test.YtmpfaflhpioaiaaGreatDoorIH
import Derived.Test.YtmpfaflhpioaiaaGreatDoorTP
open _root_ renaming Nat → A, mkRat → B, List → C, Int → D, Rat → G
open Option renaming some → E
open Bool renaming false → F
open List renaming length → H, map → Ze, getElem?_eq_some_iff → Zn, take → Zr, length_map → Zs
open Go.Proofs.ArmV renaming za → I, name → Zo, x → Zu, y → Zt, half → Zp, t → Zv
open Go.Eng.Ch renaming v → Zj, s → Zw, r → Zf
open Int renaming ofNat → Zi
open Go.IntKind renaming i64 → Za
open Go.Value renaming int → Zd, bool → Zg, string → Zk, func → Zq
open Prod renaming fst → Zm, snd → Zl
open Array renaming mk → Zh
set_option maxHeartbeats 1000000
set_option maxRecDepth 100000
namespace Go.Proofs
open Go Go.Eng Tryz
def QFp (n d:D)(K:AV->Prop):Prop:=QN (mkT L25 M23 X4) (oF f16) noL f16 [iA .i64 n,iA .i64 d] K
theorem QH6 (n:D)(d:D)(K:AV->Prop):QFp n d K=(((-9223372036854775808<n/\n<9223372036854775808)/\0<d/\d<9223372036854775808)/\K (AV.x true [Zf (B n d.toNat) 63])):=o4
def bV:Ctr:=a9
theorem lh:QH 16 bV:=by
 refine⟨Qf func16 o4,fun l T h K a=> ?_⟩;unfold bV a9 at h;split at h
 ·cases h
  exact Qk (QP qN aZ Qb) QK func16 o4 o4 j6 (show QM (QFp _ _ K)from⟨by rw[QH6];exact a⟩)
 ·cases h
def pL:LC:=(16,bV)::L25
theorem QiH:QF pL:= .cons lh qN
def RZ:=(0:D)
def Rd:=(1:D)
def SH(a b:D):=(-9223372036854775808<a/\b<9223372036854775808)/\RZ<1/\Rd<9223372036854775808
theorem Qki (x y:D)(a:((-9223372036854775808<x/\x<9223372036854775808)/\ -9223372036854775808<y/\y<9223372036854775808))(K:AV->Prop)(h:K (.x true (XL (pt1 x y)))):QM (QN (mkT pL M23 X4) (oF f15) noL f15 [iA .i64 x,iA .i64 y] K):=by
 refine HV (SH x x/\SH y y/\K (AV.x true [Zf (B x 1) 63,Zf (B y 1) 63])) ?_
 delta RZ Rd SH
 try simp only[D.ofNat_eq_natCast,R0,R1,A.zero_add,A.le_refl,R4,R2,R3]
 exact⟨o3,o3,h⟩
def eE:Ctr
 | [.x F [.v (.int .i64 x)],.x F [.v (.int .i64 y)]]=>E fun K=>(((-9223372036854775808<x/\x<9223372036854775808)/\ -9223372036854775808<y/\y<9223372036854775808))/\(K (.x true (XL (pt1 x y))))
 | _=>none
theorem QiI:QH 15 eE:=by
 refine okL func15 fun l T a K h=> ?_
 unfold eE at a;split at a<;>cases a
 obtain⟨b,h⟩:=h;exact spL (QP QiH aZ Qb) QK func15 (Qki _ _ b K h)
def Qkj:LC:=(15,eE)::pL
noncomputable def QlT:Qd:=mkT Qkj M23 X4
def iG:LC:=(15,eE)::(16,bV)::(17,dP)::(18,dF)::(10,GW)::ak
theorem QiK:QF iG:= .cons QiI (.cons lh (.cons zD (.cons QYv (.cons nA vJ))))
theorem QSD: ∃r R o a,((WK (YK 3).len (YK 4).len (aK (XO [3,4]) (pt1 5 0).1 (pt1 5 0).2) (aP (XO [3,4]) (pt1 5 0).1 (pt1 5 0).2)=E r/\inF (YK 3).lo (YK 3).hi (YK 4).lo (YK 4).hi r []=E R)/\S3 R []=E [o,a]):=by
 have e:=QKM;obtain⟨O,h,e⟩:=Option.map_eq_some_iff.1 e;obtain⟨r,b,h⟩:=Option.bind_eq_some_iff.1 h;obtain⟨R,c,d⟩:=Option.bind_eq_some_iff.1 h;have f:O.length=2:=by simpa using congrArg H e
 match O,f with
 | [o,a],_=>exact⟨r,R,o,a,⟨b,c⟩,d⟩
def rvW:C (C G):=[[B (-1) 2,B 1 1],[B 0 1,B 0 1]]
theorem QiL:((XH (Xs (XO [3,4])) (XO [3,4]).za [B (-1) 2,B 1 1])[2]?.map fun f=>(f.x,f.y))=E (pt1 5 0):=j5
theorem QdF:(Xj (XO [3,4]) 128 0 rvW).map (·.tick)=[0,4]:=j5
theorem QiM: ∀q∈rvW,Fit (XO [3,4]) q:=by
 intro q h i L v a c;have b:i<2:=(Zn.1 a).1;have b:i=0\/i=1:=o3
 have h:q=[B (-1) 2,B 1 1]\/q=[B 0 1,B 0 1]:=by simpa [rvW]using h
 rcases b with rfl | rfl<;>rcases h with rfl | rfl<;>cases a<;>cases c<;>constructor<;>decide+kernel
theorem QdG: ∀(i:A) (p q:C G),rvW[i]? =E p->rvW[i+1]? =E q->Vq (XO [3,4]) p q:=by
 intro i p q d c;have a:i+1<2:=(Zn.1 c).1;have a:i=0:=o3
 subst a;cases d;cases c
 intro j L u v h e f;have b:j<2:=(Zn.1 h).1;have b:j=0\/j=1:=o3
 rcases b with rfl | rfl<;>cases h<;>cases e<;>cases f<;>decide+kernel
def QSE:LI:=fun i=>bif i.beq 8 then .cutf [500] ⟨ArmV,fun a=>⟨[(1,.x F [.v (.func (.func 15) #[] #[])]),(2,.x F [.p 2 0])],[(2,.box 34 (Qp a))]⟩,fun a=>a=XO [3,4],fun _=>0,fun _=>0⟩else .inv ⟨SmX,fun x=>⟨[(1,.x F [.v (.func (.func 15) #[] #[])]),(2,.x F [.p 2 0]),(18,.x F [.w 600 0 2]),(19,iA .i64 2),(20,iA .i64 x.i)],[(2,.box 34 [.v (.string a8),.r (B 0 1) 63,.r (B 0 1) 63,.v (.bool F),.r (B 0 1) 63,.w 500 0 x.ls.length]),(500,bT x.ls),(600,.row 3 1 (ints [3,4]))]⟩,fun x=>x.ls=(([3,4]:C D).take x.i).map YK/\x.i<=2,fun x=>2-x.i,fun _=>0⟩
def Rg:=(1:A)
def Rf(a:D):=B a Rg
def Rc(a b:D):=a<(b:D)
def Rb(a:G):=Zf a (63:A)
def Ra:=Rf RZ
def Ri:=(0:A)
def Re:=(-9223372036854775808:D)
def Rh(a:Prop)(b:D)(c:Prop)(d:D):=(a/\Rc b 9223372036854775808)/\c/\Rc d 9223372036854775808
def Ro:=(-1:D)
def Rj:=(2:A)
def Rk:=(2:D)
def Rt:=Re<RZ
def Ru:=(5:D)
def SB(a:Prop)(b:D):=Rh a b (Rc RZ 1) Rd
def Rl:=(63:A)<=(63:A)
def Rm:C (C Ch):=[[Zj (Zd Za (3:D))],[Zj (Zd Za (4:D))]]
def Rp(a b c d e f:ArmV):C Ch:=[Zj (Zk (Zo a)),Rb (Zu b),Rb (Zt c),Zj (Zg (Zp d)),Rb (Zv e),Zw (16:A) (Ze QA (I f))]
def Rq(a:SmX):=H (SmX.ls a)
def Rn(a b:A):=(a:A)=(b:A)
def SC(a:G)(b:D)(c:G)(d:D):C Ch:=[Rb (Zm (a,Rf b)),Rb (Zl (c,Rf d))]
def Ry:=(4:D)
def Rs:=Ri=Ri
def Rr(a:SmX):=Zi (SmX.i a)
def Rz(a:SmX):=Ze QA (SmX.ls a)
def Rv:=Zq (Fn.func (15:A)) (Zh []) (Zh [])
def SA(a:AV->Prop)(b:Bool):=a (AV.x F [Zj (Zg b)])
def Rw:=SB Rt RZ
def Rx:=OfNat.ofNat (0:A)=Ri
def R9:=ByteArray.mk (Zh [OfNat.ofNat (111:A),OfNat.ofNat (110:A),OfNat.ofNat (101:A)])
def SE:=B Ro Rj
def SG:=Zl (Rf Ru,Ra)
def SF:=Zm (Rf Ru,Ra)
def SD(a b:SmX):=SmX.ls a=Ze YK (Zr (SmX.i b) [(3:D),Ry])
def SJ(a b:SmX)(c d e f g:D):=Zr (Rq a) (Rz b)++[[Rb (Rf c),Rb (Rf (-2:D)),Rb (Rf Rk),Rb (B Rd (4:A)),Rb (B Rd (10:A)),Zw (6:A) [SC Ra Ro Ra Ro,SC (Rf d) Ro (Rf e) Ro,SC (Rf f) Rd (Rf g) Rd,SC Ra Rd Ra Rd]]]
def SI:=Value.slice none Ri Ri
theorem QdH (_hc:True)(K:AV->Prop)(S:K (.x F [.v (.bool true)])):QM (QN (mkT iG S5 X4) (oF f4) (QSE) f4 [] K):=by
 refine HV (Rh Rt RZ Rt RZ/\Rw/\((∃(x:SmX),((SD x x/\SmX.i x<=Rj)/\Rx)/\Rv=Rv/\Rs/\Rs/\Rj=Rj/\Rk=Rk/\RZ=Rr x/\Rn 34 34/\R9=R9/\Zm (Ra,Ra)=Ra/\Rl/\Zl (Ra,Ra)=Ra/\Rl/\F=F/\Ra=Ra/\Rl/\SI=SI/\Rs/\Rq x=Ri/\Rz x=[]/\Rn 3 3/\Rg=Rg/\(Rm=Rm\/QC Rm Rm)/\True)/\∀(x:SmX),SD x x/\SmX.i x<=Rj->Rx->bif decide (Rr x<Rk)then(RZ<=Rr x/\Rc (Rr x) 2)/\∃(d:D),ldE Rm (Ri+D.toNat (Rr x)) Ri Rg=E [Zj (Zd Za d)]/\SB (Re<d) d/\SB (Rc Re (-2)) (-2:D)/\SB (Rc Re 2) Rk/\Rh (Rc Re 1) Rd (Rc RZ 4) Ry/\Rh (Rc Re 1) Rd (Rc RZ 10) (10:D)/\Rh Rt RZ (Rc Re (-1)) Ro/\Rh (Re<d) d (Rc Re (-1)) Ro/\Rh (Re<d) d (Rc Re 1) Rd/\Rh Rt RZ (Rc Re 1) Rd/\((Rq x+Rg)*(224:A)<=(140737488355328:A)/\Rq x+Rg<=(9223372036854775807:A))/\∃(l:SmX),((SD l l/\SmX.i l<=Rj)/\Rx/\Rj-SmX.i l<Rj-SmX.i x)/\Rv=Rv/\Rs/\Rs/\Rj=Rj/\Rk=Rk/\IntKind.wrap Za (Rr x+Rd)=Rr l/\Rn 34 34/\R9=R9/\Ra=Ra/\Rl/\Ra=Ra/\Rl/\F=F/\Ra=Ra/\Rl/\Rs/\Rq x+Rg=Rq l/\Rn 61 61/\Rn 16 16/\(SJ x x d d d d d=Rz l\/QC (SJ x x d d d d d) (Rz l))/\Rn 3 3/\Rg=Rg/\(Rm=Rm\/QC Rm Rm)/\True else∃(g:ArmV),(g=XO [(3:D),Ry]/\Rx)/\Rv=Rv/\Rs/\Rn 34 34/\R9=Zo g/\Ra=Zu g/\Rl/\Ra=Zt g/\Rl/\F=Zp g/\Ra=Zv g/\Rl/\Rn 16 16/\Zr (Rq x) (C.drop Ri (Rz x))=Ze QA (I g)/\True)/\∀(x:ArmV),x=XO [(3:D),Ry]->Rx->Rh (Rc Re (-1)) Ro (Rc RZ 2) Rk/\SB (Rc Re 1) Rd/\∃(a:ArmV)(b:A)(P:C G),Rp x x x x x x=Rp a a a a a a/\[[Rb SE],[Rb (Rf Rd)]]=lR b P/\(QJ a/\b<=(400:A)/\H P=H (I a))/\∀(n:A)(f:FrV),n<=(120000000:A)->(XH (Xs a) (I a) P)[H (I a)]? =E f->Rh (Rc Re 5) Ru Rt RZ/\∃(a:ArmV)(o L1:QV)(J R:C (RtV×RtV))(O:C (C Sp)),Rp x x x x x x=Rp a a a a a a/\((QJ a/\I a=[o,L1])/\BT SF/\BT SG)/\((WK (QV.len o) (QV.len L1) (aK a SF SG) (aP a SF SG)=E J/\inF (QV.lo o) (QV.hi o) (QV.lo L1) (QV.hi L1) J []=E R)/\S3 R []=E O)/\(O=[]->Rw/\Rw/\∃(a:ArmV)(n:A)(w:C (C G)),Rp x x x x x x=Rp a a a a a a/\[[Zw (3:A) [[Rb SE],[Rb (Rf Rd)]]],[Zw (3:A) [[Rb Ra],[Rb Ra]]]]=wN n w/\(QJ a/\(Km w (H (I a))/\n<=(1000:A))/\((∀(v:C G),v∈w->∀(i:A)(L:QV)(c:G),(I a)[i]? =E L->v[i]? =E c->QV.lo L<=c/\c<=QV.hi L)/\∀(i:A)(p q:C G),w[i]? =E p->w[i+Rg]? =E q->∀(i:A)(L:QV)(j c:G),(I a)[i]? =E L->p[i]? =E j->q[i]? =E c->Xr (c-j)<=QV.sp L*OfNat.ofNat (100:A))/\RZ<=RZ/\RZ+(100:D)*Zi (H w)<=(2000:D))/\SA K F)/\(O≠[]->Rw/\Rw/\∃(a:ArmV)(n:A)(w:C (C G)),Rp x x x x x x=Rp a a a a a a/\[[Zw (3:A) [[Rb SE],[Rb (Rf Rd)]]],[Zw (3:A) [[Rb Ra],[Rb Ra]]]]=wN n w/\(QJ a/\(Km w (H (I a))/\n<=(1000:A))/\((∀(u:C G),u∈w->∀(i:A)(L:QV)(c:G),(I a)[i]? =E L->u[i]? =E c->QV.lo L<=c/\c<=QV.hi L)/\∀(i:A)(p q:C G),w[i]? =E p->w[i+Rg]? =E q->∀(i:A)(L:QV)(j c:G),(I a)[i]? =E L->p[i]? =E j->q[i]? =E c->Xr (c-j)<=QV.sp L*OfNat.ofNat (100:A))/\RZ<=RZ/\RZ+(100:D)*Zi (H w)<=(2000:D))/\Rh (Rc Re 5) Ru Rt RZ/\bif decide (FrV.x f=Zm (pt1 Ru RZ))&&(decide (FrV.y f=Zl (pt1 Ru RZ))&&true)then bif Zi (H (Ze Ui O)) ==Rk then bif Zi (H (Ze Qe (Xj a (n+(65:A)) RZ w))) ==Rk then(RZ<=Rd/\Rd<Zi (H (Ze Qe (Xj a (n+(65:A)) RZ w))))/\∃(d:D),ldE (Ze Qe (Xj a (n+(65:A)) RZ w)) Rg Ri Rg=E [Zj (Zd Za d)]/\SA K (d ==Ry)else SA K F else SA K F else SA K F)) ?_
 delta Rg RZ Rf Rc Rb Ra Rd Ri Re Rh Ro Rj Rk Rt Ru SB Rl Rm Rp Rq Rn SC Ry Rs Rr Rz Rv SA Rw Rx R9 SE SG SF SD SJ SI
 try simp only[D.ofNat_eq_natCast,R0,R1,A.zero_add,A.le_refl,R4,R2]
 refine⟨o3,o3,⟨⟨⟨0,[]⟩,⟨rfl,o5⟩,rfl,rfl,rfl⟩,fun x Z=> ?_⟩,fun a T=> ?_⟩
 ·obtain⟨i,Q⟩:=x;obtain⟨k,V⟩:=Z;simp only at k V|-;refine QE (fun m=> ?_) (fun m=> ?_)
  ·have m:i<2:=(j7 m)
   obtain⟨n,s⟩: ∃n,([3,4]:C D)[i]? =E n:=⟨_,C.getElem?_eq_getElem m⟩
   have hb:n=3\/n=4:=by simpa using C.mem_of_getElem? s
   have X:Q.length<=2:=by rw[k,Zs,C.length_take];omega
   refine⟨o3,n,by rw[D.toNat_natCast];exact QUX s,o3,o3,o3,o3,o3,o3,o3,o3,o3,o3,⟨i+1,Q++[YK n]⟩,⟨⟨by rw[k,C.take_add_one,s,C.map_append];rfl,o5⟩,o5⟩,by rw[w64 o3];simp,o6,.inl ?_⟩;rw[C.take_of_length_le (by rw[Zs];exact A.le_refl _),C.map_append];rfl
  ·have m:i=2:=(j8 m)
   subst m;refine⟨XO [3,4],rfl,rfl,rfl,rfl,rfl,rfl,?_⟩;rw[C.drop_zero,C.take_of_length_le (by rw[Zs];exact A.le_refl _),k];rfl
 ·subst T;obtain⟨J,R,o1,o2,Y⟩:=QSD
  have zn:Km rvW 2:=⟨o8,fun q M=>by
   have M:q=[B (-1) 2,B 1 1]\/q=[B 0 1,B 0 1]:=by simpa [rvW]using M
   rcases M with rfl | rfl<;>rfl,o8⟩
  refine⟨o3,o3,XO [3,4],63,[B (-1) 2,B 1 1],rfl,rfl,⟨ig,o3,rfl⟩,fun n f s U=>⟨o3,XO [3,4],YK 3,YK 4,J,R,[o1,o2],rfl,⟨⟨ig,rfl⟩,Qkg⟩,Y,fun h=>by simp at h,fun _=>⟨o3,o3,XO [3,4],63,rvW,rfl,rfl,⟨ig,⟨zn,o3⟩,⟨QiM,QdG⟩,o3,by simp[rvW]⟩,o3,?_⟩⟩⟩;have e:=QiL;rw[show(XH (Xs (XO [3,4])) (XO [3,4]).za [B (-1) 2,B 1 1])[2]? =E f from U]at e;simp only[Option.map_some,Option.some.injEq]at e;have z:=QdF;obtain⟨N,t,r⟩: ∃N t,Xj (XO [3,4]) 128 0 rvW=[N,t]:=by
   have W:(Xj (XO [3,4]) 128 0 rvW).length=2:=by simpa using congrArg H z
   match h:Xj (XO [3,4]) 128 0 rvW,W with
   | [x,y],_=>exact⟨x,y,rfl⟩
  rw[r]at z;simp at z;have r:Xj (XO [3,4]) (63+65) 0 rvW=[N,t]:=r;rw[r,<-e];refine QE (fun _=>QE (fun _=>QE (fun _=>⟨o6,t.tick,rfl,?_⟩) (fun h=>by cases h)) (fun h=>by cases h)) (fun h=>by simp at h);rw[z.2];exact S
def cY:Ctr
 | []=>E fun K=>(True)/\(K (.x F [.v (.bool true)]))
 | _=>none
theorem QYw:QH 4 cY:=by
 refine okL func4 fun l T a K h=> ?_
 unfold cY at a;split at a<;>cases a
 obtain⟨b,h⟩:=h;exact spL (QP QiK al Qb) QK func4 (QdH  b K h)
def Qkk:LC:=(4,cY)::iG
noncomputable def QlU:Qd:=mkT Qkk S5 X4
end Go.Proofs
