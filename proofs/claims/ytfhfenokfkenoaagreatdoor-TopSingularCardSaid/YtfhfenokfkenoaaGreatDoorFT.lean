/- Torques, power. -/
import Derived.Test.YtfhfenokfkenoaaGreatDoorFA
open Int renaming ofNat → Za
open List renaming map → Zb, take → Ze, take_of_length_le → Zg, length_map → Zh, drop → Zj
open Go.Value renaming bool → Zc
open Go.Eng.Ch renaming r → Zd, v → Zi
open Go.IntKind renaming i64 → Zf
namespace Go.Proofs
open Go Go.Eng
def QOZ (a:ArmV)(qs:List Rat)(u:Rat)(c:Nat)(v:Rat)(d:Nat):LI:=fun _=> .inv ⟨TqX,fun x=>⟨[(5,.x false [.p 5 0]),(10,.x false [.p 10 0]),(11,.x false [.w 500 0 x.i]),(34,.x false [.s 10 (x.fs.map XL)]),(35,iA .i64 a.links.length),(36,iA .i64 x.i)],
 [(5,.box 27 [.r u c,.r v d]),(10,.box 27 [.r x.f.x 120000000,.r x.f.y 120000000]),(500,Y9 (265600010+c+d) ((YB x.f u v x.fs).take x.i))]⟩,TqI a qs,fun x=>a.links.length-x.i,fun _=>0⟩
structure PwX where
 ts:List Rat
 s:Rat
 i:Nat
structure PwI (a:ArmV)(qs:List Rat)(u v:Rat)(rs:List Rat)(x:PwX):Prop where
 len:x.ts.length=a.links.length
 ts: ∃fs f,fs++[f]=Ql (XF a) a.links qs/\fs.length=a.links.length/\x.ts=YB f u v fs
 eq:Uq (x.ts.drop x.i) (rs.drop x.i) x.s=Uq x.ts rs 0
 le:x.i<=a.links.length
abbrev QJY (a:ArmV)(b:Nat)(qs:List Rat)(u:Rat)(c:Nat)(v:Rat)(d:Nat)(K:AV->Prop):Prop:=((QU a)/\(b<=400/\qs.length=a.links.length)/\(c<=300000000/\d<=300000000))/\(∀(fs:List FrV) (f:FrV),fs++[f]=Ql (XF a) a.links qs->fs.length=a.links.length->K (.t [(false,[.s 3 (lR (265600010+c+d) (YB f u v fs))]),(false,[.v (.int .i64 0)])]))
set_option maxHeartbeats 1000000 in
theorem QSp (a:ArmV)(b:Nat)(qs:List Rat)(u:Rat)(c:Nat)(v:Rat)(d:Nat)(K:AV->Prop)(hK:QJY a b qs u c v d K):QK (QP QZd (oF Tryz.f89) (QOZ a qs u c v d) Tryz.f89 [Jq a,sR b qs,.x true [.r u c,.r v d]] K):=by
 obtain⟨hc,hK⟩:=hK;refine HV ((∃(a_1:ArmV),∃(b_1:Nat),∃(qs_1:List Rat),[Zi (Value.string a.name),Zd a.x 63,Zd a.y 63,Zi (Zc a.half),Zd a.t 63,Ch.s 16 (Zb QG a.links)]=[Zi (Value.string a_1.name),Zd a_1.x 63,Zd a_1.y 63,Zi (Zc a_1.half),Zd a_1.t 63,Ch.s 16 (Zb QG a_1.links)]/\lR b qs=lR b_1 qs_1/\(QU a_1/\b_1<=400/\qs_1.length=a_1.links.length)/\∀(fs:List FrV) (f:FrV),fs++[f]=Ql (XF a_1) a_1.links qs_1->fs.length=a_1.links.length->(0<=Zf.wrap (Za (Zb XL fs++[[Zd f.x (bnd a_1.links.length),Zd f.y (bnd a_1.links.length),Zi (Zc f.h),Zd f.t (bnd a_1.links.length)]]).length-1)/\Zf.wrap (Za (Zb XL fs++[[Zd f.x (bnd a_1.links.length),Zd f.y (bnd a_1.links.length),Zi (Zc f.h),Zd f.t (bnd a_1.links.length)]]).length-1)<Za (Zb XL fs++[[Zd f.x (bnd a_1.links.length),Zd f.y (bnd a_1.links.length),Zi (Zc f.h),Zd f.t (bnd a_1.links.length)]]).length)/\∃(q:Rat),∃(n:Nat),∃(q_1:Rat),∃(n_1:Nat),ldE (Zb XL fs++[[Zd f.x (bnd a_1.links.length),Zd f.y (bnd a_1.links.length),Zi (Zc f.h),Zd f.t (bnd a_1.links.length)]]) (Zf.wrap (Za (Zb XL fs++[[Zd f.x (bnd a_1.links.length),Zd f.y (bnd a_1.links.length),Zi (Zc f.h),Zd f.t (bnd a_1.links.length)]]).length-1)).toNat 0 6=some [Zd q n,Zd q_1 n_1]/\((0:Int)<=0/\0<=Zf.wrap (Za (Zb XL fs++[[Zd f.x (bnd a_1.links.length),Zd f.y (bnd a_1.links.length),Zi (Zc f.h),Zd f.t (bnd a_1.links.length)]]).length-1)/\Zf.wrap (Za (Zb XL fs++[[Zd f.x (bnd a_1.links.length),Zd f.y (bnd a_1.links.length),Zi (Zc f.h),Zd f.t (bnd a_1.links.length)]]).length-1)<=Za (Zb XL fs++[[Zd f.x (bnd a_1.links.length),Zd f.y (bnd a_1.links.length),Zi (Zc f.h),Zd f.t (bnd a_1.links.length)]]).length)/\(∃(x:TqX),(TqI a qs x/\OfNat.ofNat 0=0)/\0=0/\0=0/\Value.slice none 0 0=Value.slice none 0 0/\0=0/\x.i=0/\10=10/\Ze ((Zf.wrap (Za (Zb XL fs++[[Zd f.x (bnd a_1.links.length),Zd f.y (bnd a_1.links.length),Zi (Zc f.h),Zd f.t (bnd a_1.links.length)]]).length-1)).toNat-0) (Zj 0 (Zb XL fs++[[Zd f.x (bnd a_1.links.length),Zd f.y (bnd a_1.links.length),Zi (Zc f.h),Zd f.t (bnd a_1.links.length)]]))=Zb XL x.fs/\Za (Ze ((Zf.wrap (Za (Zb XL fs++[[Zd f.x (bnd a_1.links.length),Zd f.y (bnd a_1.links.length),Zi (Zc f.h),Zd f.t (bnd a_1.links.length)]]).length-1)).toNat-0) (Zj 0 (Zb XL fs++[[Zd f.x (bnd a_1.links.length),Zd f.y (bnd a_1.links.length),Zi (Zc f.h),Zd f.t (bnd a_1.links.length)]]))).length=Za a.links.length/\0=Za x.i/\27=27/\u=u/\c<=c/\v=v/\d<=d/\27=27/\q=x.f.x/\n<=120000000/\q_1=x.f.y/\n_1<=120000000/\Zb (fun(q:Rat)=>[Zd q (265600010+c+d)]) (Ze x.i (YB x.f u v x.fs))=[]/\True)/\∀(x:TqX),TqI a qs x->OfNat.ofNat 0=0->bif decide (Za x.i<Za a.links.length)then(0<=Za x.i/\Za x.i<Za (Zb XL x.fs).length)/\∃(q:Rat),∃(n:Nat),∃(q_2:Rat),∃(n_2:Nat),∃(b:Bool),∃(q_3:Rat),∃(n_3:Nat),ldE (Zb XL x.fs) (Za x.i).toNat 0 10=some [Zd q n,Zd q_2 n_2,Zi (Zc b),Zd q_3 n_3]/\(120000000+n<=4294967290/\120000000+n_2<=4294967290)/\120000000+n+1+(120000000+n_2+1)+c+d<=4294967290/\((x.i+1)*40<=140737488355328/\x.i+1<=9223372036854775807)/\∃(x':TqX),(TqI a qs x'/\OfNat.ofNat 0=0/\a.links.length-x'.i<a.links.length-x.i)/\0=0/\0=0/\0=0/\x.i+1=x'.i/\10=10/\Zb XL x.fs=Zb XL x'.fs/\Za a.links.length=Za a.links.length/\Zf.wrap (Za x.i+1)=Za x'.i/\27=27/\u=u/\c<=c/\v=v/\d<=d/\27=27/\x.f.x=x'.f.x/\120000000<=120000000/\x.f.y=x'.f.y/\120000000<=120000000/\25=25/\3=3/\(Ze x.i (Zb (fun(q:Rat)=>[Zd q (265600010+c+d)]) (Ze x.i (YB x.f u v x.fs)))++[[Zd ((x.f.x-q)*v-(x.f.y-q_2)*u) (120000000+n+1+d+(120000000+n_2+1+c)+1)]]=Zb (fun(q:Rat)=>[Zd q (265600010+c+d)]) (Ze x'.i (YB x'.f u v x'.fs))∨QE (Ze x.i (Zb (fun(q:Rat)=>[Zd q (265600010+c+d)]) (Ze x.i (YB x.f u v x.fs)))++[[Zd ((x.f.x-q)*v-(x.f.y-q_2)*u) (120000000+n+1+d+(120000000+n_2+1+c)+1)]]) (Zb (fun(q:Rat)=>[Zd q (265600010+c+d)]) (Ze x'.i (YB x'.f u v x'.fs))))/\True else K (AV.t [(false,[Ch.s 3 (Ze x.i (Zj 0 (Zb (fun(q:Rat)=>[Zd q (265600010+c+d)]) (Ze x.i (YB x.f u v x.fs)))))]),(false,[Zi (Value.int Zf 0)])]))) ?_
 try simp only[Int.ofNat_eq_natCast,R0,R1,Nat.le_refl,R4]
 obtain⟨hg,⟨hb,hq⟩,hcd⟩:=hc;have hn:=hg.n;refine⟨a,b,qs,rfl,rfl,⟨hg,hb,hq⟩,fun fs f hf hl=> ?_⟩;have hbn:bnd a.links.length<=120000000:=QH6 hn.2;simp only[List.length_append,Zh,List.length_cons,List.length_nil];rw[w64 (by omega)];have e:((((fs.length+(0+1):Nat):Int)-1).toNat)=a.links.length:=by omega
 rw[e];have hg2:(fs++[f])[a.links.length]? =some f:=by rw[<-hl];simp
 obtain⟨m,hm,ld,_⟩:=QOM hbn hg2;have e2:Ze (a.links.length-0) (Zj 0 (fs.map XL++[frN (bnd a.links.length) f]))=fs.map XL:=by
  rw[Nat.sub_zero,List.drop_zero,List.take_left' (by simp[hl])]
 have e3:List.length (Ze (a.links.length-0) (Zj 0 (fs.map XL++[frN (bnd a.links.length) f])))=a.links.length:=by
  rw[e2,Zh,hl]
 refine⟨by omega,_,m,_,m,ld,by omega,⟨⟨fs,f,0⟩,⟨hf,hl,by simp⟩,rfl,e2,congrArg Za e3,rfl,rfl,hm,rfl,hm,rfl⟩,fun x hx=>QC (fun hp=> ?_) (fun hp=> ?_)⟩
 ·have hp:x.i<a.links.length:=by have:=R5 hp;omega
  have hxl:=hx.len;obtain⟨g,hgx⟩: ∃g,x.fs[x.i]? =some g:=⟨_,List.getElem?_eq_getElem (by omega)⟩
  have ht:(YB x.f u v x.fs)[x.i]? =some ((x.f.x-g.x)*v-(x.f.y-g.y)*u):=by simp[YB,hgx]
  refine⟨by omega,_,_,_,_,_,_,_,QU4 (by simpa using hgx),by omega,by omega,by omega,⟨x.fs,x.f,x.i+1⟩,⟨⟨hx.eq,hxl,hp⟩,by simp only;omega⟩,rfl,rfl,by rw[w64 (by omega)];simp,rfl,rfl,.inr ?_⟩;rw[Zg (by rw[Zh,List.length_take];omega),List.take_add_one,ht];exact QDy _ _ (by omega)
 ·have hp:x.i=a.links.length:=by have:=R6 hp;have:=hx.le;omega
  have hxl:=hx.len;have:=hK x.fs x.f hx.eq hx.len;rw[List.drop_zero,Zg (by rw[Zh,List.length_take];omega),Zg (by simp[YB];omega)];exact this
def QD2:Ctr
 | [.x true xs,.x false [.s 3 ys],.x true [.r u c,.r v d]]=>some fun K=> ∃(a:ArmV) (b:Nat) (qs:List Rat),xs=Xd a/\ys=lR b qs/\QJY a b qs u c v d K
 | _=>none
theorem QOa:QI 89 QD2:=by
 refine okL Tryz.func89 fun l T hT K hK=> ?_
 unfold QD2 at hT;split at hT<;>cases hT
 obtain⟨a,b,qs,rfl,rfl,hK⟩:=hK;exact spL QWq QM Tryz.func89 (QSp _ _ _ _ _ _ _ K hK)
def QSq:LC:=(89,QD2)::QSo
theorem QWr:QF QSq:= .cons QOa QIB
def QWs:Ctr
 | [.x true xs,.x false [.s 3 ys],.x false [.s 3 zs],.x true [.r u c,.r v d]]=>some fun K=> ∃(a:ArmV) (b:Nat) (qs:List Rat) (r:Nat) (rs:List Rat),xs=Xd a/\ys=lR b qs/\zs=lR r rs/\((QU a)/\(b<=400/\qs.length=a.links.length)/\(r<=10000/\rs.length=a.links.length)/\(c<=1000/\d<=1000))/\(∀(fs:List FrV) (f:FrV),fs++[f]=Ql (XF a) a.links qs->fs.length=a.links.length-> ∀n,n<=800000000->K (.t [(true,[.r (Uq (YB f u v fs) rs 0) n]),(false,[.v (.int .i64 0)])]))
 | _=>none
def Qau:LC:=(30,QWs)::QSq
def Qav:LC:=Qau
noncomputable def QbN:Qb:=mkT Qav M79 X4
end Go.Proofs
