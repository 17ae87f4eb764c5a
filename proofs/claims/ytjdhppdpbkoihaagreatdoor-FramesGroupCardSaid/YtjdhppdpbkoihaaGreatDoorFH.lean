/- FramesGroup, plainly: frames one after the other, and back. -/
import Derived.Test.YtjdhppdpbkoihaaGreatDoorFG
import Derived.Test.YtjdhppdpbkoihaaGreatDoorIU
import Derived.Test.YtjdhppdpbkoihaaGreatDoorCA
open List renaming length → Za, map → Zd, take → Ze, drop → Zm, getElem?_eq_getElem → Zq, take_of_length_le → Zx, mem_of_getElem? → Zy, drop_zero → Ya, foldl_append → Yb, length_map → Yd
open Int renaming ofNat → Zb, toNat_natCast → Zn, toNat → Zs, ofNat_eq_natCast → Zt
open Go.IntKind renaming i64 → Zc, wrap → Zj, u8 → Zw
open Array renaming mk → Zf
open ByteArray renaming mk → Zg
open Prod renaming snd → Zh, fst → Zi
open Go.Value renaming bool → Zk, int → Zl, func → Zr, string → Zv, slice → Zz
open Nat renaming le_refl → Zo, zero_add → Yc
open Go.Eng.Ch renaming v → Zp, r → Zu
namespace Go.Proofs
open Go Go.Eng
def Xt:FrV:=⟨0,0,false,0⟩
def QT (l:List FrV):FrV:=l.foldl Qw Xt
def Qj (l:List FrV):FrV:=l.foldl (fun b x=>Qw (Qu x) b) Xt
def Wi (f:FrV)(p:Rat×Rat):Rat×Rat:=(YE f p.1 p.2,YF f p.1 p.2)
def Qq (l:List FrV)(p:Rat×Rat):Rat×Rat:=l.foldr Wi p
theorem csn (h:Bool)(t:Rat):Q7 h (-t)=Q7 h t/\XA h (-t)= -XA h t:=by
 unfold Q7 XA;have e:(1:Rat)+ -t* -t=1+t*t:=by grind
 have e2:(1:Rat)- -t* -t=1-t*t:=by grind
 cases h with
 | true=>exact⟨rfl,show(0:Rat)= -0 by decide⟩
 | false=>
  simp only[R8];rw[e,e2];refine⟨rfl,?_⟩;rw[Rat.div_def,Rat.div_def];grind
theorem Vs:Q7 false 0=1/\XA false 0=0:=by decide+kernel
theorem QIX {f:FrV}(h:WB f):WB (Qu f):=fun e=>by
 have:f.t=0:=h e;show-f.t=0
 rw[this];rfl
theorem QO2:WB Xt:=fun e=>by cases e
theorem QIY {f:FrV}(h:WB f):Qw f Xt=f:=by
 refine FrV.ext' ?_ ?_ ?_
 ·show YE f 0 0=f.x
  unfold YE;grind
 ·show YF f 0 0=f.y
  unfold YF;grind
 ·refine Vm (Jg f Xt) h ?_ ?_
  ·show Q7 (thH f.h f.t false 0) (thT f.h f.t false 0)=_
   rw[(YO _ _ _ _).1,Vs.1,Vs.2];grind
  ·show XA (thH f.h f.t false 0) (thT f.h f.t false 0)=_
   rw[(YO _ _ _ _).2,Vs.1,Vs.2];grind
theorem QIZ {f:FrV}(h:WB f):Qw Xt f=f:=by
 refine FrV.ext' ?_ ?_ ?_
 ·show YE Xt f.x f.y=f.x
  unfold YE Xt;simp only[Vs.1,Vs.2];grind
 ·show YF Xt f.x f.y=f.y
  unfold YF Xt;simp only[Vs.1,Vs.2];grind
 ·refine Vm (Jg Xt f) h ?_ ?_
  ·show Q7 (thH false 0 f.h f.t) (thT false 0 f.h f.t)=_
   rw[(YO _ _ _ _).1,Vs.1,Vs.2];grind
  ·show XA (thH false 0 f.h f.t) (thT false 0 f.h f.t)=_
   rw[(YO _ _ _ _).2,Vs.1,Vs.2];grind
theorem QIa {a b:FrV}(_ha:WB a)(_hb:WB b):Qu (Qw a b)=Qw (Qu b) (Qu a):=by
  have e1:=csn a.h a.t;have e2:=csn b.h b.t;have e3:=csn (thH a.h a.t b.h b.t) (thT a.h a.t b.h b.t);have q:=cs1 a.h a.t;have e4:=YO a.h a.t b.h b.t;refine FrV.ext' ?_ ?_ ?_
  · show(0-YE a b.x b.y)*Q7 (thH a.h a.t b.h b.t) (-thT a.h a.t b.h b.t)-(0-YF a b.x b.y)*XA (thH a.h a.t b.h b.t) (-thT a.h a.t b.h b.t)=YE (Qu b) (Qu a).x (Qu a).y
    unfold YE YF Qu;simp only[e1.1,e1.2,e2.1,e2.2,e3.1,e3.2,e4.1,e4.2];generalize Q7 a.h a.t=c at*;generalize XA a.h a.t=s at*;generalize Q7 b.h b.t=d at*;generalize XA b.h b.t=r at*;grind
  · show(0-YE a b.x b.y)*XA (thH a.h a.t b.h b.t) (-thT a.h a.t b.h b.t)+(0-YF a b.x b.y)*Q7 (thH a.h a.t b.h b.t) (-thT a.h a.t b.h b.t)=YF (Qu b) (Qu a).x (Qu a).y
    unfold YE YF Qu;simp only[e1.1,e1.2,e2.1,e2.2,e3.1,e3.2,e4.1,e4.2];generalize Q7 a.h a.t=c at*;generalize XA a.h a.t=s at*;generalize Q7 b.h b.t=d at*;generalize XA b.h b.t=r at*;grind
  · refine Vm (QIX (Jg a b)) (Jg (Qu b) (Qu a)) ?_ ?_
    · show Q7 (thH a.h a.t b.h b.t) (-thT a.h a.t b.h b.t)=Q7 (thH b.h (-b.t) a.h (-a.t)) (thT b.h (-b.t) a.h (-a.t))
      rw[e3.1,e4.1,(YO _ _ _ _).1,e1.1,e1.2,e2.1,e2.2];grind
    · show XA (thH a.h a.t b.h b.t) (-thT a.h a.t b.h b.t)=XA (thH b.h (-b.t) a.h (-a.t)) (thT b.h (-b.t) a.h (-a.t))
      rw[e3.2,e4.2,(YO _ _ _ _).2,e1.1,e1.2,e2.1,e2.2];grind
theorem QLt (f:FrV)(p:Rat×Rat):Wi (Qu f) (Wi f p)=p:=by
 have e1:=csn f.h f.t;have q:=cs1 f.h f.t;unfold Wi;refine Prod.ext ?_ ?_
 ·show YE (Qu f) (YE f p.1 p.2) (YF f p.1 p.2)=p.1
  unfold YE YF Qu;simp only[e1.1,e1.2];generalize Q7 f.h f.t=c at*;generalize XA f.h f.t=s at*;have:p.1*(c*c+s*s)=p.1:=by rw[q];grind
  grind
 ·show YF (Qu f) (YE f p.1 p.2) (YF f p.1 p.2)=p.2
  unfold YE YF Qu;simp only[e1.1,e1.2];generalize Q7 f.h f.t=c at*;generalize XA f.h f.t=s at*;have:p.2*(c*c+s*s)=p.2:=by rw[q];grind
  grind
theorem QAk (f g:FrV)(p:Rat×Rat):Wi (Qw f g) p=Wi f (Wi g p):=by
 unfold Wi;rw[(Vj f g p.1 p.2).1,(Vj f g p.1 p.2).2]
theorem QAl (p:Rat×Rat):Wi Xt p=p:=by
 unfold Wi YE YF Xt;simp only[Vs.1,Vs.2];refine Prod.ext ?_ ?_
 ·show 0+(p.1*1-p.2*0)=p.1;grind
 ·show 0+(p.1*0+p.2*1)=p.2;grind
theorem Gd {l:List FrV}(hl: ∀f∈l,WB f): ∀{a:FrV},WB a->l.foldl Qw a=Qw a (QT l)/\WB (l.foldl Qw a):=by
 induction l with
 | nil=>intro a ha;exact⟨(QIY ha).symm,ha⟩
 | cons x l ih=>
  intro a ha;have hx:=hl x (by simp);have hl': ∀f∈l,WB f:=fun f h=>hl f (by simp[h]);obtain⟨h1,h2⟩:=ih hl' (Jg a x);obtain⟨h3,_⟩:=ih hl' (Jg Xt x);refine⟨?_,h2⟩;show l.foldl Qw (Qw a x)=Qw a (l.foldl Qw (Qw Xt x))
  rw[h1,h3,QIZ hx,QB0]
theorem Ge {l:List FrV}(hl: ∀f∈l,WB f):WB (QT l):=(Gd hl QO2).2
theorem QDm {l:List FrV}(hl: ∀f∈l,WB f)(c:Nat):QT l=Qw (QT (l.take c)) (QT (l.drop c)):=by
 conv=>lhs;rw[<-List.take_append_drop c l]
 unfold QT;rw[Yb];exact(Gd (fun f h=>hl f (List.mem_of_mem_drop h)) (Ge fun f h=>hl f (List.mem_of_mem_take h))).1
theorem UU (l:List FrV)(x:FrV):QT (l++[x])=Qw (QT l) x/\Qj (l++[x])=Qw (Qu x) (Qj l):=by
 unfold QT Qj;rw[Yb,Yb];exact⟨rfl,rfl⟩
theorem QIb: ∀(l:List FrV) (a:FrV) (p:Rat×Rat),Wi (l.foldl Qw a) p=Wi a (Qq l p):=by
 intro l;induction l with
 | nil=>intro a p;rfl
 | cons x l ih=>intro a p;rw[List.foldl_cons,ih,QAk];rfl
theorem QO3 {α:Type}{P:List α->Prop}(h0:P [])(h1: ∀l x,P l->P (l++[x]))(l:List α):P l:=by
 rw[<-List.reverse_reverse l];induction l.reverse with
 | nil=>exact h0
 | cons x t ih=>rw[List.reverse_cons];exact h1 _ _ ih
theorem QAm: ∀{l:List FrV},(∀f∈l,WB f)-> ∀(p:Rat×Rat),Wi (Qj l) (Qq l p)=p/\Qj l=Qu (QT l):=by
 intro l;refine QO3 (P:=fun l=>(∀f∈l,WB f)-> ∀(p:Rat×Rat),Wi (Qj l) (Qq l p)=p/\Qj l=Qu (QT l)) ?_ ?_ l
 ·intro _ p;refine⟨QAl p,?_⟩;show Xt=Qu Xt
  exact FrV.ext' (by decide+kernel) (by decide+kernel) ⟨rfl,by decide+kernel⟩
 ·intro l x ih hl p;have hx:=hl x (by simp);have hl': ∀f∈l,WB f:=fun f h=>hl f (by simp[h]);obtain⟨e1,e2⟩:=UU l x;rw[e1,e2];have k:=ih hl';constructor
  ·rw[QAk];have:Qq (l++[x]) p=Qq l (Wi x p):=by unfold Qq;rw[List.foldr_append];rfl
   rw[this,(k (Wi x p)).1];exact QLt x p
  ·rw[(k p).2,QIa (Ge hl') hx]
theorem QCE {l:List FrV}(hl: ∀f∈l,WB f)(c:Nat)(p:Rat×Rat):QT l=Qw (QT (l.take c)) (QT (l.drop c))/\Wi (QT l) p=Qq l p/\Wi (Qj l) (Qq l p)=p/\Qj l=Qu (QT l):=
  ⟨QDm hl c,by unfold QT;rw[QIb,QAl],(QAm hl p).1,(QAm hl p).2⟩
end Go.Proofs
namespace Go.Proofs
open Go Go.Eng
def QLu:LC:=(103,Vl)::(51,KR)::L79
noncomputable def QLv:QY:=mkT QLu M79 X4
theorem QGt:QC QLu:= .cons QIK (.cons US QKV)
theorem QGu:XM QLv:=QW QGt XC Q0
def QAn (K:AV->Prop):Prop:=QU QLv (oF Tryz.f95) noL Tryz.f95 [iA .i64 52] K
theorem QCF (K:AV->Prop):QAn K=((8:Int)≠0/\((0:Int)<=7/\(7:Int)<=7/\(7:Int)<=281474976710656/\(7:Int)<=9223372036854775807)/\(8:Int)≠0/\(0:Int)<=4/\((0:Int)<=0/\(0:Int)<7)/\0<7/\∃(bs:List UInt8),[[Zp (Zl Zw 16)],[Zp (Zl Zw 0)],[Zp (Zl Zw 0)],[Zp (Zl Zw 0)],[Zp (Zl Zw 0)],[Zp (Zl Zw 0)],[Zp (Zl Zw 0)]]=Zd QP bs/\(1:Int)<9223372036854775808/\K (AV.x true [Zp (Zk false),Zp (Zv (Zg (Zf bs))),Ch.b 1 63])):=by kernel_rfl
def QAo (K:AV->Prop):Prop:=QU QLv (oF Tryz.f95) noL Tryz.f95 [iA .i64 53] K
theorem QCG (K:AV->Prop):QAo K=((8:Int)≠0/\((0:Int)<=7/\(7:Int)<=7/\(7:Int)<=281474976710656/\(7:Int)<=9223372036854775807)/\(8:Int)≠0/\(0:Int)<=5/\((0:Int)<=0/\(0:Int)<7)/\0<7/\∃(bs:List UInt8),[[Zp (Zl Zw 32)],[Zp (Zl Zw 0)],[Zp (Zl Zw 0)],[Zp (Zl Zw 0)],[Zp (Zl Zw 0)],[Zp (Zl Zw 0)],[Zp (Zl Zw 0)]]=Zd QP bs/\(1:Int)<9223372036854775808/\K (AV.x true [Zp (Zk false),Zp (Zv (Zg (Zf bs))),Ch.b 1 63])):=by kernel_rfl
theorem QDn {s:Bool}{x y:Ch}{q:Rat}{n:Nat}(hs:s=decide (q.num<0))(hx:NatIs q.num.natAbs n (.x false [x]))(hy:NatIs q.den n (.x false [y])):RatR q n (.x true [.v (.bool s),x,y]):= .inl ⟨s,x,y,rfl,hs,hx,hy⟩
theorem QSX:QN (QAn (RatR ((4503599627370496:Int):Rat) 64)):=by
 refine⟨?_⟩;rw[QCF];refine⟨by decide,by decide,by decide,by decide,by decide,by decide,[16,0,0,0,0,0,0],rfl,by decide,QDn (by decide+kernel) ⟨by decide+kernel,.inr ⟨_,rfl,by decide+kernel⟩⟩ ⟨by decide+kernel,.inl ⟨63,rfl⟩⟩⟩
theorem QSY:QN (QAo (RatR ((9007199254740992:Int):Rat) 64)):=by
 refine⟨?_⟩;rw[QCG];refine⟨by decide,by decide,by decide,by decide,by decide,by decide,[32,0,0,0,0,0,0],rfl,by decide,QDn (by decide+kernel) ⟨by decide+kernel,.inr ⟨_,rfl,by decide+kernel⟩⟩ ⟨by decide+kernel,.inl ⟨63,rfl⟩⟩⟩
def PwF (n:Int)(q:Rat):Prop:=(n=52/\q=((4503599627370496:Int):Rat))∨(n=53/\q=((9007199254740992:Int):Rat))
def ExF (n:Int)(q:Rat):Prop:=(n=4607182418800017408/\q=1)∨(n=4607182418800017409/\q=4503599627370497/4503599627370496)∨(n=4607182418800017407/\q=9007199254740991/9007199254740992)
def QFv:Ctr
 | [.x false [.v (.int .i64 n)]]=>some fun K=> ∃q:Rat,PwF n q/\K (rA q 64)
 | _=>none
theorem QO4:QH 95 QFv:=by
 refine⟨Qg Tryz.func95 (by kernel_rfl),fun l T hT K hK=> ?_⟩;unfold QFv at hT;split at hT
 ·cases hT
  obtain⟨q,⟨rfl,rfl⟩ | ⟨rfl,rfl⟩,hK⟩:=hK
  ·exact Xh (Qb QGu QO Tryz.func95 (by kernel_rfl) (by kernel_rfl) (by rfl) QSX) hK
  ·exact Xh (Qb QGu QO Tryz.func95 (by kernel_rfl) (by kernel_rfl) (by rfl) QSY) hK
 ·cases hT
def QLw:LC:=(95,QFv)::QLu
noncomputable def QGv:QY:=mkT QLw M79 X4
theorem QGw:QC QLw:= .cons QO4 QGt
theorem QCH:XM QGv:=QW QGw XC Q0
theorem QUt (K:AV->Prop)(hK:K (rA 1 128)):QN (QU QGv (oF Tryz.f52) noL Tryz.f52 [iA .u64 4607182418800017408] K):=by
 refine HV (((0:Int)<=52/\((-9223372036854775808:Int)<=4503599627370496/\(4503599627370496:Int)<9223372036854775808)/\∃(q:Rat),((52:Int)=52/\q=↑(4503599627370496:Int)∨(52:Int)=53/\q=↑(9007199254740992:Int))/\128<=4294967296/\(q≠OfNat.ofNat 0->K (AV.x true [Zu (↑(4503599627370496:Int)/q) 128]))/\(q=OfNat.ofNat 0->K (AV.x true [Zp (Zk false),Zp (Zv (Zg (Zf []))),Zp (Zv (Zg (Zf [])))])))) ?_
 exact⟨by decide,by decide,_,.inl ⟨rfl,rfl⟩,by decide,fun _=>Eq.mp (congrArg (fun q=>K (rA q 128)) (by decide+kernel)) hK,fun h=>absurd h (by decide+kernel)⟩
theorem QUu (K:AV->Prop)(hK:K (rA (4503599627370497/4503599627370496) 128)):QN (QU QGv (oF Tryz.f52) noL Tryz.f52 [iA .u64 4607182418800017409] K):=by
 refine HV (((0:Int)<=52/\((-9223372036854775808:Int)<=4503599627370497/\(4503599627370497:Int)<9223372036854775808)/\∃(q:Rat),((52:Int)=52/\q=↑(4503599627370496:Int)∨(52:Int)=53/\q=↑(9007199254740992:Int))/\128<=4294967296/\(q≠OfNat.ofNat 0->K (AV.x true [Zu (↑(4503599627370497:Int)/q) 128]))/\(q=OfNat.ofNat 0->K (AV.x true [Zp (Zk false),Zp (Zv (Zg (Zf []))),Zp (Zv (Zg (Zf [])))])))) ?_
 exact⟨by decide,by decide,_,.inl ⟨rfl,rfl⟩,by decide,fun _=>hK,fun h=>absurd h (by decide+kernel)⟩
theorem QUv (K:AV->Prop)(hK:K (rA (9007199254740991/9007199254740992) 128)):QN (QU QGv (oF Tryz.f52) noL Tryz.f52 [iA .u64 4607182418800017407] K):=by
 refine HV (((0:Int)<=52/\((-9223372036854775808:Int)<=9007199254740991/\(9007199254740991:Int)<9223372036854775808)/\∃(q:Rat),((53:Int)=52/\q=↑(4503599627370496:Int)∨(53:Int)=53/\q=↑(9007199254740992:Int))/\128<=4294967296/\(q≠OfNat.ofNat 0->K (AV.x true [Zu (↑(9007199254740991:Int)/q) 128]))/\(q=OfNat.ofNat 0->K (AV.x true [Zp (Zk false),Zp (Zv (Zg (Zf []))),Zp (Zv (Zg (Zf [])))])))) ?_
 exact⟨by decide,by decide,_,.inr ⟨rfl,rfl⟩,by decide,fun _=>hK,fun h=>absurd h (by decide+kernel)⟩
def QLx:Ctr
 | [.x false [.v (.int .u64 n)]]=>some fun K=> ∃q:Rat,ExF n q/\K (rA q 128)
 | _=>none
theorem QSZ:QH 52 QLx:=by
 refine⟨Qg Tryz.func52 (by kernel_rfl),fun l T hT K hK=> ?_⟩;unfold QLx at hT;split at hT
 ·cases hT
  obtain⟨q,⟨rfl,rfl⟩ | ⟨rfl,rfl⟩ | ⟨rfl,rfl⟩,hK⟩:=hK
  ·exact Qb QCH QO Tryz.func52 (by kernel_rfl) (by kernel_rfl) (by rfl) (QUt K hK)
  ·exact Qb QCH QO Tryz.func52 (by kernel_rfl) (by kernel_rfl) (by rfl) (QUu K hK)
  ·exact Qb QCH QO Tryz.func52 (by kernel_rfl) (by kernel_rfl) (by rfl) (QUv K hK)
 ·cases hT
def QLy:LC:=(52,QLx)::QLw
theorem QGx:QC QLy:= .cons QSZ QGw
theorem QLz (l:Rat)(a:Nat)(h:Rat)(b:Nat)(hc:(l<=h)/\(a+b<=1000000000))(K:AV->Prop)(hK:K (.t [(true,[.r l a,.r h b]),(false,[.v (.int .i64 0)])])):QN (QU (mkT QLy M79 X4) (oF Tryz.f56) noL Tryz.f56 [rA l a,rA h b] K):=by
 refine HV ((a+b<=4294967296/\bif decide (JD l h>0)then K (AV.t [(true,[Zp (Zk false),Zp (Zv (Zg (Zf []))),Zp (Zv (Zg (Zf []))),Zp (Zk false),Zp (Zv (Zg (Zf []))),Zp (Zv (Zg (Zf [])))]),(false,[Zp (Zl Zc 9)])])else a+a<=4294967296/\b+b<=4294967296/\K (AV.t [(true,[Zu (Y4 l l) (max a a),Zu (Y4 h h) (max b b)]),(false,[Zp (Zl Zc 0)])]))) ?_
 try simp only[Zt,R0,R1,Yc,Zo,R4,R2,R3]
 refine⟨by omega,QG (fun h1=> ?_) (fun _=> ?_)⟩
 ·have:=R5 h1;have:=(KO l h).2 hc.1;omega
 ·rw[YN,YN,Nat.max_self,Nat.max_self];exact⟨by omega,by omega,hK⟩
def Gf:Ctr
 | [.x true [.r l a],.x true [.r h b]]=>some fun K=>((l<=h)/\(a+b<=1000000000))/\(K (.t [(true,[.r l a,.r h b]),(false,[.v (.int .i64 0)])]))
 | _=>none
theorem QIc:QH 56 Gf:=by
 refine okL Tryz.func56 fun l T hT K hK=> ?_
 unfold Gf at hT;split at hT<;>cases hT
 obtain⟨hc,hK⟩:=hK;exact spL (QW QGx XC Q0) QO Tryz.func56 (QLz _ _ _ _ hc K hK)
def QL0:LC:=(56,Gf)::QLy
theorem QGy:QC QL0:= .cons QIc QGx
theorem QUw (n:Int)(_hc:True)(K:AV->Prop)(hK:K (.x false [.v (.bool (decide (-64<=n)&&decide (n<64)))])):QN (QU (mkT QL0 M79 X4) (oF Tryz.f104) noL Tryz.f104 [iA .i64 n] K):=by
 refine HV ((bif decide (n≥ -64)then K (AV.x false [Zp (Zk (decide (n<64)))])else K (AV.x false [Zp (Zk false)]))) ?_
 try simp only[Zt,R0,R1,Yc,Zo,R4,R2,R3]
 refine QG (fun h=> ?_) (fun h=> ?_)
 ·have h:=R5 h;rw[decide_eq_true (show-64<=n by omega),Bool.true_and]at hK;exact hK
 ·have h:=R6 h;rw[decide_eq_false (show ¬ -64<=n by omega),Bool.false_and]at hK;exact hK
def QL1:Ctr
 | [.x false [.v (.int .i64 n)]]=>some fun K=>(True)/\(K (.x false [.v (.bool (decide (-64<=n)&&decide (n<64)))]))
 | _=>none
theorem QSa:QH 104 QL1:=by
 refine okL Tryz.func104 fun l T hT K hK=> ?_
 unfold QL1 at hT;split at hT<;>cases hT
 obtain⟨hc,hK⟩:=hK;exact spL (QW QGy XC Q0) QO Tryz.func104 (QUw _ hc K hK)
def QL2:LC:=(104,QL1)::QL0
theorem QGz:QC QL2:= .cons QSa QGy
abbrev QDo (l:Rat)(a:Nat)(h:Rat)(b:Nat)(K:AV->Prop):Prop:=((l=0/\h=2)/\(a+b<=1000000000))/\(K (.t [(false,[.v (.int .i64 (-1))]),(false,[.v (.int .i64 2)]),(false,[.v (.bool true)])]))
theorem QL3 (l:Rat)(a:Nat)(h:Rat)(b:Nat)(K:AV->Prop)(hK:QDo l a h b K):QN (QU (mkT QL2 M79 X4) (oF Tryz.f61) noL Tryz.f61 [rA l a,rA h b] K):=by
 obtain⟨hc,hK⟩:=hK;refine HV (((b<=2000000000/\ -9223372036854775808<h.floor/\h.floor<9223372036854775808)/\a<=4294967296/\(a<=2000000000/\ -9223372036854775808<(-l).floor/\(-l).floor<9223372036854775808)/\True/\bif decide (-64<=Zc.wrap (Zc.wrap (0-(-l).floor)-1))&&decide (Zc.wrap (Zc.wrap (0-(-l).floor)-1)<64)then True/\K (AV.t [(false,[Zp (Zl Zc (Zc.wrap (Zc.wrap (0-(-l).floor)-1)))]),(false,[Zp (Zl Zc h.floor)]),(false,[Zp (Zk (decide (-64<=h.floor)&&decide (h.floor<64)))])])else K (AV.t [(false,[Zp (Zl Zc (Zc.wrap (Zc.wrap (0-(-l).floor)-1)))]),(false,[Zp (Zl Zc h.floor)]),(false,[Zp (Zk false)])]))) ?_
 try simp only[R0]
 obtain⟨⟨rfl,rfl⟩,hb⟩:=hc;rw[show(2:Rat).floor=2 by decide+kernel,show(-(0:Rat)).floor=0 by decide+kernel];exact⟨⟨by omega,by omega,by omega⟩,by omega,⟨by omega,by omega,by omega⟩,hK⟩
def Gg:Ctr
 | [.x true [.r l a],.x true [.r h b]]=>some fun K=>QDo l a h b K
 | _=>none
theorem QId:QH 61 Gg:=by
 refine okL Tryz.func61 fun l T hT K hK=> ?_
 unfold Gg at hT;split at hT<;>cases hT
 exact spL (QW QGz XC Q0) QO Tryz.func61 (QL3 _ _ _ _ K hK)
def QP3:LC:=(61,Gg)::QL2
noncomputable def QL4:QY:=mkT QP3 M79 X4
theorem QO5:QC QP3:= .cons QId QGz
theorem QG0:XM QL4:=QW QO5 XC Q0
theorem QSb (K:AV->Prop)(hK:K (.t [(true,[.r (((18014398509481983:Int):Rat)/((18014398509481984:Int):Rat)) 385,.r (((9007199254740993:Int):Rat)/((9007199254740992:Int):Rat)) 385]),(false,[.v (.int .i64 0)])])):QN (QU QL4 (oF Tryz.f26) noL Tryz.f26 [iA .u64 4607182418800017408] K):=by
 refine HV (((0:Int)<=63/\(((-9223372036854775808:Int)<=1/\(1:Int)<9223372036854775808)/\(0:Int)<2/\(2:Int)<9223372036854775808)/\∃(q:Rat),((4607182418800017408:Int)=4607182418800017408/\q=OfNat.ofNat 1∨(4607182418800017408:Int)=4607182418800017409/\q=OfNat.ofNat 4503599627370497/OfNat.ofNat 4503599627370496∨(4607182418800017408:Int)=4607182418800017407/\q=OfNat.ofNat 9007199254740991/OfNat.ofNat 9007199254740992)/\∃(q_1:Rat),((4607182418800017409:Int)=4607182418800017408/\q_1=OfNat.ofNat 1∨(4607182418800017409:Int)=4607182418800017409/\q_1=OfNat.ofNat 4503599627370497/OfNat.ofNat 4503599627370496∨(4607182418800017409:Int)=4607182418800017407/\q_1=OfNat.ofNat 9007199254740991/OfNat.ofNat 9007199254740992)/\257<=4294967296/\385<=4294967296/\385<=4294967296/\∃(q_2:Rat),((4607182418800017407:Int)=4607182418800017408/\q_2=OfNat.ofNat 1∨(4607182418800017407:Int)=4607182418800017409/\q_2=OfNat.ofNat 4503599627370497/OfNat.ofNat 4503599627370496∨(4607182418800017407:Int)=4607182418800017407/\q_2=OfNat.ofNat 9007199254740991/OfNat.ofNat 9007199254740992)/\257<=4294967296/\385<=4294967296/\((↑(1:Int):Rat)/(↑(2:Int):Rat)*(q+q_2)<=(↑(1:Int):Rat)/(↑(2:Int):Rat)*(q+q_1)/\770<=1000000000)/\K (AV.t [(true,[Zu ((↑(1:Int):Rat)/(↑(2:Int):Rat)*(q+q_2)) 385,Zu ((↑(1:Int):Rat)/(↑(2:Int):Rat)*(q+q_1)) 385]),(false,[Zp (Zl Zc 0)])]))) ?_
 have e1:((1:Int):Rat)/((2:Int):Rat)*(1+9007199254740991/9007199254740992)=((18014398509481983:Int):Rat)/((18014398509481984:Int):Rat):=by decide+kernel
 have e2:((1:Int):Rat)/((2:Int):Rat)*(1+4503599627370497/4503599627370496)=((9007199254740993:Int):Rat)/((9007199254740992:Int):Rat):=by decide+kernel
 refine⟨by decide,by decide,_,.inl ⟨rfl,rfl⟩,_,.inr (.inl ⟨rfl,rfl⟩),by decide,by decide,by decide,_,.inr (.inr ⟨rfl,rfl⟩),by decide,by decide,⟨?_,by decide⟩,?_⟩
 ·rw[e1,e2];decide+kernel
 ·rw[e1,e2];exact hK
def QCI:Ctr
 | [.x false [.v (.int .u64 n)]]=>some fun K=>n=4607182418800017408/\K (.t [(true,[.r (((18014398509481983:Int):Rat)/((18014398509481984:Int):Rat)) 385,.r (((9007199254740993:Int):Rat)/((9007199254740992:Int):Rat)) 385]),(false,[.v (.int .i64 0)])])
 | _=>none
theorem QL5:QH 26 QCI:=by
 refine okL Tryz.func26 fun l T hT K hK=> ?_
 unfold QCI at hT;split at hT<;>cases hT
 obtain⟨rfl,hK⟩:=hK;exact spL QG0 QO Tryz.func26 (QSb K hK)
end Go.Proofs
namespace Go.Proofs
open Go Go.Eng
structure GrX where
 j:Nat
 i:Nat
 cs:List (Int×Int)
def cel (c:Int×Int):List Ch:=[.v (.int .i64 c.1),.v (.int .i64 c.2)]
def QP4 (l:List (Int×Int)):Blk:= .row 122 2 (l.map cel)
def QL6:LI:=fun id=>bif id.beq 11 then .inv ⟨GrX,fun x=>⟨[(4,iA .i64 (-1)),(5,iA .i64 2),(8,iA .i64 2),(10,.x false [.w 500 0 x.cs.length]),(11,iA .i64 ((x.j:Int)-1))],[(500,QP4 x.cs)]⟩,fun x=>x.j<=4/\x.cs.length=4*x.j,fun x=>4-x.j,fun _=>0⟩
 else .inv ⟨GrX,fun x=>⟨[(4,iA .i64 (-1)),(5,iA .i64 2),(8,iA .i64 2),(10,.x false [.w 500 0 x.cs.length]),(11,iA .i64 ((x.j:Int)-1)),(12,iA .i64 ((x.i:Int)-1))],[(500,QP4 x.cs)]⟩,fun x=>(x.j<4/\x.i<=4)/\x.cs.length=4*x.j+x.i,fun x=>4-x.i,fun x=>4-x.j⟩
abbrev QP5 (x1:Rat)(n:Nat)(y1:Rat)(a:Nat)(x2:Rat)(b:Nat)(y2:Rat)(c:Nat)(K:AV->Prop):Prop:=(((x1=0/\y1=0)/\x2=2/\y2=2)/\(n+a+b+c<=1000000))/\(∀cs:List (Int×Int),cs.length=16->K (.t [(false,[.s 2 (cs.map cel)]),(false,[.v (.int .i64 0)])]))
set_option maxHeartbeats 1000000 in
theorem QUx (x1:Rat)(n:Nat)(y1:Rat)(a:Nat)(x2:Rat)(b:Nat)(y2:Rat)(c:Nat)(K:AV->Prop)(hK:QP5 x1 n y1 a x2 b y2 c K):QN (QU QL4 (oF Tryz.f28) (QL6) Tryz.f28 [.x true [.r x1 n,.r y1 a,.r x2 b,.r y2 c]] K):=by
 obtain⟨hc,hK⟩:=hK;refine HV ((n+b<=4294967296/\bif decide (JD x1 x2>0)then K (AV.t [(false,[Zp (Zz none 0 0)]),(false,[Zp (Zl Zc 1)])])else a+c<=4294967296/\bif decide (JD y1 y2>0)then K (AV.t [(false,[Zp (Zz none 0 0)]),(false,[Zp (Zl Zc 1)])])else((x1=OfNat.ofNat 0/\x2=OfNat.ofNat 2)/\n+b<=1000000000)/\((y1=OfNat.ofNat 0/\y2=OfNat.ofNat 2)/\a+c<=1000000000)/\(∃(x:GrX),((x.j<=4/\x.cs.length=4*x.j)/\OfNat.ofNat 0=0)/\(-1:Int)= -1/\(2:Int)=2/\(2:Int)=2/\Zz none 0 0=Zz none 0 0/\0=0/\x.cs.length=0/\ -1=Zb x.j-1/\Zd cel x.cs=[]/\True)/\∀(x:GrX),x.j<=4/\x.cs.length=4*x.j->OfNat.ofNat 0=0->bif decide (Zb x.j-1<=2)then(∃(x_1:GrX),(((x_1.j<4/\x_1.i<=4)/\x_1.cs.length=4*x_1.j+x_1.i)/\4-x_1.j=4-x.j)/\(-1:Int)= -1/\(2:Int)=2/\(2:Int)=2/\0=0/\x.cs.length=x_1.cs.length/\Zb x.j-1=Zb x_1.j-1/\ -1=Zb x_1.i-1/\122=122/\2=2/\(Zd cel x.cs=Zd cel x_1.cs∨QE (Zd cel x.cs) (Zd cel x_1.cs))/\True)/\∀(x_1:GrX),(x_1.j<4/\x_1.i<=4)/\x_1.cs.length=4*x_1.j+x_1.i->4-x_1.j=4-x.j->bif decide (Zb x_1.i-1<=2)then((x_1.cs.length+1)*16<=140737488355328/\x_1.cs.length+1<=9223372036854775807)/\∃(x':GrX),(((x'.j<4/\x'.i<=4)/\x'.cs.length=4*x'.j+x'.i)/\4-x'.j=4-x.j/\4-x'.i<4-x_1.i)/\(-1:Int)= -1/\(2:Int)=2/\(2:Int)=2/\0=0/\x_1.cs.length+1=x'.cs.length/\Zb x_1.j-1=Zb x'.j-1/\Zc.wrap (Zb x_1.i-1+1)=Zb x'.i-1/\122=122/\2=2/\(Ze x_1.cs.length (Zd cel x_1.cs)++[[Zp (Zl Zc (Zb x_1.i-1)),Zp (Zl Zc (Zb x_1.j-1))]]=Zd cel x'.cs∨QE (Ze x_1.cs.length (Zd cel x_1.cs)++[[Zp (Zl Zc (Zb x_1.i-1)),Zp (Zl Zc (Zb x_1.j-1))]]) (Zd cel x'.cs))/\True else ∃(x':GrX),((x'.j<=4/\x'.cs.length=4*x'.j)/\OfNat.ofNat 0=0/\4-x'.j<4-x.j)/\(-1:Int)= -1/\(2:Int)=2/\(2:Int)=2/\0=0/\x_1.cs.length=x'.cs.length/\Zc.wrap (Zb x_1.j-1+1)=Zb x'.j-1/\122=122/\2=2/\(Zd cel x_1.cs=Zd cel x'.cs∨QE (Zd cel x_1.cs) (Zd cel x'.cs))/\True else K (AV.t [(false,[Ch.s 2 (Ze x.cs.length (Zm 0 (Zd cel x.cs)))]),(false,[Zp (Zl Zc 0)])]))) ?_
 try simp only[Zt,R0,R1,R4]
 obtain⟨⟨⟨rfl,rfl⟩,rfl,rfl⟩,hn⟩:=hc;have e0:decide (JD (0:Rat) 2>0)=false:=by decide+kernel
 rw[e0];simp only[R8];refine⟨by omega,by omega,⟨⟨trivial,trivial⟩,by omega⟩,⟨⟨trivial,trivial⟩,by omega⟩,⟨⟨0,0,[]⟩,⟨by decide,rfl⟩,rfl,rfl,rfl⟩,fun x ⟨hx,hl⟩=>QG (fun h=> ?_) (fun h=> ?_)⟩
 ·have h:=R5 h;refine⟨⟨⟨x.j,0,x.cs⟩,⟨⟨⟨by simp only;omega,Nat.zero_le _⟩,by simp only;omega⟩,rfl⟩,rfl,rfl,rfl,.inl rfl⟩,fun y ⟨⟨hj,hi⟩,hy⟩ hm=>QG (fun g=> ?_) (fun g=> ?_)⟩
  ·have g:=R5 g;refine⟨⟨by omega,by omega⟩,⟨y.j,y.i+1,y.cs++[((y.i:Int)-1,(y.j:Int)-1)]⟩,⟨⟨⟨hj,by simp only;omega⟩,by simp only[List.length_append,List.length_singleton];omega⟩,hm,by simp only;omega⟩,by simp,rfl,by simp only;rw[w64 (by omega)];omega,.inl ?_⟩;rw[Zx (by simp),List.map_append];rfl
  ·have g:=R6 g;exact⟨⟨y.j+1,0,y.cs⟩,⟨⟨by simp only;omega,by simp only;omega⟩,by simp only;omega⟩,rfl,by simp only;rw[w64 (by omega)];omega,.inl rfl⟩
 ·have h:=R6 h;rw[Ya,Zx (by simp)];exact hK x.cs (by omega)
def QL7:Ctr
 | [.x true [.r x1 n,.r y1 a,.r x2 b,.r y2 c]]=>some fun K=>QP5 x1 n y1 a x2 b y2 c K
 | _=>none
theorem QSc:QH 28 QL7:=by
 refine okL Tryz.func28 fun l T hT K hK=> ?_
 unfold QL7 at hT;split at hT<;>cases hT
 exact spL QG0 QO Tryz.func28 (QUx _ _ _ _ _ _ _ _ K hK)
def QL8:LC:=(29,QB4)::(30,U9)::(24,QBy)::(26,QCI)::(28,QL7)::QO1
theorem QG1:QC QL8:= .cons QOJ (.cons QKk (.cons QGZ (.cons QL5 (.cons QSc QSW))))
abbrev QL9 (x:Int)(y:Int)(K:AV->Prop):Prop:=(((-1000<=x/\x<=1000)/\ -1000<=y/\y<=1000))/\(K (.x true [.r (x:Rat) 100000,.r (y:Rat) 100000]))
theorem QSd (x:Int)(y:Int)(K:AV->Prop)(hK:QL9 x y K):QN (QU (mkT QL8 QFs X4) (oF Tryz.f25) noL Tryz.f25 [iA .i64 x,iA .i64 y] K):=by
 obtain⟨hc,hK⟩:=hK;refine HV (((-9223372036854775808<=x/\x<9223372036854775808)/\(-9223372036854775808<=y/\y<9223372036854775808)/\K (AV.x true [Zu (↑x) 100000,Zu (↑y) 100000]))) ?_
 try simp only[Zt,R0,R1,Yc,Zo,R4,R2,R3]
 exact⟨by omega,by omega,hK⟩
def QFw:Ctr
 | [.x false [.v (.int .i64 x)],.x false [.v (.int .i64 y)]]=>some fun K=>QL9 x y K
 | _=>none
theorem QO6:QH 25 QFw:=by
 refine okL Tryz.func25 fun l T hT K hK=> ?_
 unfold QFw at hT;split at hT<;>cases hT
 exact spL (QW QG1 QFt Q0) QO Tryz.func25 (QSd _ _ K hK)
def QP6:LC:=(25,QFw)::QL8
theorem QO7:QC QP6:= .cons QO6 QG1
def six:List (Rat×Rat):=[(((0:Int):Rat),((0:Int):Rat)),(((2:Int):Rat),((0:Int):Rat)),(((2:Int):Rat),((2:Int):Rat)),(((0:Int):Rat),((2:Int):Rat))]
theorem QSe:Js six:=QIL (b:=⟨((0:Int):Rat),((0:Int):Rat),((2:Int):Rat),((2:Int):Rat)⟩) (by decide+kernel) (by decide+kernel)
theorem QIe: ∃R,GR [((-1:Int):Rat),((0:Int):Rat),((1:Int):Rat)]=some R/\R.length=2:=by
 have hz:(GR [((-1:Int):Rat),((0:Int):Rat),((1:Int):Rat)]).map Za=some 2:=by decide+kernel
 cases h:GR [((-1:Int):Rat),((0:Int):Rat),((1:Int):Rat)]with
 | none=>rw[h]at hz;cases hz
 | some R=>rw[h]at hz;exact⟨R,rfl,Option.some.inj hz⟩
set_option maxHeartbeats 1000000 in
theorem QUy (_hc:True)(K:AV->Prop)(hK:K (.x false [.v (.bool true)])):QN (QU (mkT QP6 QFs X4) (oF Tryz.f5) noL Tryz.f5 [] K):=by
 refine HV (((((-1000:Int)<=0/\(0:Int)<=1000)/\(-1000:Int)<=0/\(0:Int)<=1000)/\(((-1000:Int)<=2/\(2:Int)<=1000)/\(-1000:Int)<=0/\(0:Int)<=1000)/\(((-1000:Int)<=2/\(2:Int)<=1000)/\(-1000:Int)<=2/\(2:Int)<=1000)/\(((-1000:Int)<=0/\(0:Int)<=1000)/\(-1000:Int)<=2/\(2:Int)<=1000)/\(4607182418800017408:Int)=4607182418800017408/\((-9223372036854775808:Int)<= -1/\(-1:Int)<9223372036854775808)/\((-9223372036854775808:Int)<=0/\(0:Int)<9223372036854775808)/\((-9223372036854775808:Int)<=1/\(1:Int)<9223372036854775808)/\∃(p:List Rat),∃(c:List (List Rat)),∃(m:Rat),∃(out:List Sp),∃(R:List Sp),[[Zu (↑(-1:Int)) 100000],[Zu (↑(0:Int)) 100000],[Zu (↑(1:Int)) 100000]]=lR 100000 p/\(((p.length<=1000/\out.length<=1000)/\Ju p=some c)/\KU (c.getD 0 []) (OfNat.ofNat 1)=some m/\XH c 100000 [] (Sp.mk (-m) m)=some out/\YJ c (out.length-1) 1 out=some R)/\∃(n:Nat),∃(l:List (Rat×Rat)),[[Zu (↑(0:Int)) 100000,Zu (↑(0:Int)) 100000],[Zu (↑(2:Int)) 100000,Zu (↑(0:Int)) 100000],[Zu (↑(2:Int)) 100000,Zu (↑(2:Int)) 100000],[Zu (↑(0:Int)) 100000,Zu (↑(2:Int)) 100000]]=Zd (Qp n) l/\(n<=1000000000/\1<=l.length/\l.length<=100)/\((((VI l).x1=OfNat.ofNat 0/\(VI l).y1=OfNat.ofNat 0)/\(VI l).x2=OfNat.ofNat 2/\(VI l).y2=OfNat.ofNat 2)/\n+66+(n+66)+(n+66)+(n+66)<=1000000)/\∀(cs:List (Int×Int)),cs.length=16->((-9223372036854775808:Int)<=1/\(1:Int)<9223372036854775808)/\(100770<=4294967290/\(↑(18014398509481983:Int):Rat)/(↑(18014398509481984:Int):Rat)<=(↑(9007199254740993:Int):Rat)/(↑(9007199254740992:Int):Rat))/\((-9223372036854775808:Int)<=2/\(2:Int)<9223372036854775808)/\(100770<=4294967290/\(↑(18014398509481983:Int):Rat)/(↑(18014398509481984:Int):Rat)<=(↑(9007199254740993:Int):Rat)/(↑(9007199254740992:Int):Rat))/\bif Zb (Zd (spN 100000) R).length==2 then bif Zb (Zd cel cs).length==16 then ∃(n:Nat),∃(l:List (Rat×Rat)),[[Zu (↑(0:Int)) 100000,Zu (↑(0:Int)) 100000],[Zu (↑(2:Int)) 100000,Zu (↑(0:Int)) 100000],[Zu (↑(2:Int)) 100000,Zu (↑(2:Int)) 100000],[Zu (↑(0:Int)) 100000,Zu (↑(2:Int)) 100000]]=Zd (Qp n) l/\(n<=120000000/\Js l)/\∀(m:Nat),m<=64+(4*n+2)*8+128->((-9223372036854775808:Int)<=4/\(4:Int)<9223372036854775808)/\K (AV.x false [Zp (Zk (decide ((↑(1:Int):Rat)/(↑(2:Int):Rat)*KQ l l.length=↑(4:Int))&&true))])else K (AV.x false [Zp (Zk false)])else K (AV.x false [Zp (Zk false)]))) ?_
 try simp only[Zt,R0]
 obtain⟨R,hR,hRl⟩:=QIe;obtain⟨c,m,out,h1,h2,h3,h4,h5⟩:=QLn hR;refine⟨by omega,by omega,by omega,by omega,by omega,by omega,by omega,_,c,m,out,R,rfl,⟨⟨⟨by decide,h4⟩,h1⟩,h2,h3,h5⟩,100000,six,rfl,⟨by omega,by decide,by decide⟩,⟨⟨⟨by decide+kernel,by decide+kernel⟩,by decide+kernel,by decide+kernel⟩,by omega⟩,fun cs hcs=>⟨by omega,⟨by omega,by decide+kernel⟩,by omega,⟨by omega,by decide+kernel⟩,?_⟩⟩;rw[Yd,Yd,hRl,hcs];refine QG (fun _=>QG (fun _=> ?_) (fun h=>absurd h (by decide))) (fun h=>absurd h (by decide));refine⟨100000,six,rfl,⟨by omega,QSe⟩,fun m hm=>⟨by omega,?_⟩⟩;rw[show decide (((1:Int):Rat)/((2:Int):Rat)*KQ six six.length=((4:Int):Rat))=true by decide+kernel]
 exact hK
def QMA:Ctr
 | []=>some fun K=>(True)/\(K (.x false [.v (.bool true)]))
 | _=>none
theorem QSf:QH 5 QMA:=by
 refine okL Tryz.func5 fun l T hT K hK=> ?_
 unfold QMA at hT;split at hT<;>cases hT
 obtain⟨hc,hK⟩:=hK;exact spL (QW QO7 QFt Q0) QO Tryz.func5 (QUy  hc K hK)
end Go.Proofs
namespace Go.Proofs
open Go Go.Eng
def gb:Nat->Nat
 | 0=>64
 | i+1=>10*gb i+2000
def bb:Nat->Nat
 | 0=>64
 | i+1=>2*bb i+60000
def pb:Nat->Nat
 | 0=>64
 | i+1=>2*pb i+2000
def zF:List Ch:=YB++YB++[.v (.bool false)]++YB
def QO8 (l:List FrV):LI:=fun _=> .inv ⟨Nat,fun i=>⟨[(2,.x false [.p 2 0]),(3,.x false [.p 3 0]),(7,.x false [.s 10 (l.map (frN 64))]),(8,iA .i64 l.length),(9,iA .i64 i)],[(2,.box 34 zF),(3,.box 34 (frN (gb i) (QT (l.take i))))]⟩,fun i=>i<=l.length,fun i=>l.length-i,fun _=>0⟩
def QMB:LC:=(7,U8)::(39,HA)::(11,HB)::L92
theorem QG2:QC QMB:= .cons QDY (.cons QDk (.cons QDl QPl))
theorem QFx {b:Bool}{p q:Prop}(h:b=true)(hp:p):(bif b then p else q):=by rw[h];exact hp
theorem KX {a b:Bool}(ha:a=true)(hb:b=true):(a&&b)=true:=by rw[ha,hb];rfl
theorem z0:((0:Int):Rat)=0:=rfl
theorem QFy {l:List FrV}{n i:Nat}{f:FrV}(h:l[i]? =some f):ldE (l.map (frN n)) i 0 10=some (frN n f):=by
 unfold ldE;rw[List.getElem?_map,h];rfl
theorem QO9 (n:Nat)(fs:List FrV):QE (fs.map (frN n)) (fs.map (frN n)):=by
 refine⟨rfl,fun i x y hx hy=> ?_⟩;rw[hx]at hy;cases hy
 rw[List.getElem?_map]at hx;cases hf:fs[i]? with
 | none=>rw[hf]at hx;cases hx
 | some f=>rw[hf]at hx;cases hx;exact QPm (Zo _) (Zo _) (Zo _)
theorem QG3 {l:List FrV}{f:FrV}{n m o:Nat}(h1:n<=64)(h2:m<=64)(h3:o<=64):QE (Ze l.length (l.map (frN 64))++[[.r f.x n,.r f.y m,.v (.bool f.h),.r f.t o]]) ((l++[f]).map (frN 64)):=by
 rw[Zx (by simp),List.map_append];exact QKc (QO9 _ _) (QPm h1 h2 h3)
theorem QAp {α:Type}{l:List α}{i:Nat}{a:α}(h:l[i]? =some a):l.take (i+1)=l.take i++[a]:=by
 rw[List.take_add_one,h];rfl
theorem QFz {l:List FrV}{i:Nat}{f:FrV}(h:l[i]? =some f):QT (l.take (i+1))=Qw (QT (l.take i)) f:=by rw[QAp h,(UU _ _).1]
theorem QF0 {l:List FrV}{i:Nat}{f:FrV}(h:l[i]? =some f):Qj (l.take (i+1))=Qw (Qu f) (Qj (l.take i)):=by rw[QAp h,(UU _ _).2]
theorem QF1 {l:List FrV}{i:Nat}{f:FrV}(h:l[i]? =some f)(p:Rat×Rat):Qq (l.drop i) p=Wi f (Qq (l.drop (i+1)) p):=by rw[QDX h];rfl
theorem QG4 {n:Nat}(h:n<=4):gb n<=2862000:=by
 have:n=0∨n=1∨n=2∨n=3∨n=4:=by omega
 rcases this with e | e | e | e | e<;>rw[e]<;>decide
theorem QP7 {n:Nat}(h:n<=4):bb n<=901024:=by
 have:n=0∨n=1∨n=2∨n=3∨n=4:=by omega
 rcases this with e | e | e | e | e<;>rw[e]<;>decide
theorem QP8 {n:Nat}(h:n<=4):pb n<=31024:=by
 have:n=0∨n=1∨n=2∨n=3∨n=4:=by omega
 rcases this with e | e | e | e | e<;>rw[e]<;>decide
abbrev QDp (x:Rat)(i:Nat)(y:Rat)(j:Nat)(h:Bool)(t:Rat)(k:Nat)(K:AV->Prop):Prop:=((h=true->t=0)/\(i+j+k<=40000000))/\(∀n m o,n<=10*(i+j+k)+20000->m<=10*(i+j+k)+20000->o<=k+64->K (.x true [.r (Qu ⟨x,y,h,t⟩).x n,.r (Qu ⟨x,y,h,t⟩).y m,.v (.bool h),.r (-t) o]))
theorem QMC (x:Rat)(i:Nat)(y:Rat)(j:Nat)(h:Bool)(t:Rat)(k:Nat)(K:AV->Prop)(hK:QDp x i y j h t k K):QN (QU (mkT QMB M79 X4) (oF Tryz.f14) noL Tryz.f14 [.x true [.r x i,.r y j,.v (.bool h),.r t k]] K):=by
 obtain⟨hc,hK⟩:=hK;refine HV ((((h=true->t=OfNat.ofNat 0)/\k<=100000000)/\∀(n:Nat),n<=k+64->True/\(64+i<=4294967290/\64+j<=4294967290)/\64+i+1+(64+j+1)+n<=400000000/\∀(n_1 m:Nat),n_1<=64+i+1+(64+j+1)+8*n+1000->m<=64+i+1+(64+j+1)+8*n+1000->K (AV.x true [Zu ((↑(0:Int)-x)*Q7 h (-t)-(↑(0:Int)-y)*XA h (-t)) n_1,Zu ((↑(0:Int)-x)*XA h (-t)+(↑(0:Int)-y)*Q7 h (-t)) m,Zp (Zk h),Zu (-t) n]))) ?_
 try simp only[R0]
 refine⟨⟨hc.1,by omega⟩,fun o ho=>⟨⟨by omega,by omega⟩,by omega,fun n m hn hm=>hK n m o (by omega) (by omega) (by omega)⟩⟩
def Gh:Ctr
 | [.x true [.r x i,.r y j,.v (.bool h),.r t k]]=>some fun K=>QDp x i y j h t k K
 | _=>none
theorem QIf:QH 14 Gh:=by
 refine okL Tryz.func14 fun l T hT K hK=> ?_
 unfold Gh at hT;split at hT<;>cases hT
 exact spL (QW QG2 XC Q0) QO Tryz.func14 (QMC _ _ _ _ _ _ _ K hK)
def QMD:LC:=(14,Gh)::QMB
theorem QG5:QC QMD:= .cons QIf QG2
set_option maxHeartbeats 1000000 in
theorem QSg (l:List FrV)(hc:(l.length<=4))(K:AV->Prop)(hK:K (.x true (frN (gb l.length) (QT l)))):QN (QU (mkT QMD M79 X4) (oF Tryz.f10) (QO8 l) Tryz.f10 [.x false [.s 10 (l.map (frN 64))]] K):=by
 refine HV ((True/\(∃(x:Nat),(x<=l.length/\OfNat.ofNat 0=0)/\0=0/\0=0/\10=10/\Zd (frN 64) l=Zd (frN 64) l/\Zb (Zd (frN 64) l).length=Zb l.length/\0=Zb x/\34=34/\false=false/\Zg (Zf [])=Zg (Zf [])/\Zg (Zf [])=Zg (Zf [])/\false=false/\Zg (Zf [])=Zg (Zf [])/\Zg (Zf [])=Zg (Zf [])/\false=false/\false=false/\Zg (Zf [])=Zg (Zf [])/\Zg (Zf [])=Zg (Zf [])/\34=34/\↑(0:Int)=(QT (Ze x l)).x/\64<=gb x/\↑(0:Int)=(QT (Ze x l)).y/\64<=gb x/\false=(QT (Ze x l)).h/\↑(0:Int)=(QT (Ze x l)).t/\64<=gb x/\True)/\∀(x:Nat),x<=l.length->OfNat.ofNat 0=0->bif decide (Zb x<Zb l.length)then(0<=Zb x/\Zb x<Zb (Zd (frN 64) l).length)/\∃(q:Rat),∃(n:Nat),∃(q_1:Rat),∃(n_1:Nat),∃(b:Bool),∃(q_2:Rat),∃(n_2:Nat),ldE (Zd (frN 64) l) (Zb x).toNat 0 10=some [Zu q n,Zu q_1 n_1,Zp (Zk b),Zu q_2 n_2]/\gb x+gb x+gb x+n+n_1+n_2<=400000000/\∀(f:FrV) (n_3 m o:Nat),f=Qw (FrV.mk (QT (Ze x l)).x (QT (Ze x l)).y (QT (Ze x l)).h (QT (Ze x l)).t) (FrV.mk q q_1 b q_2)->n_3<=gb x+n+n_1+8*gb x+1100->m<=gb x+n+n_1+8*gb x+1100->o<=2*gb x+2*n_2+400->∃(x':Nat),(x'<=l.length/\OfNat.ofNat 0=0/\l.length-x'<l.length-x)/\0=0/\0=0/\10=10/\Zd (frN 64) l=Zd (frN 64) l/\Zb l.length=Zb l.length/\Zc.wrap (Zb x+1)=Zb x'/\34=34/\false=false/\Zg (Zf [])=Zg (Zf [])/\Zg (Zf [])=Zg (Zf [])/\false=false/\Zg (Zf [])=Zg (Zf [])/\Zg (Zf [])=Zg (Zf [])/\false=false/\false=false/\Zg (Zf [])=Zg (Zf [])/\Zg (Zf [])=Zg (Zf [])/\34=34/\f.x=(QT (Ze x' l)).x/\n_3<=gb x'/\f.y=(QT (Ze x' l)).y/\m<=gb x'/\f.h=(QT (Ze x' l)).h/\f.t=(QT (Ze x' l)).t/\o<=gb x'/\True else K (AV.x true [Zu (QT (Ze x l)).x (gb x),Zu (QT (Ze x l)).y (gb x),Zp (Zk (QT (Ze x l)).h),Zu (QT (Ze x l)).t (gb x)]))) ?_
 try simp only[Zt,R0,R1,R4]
 simp only[Yd];refine⟨⟨0,Nat.zero_le _,trivial,rfl,rfl,Zo _,rfl,Zo _,rfl,rfl,Zo _⟩,fun x hx=>QG (fun hp=> ?_) (fun hp=> ?_)⟩
 ·have hp:x<l.length:=by have:=R5 hp;omega
  obtain⟨f0,hf⟩: ∃f,l[x]? =some f:=⟨_,Zq hp⟩
  have hb:=QG4 (n:=x) (by omega);have e:=QFz hf;refine⟨by omega,f0.x,64,f0.y,64,f0.h,f0.t,64,by rw[Zn];exact QFy hf,by omega,fun f n m o hf' hn hm ho=> ?_⟩;subst hf';have eb:gb (x+1)=10*gb x+2000:=rfl;exact⟨x+1,⟨by omega,by omega⟩,by rw[w64 (by omega)];simp,congrArg FrV.x e.symm,by omega,congrArg FrV.y e.symm,by omega,congrArg FrV.h e.symm,congrArg FrV.t e.symm,by omega⟩
 ·have hp:x=l.length:=by have:=R6 hp;omega
  rw[hp,List.take_length];exact hK
def QF2:Ctr
 | [.x false [.s 10 xs]]=>some fun K=> ∃(l:List FrV),xs=l.map (frN 64)/\((l.length<=4))/\(K (.x true (frN (gb l.length) (QT l))))
 | _=>none
theorem QPA:QH 10 QF2:=by
 refine okL Tryz.func10 fun l T hT K hK=> ?_
 unfold QF2 at hT;split at hT<;>cases hT
 obtain⟨l,rfl,hc,hK⟩:=hK;exact spL (QW QG5 XC Q0) QO Tryz.func10 (QSg _ hc K hK)
def QP9:LC:=(10,QF2)::QMD
theorem QPB:QC QP9:= .cons QPA QG5
structure FgX where
 l:List FrV
 k:Nat
 c:Nat
structure FgI (e:FgX):Prop where
 n:e.l.length<=4
 ok: ∀f∈e.l,WB f
 k:e.k<=e.l.length
 c:e.c<=e.l.length
def QSh (l:List FrV):Blk:= .row 34 10 (l.map (frN 64))
def fnA:AV:= .x false [.v (.func (.func 10) #[] #[])]
def QSi (ls:List Int)(x y c:Int):LI:=fun id=>bif id.beq 5 then .inv ⟨List FrV,fun l=>⟨[(0,.x false [.s 1 (ints ls)]),(1,iA .i64 x),(2,iA .i64 y),(3,iA .i64 c),(9,.x false [.w 500 0 l.length]),(10,iA .i64 ((3*l.length:Nat):Int))],[(500,QSh l)]⟩,fun l=>l.length<=4/\ ∀f∈l,WB f,fun l=>4-l.length,fun _=>0⟩
 else bif id.beq 16 then .inv ⟨FgX,fun e=>⟨[(3,iA .i64 e.c),(9,.x false [.w 500 0 e.l.length]),(12,fnA),(13,.x false [.p 13 0]),(14,.x false [.p 14 0]),(15,iA .i64 ((e.k:Int)-1))],[(500,QSh e.l),(13,.box 32 (Qp 63 (QJ x,QJ y))),(14,.box 32 (Qp (pb (e.l.length-e.k)) (Qq (e.l.drop e.k) (QJ x,QJ y))))]⟩,FgI,fun e=>e.k,fun _=>0⟩
 else .inv ⟨FgX,fun e=>⟨[(3,iA .i64 e.c),(9,.x false [.w 500 0 e.l.length]),(12,fnA),(13,.x false [.p 13 0]),(14,.x false [.p 14 0]),(16,.x false [.p 16 0]),(91,.x false [.w 500 0 e.l.length]),(92,iA .i64 e.l.length),(93,iA .i64 e.k)],[(500,QSh e.l),(13,.box 32 (Qp 63 (QJ x,QJ y))),(14,.box 32 (Qp (pb e.l.length) (Qq e.l (QJ x,QJ y)))),(16,.box 34 (frN (bb e.k) (Qj (e.l.take e.k))))]⟩,FgI,fun e=>e.l.length-e.k,fun _=>0⟩
def QQA:LC:=(5,QMA)::QP9
noncomputable def mkTF (l:List (Nat×Ctr))(m:List (Nat×Xi))(x:List (Nat×VZ)):QY:=⟨tbL Tryz.tyL,prL l,pmL m,pxL x,QF5 Tryz.prog,itP Tryz.prog QGE,(999999,0,false)::QPH⟩
theorem QSj {g:Nat}{tab:List Value}{l:List (Nat×Ctr)}{m:List (Nat×Xi)}{x:List (Nat×VZ)}(h:CtrsOK Tryz.prog g tab l)(hm:CtrMsOK Tryz.prog g tab m)(hx:CtrXsOK Tryz.prog x):Qx Tryz.prog g tab (mkTF l m x):=
 QJZ (mkTF.eq_1 l m x) Tryz.tb_ok (QJB h) (QJS hm) (QJT hx) (QCZ Tryz.prog) (QJN Tryz.prog QGE) fun _ _ e j _ _ he hu=>by rw[(Tryz.tb_ok e j he).und,hu]
theorem QPC:QC QQA:= .cons QSf QPB
set_option maxHeartbeats 1000000 in
theorem QME (ls:List Int)(x y c:Int)(_hl:ls.length<=9223372036854775807)(he: ∀n∈ls,-9223372036854775808<=n/\n<9223372036854775808)(hx: -9223372036854775808<=x/\x<9223372036854775808)(hy: -9223372036854775808<=y/\y<9223372036854775808)(_hc: -9223372036854775808<=c/\c<9223372036854775808)(K:AV->Prop)(hK:K (.x false [.v (.bool true)])):QN (QU (mkTF QQA M79 X4) (oF Tryz.f3) (QSi ls x y c) Tryz.f3 [.x false [.s 1 (ints ls)],iA .i64 x,iA .i64 y,iA .i64 c] K):=by
 refine HV ((True/\(∃(x_1:List FrV),((Za x_1<=(4:Nat)/\∀(f:FrV),f∈x_1->FrV.h f=true->FrV.t f=OfNat.ofNat (0:Nat))/\OfNat.ofNat (0:Nat)=(0:Nat))/\(1:Nat)=(1:Nat)/\ints ls=ints ls/\x=x/\y=y/\c=c/\Zz none (0:Nat) (0:Nat)=Zz none (0:Nat) (0:Nat)/\(0:Nat)=(0:Nat)/\Za x_1=(0:Nat)/\(0:Int)=Zb ((3:Nat)*Za x_1)/\Zd (frN (64:Nat)) x_1=[]/\True)/\∀(x_1:List FrV),(Za x_1<=(4:Nat)/\∀(f:FrV),f∈x_1->FrV.h f=true->FrV.t f=OfNat.ofNat (0:Nat))->OfNat.ofNat (0:Nat)=(0:Nat)->bif decide (Zj Zc (Zb ((3:Nat)*Za x_1)+(2:Int))<Zb (Za (ints ls)))then bif decide (Zb ((3:Nat)*Za x_1)<(12:Int))then((0:Int)<=Zj Zc (Zb ((3:Nat)*Za x_1)+(2:Int))/\Zj Zc (Zb ((3:Nat)*Za x_1)+(2:Int))<Zb (Za (ints ls)))/\∃(d:Int),ldE (ints ls) (Zs (Zj Zc (Zb ((3:Nat)*Za x_1)+(2:Int)))) (0:Nat) (1:Nat)=some [Zp (Zl Zc d)]/\((-9223372036854775808:Int)<=d/\d<(9223372036854775808:Int))/\(63:Nat)<=(1000000000:Nat)/\((0:Int)<=Zj Zc (Zb ((3:Nat)*Za x_1)+(2:Int))/\Zj Zc (Zb ((3:Nat)*Za x_1)+(2:Int))<Zb (Za (ints ls)))/\∃(d_1:Int),ldE (ints ls) (Zs (Zj Zc (Zb ((3:Nat)*Za x_1)+(2:Int)))) (0:Nat) (1:Nat)=some [Zp (Zl Zc d_1)]/\(7:Int)≠(0:Int)/\bif Int.tmod d_1 (7:Int)==(0:Int)then((-9223372036854775808:Int)<=(0:Int)/\(0:Int)<(9223372036854775808:Int))/\((0:Int)<=Zb ((3:Nat)*Za x_1)/\Zb ((3:Nat)*Za x_1)<Zb (Za (ints ls)))/\∃(d:Int),ldE (ints ls) (Zs (Zb ((3:Nat)*Za x_1))) (0:Nat) (1:Nat)=some [Zp (Zl Zc d)]/\((0:Int)<=Zj Zc (Zb ((3:Nat)*Za x_1)+(1:Int))/\Zj Zc (Zb ((3:Nat)*Za x_1)+(1:Int))<Zb (Za (ints ls)))/\∃(d_2:Int),ldE (ints ls) (Zs (Zj Zc (Zb ((3:Nat)*Za x_1)+(1:Int)))) (0:Nat) (1:Nat)=some [Zp (Zl Zc d_2)]/\((-9223372036854775808:Int)<=d/\d<(9223372036854775808:Int))/\((-9223372036854775808:Int)<=d_2/\d_2<(9223372036854775808:Int))/\((Za x_1+(1:Nat))*(128:Nat)<=(140737488355328:Nat)/\Za x_1+(1:Nat)<=(9223372036854775807:Nat))/\∃(x':List FrV),((Za x'<=(4:Nat)/\∀(f:FrV),f∈x'->FrV.h f=true->FrV.t f=OfNat.ofNat (0:Nat))/\OfNat.ofNat (0:Nat)=(0:Nat)/\(4:Nat)-Za x'<(4:Nat)-Za x_1)/\(1:Nat)=(1:Nat)/\ints ls=ints ls/\x=x/\y=y/\c=c/\(0:Nat)=(0:Nat)/\Za x_1+(1:Nat)=Za x'/\Zj Zc (Zb ((3:Nat)*Za x_1)+(3:Int))=Zb ((3:Nat)*Za x')/\(34:Nat)=(34:Nat)/\(10:Nat)=(10:Nat)/\(Ze (Za x_1) (Zd (frN (64:Nat)) x_1)++[[Zu (QJ d) (63:Nat),Zu (QJ d_2) (63:Nat),Zp (Zk true),Zu ↑(0:Int) (64:Nat)]]=Zd (frN (64:Nat)) x'∨QE (Ze (Za x_1) (Zd (frN (64:Nat)) x_1)++[[Zu (QJ d) (63:Nat),Zu (QJ d_2) (63:Nat),Zp (Zk true),Zu ↑(0:Int) (64:Nat)]]) (Zd (frN (64:Nat)) x'))/\True else((0:Int)<=Zb ((3:Nat)*Za x_1)/\Zb ((3:Nat)*Za x_1)<Zb (Za (ints ls)))/\∃(d_2:Int),ldE (ints ls) (Zs (Zb ((3:Nat)*Za x_1))) (0:Nat) (1:Nat)=some [Zp (Zl Zc d_2)]/\((0:Int)<=Zj Zc (Zb ((3:Nat)*Za x_1)+(1:Int))/\Zj Zc (Zb ((3:Nat)*Za x_1)+(1:Int))<Zb (Za (ints ls)))/\∃(d_3:Int),ldE (ints ls) (Zs (Zj Zc (Zb ((3:Nat)*Za x_1)+(1:Int)))) (0:Nat) (1:Nat)=some [Zp (Zl Zc d_3)]/\((-9223372036854775808:Int)<=d_2/\d_2<(9223372036854775808:Int))/\((-9223372036854775808:Int)<=d_3/\d_3<(9223372036854775808:Int))/\((Za x_1+(1:Nat))*(128:Nat)<=(140737488355328:Nat)/\Za x_1+(1:Nat)<=(9223372036854775807:Nat))/\∃(x':List FrV),((Za x'<=(4:Nat)/\∀(f:FrV),f∈x'->FrV.h f=true->FrV.t f=OfNat.ofNat (0:Nat))/\OfNat.ofNat (0:Nat)=(0:Nat)/\(4:Nat)-Za x'<(4:Nat)-Za x_1)/\(1:Nat)=(1:Nat)/\ints ls=ints ls/\x=x/\y=y/\c=c/\(0:Nat)=(0:Nat)/\Za x_1+(1:Nat)=Za x'/\Zj Zc (Zb ((3:Nat)*Za x_1)+(3:Int))=Zb ((3:Nat)*Za x')/\(34:Nat)=(34:Nat)/\(10:Nat)=(10:Nat)/\(Ze (Za x_1) (Zd (frN (64:Nat)) x_1)++[[Zu (QJ d_2) (63:Nat),Zu (QJ d_3) (63:Nat),Zp (Zk false),Zu (QJ d) (63:Nat)]]=Zd (frN (64:Nat)) x'∨QE (Ze (Za x_1) (Zd (frN (64:Nat)) x_1)++[[Zu (QJ d_2) (63:Nat),Zu (QJ d_3) (63:Nat),Zp (Zk false),Zu (QJ d) (63:Nat)]]) (Zd (frN (64:Nat)) x'))/\True else((0:Int)<Zj Zc (Zb (Za x_1)+(1:Int))/\Zj Zc (Zb (Za x_1)+(1:Int))<(9223372036854775808:Int))/\((-9223372036854775808:Int)<=x/\x<(9223372036854775808:Int))/\((-9223372036854775808:Int)<=y/\y<(9223372036854775808:Int))/\(∃(x_2:FgX),(FgI x_2/\OfNat.ofNat (0:Nat)=(0:Nat))/\c%Zj Zc (Zb (Za x_1)+(1:Int))=Zb (FgX.c x_2)/\(0:Nat)=(0:Nat)/\Za x_1=Za (FgX.l x_2)/\Zr (Fn.func (10:Nat)) (Zf []) (Zf [])=Zr (Fn.func (10:Nat)) (Zf []) (Zf [])/\(0:Nat)=(0:Nat)/\(0:Nat)=(0:Nat)/\Zj Zc (Zb (Za x_1)-(1:Int))=Zb (FgX.k x_2)-(1:Int)/\(34:Nat)=(34:Nat)/\(10:Nat)=(10:Nat)/\(Zd (frN (64:Nat)) x_1=Zd (frN (64:Nat)) (FgX.l x_2)∨QE (Zd (frN (64:Nat)) x_1) (Zd (frN (64:Nat)) (FgX.l x_2)))/\(32:Nat)=(32:Nat)/\QJ x=Zi (QJ x,QJ y)/\(63:Nat)<=(63:Nat)/\QJ y=Zh (QJ x,QJ y)/\(63:Nat)<=(63:Nat)/\(32:Nat)=(32:Nat)/\QJ x=Zi (Qq (Zm (FgX.k x_2) (FgX.l x_2)) (QJ x,QJ y))/\(63:Nat)<=pb (Za (FgX.l x_2)-FgX.k x_2)/\QJ y=Zh (Qq (Zm (FgX.k x_2) (FgX.l x_2)) (QJ x,QJ y))/\(63:Nat)<=pb (Za (FgX.l x_2)-FgX.k x_2)/\True)/\∀(x_2:FgX),FgI x_2->OfNat.ofNat (0:Nat)=(0:Nat)->bif decide (Zb (FgX.k x_2)-(1:Int)≥(0:Int))then((0:Int)<=Zb (FgX.k x_2)-(1:Int)/\Zb (FgX.k x_2)-(1:Int)<Zb (Za (FgX.l x_2)))/\∃(q:Rat),∃(n:Nat),∃(q_1:Rat),∃(n_1:Nat),∃(b:Bool),∃(q_2:Rat),∃(n_2:Nat),ldE (Zd (frN (64:Nat)) (FgX.l x_2)) ((0:Nat)+Zs (Zb (FgX.k x_2)-(1:Int))) (0:Nat) (10:Nat)=some [Zu q n,Zu q_1 n_1,Zp (Zk b),Zu q_2 n_2]/\n+n_1+n_2+pb (Za (FgX.l x_2)-FgX.k x_2)+pb (Za (FgX.l x_2)-FgX.k x_2)<=(400000000:Nat)/\∀(n_3 m:Nat),n_3<=n+pb (Za (FgX.l x_2)-FgX.k x_2)+pb (Za (FgX.l x_2)-FgX.k x_2)+(8:Nat)*n_2+(1100:Nat)->m<=n_1+pb (Za (FgX.l x_2)-FgX.k x_2)+pb (Za (FgX.l x_2)-FgX.k x_2)+(8:Nat)*n_2+(1100:Nat)->∃(x':FgX),(FgI x'/\OfNat.ofNat (0:Nat)=(0:Nat)/\FgX.k x'<FgX.k x_2)/\Zb (FgX.c x_2)=Zb (FgX.c x')/\(0:Nat)=(0:Nat)/\Za (FgX.l x_2)=Za (FgX.l x')/\Zr (Fn.func (10:Nat)) (Zf []) (Zf [])=Zr (Fn.func (10:Nat)) (Zf []) (Zf [])/\(0:Nat)=(0:Nat)/\(0:Nat)=(0:Nat)/\Zj Zc (Zb (FgX.k x_2)-(1:Int)-(1:Int))=Zb (FgX.k x')-(1:Int)/\(34:Nat)=(34:Nat)/\(10:Nat)=(10:Nat)/\(Zd (frN (64:Nat)) (FgX.l x_2)=Zd (frN (64:Nat)) (FgX.l x')∨QE (Zd (frN (64:Nat)) (FgX.l x_2)) (Zd (frN (64:Nat)) (FgX.l x')))/\(32:Nat)=(32:Nat)/\Zi (QJ x,QJ y)=Zi (QJ x,QJ y)/\(63:Nat)<=(63:Nat)/\Zh (QJ x,QJ y)=Zh (QJ x,QJ y)/\(63:Nat)<=(63:Nat)/\(32:Nat)=(32:Nat)/\YE (FrV.mk q q_1 b q_2) (Zi (Qq (Zm (FgX.k x_2) (FgX.l x_2)) (QJ x,QJ y))) (Zh (Qq (Zm (FgX.k x_2) (FgX.l x_2)) (QJ x,QJ y)))=Zi (Qq (Zm (FgX.k x') (FgX.l x')) (QJ x,QJ y))/\n_3<=pb (Za (FgX.l x')-FgX.k x')/\YF (FrV.mk q q_1 b q_2) (Zi (Qq (Zm (FgX.k x_2) (FgX.l x_2)) (QJ x,QJ y))) (Zh (Qq (Zm (FgX.k x_2) (FgX.l x_2)) (QJ x,QJ y)))=Zh (Qq (Zm (FgX.k x') (FgX.l x')) (QJ x,QJ y))/\m<=pb (Za (FgX.l x')-FgX.k x')/\True else True/\(∃(x_3:FgX),(FgI x_3/\OfNat.ofNat (0:Nat)=(0:Nat))/\Zb (FgX.c x_2)=Zb (FgX.c x_3)/\(0:Nat)=(0:Nat)/\Za (FgX.l x_2)=Za (FgX.l x_3)/\Zr (Fn.func (10:Nat)) (Zf []) (Zf [])=Zr (Fn.func (10:Nat)) (Zf []) (Zf [])/\(0:Nat)=(0:Nat)/\(0:Nat)=(0:Nat)/\(0:Nat)=(0:Nat)/\(0:Nat)=(0:Nat)/\Za (FgX.l x_2)=Za (FgX.l x_3)/\Zb (Za (FgX.l x_2))=Zb (Za (FgX.l x_3))/\(0:Int)=Zb (FgX.k x_3)/\(34:Nat)=(34:Nat)/\(10:Nat)=(10:Nat)/\(Zd (frN (64:Nat)) (FgX.l x_2)=Zd (frN (64:Nat)) (FgX.l x_3)∨QE (Zd (frN (64:Nat)) (FgX.l x_2)) (Zd (frN (64:Nat)) (FgX.l x_3)))/\(32:Nat)=(32:Nat)/\Zi (QJ x,QJ y)=Zi (QJ x,QJ y)/\(63:Nat)<=(63:Nat)/\Zh (QJ x,QJ y)=Zh (QJ x,QJ y)/\(63:Nat)<=(63:Nat)/\(32:Nat)=(32:Nat)/\Zi (Qq (Zm (FgX.k x_2) (FgX.l x_2)) (QJ x,QJ y))=Zi (Qq (FgX.l x_3) (QJ x,QJ y))/\pb (Za (FgX.l x_2)-FgX.k x_2)<=pb (Za (FgX.l x_3))/\Zh (Qq (Zm (FgX.k x_2) (FgX.l x_2)) (QJ x,QJ y))=Zh (Qq (FgX.l x_3) (QJ x,QJ y))/\pb (Za (FgX.l x_2)-FgX.k x_2)<=pb (Za (FgX.l x_3))/\(34:Nat)=(34:Nat)/\↑(0:Int)=FrV.x (Qj (Ze (FgX.k x_3) (FgX.l x_3)))/\(64:Nat)<=bb (FgX.k x_3)/\↑(0:Int)=FrV.y (Qj (Ze (FgX.k x_3) (FgX.l x_3)))/\(64:Nat)<=bb (FgX.k x_3)/\false=FrV.h (Qj (Ze (FgX.k x_3) (FgX.l x_3)))/\↑(0:Int)=FrV.t (Qj (Ze (FgX.k x_3) (FgX.l x_3)))/\(64:Nat)<=bb (FgX.k x_3)/\True)/\∀(x_3:FgX),FgI x_3->OfNat.ofNat (0:Nat)=(0:Nat)->bif decide (Zb (FgX.k x_3)<Zb (Za (FgX.l x_3)))then((0:Int)<=Zb (FgX.k x_3)/\Zb (FgX.k x_3)<Zb (Za (FgX.l x_3)))/\∃(q:Rat),∃(n:Nat),∃(q_1:Rat),∃(n_1:Nat),∃(b:Bool),∃(q_2:Rat),∃(n_2:Nat),ldE (Zd (frN (64:Nat)) (FgX.l x_3)) ((0:Nat)+Zs (Zb (FgX.k x_3))) (0:Nat) (10:Nat)=some [Zu q n,Zu q_1 n_1,Zp (Zk b),Zu q_2 n_2]/\((b=true->q_2=OfNat.ofNat (0:Nat))/\n+n_1+n_2<=(40000000:Nat))/\∀(n_3 m o:Nat),n_3<=(10:Nat)*(n+n_1+n_2)+(20000:Nat)->m<=(10:Nat)*(n+n_1+n_2)+(20000:Nat)->o<=n_2+(64:Nat)->n_3+m+o+bb (FgX.k x_3)+bb (FgX.k x_3)+bb (FgX.k x_3)<=(400000000:Nat)/\∀(f:FrV) (n m_1 o_1:Nat),f=Qw (FrV.mk (FrV.x (Qu (FrV.mk q q_1 b q_2))) (FrV.y (Qu (FrV.mk q q_1 b q_2))) b (-q_2)) (FrV.mk (FrV.x (Qj (Ze (FgX.k x_3) (FgX.l x_3)))) (FrV.y (Qj (Ze (FgX.k x_3) (FgX.l x_3)))) (FrV.h (Qj (Ze (FgX.k x_3) (FgX.l x_3)))) (FrV.t (Qj (Ze (FgX.k x_3) (FgX.l x_3)))))->n<=n_3+bb (FgX.k x_3)+bb (FgX.k x_3)+(8:Nat)*o+(1100:Nat)->m_1<=m+bb (FgX.k x_3)+bb (FgX.k x_3)+(8:Nat)*o+(1100:Nat)->o_1<=(2:Nat)*o+(2:Nat)*bb (FgX.k x_3)+(400:Nat)->∃(x':FgX),(FgI x'/\OfNat.ofNat (0:Nat)=(0:Nat)/\Za (FgX.l x')-FgX.k x'<Za (FgX.l x_3)-FgX.k x_3)/\Zb (FgX.c x_3)=Zb (FgX.c x')/\(0:Nat)=(0:Nat)/\Za (FgX.l x_3)=Za (FgX.l x')/\Zr (Fn.func (10:Nat)) (Zf []) (Zf [])=Zr (Fn.func (10:Nat)) (Zf []) (Zf [])/\(0:Nat)=(0:Nat)/\(0:Nat)=(0:Nat)/\(0:Nat)=(0:Nat)/\(0:Nat)=(0:Nat)/\Za (FgX.l x_3)=Za (FgX.l x')/\Zb (Za (FgX.l x_3))=Zb (Za (FgX.l x'))/\Zj Zc (Zb (FgX.k x_3)+(1:Int))=Zb (FgX.k x')/\(34:Nat)=(34:Nat)/\(10:Nat)=(10:Nat)/\(Zd (frN (64:Nat)) (FgX.l x_3)=Zd (frN (64:Nat)) (FgX.l x')∨QE (Zd (frN (64:Nat)) (FgX.l x_3)) (Zd (frN (64:Nat)) (FgX.l x')))/\(32:Nat)=(32:Nat)/\Zi (QJ x,QJ y)=Zi (QJ x,QJ y)/\(63:Nat)<=(63:Nat)/\Zh (QJ x,QJ y)=Zh (QJ x,QJ y)/\(63:Nat)<=(63:Nat)/\(32:Nat)=(32:Nat)/\Zi (Qq (FgX.l x_3) (QJ x,QJ y))=Zi (Qq (FgX.l x') (QJ x,QJ y))/\pb (Za (FgX.l x_3))<=pb (Za (FgX.l x'))/\Zh (Qq (FgX.l x_3) (QJ x,QJ y))=Zh (Qq (FgX.l x') (QJ x,QJ y))/\pb (Za (FgX.l x_3))<=pb (Za (FgX.l x'))/\(34:Nat)=(34:Nat)/\FrV.x f=FrV.x (Qj (Ze (FgX.k x') (FgX.l x')))/\n<=bb (FgX.k x')/\FrV.y f=FrV.y (Qj (Ze (FgX.k x') (FgX.l x')))/\m_1<=bb (FgX.k x')/\FrV.h f=FrV.h (Qj (Ze (FgX.k x') (FgX.l x')))/\FrV.t f=FrV.t (Qj (Ze (FgX.k x') (FgX.l x')))/\o_1<=bb (FgX.k x')/\True else ∃(l:List FrV),Ze (Za (FgX.l x_3)) (Zm (0:Nat) (Zd (frN (64:Nat)) (FgX.l x_3)))=Zd (frN (64:Nat)) l/\Za l<=(4:Nat)/\((0:Int)<=(0:Int)/\(0:Int)<=Zb (FgX.c x_3)/\Zb (FgX.c x_3)<=Zb (Za (FgX.l x_3)))/\((0:Int)<=Zb (FgX.c x_3)/\Zb (FgX.c x_3)<=Zb (Za (FgX.l x_3))/\Zb (Za (FgX.l x_3))<=Zb (Za (FgX.l x_3)))/\∃(l_1:List FrV),Ze (Zs (Zb (FgX.c x_3))-(0:Nat)) (Zm (0:Nat) (Zd (frN (64:Nat)) (FgX.l x_3)))=Zd (frN (64:Nat)) l_1/\Za l_1<=(4:Nat)/\Blk.row (34:Nat) (10:Nat) (Zd (frN (64:Nat)) (FgX.l x_3))=Blk.row (34:Nat) (10:Nat) (Zd (frN (64:Nat)) (FgX.l x_3))/\∃(l_2:List FrV),Ze (Zs (Zb (Za (FgX.l x_3)))-Zs (Zb (FgX.c x_3))) (Zm ((0:Nat)+Zs (Zb (FgX.c x_3))) (Zd (frN (64:Nat)) (FgX.l x_3)))=Zd (frN (64:Nat)) l_2/\Za l_2<=(4:Nat)/\Blk.row (34:Nat) (10:Nat) (Zd (frN (64:Nat)) (FgX.l x_3))=Blk.row (34:Nat) (10:Nat) (Zd (frN (64:Nat)) (FgX.l x_3))/\gb (Za l_1)+gb (Za l_1)+gb (Za l_1)+gb (Za l_2)+gb (Za l_2)+gb (Za l_2)<=(400000000:Nat)/\∀(f:FrV) (n m o:Nat),f=Qw (FrV.mk (FrV.x (QT l_1)) (FrV.y (QT l_1)) (FrV.h (QT l_1)) (FrV.t (QT l_1))) (FrV.mk (FrV.x (QT l_2)) (FrV.y (QT l_2)) (FrV.h (QT l_2)) (FrV.t (QT l_2)))->n<=gb (Za l_1)+gb (Za l_2)+gb (Za l_2)+(8:Nat)*gb (Za l_1)+(1100:Nat)->m<=gb (Za l_1)+gb (Za l_2)+gb (Za l_2)+(8:Nat)*gb (Za l_1)+(1100:Nat)->o<=(2:Nat)*gb (Za l_1)+(2:Nat)*gb (Za l_2)+(400:Nat)->bif decide (FrV.x (QT l)=FrV.x f)&&(decide (FrV.y (QT l)=FrV.y f)&&(FrV.h (QT l)==FrV.h f&&(decide (FrV.t (QT l)=FrV.t f)&&true)))then gb (Za l)+gb (Za l)+gb (Za l)+(63:Nat)+(63:Nat)<=(400000000:Nat)/\∀(n m:Nat),n<=gb (Za l)+(63:Nat)+(63:Nat)+(8:Nat)*gb (Za l)+(1100:Nat)->m<=gb (Za l)+(63:Nat)+(63:Nat)+(8:Nat)*gb (Za l)+(1100:Nat)->bif decide (YE (FrV.mk (FrV.x (QT l)) (FrV.y (QT l)) (FrV.h (QT l)) (FrV.t (QT l))) (Zi (QJ x,QJ y)) (Zh (QJ x,QJ y))=Zi (Qq (FgX.l x_3) (QJ x,QJ y)))&&(decide (YF (FrV.mk (FrV.x (QT l)) (FrV.y (QT l)) (FrV.h (QT l)) (FrV.t (QT l))) (Zi (QJ x,QJ y)) (Zh (QJ x,QJ y))=Zh (Qq (FgX.l x_3) (QJ x,QJ y)))&&true)then bb (FgX.k x_3)+bb (FgX.k x_3)+bb (FgX.k x_3)+pb (Za (FgX.l x_3))+pb (Za (FgX.l x_3))<=(400000000:Nat)/\∀(n m:Nat),n<=bb (FgX.k x_3)+pb (Za (FgX.l x_3))+pb (Za (FgX.l x_3))+(8:Nat)*bb (FgX.k x_3)+(1100:Nat)->m<=bb (FgX.k x_3)+pb (Za (FgX.l x_3))+pb (Za (FgX.l x_3))+(8:Nat)*bb (FgX.k x_3)+(1100:Nat)->bif decide (YE (FrV.mk (FrV.x (Qj (Ze (FgX.k x_3) (FgX.l x_3)))) (FrV.y (Qj (Ze (FgX.k x_3) (FgX.l x_3)))) (FrV.h (Qj (Ze (FgX.k x_3) (FgX.l x_3)))) (FrV.t (Qj (Ze (FgX.k x_3) (FgX.l x_3))))) (Zi (Qq (FgX.l x_3) (QJ x,QJ y))) (Zh (Qq (FgX.l x_3) (QJ x,QJ y)))=Zi (QJ x,QJ y))&&(decide (YF (FrV.mk (FrV.x (Qj (Ze (FgX.k x_3) (FgX.l x_3)))) (FrV.y (Qj (Ze (FgX.k x_3) (FgX.l x_3)))) (FrV.h (Qj (Ze (FgX.k x_3) (FgX.l x_3)))) (FrV.t (Qj (Ze (FgX.k x_3) (FgX.l x_3))))) (Zi (Qq (FgX.l x_3) (QJ x,QJ y))) (Zh (Qq (FgX.l x_3) (QJ x,QJ y)))=Zh (QJ x,QJ y))&&true)then((FrV.h (QT l)=true->FrV.t (QT l)=OfNat.ofNat (0:Nat))/\gb (Za l)+gb (Za l)+gb (Za l)<=(40000000:Nat))/\∀(n m o:Nat),n<=(10:Nat)*(gb (Za l)+gb (Za l)+gb (Za l))+(20000:Nat)->m<=(10:Nat)*(gb (Za l)+gb (Za l)+gb (Za l))+(20000:Nat)->o<=gb (Za l)+(64:Nat)->K (AV.x false [Zp (Zk (decide (FrV.x (Qj (Ze (FgX.k x_3) (FgX.l x_3)))=FrV.x (Qu (FrV.mk (FrV.x (QT l)) (FrV.y (QT l)) (FrV.h (QT l)) (FrV.t (QT l)))))&&(decide (FrV.y (Qj (Ze (FgX.k x_3) (FgX.l x_3)))=FrV.y (Qu (FrV.mk (FrV.x (QT l)) (FrV.y (QT l)) (FrV.h (QT l)) (FrV.t (QT l)))))&&(FrV.h (Qj (Ze (FgX.k x_3) (FgX.l x_3)))==FrV.h (QT l)&&(decide (FrV.t (Qj (Ze (FgX.k x_3) (FgX.l x_3)))= -FrV.t (QT l))&&true)))))])else K (AV.x false [Zp (Zk false)])else K (AV.x false [Zp (Zk false)])else K (AV.x false [Zp (Zk false)])else((0:Int)<Zj Zc (Zb (Za x_1)+(1:Int))/\Zj Zc (Zb (Za x_1)+(1:Int))<(9223372036854775808:Int))/\((-9223372036854775808:Int)<=x/\x<(9223372036854775808:Int))/\((-9223372036854775808:Int)<=y/\y<(9223372036854775808:Int))/\(∃(x_2:FgX),(FgI x_2/\OfNat.ofNat (0:Nat)=(0:Nat))/\c%Zj Zc (Zb (Za x_1)+(1:Int))=Zb (FgX.c x_2)/\(0:Nat)=(0:Nat)/\Za x_1=Za (FgX.l x_2)/\Zr (Fn.func (10:Nat)) (Zf []) (Zf [])=Zr (Fn.func (10:Nat)) (Zf []) (Zf [])/\(0:Nat)=(0:Nat)/\(0:Nat)=(0:Nat)/\Zj Zc (Zb (Za x_1)-(1:Int))=Zb (FgX.k x_2)-(1:Int)/\(34:Nat)=(34:Nat)/\(10:Nat)=(10:Nat)/\(Zd (frN (64:Nat)) x_1=Zd (frN (64:Nat)) (FgX.l x_2)∨QE (Zd (frN (64:Nat)) x_1) (Zd (frN (64:Nat)) (FgX.l x_2)))/\(32:Nat)=(32:Nat)/\QJ x=Zi (QJ x,QJ y)/\(63:Nat)<=(63:Nat)/\QJ y=Zh (QJ x,QJ y)/\(63:Nat)<=(63:Nat)/\(32:Nat)=(32:Nat)/\QJ x=Zi (Qq (Zm (FgX.k x_2) (FgX.l x_2)) (QJ x,QJ y))/\(63:Nat)<=pb (Za (FgX.l x_2)-FgX.k x_2)/\QJ y=Zh (Qq (Zm (FgX.k x_2) (FgX.l x_2)) (QJ x,QJ y))/\(63:Nat)<=pb (Za (FgX.l x_2)-FgX.k x_2)/\True)/\∀(x_2:FgX),FgI x_2->OfNat.ofNat (0:Nat)=(0:Nat)->bif decide (Zb (FgX.k x_2)-(1:Int)≥(0:Int))then((0:Int)<=Zb (FgX.k x_2)-(1:Int)/\Zb (FgX.k x_2)-(1:Int)<Zb (Za (FgX.l x_2)))/\∃(q:Rat),∃(n:Nat),∃(q_1:Rat),∃(n_1:Nat),∃(b:Bool),∃(q_2:Rat),∃(n_2:Nat),ldE (Zd (frN (64:Nat)) (FgX.l x_2)) ((0:Nat)+Zs (Zb (FgX.k x_2)-(1:Int))) (0:Nat) (10:Nat)=some [Zu q n,Zu q_1 n_1,Zp (Zk b),Zu q_2 n_2]/\n+n_1+n_2+pb (Za (FgX.l x_2)-FgX.k x_2)+pb (Za (FgX.l x_2)-FgX.k x_2)<=(400000000:Nat)/\∀(n_3 m:Nat),n_3<=n+pb (Za (FgX.l x_2)-FgX.k x_2)+pb (Za (FgX.l x_2)-FgX.k x_2)+(8:Nat)*n_2+(1100:Nat)->m<=n_1+pb (Za (FgX.l x_2)-FgX.k x_2)+pb (Za (FgX.l x_2)-FgX.k x_2)+(8:Nat)*n_2+(1100:Nat)->∃(x':FgX),(FgI x'/\OfNat.ofNat (0:Nat)=(0:Nat)/\FgX.k x'<FgX.k x_2)/\Zb (FgX.c x_2)=Zb (FgX.c x')/\(0:Nat)=(0:Nat)/\Za (FgX.l x_2)=Za (FgX.l x')/\Zr (Fn.func (10:Nat)) (Zf []) (Zf [])=Zr (Fn.func (10:Nat)) (Zf []) (Zf [])/\(0:Nat)=(0:Nat)/\(0:Nat)=(0:Nat)/\Zj Zc (Zb (FgX.k x_2)-(1:Int)-(1:Int))=Zb (FgX.k x')-(1:Int)/\(34:Nat)=(34:Nat)/\(10:Nat)=(10:Nat)/\(Zd (frN (64:Nat)) (FgX.l x_2)=Zd (frN (64:Nat)) (FgX.l x')∨QE (Zd (frN (64:Nat)) (FgX.l x_2)) (Zd (frN (64:Nat)) (FgX.l x')))/\(32:Nat)=(32:Nat)/\Zi (QJ x,QJ y)=Zi (QJ x,QJ y)/\(63:Nat)<=(63:Nat)/\Zh (QJ x,QJ y)=Zh (QJ x,QJ y)/\(63:Nat)<=(63:Nat)/\(32:Nat)=(32:Nat)/\YE (FrV.mk q q_1 b q_2) (Zi (Qq (Zm (FgX.k x_2) (FgX.l x_2)) (QJ x,QJ y))) (Zh (Qq (Zm (FgX.k x_2) (FgX.l x_2)) (QJ x,QJ y)))=Zi (Qq (Zm (FgX.k x') (FgX.l x')) (QJ x,QJ y))/\n_3<=pb (Za (FgX.l x')-FgX.k x')/\YF (FrV.mk q q_1 b q_2) (Zi (Qq (Zm (FgX.k x_2) (FgX.l x_2)) (QJ x,QJ y))) (Zh (Qq (Zm (FgX.k x_2) (FgX.l x_2)) (QJ x,QJ y)))=Zh (Qq (Zm (FgX.k x') (FgX.l x')) (QJ x,QJ y))/\m<=pb (Za (FgX.l x')-FgX.k x')/\True else True/\(∃(x_3:FgX),(FgI x_3/\OfNat.ofNat (0:Nat)=(0:Nat))/\Zb (FgX.c x_2)=Zb (FgX.c x_3)/\(0:Nat)=(0:Nat)/\Za (FgX.l x_2)=Za (FgX.l x_3)/\Zr (Fn.func (10:Nat)) (Zf []) (Zf [])=Zr (Fn.func (10:Nat)) (Zf []) (Zf [])/\(0:Nat)=(0:Nat)/\(0:Nat)=(0:Nat)/\(0:Nat)=(0:Nat)/\(0:Nat)=(0:Nat)/\Za (FgX.l x_2)=Za (FgX.l x_3)/\Zb (Za (FgX.l x_2))=Zb (Za (FgX.l x_3))/\(0:Int)=Zb (FgX.k x_3)/\(34:Nat)=(34:Nat)/\(10:Nat)=(10:Nat)/\(Zd (frN (64:Nat)) (FgX.l x_2)=Zd (frN (64:Nat)) (FgX.l x_3)∨QE (Zd (frN (64:Nat)) (FgX.l x_2)) (Zd (frN (64:Nat)) (FgX.l x_3)))/\(32:Nat)=(32:Nat)/\Zi (QJ x,QJ y)=Zi (QJ x,QJ y)/\(63:Nat)<=(63:Nat)/\Zh (QJ x,QJ y)=Zh (QJ x,QJ y)/\(63:Nat)<=(63:Nat)/\(32:Nat)=(32:Nat)/\Zi (Qq (Zm (FgX.k x_2) (FgX.l x_2)) (QJ x,QJ y))=Zi (Qq (FgX.l x_3) (QJ x,QJ y))/\pb (Za (FgX.l x_2)-FgX.k x_2)<=pb (Za (FgX.l x_3))/\Zh (Qq (Zm (FgX.k x_2) (FgX.l x_2)) (QJ x,QJ y))=Zh (Qq (FgX.l x_3) (QJ x,QJ y))/\pb (Za (FgX.l x_2)-FgX.k x_2)<=pb (Za (FgX.l x_3))/\(34:Nat)=(34:Nat)/\↑(0:Int)=FrV.x (Qj (Ze (FgX.k x_3) (FgX.l x_3)))/\(64:Nat)<=bb (FgX.k x_3)/\↑(0:Int)=FrV.y (Qj (Ze (FgX.k x_3) (FgX.l x_3)))/\(64:Nat)<=bb (FgX.k x_3)/\false=FrV.h (Qj (Ze (FgX.k x_3) (FgX.l x_3)))/\↑(0:Int)=FrV.t (Qj (Ze (FgX.k x_3) (FgX.l x_3)))/\(64:Nat)<=bb (FgX.k x_3)/\True)/\∀(x_3:FgX),FgI x_3->OfNat.ofNat (0:Nat)=(0:Nat)->bif decide (Zb (FgX.k x_3)<Zb (Za (FgX.l x_3)))then((0:Int)<=Zb (FgX.k x_3)/\Zb (FgX.k x_3)<Zb (Za (FgX.l x_3)))/\∃(q:Rat),∃(n:Nat),∃(q_1:Rat),∃(n_1:Nat),∃(b:Bool),∃(q_2:Rat),∃(n_2:Nat),ldE (Zd (frN (64:Nat)) (FgX.l x_3)) ((0:Nat)+Zs (Zb (FgX.k x_3))) (0:Nat) (10:Nat)=some [Zu q n,Zu q_1 n_1,Zp (Zk b),Zu q_2 n_2]/\((b=true->q_2=OfNat.ofNat (0:Nat))/\n+n_1+n_2<=(40000000:Nat))/\∀(n_3 m o:Nat),n_3<=(10:Nat)*(n+n_1+n_2)+(20000:Nat)->m<=(10:Nat)*(n+n_1+n_2)+(20000:Nat)->o<=n_2+(64:Nat)->n_3+m+o+bb (FgX.k x_3)+bb (FgX.k x_3)+bb (FgX.k x_3)<=(400000000:Nat)/\∀(f:FrV) (n m_1 o_1:Nat),f=Qw (FrV.mk (FrV.x (Qu (FrV.mk q q_1 b q_2))) (FrV.y (Qu (FrV.mk q q_1 b q_2))) b (-q_2)) (FrV.mk (FrV.x (Qj (Ze (FgX.k x_3) (FgX.l x_3)))) (FrV.y (Qj (Ze (FgX.k x_3) (FgX.l x_3)))) (FrV.h (Qj (Ze (FgX.k x_3) (FgX.l x_3)))) (FrV.t (Qj (Ze (FgX.k x_3) (FgX.l x_3)))))->n<=n_3+bb (FgX.k x_3)+bb (FgX.k x_3)+(8:Nat)*o+(1100:Nat)->m_1<=m+bb (FgX.k x_3)+bb (FgX.k x_3)+(8:Nat)*o+(1100:Nat)->o_1<=(2:Nat)*o+(2:Nat)*bb (FgX.k x_3)+(400:Nat)->∃(x':FgX),(FgI x'/\OfNat.ofNat (0:Nat)=(0:Nat)/\Za (FgX.l x')-FgX.k x'<Za (FgX.l x_3)-FgX.k x_3)/\Zb (FgX.c x_3)=Zb (FgX.c x')/\(0:Nat)=(0:Nat)/\Za (FgX.l x_3)=Za (FgX.l x')/\Zr (Fn.func (10:Nat)) (Zf []) (Zf [])=Zr (Fn.func (10:Nat)) (Zf []) (Zf [])/\(0:Nat)=(0:Nat)/\(0:Nat)=(0:Nat)/\(0:Nat)=(0:Nat)/\(0:Nat)=(0:Nat)/\Za (FgX.l x_3)=Za (FgX.l x')/\Zb (Za (FgX.l x_3))=Zb (Za (FgX.l x'))/\Zj Zc (Zb (FgX.k x_3)+(1:Int))=Zb (FgX.k x')/\(34:Nat)=(34:Nat)/\(10:Nat)=(10:Nat)/\(Zd (frN (64:Nat)) (FgX.l x_3)=Zd (frN (64:Nat)) (FgX.l x')∨QE (Zd (frN (64:Nat)) (FgX.l x_3)) (Zd (frN (64:Nat)) (FgX.l x')))/\(32:Nat)=(32:Nat)/\Zi (QJ x,QJ y)=Zi (QJ x,QJ y)/\(63:Nat)<=(63:Nat)/\Zh (QJ x,QJ y)=Zh (QJ x,QJ y)/\(63:Nat)<=(63:Nat)/\(32:Nat)=(32:Nat)/\Zi (Qq (FgX.l x_3) (QJ x,QJ y))=Zi (Qq (FgX.l x') (QJ x,QJ y))/\pb (Za (FgX.l x_3))<=pb (Za (FgX.l x'))/\Zh (Qq (FgX.l x_3) (QJ x,QJ y))=Zh (Qq (FgX.l x') (QJ x,QJ y))/\pb (Za (FgX.l x_3))<=pb (Za (FgX.l x'))/\(34:Nat)=(34:Nat)/\FrV.x f=FrV.x (Qj (Ze (FgX.k x') (FgX.l x')))/\n<=bb (FgX.k x')/\FrV.y f=FrV.y (Qj (Ze (FgX.k x') (FgX.l x')))/\m_1<=bb (FgX.k x')/\FrV.h f=FrV.h (Qj (Ze (FgX.k x') (FgX.l x')))/\FrV.t f=FrV.t (Qj (Ze (FgX.k x') (FgX.l x')))/\o_1<=bb (FgX.k x')/\True else ∃(l:List FrV),Ze (Za (FgX.l x_3)) (Zm (0:Nat) (Zd (frN (64:Nat)) (FgX.l x_3)))=Zd (frN (64:Nat)) l/\Za l<=(4:Nat)/\((0:Int)<=(0:Int)/\(0:Int)<=Zb (FgX.c x_3)/\Zb (FgX.c x_3)<=Zb (Za (FgX.l x_3)))/\((0:Int)<=Zb (FgX.c x_3)/\Zb (FgX.c x_3)<=Zb (Za (FgX.l x_3))/\Zb (Za (FgX.l x_3))<=Zb (Za (FgX.l x_3)))/\∃(l_1:List FrV),Ze (Zs (Zb (FgX.c x_3))-(0:Nat)) (Zm (0:Nat) (Zd (frN (64:Nat)) (FgX.l x_3)))=Zd (frN (64:Nat)) l_1/\Za l_1<=(4:Nat)/\Blk.row (34:Nat) (10:Nat) (Zd (frN (64:Nat)) (FgX.l x_3))=Blk.row (34:Nat) (10:Nat) (Zd (frN (64:Nat)) (FgX.l x_3))/\∃(l_2:List FrV),Ze (Zs (Zb (Za (FgX.l x_3)))-Zs (Zb (FgX.c x_3))) (Zm ((0:Nat)+Zs (Zb (FgX.c x_3))) (Zd (frN (64:Nat)) (FgX.l x_3)))=Zd (frN (64:Nat)) l_2/\Za l_2<=(4:Nat)/\Blk.row (34:Nat) (10:Nat) (Zd (frN (64:Nat)) (FgX.l x_3))=Blk.row (34:Nat) (10:Nat) (Zd (frN (64:Nat)) (FgX.l x_3))/\gb (Za l_1)+gb (Za l_1)+gb (Za l_1)+gb (Za l_2)+gb (Za l_2)+gb (Za l_2)<=(400000000:Nat)/\∀(f:FrV) (n m o:Nat),f=Qw (FrV.mk (FrV.x (QT l_1)) (FrV.y (QT l_1)) (FrV.h (QT l_1)) (FrV.t (QT l_1))) (FrV.mk (FrV.x (QT l_2)) (FrV.y (QT l_2)) (FrV.h (QT l_2)) (FrV.t (QT l_2)))->n<=gb (Za l_1)+gb (Za l_2)+gb (Za l_2)+(8:Nat)*gb (Za l_1)+(1100:Nat)->m<=gb (Za l_1)+gb (Za l_2)+gb (Za l_2)+(8:Nat)*gb (Za l_1)+(1100:Nat)->o<=(2:Nat)*gb (Za l_1)+(2:Nat)*gb (Za l_2)+(400:Nat)->bif decide (FrV.x (QT l)=FrV.x f)&&(decide (FrV.y (QT l)=FrV.y f)&&(FrV.h (QT l)==FrV.h f&&(decide (FrV.t (QT l)=FrV.t f)&&true)))then gb (Za l)+gb (Za l)+gb (Za l)+(63:Nat)+(63:Nat)<=(400000000:Nat)/\∀(n m:Nat),n<=gb (Za l)+(63:Nat)+(63:Nat)+(8:Nat)*gb (Za l)+(1100:Nat)->m<=gb (Za l)+(63:Nat)+(63:Nat)+(8:Nat)*gb (Za l)+(1100:Nat)->bif decide (YE (FrV.mk (FrV.x (QT l)) (FrV.y (QT l)) (FrV.h (QT l)) (FrV.t (QT l))) (Zi (QJ x,QJ y)) (Zh (QJ x,QJ y))=Zi (Qq (FgX.l x_3) (QJ x,QJ y)))&&(decide (YF (FrV.mk (FrV.x (QT l)) (FrV.y (QT l)) (FrV.h (QT l)) (FrV.t (QT l))) (Zi (QJ x,QJ y)) (Zh (QJ x,QJ y))=Zh (Qq (FgX.l x_3) (QJ x,QJ y)))&&true)then bb (FgX.k x_3)+bb (FgX.k x_3)+bb (FgX.k x_3)+pb (Za (FgX.l x_3))+pb (Za (FgX.l x_3))<=(400000000:Nat)/\∀(n m:Nat),n<=bb (FgX.k x_3)+pb (Za (FgX.l x_3))+pb (Za (FgX.l x_3))+(8:Nat)*bb (FgX.k x_3)+(1100:Nat)->m<=bb (FgX.k x_3)+pb (Za (FgX.l x_3))+pb (Za (FgX.l x_3))+(8:Nat)*bb (FgX.k x_3)+(1100:Nat)->bif decide (YE (FrV.mk (FrV.x (Qj (Ze (FgX.k x_3) (FgX.l x_3)))) (FrV.y (Qj (Ze (FgX.k x_3) (FgX.l x_3)))) (FrV.h (Qj (Ze (FgX.k x_3) (FgX.l x_3)))) (FrV.t (Qj (Ze (FgX.k x_3) (FgX.l x_3))))) (Zi (Qq (FgX.l x_3) (QJ x,QJ y))) (Zh (Qq (FgX.l x_3) (QJ x,QJ y)))=Zi (QJ x,QJ y))&&(decide (YF (FrV.mk (FrV.x (Qj (Ze (FgX.k x_3) (FgX.l x_3)))) (FrV.y (Qj (Ze (FgX.k x_3) (FgX.l x_3)))) (FrV.h (Qj (Ze (FgX.k x_3) (FgX.l x_3)))) (FrV.t (Qj (Ze (FgX.k x_3) (FgX.l x_3))))) (Zi (Qq (FgX.l x_3) (QJ x,QJ y))) (Zh (Qq (FgX.l x_3) (QJ x,QJ y)))=Zh (QJ x,QJ y))&&true)then((FrV.h (QT l)=true->FrV.t (QT l)=OfNat.ofNat (0:Nat))/\gb (Za l)+gb (Za l)+gb (Za l)<=(40000000:Nat))/\∀(n m o:Nat),n<=(10:Nat)*(gb (Za l)+gb (Za l)+gb (Za l))+(20000:Nat)->m<=(10:Nat)*(gb (Za l)+gb (Za l)+gb (Za l))+(20000:Nat)->o<=gb (Za l)+(64:Nat)->K (AV.x false [Zp (Zk (decide (FrV.x (Qj (Ze (FgX.k x_3) (FgX.l x_3)))=FrV.x (Qu (FrV.mk (FrV.x (QT l)) (FrV.y (QT l)) (FrV.h (QT l)) (FrV.t (QT l)))))&&(decide (FrV.y (Qj (Ze (FgX.k x_3) (FgX.l x_3)))=FrV.y (Qu (FrV.mk (FrV.x (QT l)) (FrV.y (QT l)) (FrV.h (QT l)) (FrV.t (QT l)))))&&(FrV.h (Qj (Ze (FgX.k x_3) (FgX.l x_3)))==FrV.h (QT l)&&(decide (FrV.t (Qj (Ze (FgX.k x_3) (FgX.l x_3)))= -FrV.t (QT l))&&true)))))])else K (AV.x false [Zp (Zk false)])else K (AV.x false [Zp (Zk false)])else K (AV.x false [Zp (Zk false)]))) ?_
 simp only[Zt,R0,R1,Yc,Zo,R4];refine⟨⟨[],⟨by decide,by simp⟩,rfl,rfl,rfl⟩,fun l ⟨hn,hok⟩=> ?_⟩;rw[QKK];have w1:Zc.wrap (((3*l.length:Nat):Int)+1)=((3*l.length+1:Nat):Int):=by rw[w64 (by omega)];omega
 have w2:Zc.wrap (((3*l.length:Nat):Int)+2)=((3*l.length+2:Nat):Int):=by rw[w64 (by omega)];omega
 have w3:Zc.wrap (((3*l.length:Nat):Int)+3)=((3*l.length+3:Nat):Int):=by rw[w64 (by omega)];omega
 simp only[w1,w2,w3];refine(fun rest=>QG (fun h1=>QG (fun h2=> ?_) (fun _=>rest)) (fun _=>rest)) ?_
 ·have h1:3*l.length+2<ls.length:=by have:=R5 h1;omega
  have h2:l.length<4:=by have:=R5 h2;omega
  obtain⟨a,ha⟩: ∃a,ls[3*l.length]? =some a:=⟨_,Zq (by omega)⟩
  obtain⟨b,hb⟩: ∃b,ls[3*l.length+1]? =some b:=⟨_,Zq (by omega)⟩
  obtain⟨d,hd⟩: ∃d,ls[3*l.length+2]? =some d:=⟨_,Zq (by omega)⟩
  have ra:=he a (Zy ha);have rb:=he b (Zy hb);have rd:=he d (Zy hd);refine⟨by omega,d,by rw[Zn];exact UR hd,rd,by omega,by omega,d,by rw[Zn];exact UR hd,by omega,QG (fun _=> ?_) (fun _=> ?_)⟩
  ·refine⟨by omega,by omega,a,by rw[Zn];exact UR ha,by omega,b,by rw[Zn];exact UR hb,ra,rb,by omega,l++[⟨QJ a,QJ b,true,((0:Int):Rat)⟩],⟨⟨by simp;omega,fun f hf=> ?_⟩,by simp;omega⟩,by simp,by simp;omega,.inr (QG3 (f:=⟨QJ a,QJ b,true,((0:Int):Rat)⟩) (by omega) (by omega) (by omega))⟩;rcases List.mem_append.1 hf with hf | hf
   ·exact hok f hf
   ·simp at hf;subst hf;exact fun _=>z0
  ·refine⟨by omega,a,by rw[Zn];exact UR ha,by omega,b,by rw[Zn];exact UR hb,ra,rb,by omega,l++[⟨QJ a,QJ b,false,QJ d⟩],⟨⟨by simp;omega,fun f hf=> ?_⟩,by simp;omega⟩,by simp,by simp;omega,.inr (QG3 (f:=⟨QJ a,QJ b,false,QJ d⟩) (by omega) (by omega) (by omega))⟩;rcases List.mem_append.1 hf with hf | hf
   ·exact hok f hf
   ·simp at hf;subst hf;exact fun h=>by cases h
 ·have w4:Zc.wrap ((l.length:Int)+1)=((l.length+1:Nat):Int):=by rw[w64 (by omega)];omega
  have w5:Zc.wrap ((l.length:Int)-1)=(l.length:Int)-1:=w64 (by omega);simp only[w4,w5];have c1:=Int.emod_nonneg c (show((l.length+1:Nat):Int)≠0 by omega);have c2:=Int.emod_lt_of_pos c (show(0:Int)<((l.length+1:Nat):Int)by omega);refine⟨by omega,hx,hy,⟨⟨l,l.length,(c % ((l.length+1:Nat):Int)).toNat⟩,⟨hn,hok,Zo _,by simp only;omega⟩,by simp only;omega,rfl,rfl,.inl rfl,?_⟩,fun e he=>QG (fun hp=> ?_) (fun hp=> ?_)⟩
  ·simp only[List.drop_length,Nat.sub_self];exact⟨rfl,by decide,rfl,by decide⟩
  ·have hk:1<=e.k:=by have:=R5 hp;omega
   have hek:=he.k;have hen:=he.n;obtain⟨f0,hf⟩: ∃f,e.l[e.k-1]? =some f:=⟨_,Zq (by omega)⟩
   have ek:(e.k:Int)-1=((e.k-1:Nat):Int):=by omega
   have hb:=QP8 (n:=e.l.length-e.k) (by omega);have eb:pb (e.l.length-(e.k-1))=2*pb (e.l.length-e.k)+2000:=by
    rw[show e.l.length-(e.k-1)=(e.l.length-e.k)+1 by omega];rfl
   have ep:=QF1 hf (QJ x,QJ y);rw[show e.k-1+1=e.k by omega]at ep;refine⟨by omega,f0.x,64,f0.y,64,f0.h,f0.t,64,by rw[ek,Zn];exact QFy hf,by omega,fun n m hn' hm'=>⟨⟨e.l,e.k-1,e.c⟩,⟨⟨he.n,he.ok,by simp only;omega,he.c⟩,by simp only;omega⟩,rfl,rfl,by simp only;rw[w64 (by omega)];omega,.inl rfl,congrArg Zi ep.symm,by simp only[eb];omega,congrArg Zh ep.symm,by simp only[eb];omega⟩⟩
  ·have hk:e.k=0:=by have:=R6 hp;omega
   rw[hk,Ya,Nat.sub_zero];refine⟨⟨⟨e.l,0,e.c⟩,⟨he.n,he.ok,Nat.zero_le _,he.c⟩,rfl,rfl,rfl,rfl,rfl,.inl rfl,rfl,Zo _,rfl,Zo _,rfl,Zo _,rfl,Zo _,rfl,rfl,Zo _⟩,fun e he=>QG (fun hp=> ?_) (fun hp=> ?_)⟩
   ·have hk:e.k<e.l.length:=by have:=R5 hp;omega
    have hen:=he.n;obtain⟨f0,hf⟩: ∃f,e.l[e.k]? =some f:=⟨_,Zq hk⟩
    have hb:=QP7 (n:=e.k) (by omega);have eq:=QF0 hf;have eb:bb (e.k+1)=2*bb e.k+60000:=rfl;refine⟨by omega,f0.x,64,f0.y,64,f0.h,f0.t,64,by rw[Zn];exact QFy hf,⟨he.ok f0 (Zy hf),by omega⟩,fun n m o hn1 hm1 ho1=>⟨by omega,fun f n2 m2 o2 hf2 hn2 hm2 ho2=> ?_⟩⟩;subst hf2;exact⟨⟨e.l,e.k+1,e.c⟩,⟨⟨he.n,he.ok,hk,he.c⟩,by simp only;omega⟩,rfl,rfl,rfl,rfl,by simp only;rw[w64 (by omega)];omega,.inl rfl,rfl,Zo _,rfl,Zo _,congrArg FrV.x eq.symm,by simp only[eb];omega,congrArg FrV.y eq.symm,by simp only[eb];omega,congrArg FrV.h eq.symm,congrArg FrV.t eq.symm,by simp only[eb];omega⟩
   ·have hk:e.k=e.l.length:=by have:=R6 hp;have:=he.k;omega
    rw[hk,List.take_length];have hen:=he.n;have hec:=he.c;obtain⟨f1,f2,f3,f4⟩:=QCE he.ok e.c (QJ x,QJ y);have f4h:(Qj e.l).h=(QT e.l).h:=by rw[f4];rfl
    have f4t:(Qj e.l).t= -(QT e.l).t:=by rw[f4];rfl
    have g0:=QG4 (n:=e.l.length) hen;have g1:=QG4 (n:=(e.l.take e.c).length) (by simp;omega);have g2:=QG4 (n:=(e.l.drop e.c).length) (by simp;omega);have b0:=QP7 (n:=e.l.length) hen;have p0:=QP8 (n:=e.l.length) hen;refine⟨e.l,by rw[Ya,Zx (by simp)],hen,by omega,by omega,e.l.take e.c,by rw[Ya,Zn,Nat.sub_zero,<-List.map_take],by simp;omega,e.l.drop e.c,by rw[Zn,Zn,Zx (by simp),<-List.map_drop],by simp;omega,by omega,fun f n m o hf _ _ _=> ?_⟩;have hf':f=QT e.l:=hf.trans f1.symm;clear hf;subst hf';refine QFx (by simp) ⟨by omega,fun n m _ _=>QFx (KX (decide_eq_true (congrArg Zi f2)) (KX (decide_eq_true (congrArg Zh f2)) rfl)) ⟨by omega,fun n m _ _=>QFx (KX (decide_eq_true (congrArg Zi f3)) (KX (decide_eq_true (congrArg Zh f3)) rfl)) ⟨⟨Ge he.ok,by omega⟩,fun n m o _ _ _=> ?_⟩⟩⟩
    exact Eq.mp (congrArg (fun b=>K (.x false [.v (.bool b)])) (Eq.symm (KX (decide_eq_true (congrArg FrV.x f4)) (KX (decide_eq_true (congrArg FrV.y f4)) (KX (beq_iff_eq.2 f4h) (KX (decide_eq_true f4t) rfl)))))) hK
theorem QDq (l:List Int)(x y c:Int)(hl:l.length*8<=140737488351232)(he: ∀n∈l,-9223372036854775808<=n/\n<9223372036854775808)(hx: -9223372036854775808<=x/\x<9223372036854775808)(hy: -9223372036854775808<=y/\y<9223372036854775808)(hc: -9223372036854775808<=c/\c<9223372036854775808):Eng.Spec Tryz.prog QDG Gx 3 [.x false [.s 1 (ints l)],iA .i64 x,iA .i64 y,iA .i64 c] (fun av=>av= .x false [.v (.bool true)]):=
 Qb (QSj QPC XC Q0) QO Tryz.func3 (by kernel_rfl) (by kernel_rfl) (by rfl) (QME l x y c (by omega) he hx hy hc _ rfl)
end Go.Proofs
