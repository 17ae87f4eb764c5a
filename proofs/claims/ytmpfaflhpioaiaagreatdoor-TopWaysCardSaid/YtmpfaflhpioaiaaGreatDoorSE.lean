/- Placed shapes: List, Place, Convex, Area, Around. -/
import Derived.Test.YtmpfaflhpioaiaaGreatDoorFL
open _root_ renaming List → A, Rat → B, Nat → C
open Bool renaming false → D
open Option renaming some → E
open Int renaming ofNat → F, ofNat_eq_natCast → Zj
open List renaming length → G, map → Zb, take → Zk, getElem?_eq_some_iff → Zf, getElem?_eq_getElem → Zg, take_of_length_le → Zh, replicate → Zo, getElem?_map → Zn
open Go.Eng.Ch renaming r → H, v → I
open Go.Value renaming bool → Zd, string → Zc
open ByteArray renaming mk → Ze
open Array renaming mk → Zm
set_option maxHeartbeats 1000000
set_option maxRecDepth 100000
namespace Go.Proofs
open Go Go.Eng Tryz
def zV:A Ch:=Xm++Xm
def Wl (f:FrV)(l:A (B×B))(i:C):A (A Ch):=((l.take i).map fun p=>QS 115300000 (plV f p))++Zo (G l-i) zV
def QUl (f:FrV)(i j k n:C)(l:A (B×B)):LI:=fun _=> .inv ⟨C,fun x=>⟨[(2,.x D [.p 2 0]),(5,.x D [.w 500 0 l.length]),(11,sVv n l),(12,iA .i64 l.length),(13,iA .i64 x)],
 [(2,.box 31 [.r f.x i,.r f.y j,.v (.bool f.h),.r f.t k]),(500,.row 27 6 (Wl f l x))]⟩,fun x=>x<=G l,fun x=>G l-x,fun _=>0⟩
def X6 (fs:A FrV)(ls:A QV):A (A (B×B)):=A.zipWith (fun f L=>L.shape.map (plV f)) fs ls
def shN (n:C)(l:A (A (B×B))):A (A Ch):=l.map fun s=>[Ch.s 6 (s.map (QS n))]
def QQy (a:ArmV)(q:A B):LI:=fun _=> .inv ⟨TqX,fun x=>⟨[(2,.x D [.p 2 0]),(6,.x D [.s 10 (x.fs.map WN++[frN (zm a.za.length) x.f])]),(8,.x D [.w 500 0 x.i]),(21,.x D [.s 16 (a.za.map QA)]),(22,iA .i64 a.za.length),(23,iA .i64 x.i)],
 [(2,.box 34 (Qp a)),(500,.row 59 1 (shN 115300000 ((X6 x.fs a.za).take x.i)))]⟩,TqI a q,fun x=>G a.za-x.i,fun _=>0⟩
structure X9 where
 x1:B
 y1:B
 x2:B
 y2:B
def Qv (b:X9)(v:B×B):X9:=⟨Qx b.x1 v.1,Qx b.y1 v.2,Q6 b.x2 v.1,Q6 b.y2 v.2⟩
def bxN (n:C)(b:X9):A Ch:=[.r b.x1 n,.r b.y1 n,.r b.x2 n,.r b.y2 n]
theorem UT (f:FrV)(l:A (B×B))(i:C)(h:i<=G l):(Wl f l i).length=G l:=by
 simp[Wl];omega
variable{i:C}
theorem QJW (f:FrV){l:A (B×B)}{x:C}{p:B×B}(c:x<=G l)(h:l[i]? =E p):(Wl f l x)[i]? =E (if i<x then QS 115300000 (plV f p)else zV):=by
 have b:=(Zf.1 h).1;unfold Wl;by_cases a:i<x
 ·rw[A.getElem?_append_left o9,if_pos a,Zn,A.getElem?_take,if_pos a,h];rfl
 ·rw[A.getElem?_append_right o9,if_neg a,A.getElem?_replicate,if_pos o9]
theorem QUm (f:FrV){l:A (B×B)}{x n m:C}{p:B×B}(h:l[x]? =E p)(o:n<=115300000)(j:m<=115300000):QC ((Wl f l x).set x [.r (plV f p).1 n,.r (plV f p).2 m]) (Wl f l (x+1)):=by
 have r:=(Zf.1 h).1;refine⟨by rw[A.length_set,UT f l x o3,UT f l (x+1) o3],fun i c d b a=> ?_⟩;have g:i<G l:=by
  have:=(Zf.1 a).1;rw[UT f l (x+1) o3]at this;exact this
 obtain⟨q,hq⟩: ∃q,l[i]? =E q:=⟨_,Zg g⟩
 rw[QJW f o3 hq]at a;by_cases e:i=x
 ·subst e;rw[h]at hq;cases hq
  rw[if_pos o3]at a;cases a
  rw[A.getElem?_set_self (by rw[UT f l i o3];exact g)]at b;cases b
  exact⟨.r o (.r j .nil),rfl⟩
 ·rw[A.getElem?_set_ne (fun h=>e h.symm),QJW f o3 hq]at b;by_cases k:i<x
  ·rw[if_pos o3]at b a;cases b;cases a
   exact⟨.r (C.le_refl _) (.r (C.le_refl _) .nil),rfl⟩
  ·rw[if_neg o3]at b a;cases b;cases a
   exact⟨.v (.v (.v (.v (.v (.v .nil))))),rfl⟩
theorem QUn (f:FrV)(l:A (B×B)):Wl f l l.length=(l.map (plV f)).map (QS 115300000):=by
 unfold Wl;rw[A.take_length,C.sub_self,A.replicate_zero,A.append_nil,A.map_map];rfl
variable{fs:A FrV}
theorem QgE{f:FrV}(z:A (A Ch))(h:fs[i]? =E f):ldE (fs.map WN++z) i 0 10=E [.r f.x 12800000,.r f.y 12800000,.v (.bool f.h),.r f.t 12800000]:=by
 have a:=(Zf.1 h).1;simp only[ldE,A.getElem?_append_left (j9 a:i<(fs.map WN).length),Zn,h];rfl
theorem ib {n:C}{ps:A (A (B×B))}{s:A (B×B)}(h:ps[i]? =E s):ldE (shN n ps) i 0 1=E [.s 6 (s.map (QS n))]:=by
 simp only[ldE,shN,Zn,h];rfl
variable{ls:A QV}
theorem Uu(h:fs.length=G ls):(X6 fs ls).length=G ls:=by simp[X6,h]
theorem uR{f:FrV}{L:QV}(a:fs[i]? =E f)(h:ls[i]? =E L):(X6 fs ls)[i]? =E (L.shape.map (plV f)):=by
 simp[X6,A.getElem?_zipWith,a,h]
theorem QQz{s:A (B×B)}(h:s∈X6 fs ls): ∃f L,L∈ls/\s=L.shape.map (plV f):=by
 obtain⟨i,a⟩:=A.getElem?_of_mem h
 simp only[X6,A.getElem?_zipWith]at a;cases c:fs[i]? with
 | none=>rw[c]at a;cases a
 | some f=>
  cases b:ls[i]? with
  | none=>rw[c,b]at a;cases a
  | some L=>rw[c,b]at a;cases a;exact⟨f,L,A.mem_of_getElem? b,rfl⟩
theorem GN {b:Type}{l:A b}{d a:b}(h:l[i]? =E a):l.getD i d=a:=by
 rw[A.getD_eq_getElem?_getD,h];rfl
def qC:LC:=qU
theorem zG:QF qC:=QgD
def EK(a:C)(b:A (B×B)):=Zb (QS a) b
def EL(a:C)(b:A (B×B)):=F (EK a b).length
def EM:=I (Zc (Ze (Zm [])))
def EO:=OfNat.ofNat 0=0
def EU:=I (Zd D)
theorem Qa3 (x:B)(i:C)(y:B)(j:C)(h:Bool)(t:B)(k:C)(n:C)(l:A (B×B))(r:(i<=12800000/\j<=12800000/\k<=12800000)/\(n<=63/\1<=G l/\l.length<=100))(K:AV->Prop)(o:K (sVv 115300000 (l.map (plV ⟨x,y,h,t⟩)))):QM (QN (mkT qC M79 X4) (oF f77) (QUl ⟨x,y,h,t⟩ i j k n l) f77 [.x true [.r x i,.r y j,.v (.bool h),.r t k],sVv n l] K):=by
 refine HV ((0<=EL n l/\EL n l<=EL n l/\80*EL n l<=281474976710656/\EL n l<=9223372036854775807)/\(∃(a:C),(a<=G l/\EO)/\0=0/\0=0/\(EL n l).toNat=G l/\6=6/\EK n l=EK n l/\EL n l=F l.length/\0=F a/\31=31/\x=(FrV.mk x y h t).x/\i<=i/\y=(FrV.mk x y h t).y/\j<=j/\h=(FrV.mk x y h t).h/\t=(FrV.mk x y h t).t/\k<=k/\27=27/\6=6/\(Zo (EL n l).toNat [EU,EM,EM,EU,EM,EM]=Wl (FrV.mk x y h t) l a\/QC (Zo (EL n l).toNat [EU,EM,EM,EU,EM,EM]) (Wl (FrV.mk x y h t) l a))/\True)/\∀(a:C),a<=G l->EO->bif decide (F a<F l.length)then(0<=F a/\F a<EL n l)/\∃(q:B)(c:C)(b:B)(d:C),ldE (EK n l) (F a).toNat 0 6=E [H q c,H b d]/\i+j+k+c+d<=400000000/\∀(f m:C),f<=i+c+d+8*k+1100->m<=j+c+d+8*k+1100->(0<=F a/\F a<F l.length)/\0+(F a).toNat<(Wl (FrV.mk x y h t) l a).length/\∃(g:C),(g<=G l/\EO/\l.length-g<G l-a)/\0=0/\0=0/\l.length=G l/\6=6/\EK n l=EK n l/\F l.length=F l.length/\IntKind.i64.wrap (F a+1)=F g/\31=31/\(FrV.mk x y h t).x=(FrV.mk x y h t).x/\i<=i/\(FrV.mk x y h t).y=(FrV.mk x y h t).y/\j<=j/\(FrV.mk x y h t).h=(FrV.mk x y h t).h/\(FrV.mk x y h t).t=(FrV.mk x y h t).t/\k<=k/\27=27/\6=6/\((Wl (FrV.mk x y h t) l a).set (0+(F a).toNat) [H (Vu (FrV.mk (FrV.mk x y h t).x (FrV.mk x y h t).y (FrV.mk x y h t).h (FrV.mk x y h t).t) q b) f,H (Vv (FrV.mk (FrV.mk x y h t).x (FrV.mk x y h t).y (FrV.mk x y h t).h (FrV.mk x y h t).t) q b) m]=Wl (FrV.mk x y h t) l g\/QC ((Wl (FrV.mk x y h t) l a).set (0+(F a).toNat) [H (Vu (FrV.mk (FrV.mk x y h t).x (FrV.mk x y h t).y (FrV.mk x y h t).h (FrV.mk x y h t).t) q b) f,H (Vv (FrV.mk (FrV.mk x y h t).x (FrV.mk x y h t).y (FrV.mk x y h t).h (FrV.mk x y h t).t) q b) m]) (Wl (FrV.mk x y h t) l g))/\True else K (AV.x D [Ch.s 6 (Zk l.length (A.drop 0 (Wl (FrV.mk x y h t) l a)))])) ?_
 delta EK EL EM EO EU
 try simp only[Zj,R0,R1,C.zero_add,C.le_refl,R4]
 obtain⟨⟨J,L,M⟩,O,s,u⟩:=r;simp only[A.length_map,Int.toNat_natCast];refine⟨o3,⟨0,o3,trivial,trivial,rfl,.inl rfl⟩,fun w v=>QE (fun e=> ?_) (fun e=> ?_)⟩
 ·have e:w<G l:=(j7 e)
  obtain⟨p,hpp⟩: ∃p,l[w]? =E p:=⟨_,Zg e⟩
  exact⟨o3,_,_,_,_,WX ((j9 hpp)),o3,fun P m z N=>⟨o3,by rw[UT _ _ _ v];omega,w+1,⟨o3,o3⟩,by rw[w64 o3];simp,.inr (QUm _ hpp o3 o3)⟩⟩
 ·have e:w=G l:=(j8 e)
  subst e;rw[QUn,A.drop_zero,Zh o6];exact o
def mG:Ctr
 | [.x true [.r x i,.r y j,.v (.bool h),.r t k],.x D [.s 6 a]]=>E fun K=> ∃(n:C) (l:A (B×B)),a=l.map (QS n)/\((i<=12800000/\j<=12800000/\k<=12800000)/\(n<=63/\1<=G l/\l.length<=100))/\(K (sVv 115300000 (l.map (plV ⟨x,y,h,t⟩))))
 | _=>none
theorem QUq:QH 77 mG:=by
 refine okL func77 fun l T a K h=> ?_
 unfold mG at a;split at a<;>cases a
 obtain⟨n,l,rfl,b,h⟩:=h;exact spL (QP zG Qq Qb) QK func77 (Qa3 _ _ _ _ _ _ _ _ _ b K h)
def iN:LC:=(77,mG)::qC
theorem QUr:QF iN:= .cons QUq zG
def EN(a:ArmV):=a.za.length
def EP(a:B)(b:ArmV):=H a (zm (EN b))
def EJ(a:ArmV):=Zb QA a.za
def ES(a b:TqX)(c:ArmV):=shN 115300000 (Zk a.i (X6 b.fs c.za))
def ER:=63<=63
def ET(a b:TqX)(c:ArmV)(d:TqX)(e:ArmV)(f g:TqX)(h:ArmV):=Zb WN a.fs++[[EP b.f.x c,EP d.f.y e,I (Zd f.f.h),EP g.f.t h]]
def EV(a:Int):=I (Value.int IntKind.i64 a)
def EW:=Value.slice none 0 0
theorem QUs (a:ArmV)(b:C)(h:A B)(V:(QJ a)/\(b<=400/\h.length=G a.za))(K:AV->Prop)(T: ∀(fs:A FrV) (f:FrV),fs++[f]=XH (Xs a) a.za h->G fs=G a.za->K (.t [(D,[.s 1 (shN 115300000 (X6 fs a.za))]),(D,[.v (.int .i64 0)])])):QM (QN (mkT iN M79 X4) (oF f38) (QQy a h) f38 [JV a,sR b h] K):=by
 refine HV (∃(c:ArmV)(p:C)(e:A B),[I (Zc a.name),H a.x 63,H a.y 63,I (Zd a.half),H a.t 63,Ch.s 16 (EJ a)]=[I (Zc c.name),H c.x 63,H c.y 63,I (Zd c.half),H c.t 63,Ch.s 16 (EJ c)]/\lR b h=lR p e/\(QJ c/\p<=400/\e.length=EN c)/\∀(fs:A FrV)(f:FrV),fs++[f]=XH (Xs c) c.za e->G fs=EN c->(∃(x:TqX),(TqI a h x/\EO)/\0=0/\10=10/\Zb WN fs++[[EP f.x c,EP f.y c,I (Zd f.h),EP f.t c]]=ET x x a x a x x a/\EW=EW/\0=0/\x.i=0/\16=16/\EJ a=EJ a/\F (EJ a).length=F (EN a)/\0=F x.i/\34=34/\a.name=a.name/\a.x=a.x/\ER/\a.y=a.y/\ER/\a.half=a.half/\a.t=a.t/\ER/\16=16/\EJ a=EJ a/\ES x x a=[]/\True)/\∀(x:TqX),TqI a h x->EO->bif decide (F x.i<F (EN a))then(0<=F x.i/\F x.i<F (EJ a).length)/\∃(q:B)(n:C)(O:B)(z:C)(P:B)(J:C)(Q:B)(M:C)(R:B)(N:C)(S:A (A Ch)),ldE (EJ a) (F x.i).toNat 0 16=E [H q n,H O z,H P J,H Q M,H R N,Ch.s 6 S]/\(0<=F x.i/\F x.i<F (ET x x a x a x x a).length)/\∃(q:B)(n:C)(k:B)(t:C)(b:Bool)(m:B)(u:C),ldE (ET x x a x a x x a) (F x.i).toNat 0 10=E [H q n,H k t,I (Zd b),H m u]/\∃(v:C)(l:A (B×B)),S=EK v l/\((n<=12800000/\t<=12800000/\u<=12800000)/\v<=63/\1<=G l/\l.length<=100)/\((x.i+1)*24<=140737488355328/\x.i+1<=9223372036854775807)/\∃(d:TqX),(TqI a h d/\EO/\EN a-d.i<EN a-x.i)/\0=0/\10=10/\ET x x a x a x x a=ET d d a d a d d a/\0=0/\x.i+1=d.i/\16=16/\EJ a=EJ a/\F (EN a)=F (EN a)/\IntKind.i64.wrap (F x.i+1)=F d.i/\34=34/\a.name=a.name/\a.x=a.x/\ER/\a.y=a.y/\ER/\a.half=a.half/\a.t=a.t/\ER/\16=16/\EJ a=EJ a/\59=59/\1=1/\(Zk x.i (ES x x a)++[[Ch.s 6 (EK 115300000 (Zb (plV (FrV.mk q k b m)) l))]]=ES d d a\/QC (Zk x.i (ES x x a)++[[Ch.s 6 (EK 115300000 (Zb (plV (FrV.mk q k b m)) l))]]) (ES d d a))/\True else K (AV.t [(D,[Ch.s 1 (Zk x.i (A.drop 0 (ES x x a)))]),(D,[EV 0])])) ?_
 delta EN EK EP EJ EO ES ER ET EV EW
 try simp only[Zj,R0,R1,C.le_refl,R4]
 obtain⟨w,U,Y⟩:=V;have hn:=w.n;refine⟨a,b,h,rfl,rfl,⟨w,U,Y⟩,fun fs f W X=> ?_⟩;simp only[A.length_map];refine⟨⟨⟨fs,f,0⟩,⟨W,X,o6⟩,rfl,rfl,trivial,rfl,rfl⟩,fun x o=>QE (fun j=> ?_) (fun j=> ?_)⟩
 ·have j:x.i<G a.za:=(j7 j)
  have s:=o.len;obtain⟨L,hL⟩: ∃L,a.za[x.i]? =E L:=⟨_,Zg j⟩
  obtain⟨g,hgx⟩: ∃g,x.fs[x.i]? =E g:=⟨_,Zg o3⟩
  have r:=(w.za L (A.mem_of_getElem? hL)).zt;have h1:=r.lo;have h2:=r.hi;have Z:=uR hgx hL;have y:=Uu s;refine⟨o3,_,_,_,_,_,_,_,_,_,_,_,JW ((j9 hL)),o9,_,_,_,_,_,_,_,QgE _ ((j9 hgx)),63,L.shape,rfl,⟨o3,o3,o3,o3⟩,o3,⟨x.fs,x.f,x.i+1⟩,⟨⟨o.eq,s,j⟩,o5⟩,rfl,rfl,by rw[w64 o3];simp,.inl ?_⟩;rw[Zh (by simp[shN];omega),A.take_add_one,Z];unfold shN;rw[A.map_append];rfl
 ·have j:x.i=G a.za:=by have:=R6 j;have:=o.le;omega
  have y:=Uu o.len;have:=T x.fs x.f o.eq o.len;rw[A.drop_zero,Zh (by simp[shN];omega),Zh o3];exact this
def GO:Ctr
 | [.x true x,.x D [.s 3 y]]=>E fun K=> ∃(a:ArmV) (b:C) (q:A B),x=Qp a/\y=lR b q/\((QJ a)/\(b<=400/\q.length=G a.za))/\(∀(fs:A FrV) (f:FrV),fs++[f]=XH (Xs a) a.za q->G fs=G a.za->K (.t [(D,[.s 1 (shN 115300000 (X6 fs a.za))]),(D,[.v (.int .i64 0)])]))
 | _=>none
theorem QFK:QH 38 GO:=by
 refine okL func38 fun l T c K h=> ?_
 unfold GO at c;split at c<;>cases c
 obtain⟨a,b,q,rfl,rfl,d,h⟩:=h;exact spL (QP QUr Qq Qb) QK func38 (QUs _ _ _ d K h)
def ry:LC:=(38,GO)::iN
theorem QUt:QF ry:= .cons QFK QUr
theorem QQ0 (n:C)(l:A (B×B))(h:(n<=500000000)/\(QY l))(K:AV->Prop)(c:K (iA .i64 0)):QM (QN (mkT ry M79 X4) (oF f151) noL f151 [sVv n l] K):=by
 refine HV (∃(b:C)(a:A (B×B)),EK n l=EK b a/\(b<=500000000/\QY a/\(8:Int)<=64)/\K (AV.x D [EV 0])) ?_
 delta EK EV
 try simp only[Zj,R0,R1,C.zero_add,C.le_refl,R4,R2,R3]
 exact⟨n,l,rfl,⟨h.1,h.2,o3⟩,c⟩
def Uv:Ctr
 | [.x D [.s 6 x]]=>E fun K=> ∃(n:C) (l:A (B×B)),x=l.map (QS n)/\((n<=500000000)/\(QY l))/\(K (iA .i64 0))
 | _=>none
theorem zO:QH 151 Uv:=by
 refine okL func151 fun l T a K h=> ?_
 unfold Uv at a;split at a<;>cases a
 obtain⟨n,l,rfl,b,h⟩:=h;exact spL (QP QUt Qq Qb) QK func151 (QQ0 _ _ b K h)
def rq:LC:=(151,Uv)::ry
theorem QgI:QF rq:= .cons zO QUt
def EX(a b:Int):=-9223372036854775808<=a/\b<9223372036854775808
theorem QUu (n:Int)(d:Int)(b:(-9223372036854775808<=n/\n<9223372036854775808)/\(0<d/\d<9223372036854775808))(K:AV->Prop)(a:K (.t [(true,[.r ((n:B)/(d:B)) 128]),(D,[.v (.int .i64 0)])])):QM (QN (mkT rq M79 X4) (oF f59) noL f59 [iA .i64 n,iA .i64 d] K):=by
 refine HV (EX n n/\EX d d/\128<=4294967296/\((↑d:B)≠OfNat.ofNat 0->K (AV.t [(true,[H ((↑n:B)/(↑d:B)) 128]),(D,[EV 0])]))/\((↑d:B)=OfNat.ofNat 0->K (AV.t [(true,[EU,EM,EM]),(D,[EV 12])]))) ?_
 delta EM EU EV EX
 try simp only[Zj,R0,R1,C.zero_add,C.le_refl,R4,R2,R3]
 exact⟨o3,o3,o3,fun _=>a,fun h=>absurd (B.intCast_eq_zero_iff.1 h) o3⟩
def GP:Ctr
 | [.x D [.v (.int .i64 n)],.x D [.v (.int .i64 d)]]=>E fun K=>((-9223372036854775808<=n/\n<9223372036854775808)/\(0<d/\d<9223372036854775808))/\(K (.t [(true,[.r ((n:B)/(d:B)) 128]),(D,[.v (.int .i64 0)])]))
 | _=>none
theorem QQ1:QH 59 GP:=by
 refine okL func59 fun l T a K h=> ?_
 unfold GP at a;split at a<;>cases a
 obtain⟨b,h⟩:=h;exact spL (QP QgI Qq Qb) QK func59 (QUu _ _ b K h)
def Qk1:LC:=(59,GP)::rq
def Qk2:LC:=Qk1
def Qk3:LC:=Qk2
noncomputable def Qlb:Qd:=mkT Qk3 M79 X4
end Go.Proofs
