/- TopInverse. -/
import Derived.Test.YtfhfenokfkenoaaGreatDoorRV
import Derived.Test.YtfhfenokfkenoaaGreatDoorSN
import Derived.Test.YtfhfenokfkenoaaGreatDoorPE
open Int renaming ofNat → Za, toNat_natCast → Zn
open List renaming map → Zb, getElem?_eq_getElem → Ze, length_map → Zh, mem_of_getElem? → Zk, take → Zl, getD_eq_getElem?_getD → Zm
open Nat renaming le_refl → Zc
open Go.Value renaming bool → Zd, string → Zf
open Go.Eng.Ch renaming r → Zg, v → Zi, s → Zp
open Rat renaming mul_eq_zero → Zj, le_trans → Zo
namespace Go.Proofs
open Go Go.Eng
theorem QcU (xl:Rat)(a:Nat)(yl:Rat)(b:Nat)(xh:Rat)(c:Nat)(yh:Rat)(d:Nat)(u:Rat)(e:Nat)(v:Rat)(g:Nat)(hc:(a+b+c+d+e+g<=4294967290)/\((xl<=u/\yl<=v)/\u<=xh/\v<=yh))(K:AV->Prop)(hK:K (.x false [.v (.bool true)])):QK (QN QZo (oF Tryz.f55) noL Tryz.f55 [.x true [.r xl a,.r yl b,.r xh c,.r yh d],.x true [.r u e,.r v g]] K):=by
 refine HV (((a+c+e<=4294967290/\xl<=xh)/\bif XW (Sp.mk xl xh) u then(b+d+g<=4294967290/\yl<=yh)/\K (AV.x false [Zi (Zd (XW (Sp.mk yl yh) v))])else K (AV.x false [Zi (Zd false)]))) ?_
 try simp only[Int.ofNat_eq_natCast,R0,R1,Nat.zero_add,Zc,R4,R2,R3]
 have h1:XW ⟨xl,xh⟩ u=true:=by simp[XW,hc.2.1.1,hc.2.2.1]
 have h2:XW ⟨yl,yh⟩ v=true:=by simp[XW,hc.2.1.2,hc.2.2.2]
 rw[h1,h2];exact⟨⟨by omega,Zo hc.2.1.1 hc.2.2.1⟩,⟨by omega,Zo hc.2.1.2 hc.2.2.2⟩,hK⟩
def QLU:Ctr
 | [.x true [.r xl a,.r yl b,.r xh c,.r yh d],.x true [.r u e,.r v g]]=>some fun K=>((a+b+c+d+e+g<=4294967290)/\((xl<=u/\yl<=v)/\u<=xh/\v<=yh))/\(K (.x false [.v (.bool true)]))
 | _=>none
theorem QaH:QI 55 QLU:=by
 refine okL Tryz.func55 fun l T hT K hK=> ?_
 unfold QLU at hT;split at hT<;>cases hT
 obtain⟨hc,hK⟩:=hK;exact spL QRy QM Tryz.func55 (QcU _ _ _ _ _ _ _ _ _ _ _ _ hc K hK)
def QcV:LC:=(55,QLU)::QJ1
noncomputable def QdK:QZ:=mkT QcV Hh X4
structure TvX where
 a:ArmV
 qs:List Rat
 n:Nat
 f:FrV
 fs:List FrV
 g:FrV
 O:List (List Sp)
 i:Nat
 ts:List Sp
 ls:List LoV
 l:LoV
 j:Nat
 k:Nat
def UW (qs:List Rat)(o:List Sp):Bool:=XW (o.getD 0 s0) (qs.getD 0 0)&&XW (o.getD 1 s0) (qs.getD 1 0)
structure TvI (x:TvX):Prop where
 good:QX x.a
 n:x.a.links.length=2
 ql:x.qs.length=2
 nb:x.n<=120000000
 e2:x.fs++[x.g]=XD (Xs x.a) x.a.links x.qs
 l2:x.fs.length=x.a.links.length
 len:x.O.length<=1000
 le:x.i<=x.O.length
 ans: ∀o∈x.O,o.length=2/\(∃rs,HasQ o rs)/\ ∀b,(XI (Xe x.a) x.a.links o)[2]? =some b->(b.x.lo<=x.f.x/\b.y.lo<=x.f.y)/\x.f.x<=b.x.hi/\x.f.y<=b.y.hi
 one:x.O.any (UW x.qs)=true
structure TvJ (x:TvX):Prop where
 i:TvI x
 hi:x.i<x.O.length
 has:(x.O.getD x.i [])=x.ts/\HasQ x.ts x.qs
 e1:x.ls++[x.l]=XI (Xe x.a) x.a.links x.ts
 l1:x.ls.length=x.a.links.length
def tvS (x:TvX):List (Rat×Rat):=(Qo x.fs x.a.links).getD x.j []
def tvH (x:TvX):List (Nat×Blk):=[(5,.box 34 (Xi x.a)),(7,.box 31 (frN x.n x.f))]
def tvT (x:TvX)(b:Bool):List (Nat×AV):=[(5,.x false [.p 5 0]),(6,sR 63 x.qs),(7,.x false [.p 7 0]),(11,.x false [.s 1 (shN 115300000 (Qo x.fs x.a.links))]),(13,.x false [.v (.bool b)]),(60,.x false [.s 1 (x.O.map Xh)]),(61,iA .i64 x.O.length),(62,iA .i64 x.i)]
def Qc7 (x:TvX):List (Nat×AV):=[(5,.x false [.p 5 0]),(6,sR 63 x.qs),(7,.x false [.p 7 0]),(11,.x false [.s 1 (shN 115300000 (Qo x.fs x.a.links))]),(13,.x false [.v (.bool true)]),(18,.x false [.s 12 ((XE x.ls x.a.links).map (bx4 126400000))]),(60,.x false [.s 1 (x.O.map Xh)]),(61,iA .i64 x.O.length),(62,iA .i64 x.i),(128,.x false [.s 1 (shN 115300000 (Qo x.fs x.a.links))]),(129,iA .i64 x.a.links.length),(130,iA .i64 x.j)]
def Qc8 (x:TvX):List (Nat×AV):=[(5,.x false [.p 5 0]),(6,sR 63 x.qs),(7,.x false [.p 7 0]),(11,.x false [.s 1 (shN 115300000 (Qo x.fs x.a.links))]),(13,.x false [.v (.bool true)]),(18,.x false [.s 12 ((XE x.ls x.a.links).map (bx4 126400000))]),(20,iA .i64 x.j),(60,.x false [.s 1 (x.O.map Xh)]),(61,iA .i64 x.O.length),(62,iA .i64 x.i),(128,.x false [.s 1 (shN 115300000 (Qo x.fs x.a.links))]),(129,iA .i64 x.a.links.length),(130,iA .i64 x.j),(135,.x false [.s 6 ((tvS x).map (Q6 115300000))]),(136,iA .i64 (tvS x).length),(137,iA .i64 x.k)]
def QSB:LI:=fun id=>bif id.beq 12 then .inv ⟨TvX,fun x=>⟨tvT x ((x.O.take x.i).any (UW x.qs)),tvH x⟩,TvI,fun x=>x.O.length-x.i,fun _=>0⟩
 else bif id.beq 21 then .inv ⟨TvX,fun x=>⟨Qc7 x,tvH x⟩,fun x=>TvJ x/\x.j<=x.a.links.length,fun x=>(x.O.length-x.i)*10+(x.a.links.length-x.j),fun x=>x.O.length-x.i⟩
 else .inv ⟨TvX,fun x=>⟨Qc8 x,tvH x⟩,fun x=>TvJ x/\x.j<x.a.links.length/\x.k<=(tvS x).length,fun x=>(tvS x).length-x.k,fun x=>(x.O.length-x.i)*10+(x.a.links.length-x.j)⟩
def QcW:LC:=(10,QAd)::(24,QFS)::(13,Ha)::(26,QBp)::(27,Ho)::(53,Vz)::(54,HZ)::(43,HY)::(55,QLU)::(40,QEx)::QJ1
theorem QHL {α:Type}{p:α->Bool}{l:List α}{i:Nat}{a:α}(h:l[i]? =some a):(l.take (i+1)).any p=((l.take i).any p || p a):=by
 rw[List.take_add_one,h];simp
theorem QVm {l m x y u v:Rat}(S:Sol l m x y u v):l*Qn false u+m*(Qn false u*Qn false v-Qa false u*Qa false v)=x/\l*Qa false u+m*(Qa false u*Qn false v+Qn false u*Qa false v)=y:=by
  obtain⟨k1,k2⟩:=Gi u;obtain⟨k3,k4⟩:=Gi v;have e0:=cs1 false u;have hl:=S.l0;have hq:=S.q;have hp:=S.p;have hs:=S.sd;have nu:=Xq u;have nv:=Xq v;have zu:1+u*u≠0:=by grind
  have zv:1+v*v≠0:=by grind
  generalize Qn false u=c0 at*;generalize Qa false u=s0 at*;generalize Qn false v=c1 at*;generalize Qa false v=s1 at*;have h1:(1+u*u)*(kV l m x y-2*l*(x*c0+y*s0))=0:=by
    have:(1+u*u)*(kV l m x y-2*l*(x*c0+y*s0))=(1+u*u)*kV l m x y-2*l*(x*(c0*(1+u*u))+y*(s0*(1+u*u))):=by grind
    rw[this,k1,k2,<-hq];unfold fQ q2V q1V q0V;grind
  have h2:(1+v*v)*(kV l m x y-2*l*(l+m*c1))=0:=by
    have:(1+v*v)*(kV l m x y-2*l*(l+m*c1))=(1+v*v)*(kV l m x y-2*l*l)-2*l*m*(c1*(1+v*v)):=by grind
    rw[this,k3,<-hp];unfold fP p2V p0V kV;grind
  have h3:((1+u*u)*(1+v*v))*(y*c0-x*s0-m*s1)=0:=by
    have:((1+u*u)*(1+v*v))*(y*c0-x*s0-m*s1)=(y*(c0*(1+u*u))-x*(s0*(1+u*u)))*(1+v*v)-(1+u*u)*(m*(s1*(1+v*v))):=by grind
    rw[this,k1,k2,k4];unfold sdV at hs;grind
  have h1:=(Zj.1 h1).resolve_left zu;have h2:=(Zj.1 h2).resolve_left zv;have h3:=(Zj.1 h3).resolve_left fun h=>(Zj.1 h).elim zu zv;have h4:x*c0+y*s0=l+m*c1:=by
    have:2*l*(x*c0+y*s0-(l+m*c1))=0:=by grind
    have:=(Zj.1 this).resolve_left (by grind);grind
  have h5:y*c0-x*s0=m*s1:=by grind
  constructor
  · have:l*c0+m*(c0*c1-s0*s1)=c0*(l+m*c1)-s0*(m*s1):=by grind
    rw[this,<-h4,<-h5];have:c0*(x*c0+y*s0)-s0*(y*c0-x*s0)=x*(c0*c0+s0*s0):=by grind
    rw[this,e0];grind
  · have:l*s0+m*(s0*c1+c0*s1)=s0*(l+m*c1)+c0*(m*s1):=by grind
    rw[this,<-h4,<-h5];have:s0*(x*c0+y*s0)+c0*(y*c0-x*s0)=y*(c0*c0+s0*s0):=by grind
    rw[this,e0];grind
theorem QFT {s t:Sp}{u v:Rat}(h0:s.has u)(h1:t.has v):HasQ [s,t] [u,v]:=by
 refine⟨rfl,fun i a q k1 k2=> ?_⟩;match i,k1,k2 with
 | 0,k1,k2=>cases k1;cases k2;exact h0
 | 1,k1,k2=>cases k1;cases k2;exact h1
 | _+2,k1,_=>simp at k1
theorem QVn {a:ArmV}{L0 L1:QT}{px py r0 r1:Rat}(S:Sol L0.len L1.len (Uy a px py) (Uz a px py) r0 r1){sa sb:Sp}(h0:sa.has r0)(h1:sb.has r1){b:LoV}(hb:(XI (Xe a) [L0,L1] [sa,sb])[2]? =some b):(b.x.lo<=px/\b.y.lo<=py)/\px<=b.x.hi/\py<=b.y.hi:=by
  obtain⟨f,hf⟩: ∃f,(XD (Xs a) [L0,L1] [r0,r1])[2]? =some f:=⟨_,rfl⟩
  have hh:=VA [L0,L1] [sa,sb] [r0,r1] (Xe a) (Xs a) (V0 a) (QFT h0 h1) 2 b f hb hf;obtain⟨tx,ty⟩:=QLR hf;obtain⟨sx,sy⟩:=QVm S;obtain⟨o1,o2⟩:=QFP a f.x f.y;obtain⟨o3,o4⟩:=QFP a px py;rw[tx,ty,sx,sy,<-o3]at o1;rw[tx,ty,sx,sy,<-o4]at o2;have:=hh.x;have:=hh.y;rw[<-o1,<-o2];exact⟨⟨hh.x.1,hh.y.1⟩,hh.x.2,hh.y.2⟩
theorem QWp {x:TvX}(hx:TvJ x)(hj:x.j<x.a.links.length): ∃L e w,x.a.links[x.j]? =some L/\x.ls[x.j]? =some w/\w.has e/\(Qo x.fs x.a.links)[x.j]? =some (L.shape.map (plV e))/\tvS x=L.shape.map (plV e)/\K9 L.shape:=by
 have h1:=hx.l1;have h2:=hx.i.l2;obtain⟨L,hL⟩: ∃L,x.a.links[x.j]? =some L:=⟨_,Ze hj⟩
 obtain⟨e,he⟩: ∃e,x.fs[x.j]? =some e:=⟨_,Ze (by omega)⟩
 obtain⟨w,hw⟩: ∃w,x.ls[x.j]? =some w:=⟨_,Ze (by omega)⟩
 have hp:=QDL he hL;have a1:(x.ls++[x.l])[x.j]? =some w:=by rw[List.getElem?_append_left (by omega)];exact hw
 have a2:(x.fs++[x.g])[x.j]? =some e:=by rw[List.getElem?_append_left (by omega)];exact he
 rw[hx.e1]at a1;rw[hx.i.e2]at a2;exact⟨L,e,w,hL,hw,VA x.a.links x.ts x.qs (Xe x.a) (Xs x.a) (V0 x.a) hx.has.2 x.j w e a1 a2,hp,QBr hp,(hx.i.good.links L (Zk hL)).poly⟩
theorem QaI:QG QcW:= .cons QSA (.cons QVl (.cons QDX (.cons QEo (.cons QHH (.cons QDM (.cons QMx (.cons QDU (.cons QaH (.cons QKn QJ2)))))))))
set_option maxHeartbeats 1000000 in
theorem QaJ (l m:List Int)(hl:l.length*8<=140737488351232)(hm:m.length<=9223372036854775807)(K:AV->Prop)(hK:K (.x false [.v (.bool true)])):QK (QN (mkT QcW Hh X4) (oF Tryz.f8) QSB Tryz.f8 [.x false [.s 1 (ints l)],.x false [.s 1 (ints m)]] K):=by
 refine HV ((True/\∃(l_1:List Int),ints l=ints l_1/\l_1.length*8<=140737488351232/\∀(a:ArmV),Made a/\1<=a.links.length->a.links.length=2->∃(a_3:ArmV),∃(l:List Int),[Zi (Zf a.name),Zg a.x 63,Zg a.y 63,Zi (Zd a.half),Zg a.t 63,Zp 16 (Zb QC a.links)]=[Zi (Zf a_3.name),Zg a_3.x 63,Zg a_3.y 63,Zi (Zd a_3.half),Zg a_3.t 63,Zp 16 (Zb QC a_3.links)]/\ints m=ints l/\(QX a_3/\l.length<=9223372036854775807)/\∀(qs:List Rat),(∀(i:Nat) (L:QT) (q:Rat),a_3.links[i]?=some L->qs[i]?=some q->(L.lo<=q/\q<=L.hi)/\∃(r:Int),(0<=r/\r<=8)/\q=WM L.lo L.hi r)->qs.length=a_3.links.length->∃(a_6:ArmV),∃(b:Nat),∃(qs_1:List Rat),[Zi (Zf a.name),Zg a.x 63,Zg a.y 63,Zi (Zd a.half),Zg a.t 63,Zp 16 (Zb QC a.links)]=[Zi (Zf a_6.name),Zg a_6.x 63,Zg a_6.y 63,Zi (Zd a_6.half),Zg a_6.t 63,Zp 16 (Zb QC a_6.links)]/\lR 63 qs=lR b qs_1/\(QX a_6/\b<=400/\qs_1.length=a_6.links.length)/\∀(n:Nat) (f:FrV),n<=120000000->(XD (Xs a_6) a_6.links qs_1)[a_6.links.length]?=some f->∃(a_9:ArmV),∃(L0:QT),∃(L1:QT),∃(rs:List (RtV×RtV)),∃(R:List (RtV×RtV)),∃(O:List (List Sp)),[Zi (Zf a.name),Zg a.x 63,Zg a.y 63,Zi (Zd a.half),Zg a.t 63,Zp 16 (Zb QC a.links)]=[Zi (Zf a_9.name),Zg a_9.x 63,Zg a_9.y 63,Zi (Zd a_9.half),Zg a_9.t 63,Zp 16 (Zb QC a_9.links)]/\((QX a_9/\a_9.links=[L0,L1])/\BT f.x/\BT f.y)/\((YO L0.len L1.len (Uy a_9 f.x f.y) (Uz a_9 f.x f.y)=some rs/\inF L0.lo L0.hi L1.lo L1.hi rs []=some R)/\VO R []=some O)/\(O=[]->∃(a_11:ArmV),∃(b:Nat),∃(qs_2:List Rat),[Zi (Zf a.name),Zg a.x 63,Zg a.y 63,Zi (Zd a.half),Zg a.t 63,Zp 16 (Zb QC a.links)]=[Zi (Zf a_11.name),Zg a_11.x 63,Zg a_11.y 63,Zi (Zd a_11.half),Zg a_11.t 63,Zp 16 (Zb QC a_11.links)]/\lR 63 qs=lR b qs_2/\(QX a_11/\b<=400/\qs_2.length=a_11.links.length)/\∀(fs:List FrV) (f:FrV),fs++[f]=XD (Xs a_11) a_11.links qs_2->fs.length=a_11.links.length->K (AV.x false [Zi (Zd false)]))/\(O≠[]->∃(a_11:ArmV),∃(b:Nat),∃(qs_2:List Rat),[Zi (Zf a.name),Zg a.x 63,Zg a.y 63,Zi (Zd a.half),Zg a.t 63,Zp 16 (Zb QC a.links)]=[Zi (Zf a_11.name),Zg a_11.x 63,Zg a_11.y 63,Zi (Zd a_11.half),Zg a_11.t 63,Zp 16 (Zb QC a_11.links)]/\lR 63 qs=lR b qs_2/\(QX a_11/\b<=400/\qs_2.length=a_11.links.length)/\∀(fs:List FrV) (f_1:FrV),fs++[f_1]=XD (Xs a_11) a_11.links qs_2->fs.length=a_11.links.length->(∃(x:TvX),(TvI x/\OfNat.ofNat 0=0)/\0=0/\3=3/\lR 63 qs=lR 63 x.qs/\0=0/\1=1/\shN 115300000 (Qo fs a_11.links)=shN 115300000 (Qo x.fs x.a.links)/\false=(Zl x.i x.O).any (UW x.qs)/\1=1/\Zb Xh O=Zb Xh x.O/\Za (Zb Xh O).length=Za x.O.length/\0=Za x.i/\34=34/\a.name=x.a.name/\a.x=x.a.x/\63<=63/\a.y=x.a.y/\63<=63/\a.half=x.a.half/\a.t=x.a.t/\63<=63/\16=16/\Zb QC a.links=Zb QC x.a.links/\31=31/\f.x=x.f.x/\n<=x.n/\f.y=x.f.y/\n<=x.n/\f.h=x.f.h/\f.t=x.f.t/\n<=x.n/\True)/\∀(x:TvX),TvI x->OfNat.ofNat 0=0->bif decide (Za x.i<Za x.O.length)then(0<=Za x.i/\Za x.i<Za (Zb Xh x.O).length)/\∃(ys:List (List Ch)),ldE (Zb Xh x.O) (Za x.i).toNat 0 1=some [Zp 6 ys]/\∃(a:ArmV),∃(B:Nat),∃(ts:List Sp),∃(qs:List Rat),[Zi (Zf x.a.name),Zg x.a.x 63,Zg x.a.y 63,Zi (Zd x.a.half),Zg x.a.t 63,Zp 16 (Zb QC x.a.links)]=[Zi (Zf a.name),Zg a.x 63,Zg a.y 63,Zi (Zd a.half),Zg a.t 63,Zp 16 (Zb QC a.links)]/\ys=Zb (spN B) ts/\(QX a/\(B<=100000/\ts.length=a.links.length)/\ts.length=qs.length/\∀(i:Nat) (t:Sp) (q:Rat),ts[i]?=some t->qs[i]?=some q->t.lo<=q/\q<=t.hi)/\∃(a_14:ArmV),∃(B:Nat),∃(ts_1:List Sp),∃(qs:List Rat),[Zi (Zf x.a.name),Zg x.a.x 63,Zg x.a.y 63,Zi (Zd x.a.half),Zg x.a.t 63,Zp 16 (Zb QC x.a.links)]=[Zi (Zf a_14.name),Zg a_14.x 63,Zg a_14.y 63,Zi (Zd a_14.half),Zg a_14.t 63,Zp 16 (Zb QC a_14.links)]/\ys=Zb (spN B) ts_1/\(QX a_14/\(B<=100000/\ts_1.length=a_14.links.length)/\ts_1.length=qs.length/\∀(i:Nat) (t:Sp) (q:Rat),ts_1[i]?=some t->qs[i]?=some q->t.lo<=q/\q<=t.hi)/\∀(ls:List LoV) (l:LoV),ls++[l]=XI (Xe a_14) a_14.links ts_1->ls.length=a_14.links.length->bif Za ys.length !=2 then K (AV.x false [Zi (Zd false)])else bif Za (Zb (bxL 42100000) (XI (Xe a) a.links ts)).length !=3 then K (AV.x false [Zi (Zd false)])else bif Za (Zb (bx4 126400000) (XE ls a_14.links)).length !=Za (shN 115300000 (Qo x.fs x.a.links)).length then K (AV.x false [Zi (Zd false)])else((0:Int)<=2/\2<Za (Zb (bxL 42100000) (XI (Xe a) a.links ts)).length)/\∃(q:Rat),∃(n:Nat),∃(q_1:Rat),∃(n_1:Nat),∃(q_2:Rat),∃(n_2:Nat),∃(q_3:Rat),∃(n_3:Nat),ldE (Zb (bxL 42100000) (XI (Xe a) a.links ts)) 2 0 12=some [Zg q n,Zg q_1 n_1,Zg q_2 n_2,Zg q_3 n_3]/\(n+n_1+n_2+n_3+x.n+x.n<=4294967290/\(q<=x.f.x/\q_1<=x.f.y)/\x.f.x<=q_2/\x.f.y<=q_3)/\((0:Int)<=0/\0<Za ys.length)/\∃(q:Rat),∃(n:Nat),∃(q_4:Rat),∃(n_4:Nat),ldE ys 0 0 6=some [Zg q n,Zg q_4 n_4]/\((0:Int)<=0/\0<Za (lR 63 x.qs).length)/\∃(q_5:Rat),∃(n_5:Nat),ldE (lR 63 x.qs) 0 0 3=some [Zg q_5 n_5]/\(n+n_4+n_5<=4294967290/\q<=q_4)/\bif !XW (Sp.mk q q_4) q_5 then ∃(x':TvX),(TvI x'/\OfNat.ofNat 0=0/\x'.O.length-x'.i<x.O.length-x.i)/\0=0/\3=3/\lR 63 x.qs=lR 63 x'.qs/\0=0/\1=1/\shN 115300000 (Qo x.fs x.a.links)=shN 115300000 (Qo x'.fs x'.a.links)/\(Zl x.i x.O).any (UW x.qs)=(Zl x'.i x'.O).any (UW x'.qs)/\1=1/\Zb Xh x.O=Zb Xh x'.O/\Za x.O.length=Za x'.O.length/\IntKind.i64.wrap (Za x.i+1)=Za x'.i/\34=34/\x.a.name=x'.a.name/\x.a.x=x'.a.x/\63<=63/\x.a.y=x'.a.y/\63<=63/\x.a.half=x'.a.half/\x.a.t=x'.a.t/\63<=63/\16=16/\Zb QC x.a.links=Zb QC x'.a.links/\31=31/\x.f.x=x'.f.x/\x.n<=x'.n/\x.f.y=x'.f.y/\x.n<=x'.n/\x.f.h=x'.f.h/\x.f.t=x'.f.t/\x.n<=x'.n/\True else((0:Int)<=1/\1<Za ys.length)/\∃(q:Rat),∃(n:Nat),∃(q_6:Rat),∃(n_6:Nat),ldE ys 1 0 6=some [Zg q n,Zg q_6 n_6]/\((0:Int)<=1/\1<Za (lR 63 x.qs).length)/\∃(q_7:Rat),∃(n_7:Nat),ldE (lR 63 x.qs) 1 0 3=some [Zg q_7 n_7]/\(n+n_6+n_7<=4294967290/\q<=q_6)/\bif !XW (Sp.mk q q_6) q_7 then ∃(x':TvX),(TvI x'/\OfNat.ofNat 0=0/\x'.O.length-x'.i<x.O.length-x.i)/\0=0/\3=3/\lR 63 x.qs=lR 63 x'.qs/\0=0/\1=1/\shN 115300000 (Qo x.fs x.a.links)=shN 115300000 (Qo x'.fs x'.a.links)/\(Zl x.i x.O).any (UW x.qs)=(Zl x'.i x'.O).any (UW x'.qs)/\1=1/\Zb Xh x.O=Zb Xh x'.O/\Za x.O.length=Za x'.O.length/\IntKind.i64.wrap (Za x.i+1)=Za x'.i/\34=34/\x.a.name=x'.a.name/\x.a.x=x'.a.x/\63<=63/\x.a.y=x'.a.y/\63<=63/\x.a.half=x'.a.half/\x.a.t=x'.a.t/\63<=63/\16=16/\Zb QC x.a.links=Zb QC x'.a.links/\31=31/\x.f.x=x'.f.x/\x.n<=x'.n/\x.f.y=x'.f.y/\x.n<=x'.n/\x.f.h=x'.f.h/\x.f.t=x'.f.t/\x.n<=x'.n/\True else(∃(x_1:TvX),((TvJ x_1/\x_1.j<=x_1.a.links.length)/\x_1.O.length-x_1.i=x.O.length-x.i)/\0=0/\3=3/\lR 63 x.qs=lR 63 x_1.qs/\0=0/\1=1/\shN 115300000 (Qo x.fs x.a.links)=shN 115300000 (Qo x_1.fs x_1.a.links)/\true=true/\12=12/\Zb (bx4 126400000) (XE ls a_14.links)=Zb (bx4 126400000) (XE x_1.ls x_1.a.links)/\1=1/\Zb Xh x.O=Zb Xh x_1.O/\Za x.O.length=Za x_1.O.length/\Za x.i=Za x_1.i/\1=1/\shN 115300000 (Qo x.fs x.a.links)=shN 115300000 (Qo x_1.fs x_1.a.links)/\Za (shN 115300000 (Qo x.fs x.a.links)).length=Za x_1.a.links.length/\0=Za x_1.j/\34=34/\x.a.name=x_1.a.name/\x.a.x=x_1.a.x/\63<=63/\x.a.y=x_1.a.y/\63<=63/\x.a.half=x_1.a.half/\x.a.t=x_1.a.t/\63<=63/\16=16/\Zb QC x.a.links=Zb QC x_1.a.links/\31=31/\x.f.x=x_1.f.x/\x.n<=x_1.n/\x.f.y=x_1.f.y/\x.n<=x_1.n/\x.f.h=x_1.f.h/\x.f.t=x_1.f.t/\x.n<=x_1.n/\True)/\∀(x_1:TvX),TvJ x_1/\x_1.j<=x_1.a.links.length->x_1.O.length-x_1.i=x.O.length-x.i->bif decide (Za x_1.j<Za x_1.a.links.length)then(0<=Za x_1.j/\Za x_1.j<Za (shN 115300000 (Qo x_1.fs x_1.a.links)).length)/\∃(ys:List (List Ch)),ldE (shN 115300000 (Qo x_1.fs x_1.a.links)) (Za x_1.j).toNat 0 1=some [Zp 6 ys]/\(∃(x:TvX),((TvJ x/\x.j<x.a.links.length/\x.k<=(tvS x).length)/\(x.O.length-x.i)*10+(x.a.links.length-x.j)=(x_1.O.length-x_1.i)*10+(x_1.a.links.length-x_1.j))/\0=0/\3=3/\lR 63 x_1.qs=lR 63 x.qs/\0=0/\1=1/\shN 115300000 (Qo x_1.fs x_1.a.links)=shN 115300000 (Qo x.fs x.a.links)/\true=true/\12=12/\Zb (bx4 126400000) (XE x_1.ls x_1.a.links)=Zb (bx4 126400000) (XE x.ls x.a.links)/\Za x_1.j=Za x.j/\1=1/\Zb Xh x_1.O=Zb Xh x.O/\Za x_1.O.length=Za x.O.length/\Za x_1.i=Za x.i/\1=1/\shN 115300000 (Qo x_1.fs x_1.a.links)=shN 115300000 (Qo x.fs x.a.links)/\Za x_1.a.links.length=Za x.a.links.length/\Za x_1.j=Za x.j/\6=6/\ys=Zb (Q6 115300000) (tvS x)/\Za ys.length=Za (tvS x).length/\0=Za x.k/\34=34/\x_1.a.name=x.a.name/\x_1.a.x=x.a.x/\63<=63/\x_1.a.y=x.a.y/\63<=63/\x_1.a.half=x.a.half/\x_1.a.t=x.a.t/\63<=63/\16=16/\Zb QC x_1.a.links=Zb QC x.a.links/\31=31/\x_1.f.x=x.f.x/\x_1.n<=x.n/\x_1.f.y=x.f.y/\x_1.n<=x.n/\x_1.f.h=x.f.h/\x_1.f.t=x.f.t/\x_1.n<=x.n/\True)/\∀(x_2:TvX),TvJ x_2/\x_2.j<x_2.a.links.length/\x_2.k<=(tvS x_2).length->(x_2.O.length-x_2.i)*10+(x_2.a.links.length-x_2.j)=(x_1.O.length-x_1.i)*10+(x_1.a.links.length-x_1.j)->bif decide (Za x_2.k<Za (tvS x_2).length)then(0<=Za x_2.k/\Za x_2.k<Za (Zb (Q6 115300000) (tvS x_2)).length)/\∃(q:Rat),∃(n:Nat),∃(q_8:Rat),∃(n_8:Nat),ldE (Zb (Q6 115300000) (tvS x_2)) (Za x_2.k).toNat 0 6=some [Zg q n,Zg q_8 n_8]/\(0<=Za x_2.j/\Za x_2.j<Za (Zb (bx4 126400000) (XE x_2.ls x_2.a.links)).length)/\∃(q_9:Rat),∃(n_9:Nat),∃(q_10:Rat),∃(n_10:Nat),∃(q_11:Rat),∃(n_11:Nat),∃(q_12:Rat),∃(n_12:Nat),ldE (Zb (bx4 126400000) (XE x_2.ls x_2.a.links)) (Za x_2.j).toNat 0 12=some [Zg q_9 n_9,Zg q_10 n_10,Zg q_11 n_11,Zg q_12 n_12]/\(n_9+n_10+n_11+n_12+n+n_8<=4294967290/\(q_9<=q/\q_10<=q_8)/\q<=q_11/\q_8<=q_12)/\∃(x':TvX),((TvJ x'/\x'.j<x'.a.links.length/\x'.k<=(tvS x').length)/\(x'.O.length-x'.i)*10+(x'.a.links.length-x'.j)=(x_1.O.length-x_1.i)*10+(x_1.a.links.length-x_1.j)/\(tvS x').length-x'.k<(tvS x_2).length-x_2.k)/\0=0/\3=3/\lR 63 x_2.qs=lR 63 x'.qs/\0=0/\1=1/\shN 115300000 (Qo x_2.fs x_2.a.links)=shN 115300000 (Qo x'.fs x'.a.links)/\true=true/\12=12/\Zb (bx4 126400000) (XE x_2.ls x_2.a.links)=Zb (bx4 126400000) (XE x'.ls x'.a.links)/\Za x_2.j=Za x'.j/\1=1/\Zb Xh x_2.O=Zb Xh x'.O/\Za x_2.O.length=Za x'.O.length/\Za x_2.i=Za x'.i/\1=1/\shN 115300000 (Qo x_2.fs x_2.a.links)=shN 115300000 (Qo x'.fs x'.a.links)/\Za x_2.a.links.length=Za x'.a.links.length/\Za x_2.j=Za x'.j/\6=6/\Zb (Q6 115300000) (tvS x_2)=Zb (Q6 115300000) (tvS x')/\Za (tvS x_2).length=Za (tvS x').length/\IntKind.i64.wrap (Za x_2.k+1)=Za x'.k/\34=34/\x_2.a.name=x'.a.name/\x_2.a.x=x'.a.x/\63<=63/\x_2.a.y=x'.a.y/\63<=63/\x_2.a.half=x'.a.half/\x_2.a.t=x'.a.t/\63<=63/\16=16/\Zb QC x_2.a.links=Zb QC x'.a.links/\31=31/\x_2.f.x=x'.f.x/\x_2.n<=x'.n/\x_2.f.y=x'.f.y/\x_2.n<=x'.n/\x_2.f.h=x'.f.h/\x_2.f.t=x'.f.t/\x_2.n<=x'.n/\True else ∃(x':TvX),((TvJ x'/\x'.j<=x'.a.links.length)/\x'.O.length-x'.i=x.O.length-x.i/\(x'.O.length-x'.i)*10+(x'.a.links.length-x'.j)<(x_1.O.length-x_1.i)*10+(x_1.a.links.length-x_1.j))/\0=0/\3=3/\lR 63 x_2.qs=lR 63 x'.qs/\0=0/\1=1/\shN 115300000 (Qo x_2.fs x_2.a.links)=shN 115300000 (Qo x'.fs x'.a.links)/\true=true/\12=12/\Zb (bx4 126400000) (XE x_2.ls x_2.a.links)=Zb (bx4 126400000) (XE x'.ls x'.a.links)/\1=1/\Zb Xh x_2.O=Zb Xh x'.O/\Za x_2.O.length=Za x'.O.length/\Za x_2.i=Za x'.i/\1=1/\shN 115300000 (Qo x_2.fs x_2.a.links)=shN 115300000 (Qo x'.fs x'.a.links)/\Za x_2.a.links.length=Za x'.a.links.length/\IntKind.i64.wrap (Za x_2.j+1)=Za x'.j/\34=34/\x_2.a.name=x'.a.name/\x_2.a.x=x'.a.x/\63<=63/\x_2.a.y=x'.a.y/\63<=63/\x_2.a.half=x'.a.half/\x_2.a.t=x'.a.t/\63<=63/\16=16/\Zb QC x_2.a.links=Zb QC x'.a.links/\31=31/\x_2.f.x=x'.f.x/\x_2.n<=x'.n/\x_2.f.y=x'.f.y/\x_2.n<=x'.n/\x_2.f.h=x'.f.h/\x_2.f.t=x'.f.t/\x_2.n<=x'.n/\True else ∃(x':TvX),(TvI x'/\OfNat.ofNat 0=0/\x'.O.length-x'.i<x.O.length-x.i)/\0=0/\3=3/\lR 63 x_1.qs=lR 63 x'.qs/\0=0/\1=1/\shN 115300000 (Qo x_1.fs x_1.a.links)=shN 115300000 (Qo x'.fs x'.a.links)/\true=(Zl x'.i x'.O).any (UW x'.qs)/\1=1/\Zb Xh x_1.O=Zb Xh x'.O/\Za x_1.O.length=Za x'.O.length/\IntKind.i64.wrap (Za x_1.i+1)=Za x'.i/\34=34/\x_1.a.name=x'.a.name/\x_1.a.x=x'.a.x/\63<=63/\x_1.a.y=x'.a.y/\63<=63/\x_1.a.half=x'.a.half/\x_1.a.t=x'.a.t/\63<=63/\16=16/\Zb QC x_1.a.links=Zb QC x'.a.links/\31=31/\x_1.f.x=x'.f.x/\x_1.n<=x'.n/\x_1.f.y=x'.f.y/\x_1.n<=x'.n/\x_1.f.h=x'.f.h/\x_1.f.t=x'.f.t/\x_1.n<=x'.n/\True else K (AV.x false [Zi (Zd ((Zl x.i x.O).any (UW x.qs)))])))) ?_
 simp only[Int.ofNat_eq_natCast,R0,R1,Zc,R4];refine⟨l,rfl,hl,fun a ha hn=> ?_⟩;have hg:=MadeA.good ha;obtain⟨L0,L1,hL⟩: ∃L0 L1,a.links=[L0,L1]:=by
  match h:a.links,hn with
  | [x,y],_=>exact⟨x,y,rfl⟩
 refine⟨a,m,rfl,rfl,⟨hg,hm⟩,fun qs hq hql=> ?_⟩;rw[hL]at hql;obtain⟨t0,t1,rfl⟩: ∃t0 t1,qs=[t0,t1]:=by
  match qs,hql with
  | [x,y],_=>exact⟨x,y,rfl⟩
 have c2:[t0,t1].length=a.links.length:=by rw[hL];rfl
 refine⟨a,63,[t0,t1],rfl,rfl,⟨hg,by omega,c2⟩,fun n f hnb hf=> ?_⟩;rw[hL]at hf;obtain⟨⟨bfx,bfy⟩,⟨l1,l2⟩,rs,R,O,hs,o1,o2,⟨sa,sb,o3,o4⟩,oall⟩:=QNQ ha hL hq hf;have shl: ∀ps,(shN 115300000 ps).length=ps.length:=fun ps=>by simp[shN]
 refine⟨a,L0,L1,rs,R,O,rfl,⟨⟨hg,hL⟩,bfx,bfy⟩,hs,fun h=> ?_,fun _=>⟨a,63,[t0,t1],rfl,rfl,⟨hg,by omega,c2⟩,fun fs g hfs hfl=> ?_⟩⟩
 ·rw[h]at o3;cases o3
 have I0:TvI ⟨a,[t0,t1],n,f,fs,g,O,0,[],[],zLo,0,0⟩:=by
  refine⟨hg,hn,rfl,hnb,hfs,hfl,by show O.length<=1000;omega,Nat.zero_le _,fun o ho=> ?_,List.any_eq_true.2 ⟨[sa,sb],o3,by simp[UW,XW,o4]⟩⟩;obtain⟨ua,ub,r0,r1,rfl,k1,k2,_,_,S⟩:=oall o ho;refine⟨rfl,⟨[r0,r1],QFT k1 k2⟩,fun b hb=> ?_⟩;have hb:(XI (Xe a) a.links [ua,ub])[2]? =some b:=hb
  rw[hL]at hb;exact QVn S k1 k2 hb
 refine⟨⟨_,I0,rfl,rfl,rfl,rfl,by rw[Zh],rfl,rfl,rfl,rfl,rfl,rfl,rfl,rfl,Zc _,rfl,Zc _,rfl,rfl,Zc _⟩,fun x hx=>QF (fun hp=> ?_) (fun hp=> ?_)⟩
 ·have hp:x.i<x.O.length:=by have:=R5 hp;omega
  have hlen:=hx.len;have hnx:=hx.n;have hnb:=hx.nb;have hqlx:=hx.ql;obtain⟨o,ho⟩: ∃o,x.O[x.i]? =some o:=⟨_,Ze hp⟩
  obtain⟨h2,⟨rs,hrs⟩,hbox⟩:=hx.ans o (Zk ho);obtain⟨s,t,rfl⟩: ∃s t,o=[s,t]:=by
   match o,h2 with
   | [x,y],_=>exact⟨x,y,rfl⟩
  obtain⟨q0,q1,hqs⟩: ∃q0 q1,x.qs=[q0,q1]:=by
   match h:x.qs,hqlx with
   | [x,y],_=>exact⟨x,y,rfl⟩
  have hr2:rs.length=2:=hrs.1.symm;obtain⟨r0,r1,rfl⟩: ∃r0 r1,rs=[r0,r1]:=by
   match rs,hr2 with
   | [x,y],_=>exact⟨x,y,rfl⟩
  obtain⟨hs0,ht0⟩:=hrs.tail;obtain⟨ht0,_⟩:=ht0.tail;have hgc:QX x.a/\((100000:Nat)<=100000/\[s,t].length=x.a.links.length)/\HasQ [s,t] [r0,r1]:=⟨hx.good,⟨Zc _,by rw[hnx];rfl⟩,hrs⟩;refine⟨by rw[Zh];omega,_,by rw[Zn];exact QZ5 ho,x.a,100000,[s,t],[r0,r1],rfl,rfl,hgc,x.a,100000,[s,t],[r0,r1],rfl,rfl,hgc,fun ls l2 he hls=> ?_⟩;have sl:=QJE x.a.links [s,t] (Xe x.a) (by rw[hnx];rfl);have bl:=UK hls;have pl:=UI hx.l2;obtain⟨b,hb⟩: ∃b,(XI (Xe x.a) x.a.links [s,t])[2]? =some b:=⟨_,Ze (by omega)⟩
  have nxt:UW x.qs [s,t]=false->TvI {x with i:=x.i+1}/\(x.O.take x.i).any (UW x.qs)=(x.O.take (x.i+1)).any (UW x.qs):=fun h=>
   ⟨⟨hx.good,hx.n,hx.ql,hx.nb,hx.e2,hx.l2,hx.len,hp,hx.ans,hx.one⟩,by rw[QHL ho,h,Bool.or_false]⟩
  have hO:UW x.qs [s,t]=(XW s q0&&XW t q1):=by rw[hqs];rfl
  refine QF (fun h=>by simp at h) (fun _=>QF (fun h=>by simp[sl,hnx]at h) (fun _=>QF (fun h=>by simp[bl,shl,pl]at h) (fun _=>⟨by rw[Zh,sl];omega,_,_,_,_,_,_,_,_,Qbq hb,⟨by omega,hbox b hb⟩,by simp,_,_,_,_,HX (t:=s) rfl,by rw[XU];omega,q0,63,Xz (by rw[hqs];rfl),⟨by omega,Zo hs0.1 hs0.2⟩,QF (fun h0=> ?_) (fun h0=>⟨by simp,_,_,_,_,HX (t:=t) rfl,by rw[XU];omega,q1,63,Xz (by rw[hqs];rfl),⟨by omega,Zo ht0.1 ht0.2⟩,QF (fun h1=> ?_) (fun h1=> ?_)⟩)⟩)))
  ·have h0:XW s q0=false:=by simpa using h0
   obtain⟨n1,n2⟩:=nxt (by rw[hO,h0,Bool.false_and]);exact⟨{x with i:=x.i+1},⟨n1,by show x.O.length-(x.i+1)<x.O.length-x.i;omega⟩,rfl,rfl,n2,rfl,rfl,by rw[w64 (by omega)];simp,rfl,rfl,rfl,rfl,rfl,rfl,rfl,Zc _,rfl,Zc _,rfl,rfl,Zc _⟩
  ·have h1:XW t q1=false:=by simpa using h1
   obtain⟨n1,n2⟩:=nxt (by rw[hO,h1,Bool.and_false]);exact⟨{x with i:=x.i+1},⟨n1,by show x.O.length-(x.i+1)<x.O.length-x.i;omega⟩,rfl,rfl,n2,rfl,rfl,by rw[w64 (by omega)];simp,rfl,rfl,rfl,rfl,rfl,rfl,rfl,Zc _,rfl,Zc _,rfl,rfl,Zc _⟩
  have h0:XW s q0=true:=by simpa using h0
  have h1:XW t q1=true:=by simpa using h1
  have hsp: ∀{s:Sp} {q:Rat},XW s q=true->s.has q:=fun {s q} h=>by
   unfold XW at h;simp at h;exact h
  have J0:TvJ {x with ts:=[s,t],ls:=ls,l:=l2,j:=0}:=by
   refine⟨⟨hx.good,hx.n,hx.ql,hx.nb,hx.e2,hx.l2,hx.len,hx.le,hx.ans,hx.one⟩,hp,⟨by show x.O.getD x.i []=[s,t];rw[Zm,ho];rfl,?_⟩,he,hls⟩;show HasQ [s,t] x.qs
   rw[hqs];exact QFT (hsp h0) (hsp h1)
  refine⟨⟨_,⟨⟨J0,Nat.zero_le _⟩,rfl⟩,rfl,rfl,rfl,rfl,rfl,rfl,rfl,by rw[shl,pl],rfl,rfl,rfl,rfl,rfl,rfl,rfl,rfl,Zc _,rfl,Zc _,rfl,rfl,Zc _⟩,fun y hy hyt=>QF (fun hj=> ?_) (fun hj=> ?_)⟩
  ·have hj:y.j<y.a.links.length:=by have:=R5 hj;omega
   have hyn:=hy.1.i.n;have hyp:=UI hy.1.i.l2;obtain⟨L,e,w,hL,hw,hh,hs,eS,hpo⟩:=QWp hy.1 hj;have p1:=hpo.lo;have p2:=hpo.hi;refine⟨by rw[shl];omega,_,by rw[Zn];exact Qbf hs,⟨{y with k:=0},⟨⟨⟨⟨hy.1.i.good,hy.1.i.n,hy.1.i.ql,hy.1.i.nb,hy.1.i.e2,hy.1.i.l2,hy.1.i.len,hy.1.i.le,hy.1.i.ans,hy.1.i.one⟩,hy.1.hi,hy.1.has,hy.1.e1,hy.1.l1⟩,hj,Nat.zero_le _⟩,rfl⟩,rfl,rfl,rfl,rfl,rfl,rfl,rfl,rfl,rfl,rfl,congrArg (Zb (Q6 115300000)) eS.symm,?_,rfl,rfl,rfl,rfl,rfl,rfl,rfl,rfl,Zc _,rfl,Zc _,rfl,rfl,Zc _⟩,fun z hz hzt=>QF (fun hk=> ?_) (fun hk=> ?_)⟩
   ·show _=((tvS y).length:Int)
    rw[eS,Zh]
   ·have hk:z.k<(tvS z).length:=by have:=R5 hk;omega
    obtain⟨M,e',w',hM,hw',hhz,hs',eS',hpo'⟩:=QWp hz.1 hz.2.1;have q1:=hpo'.lo;have q2:=hpo'.hi;have hzn:=hz.1.i.n;have hzl:=hz.1.l1;have hSl:(tvS z).length=M.shape.length:=by rw[eS',Zh]
    obtain⟨p,hpp⟩: ∃p,M.shape[z.k]? =some p:=⟨_,Ze (by omega)⟩
    have s1:(tvS z)[z.k]? =some (plV e' p):=by rw[eS',List.getElem?_map,hpp];rfl
    have hb:=QDV hw' hM;have hbl:=UK hzl;have hc:=QQY hhz (Zk hpp);have hzj:=hz.2.1;refine⟨by rw[Zh];omega,_,_,_,_,Vv (by simpa using s1),by rw[Zh];omega,_,_,_,_,_,_,_,_,by rw[Zn];exact QZN hb,⟨by omega,⟨hc.1.1,hc.2.1⟩,hc.1.2,hc.2.2⟩,{z with k:=z.k+1},⟨⟨⟨⟨hz.1.i.good,hz.1.i.n,hz.1.i.ql,hz.1.i.nb,hz.1.i.e2,hz.1.i.l2,hz.1.i.len,hz.1.i.le,hz.1.i.ans,hz.1.i.one⟩,hz.1.hi,hz.1.has,hz.1.e1,hz.1.l1⟩,hz.2.1,hk⟩,hzt,?_⟩,rfl,rfl,rfl,rfl,rfl,rfl,rfl,rfl,rfl,rfl,rfl,rfl,by rw[w64 (by omega)];simp,rfl,rfl,rfl,rfl,rfl,rfl,rfl,Zc _,rfl,Zc _,rfl,rfl,Zc _⟩;show(tvS z).length-(z.k+1)<(tvS z).length-z.k
    omega
   ·have hzi:=hz.2.1;have hzn:=hz.1.i.n;exact⟨{z with j:=z.j+1},⟨⟨⟨⟨hz.1.i.good,hz.1.i.n,hz.1.i.ql,hz.1.i.nb,hz.1.i.e2,hz.1.i.l2,hz.1.i.len,hz.1.i.le,hz.1.i.ans,hz.1.i.one⟩,hz.1.hi,hz.1.has,hz.1.e1,hz.1.l1⟩,hzi⟩,by show z.O.length-z.i=_;omega,by show(z.O.length-z.i)*10+(z.a.links.length-(z.j+1))<_;omega⟩,rfl,rfl,rfl,rfl,rfl,rfl,rfl,rfl,by rw[w64 (by omega)];simp,rfl,rfl,rfl,rfl,rfl,rfl,rfl,Zc _,rfl,Zc _,rfl,rfl,Zc _⟩
  ·have hyi:=hy.1.hi;have hyl:=hy.1.i.len;obtain⟨o,ho⟩: ∃o,y.O[y.i]? =some o:=⟨_,Ze hyi⟩
   have hts:o=y.ts:=by have:=hy.1.has.1;rw[Zm,ho]at this;exact this
   have hany:true=(y.O.take (y.i+1)).any (UW y.qs):=by
    rw[QHL ho,hts];have h2:=hy.1.i.ql;have h:=hy.1.has.2;generalize y.ts=ts at h;generalize y.qs=qs at h h2⊢;have h3:=h.1;obtain⟨u,v,rfl⟩: ∃u v,qs=[u,v]:=by
     match qs,h2 with
     | [u,v],_=>exact⟨u,v,rfl⟩
    obtain⟨s,t,rfl⟩: ∃s t,ts=[s,t]:=by
     match ts,h3 with
     | [s,t],_=>exact⟨s,t,rfl⟩
    obtain⟨k1,k2⟩:=h.tail;obtain⟨k2,_⟩:=k2.tail;have:UW [u,v] [s,t]=true:=by show(XW s u&&XW t v)=true;simp[XW,k1.1,k1.2,k2.1,k2.2]
    rw[this,Bool.or_true]
   exact⟨{y with i:=y.i+1},⟨⟨hy.1.i.good,hy.1.i.n,hy.1.i.ql,hy.1.i.nb,hy.1.i.e2,hy.1.i.l2,hy.1.i.len,hyi,hy.1.i.ans,hy.1.i.one⟩,by show y.O.length-(y.i+1)<_;omega⟩,rfl,rfl,hany,rfl,rfl,by rw[w64 (by omega)];simp,rfl,rfl,rfl,rfl,rfl,rfl,rfl,Zc _,rfl,Zc _,rfl,rfl,Zc _⟩
 ·have hp:x.i=x.O.length:=by have:=R6 hp;have:=hx.le;omega
  rw[hp,List.take_length,hx.one];exact hK
theorem QNT (l m:List Int)(hl:l.length*8<=140737488351232)(_: ∀n∈l,-9223372036854775808<=n/\n<9223372036854775808)(hm:m.length<=9223372036854775807):Eng.Spec Tryz.prog QGR QCb 8 [.x false [.s 1 (ints l)],.x false [.s 1 (ints m)]] (fun av=>av= .x false [.v (.bool true)]):=
 Qm (QP QaI Gc Qg) QM Tryz.func8 (by kernel_rfl) (by kernel_rfl) (by rfl) (QaJ l m hl hm _ rfl)
end Go.Proofs
