/- sturm: split, Roots. -/
import Derived.Test.YtmpfaflhpioaiaaGreatDoorIS
open _root_ renaming List → A, Rat → C, Nat → D, Int → G, True → H, OfNat → O, Bool → Q
open Option renaming some → B, none → M
open Bool renaming false → E, true → I
open List renaming length → F, map → N, length_set → Zh, take → Zn, getElem?_eq_getElem → Zj, getElem?_set_self → Zk, length → Sj
open Int renaming ofNat → J, ofNat_eq_natCast → Zf
open Go.Eng.Ch renaming r → L
open Go.IntKind renaming i64 → P, i64 → Zd
open Nat renaming le_refl → S, lt_succ_self → Zg, zero_add → Zm, eq_of_beq_eq_true → Zl, le_refl → Ze
open Go.Value renaming slice → Zi
set_option maxHeartbeats 1000000
set_option maxRecDepth 100000
namespace Go.Proofs
open Go Go.Eng Tryz
def Wx (l:A Sp):Blk:= .row 113 6 (l.map (spN 100000))
structure Sq where
 k:D
 m:C
 b:C
structure S4 (c:A (A C))(k:D)(out out':A Sp)(s:Sp)(x:Sq):Prop where
 mid:Ge s=B x.m
 rest: ∃t,HL c x.m x.k x.b=B t/\ ∃o,Xo c k out ⟨s.lo,t.lo⟩=B o/\Xo c k (o++[⟨x.m,x.m⟩]) ⟨t.hi,s.hi⟩=B out'
def QkU (s:Sp):Blk:= .box 113 [.r s.lo 100000,.r s.hi 100000]
def rBx (x:C):Blk:= .box 25 [.r x 100000]
def QR3 (c:A (A C))(k:D)(s:Sp)(o:A Sp):LI:=fun _=> .inv ⟨Sq,fun x=>⟨[(0,sC c),(1,.x E [.v (.slice M 0 0)]),(5,.x E [.p 5 0]),(8,.x E [.p 8 0]),(9,.x E [.p 9 0])],[(5,QkU s),(8,rBx x.m),(9,rBx x.b)]⟩,S4 c k [] o s,fun x=>x.k,fun _=>0⟩
def QR4 (c:A (A C))(k:D)(s:Sp)(o a:A Sp):LI:=fun _=> .inv ⟨Sq,fun x=>⟨[(0,sC c),(1,.x E [.w 1000 0 o.length]),(5,.x E [.p 5 0]),(8,.x E [.p 8 0]),(9,.x E [.p 9 0])],[(1000,Wx o),(5,QkU s),(8,rBx x.m),(9,rBx x.b)]⟩,S4 c k o a s,fun x=>x.k,fun _=>0⟩
def dI (c:A (A C))(k:D)(a o:A Sp)(s:Sp):Prop:=(((1<=F c/\c.length<=200000)/\ ∀p∈c,F p<=1000)/\o.length<=1000000)/\Xo c k a s=B o
def Gj (k:D):XS:=fun e H d=>match e with
 | [.x E [.s 1 x],.x E [o],.x I y]=>match o with
  | .v (.slice M 0 0)=>match H d with
   | none=>B fun K=> ∃(c:A (A C)) (s:Sp) (a:A Sp),x=chN c/\y=[.r s.lo 100000,.r s.hi 100000]/\dI c k [] a s/\K (.x E [.w d 0 a.length]) (upd H d (B (Wx a)))
   | some _=>M
  | .w j z n=>match z with
   | 0=>match H j,H d with
    | some (.row t 6 f),M=>bif t.beq 113 then B fun K=> ∃(c:A (A C)) (s:Sp) (b a:A Sp),x=chN c/\y=[.r s.lo 100000,.r s.hi 100000]/\f=b.map (spN 100000)/\n=F b/\dI c k b a s/\K (.x E [.w d 0 a.length]) (upd (upd H j (B .dead)) d (B (Wx a)))else M
    | _,_=>M
   | _+1=>M
  | _=>M
 | _=>M
def Msp (k:D):A (D×XS):=(159,Gj k)::Ww
noncomputable def Tsp (k:D):Qd:=mkT aU (Msp k) X4
def QPO:OT:=fun a=>bif a.beq 8 then([0,1,2,3,4,5,6,8,9,10,11,7,12,13],[[],[],[],[],[3],[],[4,3,5],[1,2,6,4,3,5],[],[],[9],[8,10,9],[0,7,1,2,6,4,3,5,11,8,10,9],[12,0,7,1,2,6,4,3,5,11,8,10,9]])else bif a.beq 10 then([0,1,2,3,4,5,6],[[],[],[1],[1,2],[3,1,2],[0,4,3,1,2],[5,0,4,3,1,2]])else bif a.beq 11 then([0,1,3,4,7,2,5,6,8],[[],[],[0,1],[],[],[3,4,2,0,1],[2,0,1,5,3,4],[],[7,6,2,0,1,5,3,4]])else bif a.beq 13 then([0,1,2,3,4,5,6,8,7,9,10,11,12],[[],[],[],[2],[],[4],[3,2,5,4],[0,1,6,3,2,5,4],[],[8,7,0,1,6,3,2,5,4],[9,8,7,0,1,6,3,2,5,4],[7,0,1,6,3,2,5,4,10,9,8],[11,7,0,1,6,3,2,5,4,10,9,8]])else([],[])
variable{c:A (A C)}
theorem U5: ∀{k:D} {a o:A Sp} {s:Sp},Xo c k a s=B o->F a<=F o:=by
 intro k;induction k with
 | zero=>intro a o s h;cases h
 | succ k e=>
  intro a o s h;rw[Xo]at h;obtain⟨n,v,h⟩:=bind_some h;cases f:n==0 with
  | true=>rw[f]at h;cases h;exact S _
  | false=>
   rw[f]at h;cases d:n==1 with
   | true=>rw[d]at h;cases h;simp
   | false=>
    rw[d]at h;simp only[R8]at h;obtain⟨m,u,h⟩:=bind_some h;obtain⟨z,x,h⟩:=bind_some h;cases z with
    | false=>
     obtain⟨r,g,h⟩:=bind_some h;exact D.le_trans (e g) (e h)
    | true=>
     obtain⟨b,j,h⟩:=bind_some h;obtain⟨t,w,h⟩:=bind_some h;obtain⟨r,p,h⟩:=bind_some h;have y:=e p;have q:=e h;simp at q;omega
variable{s:Sp}
theorem ni {o:A Sp}:Zn o.length (N (spN 100000) o)++[[L s.lo 100000,L s.hi 100000]]=N (spN 100000) (o++[s]):=by
 rw[A.take_of_length_le o6,A.map_append];rfl
def P1(a:C):=L a 100000
def Pv(a:A Sp):=N (spN 100000) a
def P2:=100000<=100000
def Py(a b:C):A Ch:=[P1 a,P1 b]
def Pw(a b:A (A C)):=chN a=chN b
def Pu(a b:Sp):=Py a.lo b.hi
def Px:=0=0
def Pz:D:=O.ofNat 0
def P0(a:A (A C)->Sp->Prop):=∃(z:A (A C))(y:Sp),a z y
def P3:=Zi M 0 0
def P7(a b c d:A Sp):=Pv a=Pv b\/QC (Pv c) (Pv d)
def P5(a b:A Sp):=F a=b.length
def P6(a:A Sp):=F a+1
def P9(a:Prop)(b c d e:Sp)(f:C)(g:Sq)(h:C)(i:Sq):=a/\113=113/\b.lo=c.lo/\P2/\d.hi=e.hi/\P2/\25=25/\f=g.m/\P2/\25=25/\h=i.b/\P2/\H
def P8(a b:A (A C))(c:A C->A (A C))(d:A Sp)(e:A (A C))(f:D)(g:A Sp)(h:Sp)(i:A Sp):=(((1<=F a/\b.length<=200000)/\∀(z:A C),z∈c z->F z<=1000)/\d.length<=1000000)/\Xo e f g h=B i
def RA(a b:Unit->Prop):=∃(z:Unit),H/\0=0/\a z/\113=113/\6=6/\b z/\H
def RB(a:A (A C)->Q->A (A C))(b:A (A C)->Q->C)(c d:A (A C)->Q->Prop):=∃(z:A (A C))(y:Q),Pw (a z y) z/\(((1<=F z/\P2)/\∀(x:A C),x∈z->F x<=1000)/\W0 z (b z y)=B y)/\bif !y then c z y else d z y
def RJ(a:G):=a<9223372036854775808
def RD(a:Option C)(b:C)(c:C->Prop):=a=B b/\200001<=4294967296/\∃(z:C),c z
def RH(a b:A (A C))(c:A C->A (A C))(d:A (A C))(e:Sp)(f g h:G)(i j:Prop):=(((1<=F a/\b.length<=200000)/\∀(z:A C),z∈c z->F z<=1000)/\Jp d e=B f)/\bif g ==h then i else j
def RE(a b:D)(c:Prop):=(a*80<=140737488355328/\b<=9223372036854775807)/\c
def RI(a b:G):=(-9223372036854775808:G)<=a/\RJ (b:G)
theorem Qcx (c:A (A C))(k:D)(s:Sp)(O:A Sp)(h:dI c (k+1) [] O s):QM (Xp (X:=Unit) (Tsp k) QPO (QR3 c k s O) f159 [sC c,.x E [.v (.slice M 0 0)],.x I [.r s.lo 100000,.r s.hi 100000]] [] (fun _=>H) (fun _=>⟨[(6,.x E [.w 0 0 O.length])],[(0,Wx O)]⟩)):=by
 refine HV (P0 (fun At ja=>∃(R:G),Pw c At/\Pu s s=Pu ja ja/\RH At At (fun v=>At) At ja R R 0 (∃(_x:Unit),H/\P3=P3/\Px/\O.length=0/\Pv O=[]/\H) (bif R ==1 then RE 1 1 (RA (fun _x=>1=F O) (fun _x=>[Pu s s]=Pv O\/QC [Pu s s] (Pv O)))else∃(jb:Sp),Pu s s=Pu jb jb/\H/\∃(u:C),Ge jb=B u/\RB (fun jh jg=>c) (fun y z=>u) (fun jh jg=>P0 (fun V jc=>∃(Q:A Sp),Pw c V/\Py s.lo u=Pu jc jc/\P8 V V (fun p=>V) Q V k [] jc Q/\P0 (fun W Z=>∃(Y T:A Sp),Pw c W/\Py u s.hi=Pu Z Z/\Pv Q=Pv Y/\Q.length=F Y/\P8 W W (fun w=>W) T W k Y Z T/\RA (fun t=>P5 T O) (fun q=>P7 T O T O)))) (fun N K=>200001<=4294967296/\∃(r:C),K5 s.hi u=B r/\(∃(x:Sq),(S4 c k [] O s x/\Pz=0)/\1=1/\Pw c c/\P3=P3/\Px/\0=0/\P9 Px s s s s u x r x)/\∀(x:Sq),S4 c k [] O s x->Pz=0->RI 0 0/\RI 1 1/\∃(n:Sp),Py ↑(0:G) ↑(1:G)=Pu n n/\H/\∃(m:C),Ge n=B m/\200000<=4294967296/\∃(l:C),RD (JX x.b m) l (fun j=>RD (K5 x.m l) j (fun i=>VM x.m l=B i/\P0 (fun V Z=>∃(R:G),Pw c V/\Py j i=Pu Z Z/\RH V V (fun h=>V) V Z R R 1 (RB (fun W R=>c) (fun f g=>j) (fun W R=>RB (fun jf R=>c) (fun d e=>i) (fun jf R=>P0 (fun Lm jd=>∃(Q:A Sp),Pw c Lm/\Py s.lo j=Pu jd jd/\P8 Lm Lm (fun p=>Lm) Q Lm k [] jd Q/\100000<=2000000000/\RE (P6 Q) (P6 Q) (P0 (fun be je=>∃(Y T:A Sp),Pw c be/\Py i s.hi=Pu je je/\Zn Q.length (Pv Q)++[Py x.m x.m]=Pv Y/\P6 Q=F Y/\P8 be be (fun b=>be) T be k Y je T/\RA (fun a=>P5 T O) (fun o=>P7 T O T O))))) (fun jf R=>∃(x':Sq),(S4 c k [] O s x'/\Pz=0/\x'.k<x.k)/\1=1/\Pw c c/\P3=P3/\Px/\0=0/\P9 Px s s s s x.m x' l x')) (fun W R=>∃(x':Sq),(S4 c k [] O s x'/\Pz=0/\x'.k<x.k)/\1=1/\Pw c c/\P3=P3/\Px/\0=0/\P9 Px s s s s x.m x' l x')) (∃(x':Sq),(S4 c k [] O s x'/\Pz=0/\x'.k<x.k)/\1=1/\Pw c c/\P3=P3/\Px/\0=0/\P9 Px s s s s x.m x' l x')))))))) ?_
 delta P1 Pv P2 Py Pw Pu Px Pz P0 P3 P7 P5 P6 P9 P8 RA RB RJ RD RH RE RI
 simp only[R0,R1,S,R4];obtain⟨⟨hk,hl⟩,h⟩:=h;rw[Xo]at h;obtain⟨n,hn,h⟩:=bind_some h;refine⟨c,s,n,rfl,rfl,⟨hk,hn⟩,QE (fun hb=> ?_) (fun hb=>QE (fun hZ=> ?_) (fun hZ=> ?_))⟩
 ·rw[hb]at h;cases h
  exact⟨(),rfl,rfl⟩
 ·rw[hb,hZ]at h;cases h
  exact⟨⟨o3,o3⟩,(),rfl,.inl rfl⟩
 ·rw[hb,hZ]at h;simp only[R8]at h;obtain⟨m,hm,h⟩:=bind_some h;obtain⟨z,hz,h⟩:=bind_some h;refine⟨s,rfl,m,hm,c,z,rfl,⟨⟨hk.1.1,hk.2⟩,hz⟩,?_⟩;cases z with
  | false=>
   simp only[R8]at h;obtain⟨o,ho,h⟩:=bind_some h;have l1:=U5 h;exact⟨c,⟨s.lo,m⟩,o,rfl,rfl,⟨⟨hk,o3⟩,ho⟩,c,⟨m,s.hi⟩,o,O,rfl,rfl,rfl,rfl,⟨⟨hk,hl⟩,h⟩,(),rfl,.inl rfl⟩
  | true=>
   simp only[R7]at h;obtain⟨b,ji,h⟩:=bind_some h;obtain⟨t,U,h⟩:=bind_some h;obtain⟨o,ho,h⟩:=bind_some h;refine⟨o3,b,ji,⟨⟨FU,m,b⟩,⟨hm,t,U,o,ho,h⟩,rfl,rfl⟩,fun x hx=> ?_⟩;obtain⟨xm,t,U,o,ho,h⟩:=hx;obtain⟨xk,m',b'⟩:=x;simp only at xm U ho h;cases xk with
   | zero=>cases U
   | succ k'=>
    rw[HL]at U;obtain⟨hh,h1,U⟩:=bind_some U;obtain⟨bb,h2,U⟩:=bind_some U;obtain⟨l,h3,U⟩:=bind_some U;obtain⟨u,h4,U⟩:=bind_some U;obtain⟨n',h5,U⟩:=bind_some U;refine⟨o3,o3,⟨_,_⟩,rfl,hh,h1,o3,bb,h2,o3,l,h3,o3,u,h4,c,⟨l,u⟩,n',rfl,rfl,⟨hk,h5⟩,QE (fun hb=> ?_) (fun hb=> ?_)⟩
    ·rw[hb]at U;simp only[R7]at U;obtain⟨z1,h6,U⟩:=bind_some U;refine⟨c,z1,rfl,⟨⟨hk.1.1,hk.2⟩,h6⟩,?_⟩;cases z1 with
     | true=>exact⟨⟨k',m',bb⟩,⟨⟨xm,t,U,o,ho,h⟩,Zg k'⟩,rfl,rfl⟩
     | false=>
      simp only[R8]at U;obtain⟨z2,h7,U⟩:=bind_some U;refine⟨c,z2,rfl,⟨⟨hk.1.1,hk.2⟩,h7⟩,?_⟩;cases z2 with
      | true=>exact⟨⟨k',m',bb⟩,⟨⟨xm,t,U,o,ho,h⟩,Zg k'⟩,rfl,rfl⟩
      | false=>
       cases U
       have l1:=U5 h;have l2:(o++[(⟨m',m'⟩:Sp)]).length=F o+1:=o6
       exact⟨c,⟨s.lo,l⟩,o,rfl,rfl,⟨⟨hk,o3⟩,ho⟩,o3,⟨o3,o3⟩,c,⟨u,s.hi⟩,o++[⟨m',m'⟩],O,rfl,rfl,ni (s:=⟨m',m'⟩),l2.symm,⟨⟨hk,hl⟩,h⟩,(),rfl,.inl rfl⟩
    ·rw[hb]at U;exact⟨⟨k',m',bb⟩,⟨⟨xm,t,U,o,ho,h⟩,Zg k'⟩,rfl,rfl⟩
theorem Qcy (c:A (A C))(k:D)(s:Sp)(O Q:A Sp)(h:dI c (k+1) O Q s):QM (Xp (X:=Unit) (Tsp k) QPO (QR4 c k s O Q) f159 [sC c,.x E [.w 1000 0 O.length],.x I [.r s.lo 100000,.r s.hi 100000]] [(1000,Wx O)] (fun _=>H) (fun _=>⟨[(6,.x E [.w 500 0 Q.length])],[(1000,.dead),(500,Wx Q)]⟩)):=by
 refine HV (P0 (fun Lm jb=>∃(R:G),Pw c Lm/\Pu s s=Pu jb jb/\RH Lm Lm (fun v=>Lm) Lm jb R R 0 (RA (fun _x=>P5 O Q) (fun _x=>P7 O Q O Q)) (bif R ==1 then RE (P6 O) (P6 O) (RA (fun _x=>P6 O=F Q) (fun _x=>Zn O.length (Pv O)++[Pu s s]=Pv Q\/QC (Zn O.length (Pv O)++[Pu s s]) (Pv Q)))else∃(jc:Sp),Pu s s=Pu jc jc/\H/\∃(u:C),Ge jc=B u/\RB (fun ji jh=>c) (fun y z=>u) (fun ji jh=>P0 (fun Y jd=>∃(V T:A Sp),Pw c Y/\Py s.lo u=Pu jd jd/\Pv O=Pv V/\O.length=F V/\P8 Y Y (fun p=>Y) T Y k V jd T/\P0 (fun Z At=>∃(O U:A Sp),Pw c Z/\Py u s.hi=Pu At At/\Pv T=Pv O/\T.length=F O/\P8 Z Z (fun w=>Z) U Z k O At U/\RA (fun t=>P5 U Q) (fun q=>P7 U Q U Q)))) (fun N K=>200001<=4294967296/\∃(r:C),K5 s.hi u=B r/\(∃(x:Sq),(S4 c k O Q s x/\Pz=0)/\1=1/\Pw c c/\0=0/\P5 O O/\0=0/\Px/\0=0/\113=113/\6=6/\P9 (P7 O O O O) s s s s u x r x)/\∀(x:Sq),S4 c k O Q s x->Pz=0->RI 0 0/\RI 1 1/\∃(n:Sp),Py ↑(0:G) ↑(1:G)=Pu n n/\H/\∃(m:C),Ge n=B m/\200000<=4294967296/\∃(l:C),RD (JX x.b m) l (fun j=>RD (K5 x.m l) j (fun i=>VM x.m l=B i/\P0 (fun Y At=>∃(R:G),Pw c Y/\Py j i=Pu At At/\RH Y Y (fun h=>Y) Y At R R 1 (RB (fun Z R=>c) (fun f g=>j) (fun Z R=>RB (fun jg R=>c) (fun d e=>i) (fun jg R=>P0 (fun be je=>∃(V T:A Sp),Pw c be/\Py s.lo j=Pu je je/\Pv O=Pv V/\O.length=F V/\P8 be be (fun p=>be) T be k V je T/\100000<=2000000000/\RE (P6 T) (P6 T) (P0 (fun hZ jf=>∃(O U:A Sp),Pw c hZ/\Py i s.hi=Pu jf jf/\Zn T.length (Pv T)++[Py x.m x.m]=Pv O/\P6 T=F O/\P8 hZ hZ (fun b=>hZ) U hZ k O jf U/\RA (fun a=>P5 U Q) (fun o=>P7 U Q U Q))))) (fun jg R=>∃(x':Sq),(S4 c k O Q s x'/\Pz=0/\x'.k<x.k)/\1=1/\Pw c c/\0=0/\P5 O O/\0=0/\Px/\0=0/\113=113/\6=6/\P9 (P7 O O O O) s s s s x.m x' l x')) (fun Z R=>∃(x':Sq),(S4 c k O Q s x'/\Pz=0/\x'.k<x.k)/\1=1/\Pw c c/\0=0/\P5 O O/\0=0/\Px/\0=0/\113=113/\6=6/\P9 (P7 O O O O) s s s s x.m x' l x')) (∃(x':Sq),(S4 c k O Q s x'/\Pz=0/\x'.k<x.k)/\1=1/\Pw c c/\0=0/\P5 O O/\0=0/\Px/\0=0/\113=113/\6=6/\P9 (P7 O O O O) s s s s x.m x' l x')))))))) ?_
 delta P1 Pv P2 Py Pw Pu Px Pz P0 P7 P5 P6 P9 P8 RA RB RJ RD RH RE RI
 simp only[R0,R1,S,R4,R2];obtain⟨⟨hk,hl⟩,h⟩:=h;rw[Xo]at h;obtain⟨n,hn,h⟩:=bind_some h;refine⟨c,s,n,rfl,rfl,⟨hk,hn⟩,QE (fun hb=> ?_) (fun hb=>QE (fun ja=> ?_) (fun ja=> ?_))⟩
 ·rw[hb]at h;cases h
  exact⟨(),rfl,.inl rfl⟩
 ·rw[hb,ja]at h;cases h
  exact⟨⟨by simp at hl;omega,by simp at hl;omega⟩,(),o6,.inl ni⟩
 ·rw[hb,ja]at h;simp only[R8]at h;obtain⟨m,hm,h⟩:=bind_some h;obtain⟨z,hz,h⟩:=bind_some h;refine⟨s,rfl,m,hm,c,z,rfl,⟨⟨hk.1.1,hk.2⟩,hz⟩,?_⟩;cases z with
  | false=>
   simp only[R8]at h;obtain⟨o,ho,h⟩:=bind_some h;have l1:=U5 h;exact⟨c,⟨s.lo,m⟩,O,o,rfl,rfl,rfl,rfl,⟨⟨hk,o3⟩,ho⟩,c,⟨m,s.hi⟩,o,Q,rfl,rfl,rfl,rfl,⟨⟨hk,hl⟩,h⟩,(),rfl,.inl rfl⟩
  | true=>
   simp only[R7]at h;obtain⟨b,jj,h⟩:=bind_some h;obtain⟨t,W,h⟩:=bind_some h;obtain⟨o,ho,h⟩:=bind_some h;refine⟨o3,b,jj,⟨⟨FU,m,b⟩,⟨hm,t,W,o,ho,h⟩,rfl,rfl⟩,fun x hx=> ?_⟩;obtain⟨xm,t,W,o,ho,h⟩:=hx;obtain⟨xk,m',b'⟩:=x;simp only at xm W ho h;cases xk with
   | zero=>cases W
   | succ k'=>
    rw[HL]at W;obtain⟨hh,h1,W⟩:=bind_some W;obtain⟨bb,h2,W⟩:=bind_some W;obtain⟨l,h3,W⟩:=bind_some W;obtain⟨u,h4,W⟩:=bind_some W;obtain⟨n',h5,W⟩:=bind_some W;refine⟨o3,o3,⟨_,_⟩,rfl,hh,h1,o3,bb,h2,o3,l,h3,o3,u,h4,c,⟨l,u⟩,n',rfl,rfl,⟨hk,h5⟩,QE (fun hb=> ?_) (fun hb=> ?_)⟩
    ·rw[hb]at W;simp only[R7]at W;obtain⟨z1,h6,W⟩:=bind_some W;refine⟨c,z1,rfl,⟨⟨hk.1.1,hk.2⟩,h6⟩,?_⟩;cases z1 with
     | true=>exact⟨⟨k',m',bb⟩,⟨⟨xm,t,W,o,ho,h⟩,Zg k'⟩,rfl,rfl⟩
     | false=>
      simp only[R8]at W;obtain⟨z2,h7,W⟩:=bind_some W;refine⟨c,z2,rfl,⟨⟨hk.1.1,hk.2⟩,h7⟩,?_⟩;cases z2 with
      | true=>exact⟨⟨k',m',bb⟩,⟨⟨xm,t,W,o,ho,h⟩,Zg k'⟩,rfl,rfl⟩
      | false=>
       cases W
       have l1:=U5 h;have l2:(o++[(⟨m',m'⟩:Sp)]).length=F o+1:=o6
       exact⟨c,⟨s.lo,l⟩,O,o,rfl,rfl,rfl,rfl,⟨⟨hk,o3⟩,ho⟩,o3,⟨o3,o3⟩,c,⟨u,s.hi⟩,o++[⟨m',m'⟩],Q,rfl,rfl,ni (s:=⟨m',m'⟩),l2.symm,⟨⟨hk,hl⟩,h⟩,(),rfl,.inl rfl⟩
    ·rw[hb]at W;exact⟨⟨k',m',bb⟩,⟨⟨xm,t,W,o,ho,h⟩,Zg k'⟩,rfl,rfl⟩
theorem QR5 {H:HP}{k d:D}{b b':Blk}(hk:H k=B b)(g:H d=M):XW [(1000,k),(500,d)] (QO [(1000,Blk.dead),(500,b')]) H=upd (upd H k (B .dead)) d (B b'):=by
 have m:d≠k:=fun h=>by subst h;rw[hk]at g;cases g
 funext j;unfold XW;simp only[lkB];cases h:j.beq k with
 | true=>
  have:=Zl h;subst this;rw[Qc _ _ (fun h=>m h.symm),QT];rfl
 | false=>
  have a:j≠k:=fun e=>by subst e;simp at h
  simp only[R8];cases f:j.beq d with
  | true=>
   have:=Zl f;subst this;rw[QT];rfl
  | false=>
   have:j≠d:=fun e=>by subst e;simp at f
   rw[Qc _ _ this,Qc _ _ a];rfl
theorem QYS: ∀k,Xg 159 (Gj k):=by
 intro k;induction k with
 | zero=>
  refine⟨Qf func159 o4,fun l H d T a K f=> ?_⟩;exfalso;unfold Gj at a;split at a
  ·split at a
   ·split at a
    ·cases a;obtain⟨c,s,o,_,_,h,_⟩:=f;cases h.2
    ·cases a
   ·split at a
    ·split at a
     ·rename_i t z _ _;cases g:t.beq 113 with
      | false=>rw[g]at a;cases a
      | true=>rw[g]at a;cases a;obtain⟨c,s,e,o,_,_,_,_,h,_⟩:=f;cases h.2
     ·cases a
    ·cases a
   ·cases a
  ·cases a
 | succ k w=>
  have p:Qr (Tsp k):=QP eY (CtrMsOK.cons w YC) Qb;refine⟨Qf func159 o4,fun l H d T a K f=> ?_⟩;unfold Gj at a;split at a
  ·split at a
   ·split at a
    ·rename_i r;cases a
     obtain⟨c,s,o,rfl,rfl,h,f⟩:=f;exact WW p QK func159 o4 o4 j6 rfl r rfl (Qcx c k s o h) (by rw[wX];exact f)
    ·cases a
   ·split at a
    ·split at a
     ·rename_i _ j _ _ _ _ t z u r;cases g:t.beq 113 with
      | false=>rw[g]at a;cases a
      | true=>
       rw[g]at a;cases a
       have v:=Zl g;subst v;obtain⟨c,s,e,o,rfl,rfl,rfl,rfl,h,f⟩:=f;refine Xc (R:=[(1000,j)]) (N:=[(500,d)]) (Hl:=[(1000,Wx e)]) p QK func159 o4 o4 j6
        (as0:=[sC c,.x E [.w 1000 0 e.length],.x I [.r s.lo 100000,.r s.hi 100000]]) ?_ (Kk u rfl rfl) rfl o6 o6 (fun q m=>by simp at m;subst m;exact r) (fun x=>⟨fun q m=> ?_,fun q m b g=> ?_⟩) (Qcy c k s e o h) (fun x y=>⟨_,rfl,?_⟩)
       ·simp[X7,X2,XZ,lkB,sC]
       ·simp at m;subst m;exact fun h=>by have n:B Blk.dead=M:=h;cases n
       ·simp at m;rcases m with rfl | rfl
        ·have n:B Blk.dead=B b:=g;cases n;rfl
        ·have n:B (Wx o)=B b:=g;cases n;rfl
       ·show K _ (XW [(1000,j),(500,d)] (QO [(1000,Blk.dead),(500,Wx o)]) H)
        rw[QR5 (b:=Wx e) u r];exact f
     ·cases a
    ·cases a
   ·cases a
  ·cases a
def S5:A (D×XS):=(159,Gj FU)::Ww
theorem al:XK S5:= .cons (QYS FU) YC
theorem pg {p:A C}{R:A Sp}(h:KW p=B R): ∃c m o,JE p=B c/\Kr (c.getD 0 []) 1=B m/\Xo c FU [] ⟨-m,m⟩=B o/\o.length<=1000/\YT c (F o-1) 1 o=B R:=by
 unfold KW at h;obtain⟨c,b,h⟩:=bind_some h;obtain⟨m,d,h⟩:=bind_some h;obtain⟨o,e,h⟩:=bind_some h;cases a:D.ble o.length 1000 with
 | true=>rw[a]at h;exact⟨c,m,o,b,d,e,D.le_of_ble_eq_true a,h⟩
 | false=>rw[a]at h;cases h
variable{l:A Sp}{i:D}{t:Sp}
theorem spD(h:l[i]? =B t):l.getD i s0=t:=by rw[A.getD_eq_getElem?_getD,h];rfl
theorem QkV {a:A Sp}(h:a[i]? =B t):ldE (a.map (spN 100000)) i 3 3=B [.r t.hi 100000]:=by
 simp only[ldE,A.getElem?_map,h];rfl
theorem QkW {a:A Sp}(h:a[i]? =B t):ldE (a.map (spN 100000)) i 0 3=B [.r t.lo 100000]:=by
 simp only[ldE,A.getElem?_map,h];rfl
theorem QPP {a b:C}:YY a b<0↔a<b:=by
 unfold YY;by_cases h:a<b
 ·rw[if_pos h];exact⟨fun _=>h,fun _=>o3⟩
 ·rw[if_neg h];refine⟨fun d=> ?_,fun d=>absurd d h⟩;split at d<;>omega
theorem QKJ(h:l[i]? =B t):l.set i t=l:=by
 apply A.ext_getElem?
 intro j;by_cases e:i=j
 ·subst e;have:=(A.getElem?_eq_some_iff.1 h).1;rw[Zk this,h]
 ·rw[A.getElem?_set_ne e]
theorem Qcz{j:D}{a b d b':Sp}(h:i≠j):(l.set i a).set j b=((((l.set i d).set j b').set i a).set j b):=by
 rw[A.set_comm _ _ h.symm,A.set_set,A.set_comm _ _ h,A.set_set];exact A.set_comm _ _ h.symm
theorem QNR: ∀{k i:D} {o R:A Sp},YT c k i o=B R->F R=F o:=by
 intro k;induction k with
 | zero=>intro i o R h;cases h;rfl
 | succ k a=>
  intro i o R h;rw[YT]at h;obtain⟨r,_,h⟩:=bind_some h;rw[a h,Zh,Zh]
structure RoX where
 kk:D
 k:D
 i:D
 s:C
 out:A Sp
 r:Sp×Sp
def QNS (c:A (A C))(p:A C)(m:C)(R:A Sp):LI:=fun a=>
 bif a.beq 6 then .inv ⟨RoX,fun e=>⟨[(4,sC c),(6,.x E [.p 6 0]),(22,sR 100000 p),(23,iA .i64 p.length),(24,iA .i64 e.i)],[(6,rBx e.s)]⟩,fun e=>e.i<=F p/\Kr (p.drop e.i) e.s=B m,fun e=>F p-e.i,fun _=>0⟩
 else bif a.beq 12 then .inv ⟨RoX,fun e=>⟨[(4,sC c),(9,.x E [.w 500 0 e.out.length]),(10,iA .i64 e.i)],[(500,Wx e.out)]⟩,fun e=>((1<=e.i/\e.k=F e.out-e.i)/\e.out.length<=1000000/\e.i<=1000001)/\YT c e.k e.i e.out=B R,fun e=>e.k,fun _=>0⟩
 else .inv ⟨RoX,fun e=>⟨[(4,sC c),(9,.x E [.w 500 0 e.out.length]),(10,iA .i64 e.i)],[(500,Wx e.out)]⟩,fun e=>((1<=e.i/\e.k+1+e.i=F e.out)/\e.out.length<=1000000)/\K6 c e.kk (e.out.getD (e.i-1) s0) (e.out.getD e.i s0)=B e.r/\YT c e.k (e.i+1) ((e.out.set (e.i-1) e.r.1).set e.i e.r.2)=B R,fun e=>e.kk,fun e=>e.k+1⟩
def QBH (p:A C)(c:A (A C))(m:C)(_out:A Sp)(R:A Sp)(K:AV->Prop):Prop:=QN (mkT aU S5 X4) (oF f131) (QNS c (c.getD 0 []) m R) f131 [sR 100000 p] K
theorem QED (p:A C)(c:A (A C))(m:C)(U:A Sp)(R:A Sp)(K:AV->Prop):QBH p c m U R K=(∃(k:A C)(j:A (A C)),lR 100000 p=lR 100000 k/\(F k<=1000/\JE k=B j)/\((-9223372036854775808:G)<=1/\(1:G)<9223372036854775808)/\((0:G)<=0/\0<J (chN j).length)/\∃(V:A (A Ch)),ldE (chN j) 0 0 1=B [Ch.s 3 V]/\(∃(x:RoX),((x.i<=(c.getD 0 []).length/\Kr (A.drop x.i (c.getD 0 [])) x.s=B m)/\O.ofNat 0=0)/\1=1/\chN j=chN c/\0=0/\3=3/\V=lR 100000 (c.getD 0 [])/\J V.length=J (c.getD 0 []).length/\0=J x.i/\25=25/\↑(1:G)=x.s/\100000<=100000/\H)/\∀(x:RoX),x.i<=(c.getD 0 []).length/\Kr (A.drop x.i (c.getD 0 [])) x.s=B m->O.ofNat 0=0->bif decide (J x.i<J (c.getD 0 []).length)then(0<=J x.i/\J x.i<J (lR 100000 (c.getD 0 [])).length)/\∃(q:C)(n:D),ldE (lR 100000 (c.getD 0 [])) (J x.i).toNat 0 3=B [L q n]/\n<=100000/\200001<=4294967296/\∃(r:C),VM x.s (Xr q)=B r/\∃(b:RoX),((b.i<=(c.getD 0 []).length/\Kr (A.drop b.i (c.getD 0 [])) b.s=B m)/\O.ofNat 0=0/\(c.getD 0 []).length-b.i<(c.getD 0 []).length-x.i)/\1=1/\chN c=chN c/\0=0/\3=3/\lR 100000 (c.getD 0 [])=lR 100000 (c.getD 0 [])/\J (c.getD 0 []).length=J (c.getD 0 []).length/\P.wrap (J x.i+1)=J b.i/\25=25/\r=b.s/\100000<=100000/\H else 100000<=100000/\∃(f:A (A C))(s:Sp)(o:A Sp),chN c=chN f/\[L (-x.s) 100000,L x.s 100000]=[L s.lo 100000,L s.hi 100000]/\((((1<=F f/\f.length<=200000)/\∀(p:A C),p∈f->F p<=1000)/\o.length<=1000000)/\Xo f 100000 [] s=B o)/\(∃(x:RoX),((((1<=x.i/\x.k=F x.out-x.i)/\x.out.length<=1000000/\x.i<=1000001)/\YT c x.k x.i x.out=B R)/\O.ofNat 0=0)/\1=1/\chN c=chN c/\0=0/\o.length=F x.out/\1=J x.i/\113=113/\6=6/\(N (spN 100000) o=N (spN 100000) x.out\/QC (N (spN 100000) o) (N (spN 100000) x.out))/\H)/\∀(x:RoX),((1<=x.i/\x.k=F x.out-x.i)/\x.out.length<=1000000/\x.i<=1000001)/\YT c x.k x.i x.out=B R->O.ofNat 0=0->bif decide (J x.i<J x.out.length)then(∃(a:RoX),((((1<=a.i/\a.k+1+a.i=F a.out)/\a.out.length<=1000000)/\K6 c a.kk (a.out.getD (a.i-1) s0) (a.out.getD a.i s0)=B a.r/\YT c a.k (a.i+1) ((a.out.set (a.i-1) a.r.1).set a.i a.r.2)=B R)/\a.k+1=x.k)/\1=1/\chN c=chN c/\0=0/\x.out.length=F a.out/\J x.i=J a.i/\113=113/\6=6/\(N (spN 100000) x.out=N (spN 100000) a.out\/QC (N (spN 100000) x.out) (N (spN 100000) a.out))/\H)/\∀(a:RoX),((1<=a.i/\a.k+1+a.i=F a.out)/\a.out.length<=1000000)/\K6 c a.kk (a.out.getD (a.i-1) s0) (a.out.getD a.i s0)=B a.r/\YT c a.k (a.i+1) ((a.out.set (a.i-1) a.r.1).set a.i a.r.2)=B R->a.k+1=x.k->(0<=P.wrap (J a.i-1)/\P.wrap (J a.i-1)<J a.out.length)/\∃(q:C)(n:D),ldE (N (spN 100000) a.out) (0+(P.wrap (J a.i-1)).toNat) 3 3=B [L q n]/\(0<=J a.i/\J a.i<J a.out.length)/\∃(z:C)(u:D),ldE (N (spN 100000) a.out) (0+(J a.i).toNat) 0 3=B [L z u]/\n+u<=4294967296/\bif decide (YY q z>=0)then(0<=P.wrap (J a.i-1)/\P.wrap (J a.i-1)<J a.out.length)/\∃(q:C)(n:D)(Q:C)(v:D),ldE (N (spN 100000) a.out) (0+(P.wrap (J a.i-1)).toNat) 0 6=B [L q n,L Q v]/\(0<=J a.i/\J a.i<J a.out.length)/\∃(S:C)(w:D)(T:C)(y:D),ldE (N (spN 100000) a.out) (0+(J a.i).toNat) 0 6=B [L S w,L T y]/\∃(g:A (A C))(s:Sp)(d:Sp),chN c=chN g/\[L q n,L Q v]=[L s.lo 100000,L s.hi 100000]/\(((1<=F g/\g.length<=200000)/\∀(p:A C),p∈g->F p<=1000)/\KV g s=B d)/\∃(h:A (A C))(s:Sp)(e:Sp),chN c=chN h/\[L S w,L T y]=[L s.lo 100000,L s.hi 100000]/\(((1<=F h/\h.length<=200000)/\∀(p:A C),p∈h->F p<=1000)/\KV h s=B e)/\(0<=P.wrap (J a.i-1)/\P.wrap (J a.i-1)<J a.out.length)/\0+(P.wrap (J a.i-1)).toNat<(N (spN 100000) a.out).length/\(0<=J a.i/\J a.i<J a.out.length)/\0+(J a.i).toNat<((N (spN 100000) a.out).set (0+(P.wrap (J a.i-1)).toNat) [L d.lo 100000,L d.hi 100000]).length/\∃(b:RoX),((((1<=b.i/\b.k+1+b.i=F b.out)/\b.out.length<=1000000)/\K6 c b.kk (b.out.getD (b.i-1) s0) (b.out.getD b.i s0)=B b.r/\YT c b.k (b.i+1) ((b.out.set (b.i-1) b.r.1).set b.i b.r.2)=B R)/\b.k+1=x.k/\b.kk<a.kk)/\1=1/\chN c=chN c/\0=0/\a.out.length=F b.out/\J a.i=J b.i/\113=113/\6=6/\(((N (spN 100000) a.out).set (0+(P.wrap (J a.i-1)).toNat) [L d.lo 100000,L d.hi 100000]).set (0+(J a.i).toNat) [L e.lo 100000,L e.hi 100000]=N (spN 100000) b.out\/QC (((N (spN 100000) a.out).set (0+(P.wrap (J a.i-1)).toNat) [L d.lo 100000,L d.hi 100000]).set (0+(J a.i).toNat) [L e.lo 100000,L e.hi 100000]) (N (spN 100000) b.out))/\H else ∃(b:RoX),((((1<=b.i/\b.k=F b.out-b.i)/\b.out.length<=1000000/\b.i<=1000001)/\YT c b.k b.i b.out=B R)/\O.ofNat 0=0/\b.k<x.k)/\1=1/\chN c=chN c/\0=0/\a.out.length=F b.out/\P.wrap (J a.i+1)=J b.i/\113=113/\6=6/\(N (spN 100000) a.out=N (spN 100000) b.out\/QC (N (spN 100000) a.out) (N (spN 100000) b.out))/\H else K (AV.t [(E,[Ch.s 6 (Zn x.out.length (A.drop 0 (N (spN 100000) x.out)))]),(E,[Ch.v (Value.int P 0)])])):=o4
theorem QYT (p:List Rat)(c:List (List Rat))(m:Rat)(out:List Sp)(R:List Sp)(hc:((Sj p<=1000/\out.length<=1000)/\JE p=some c)/\(Kr (c.getD 0 []) 1=some m/\Xo c FU [] ⟨-m,m⟩=some out/\YT c (Sj out-1) 1 out=some R))(K:AV->Prop)(hK:K (.t [(false,[.s 6 (R.map (spN 100000))]),(false,[.v (.int .i64 0)])])):QM (QBH p c m out R K):=by
  refine⟨?_⟩;rw[QED];try simp only[Zf,R0,R1,Zm,Ze,R4]
  obtain⟨⟨⟨hl,hol⟩,hc⟩,hm,ho,hR⟩:=hc;have hk:=rJ hc;obtain⟨q0,hq0,hg⟩:=zJ hk.1.1;have hp0:=hk.2 q0 (List.mem_of_getElem? hq0);rw[hg]at hm⊢;refine⟨p,c,rfl,⟨hl,hc⟩,⟨o3,o3⟩,⟨Int.le_refl _,by rw[bW];omega⟩,lR 100000 q0,cE hq0,⟨⟨0,0,0,1,[],(s0,s0)⟩,⟨Nat.zero_le _,hm⟩,rfl,rfl,by rw[Qw],rfl,rfl⟩,fun x ⟨x1,xv⟩=>QE (fun hj=> ?_) (fun hj=> ?_)⟩
  · have hj:x.i<Sj q0:=(j7 hj)
    obtain⟨q,hq⟩: ∃q,q0[x.i]? =some q:=⟨_,Zj o3⟩
    have ed:q0.drop x.i=q::q0.drop (x.i+1):=by
      rw[List.drop_eq_getElem_cons hj];congr 1;rw[Zj hj]at hq;exact Option.some.inj hq
    rw[ed,Kr]at xv;obtain⟨u,hu,xv⟩:=bind_some xv;exact⟨⟨o3,by rw[Qw];omega⟩,q,100000,by rw[Int.toNat_natCast];exact Xd hq,o3,o3,u,hu,⟨0,0,x.i+1,u,[],(s0,s0)⟩,⟨⟨o5,xv⟩,o5⟩,by rw[w64 o3];simp,rfl⟩
  · have hj:q0.length<=x.i:=(j8 hj)
    rw[List.drop_eq_nil_of_le hj]at xv;have xs:x.s=m:=Option.some.inj xv;rw[xs];refine⟨c,⟨-m,m⟩,out,rfl,rfl,⟨⟨hk,o3⟩,ho⟩,⟨⟨0,Sj out-1,1,0,out,(s0,s0)⟩,⟨⟨⟨Ze _,rfl⟩,o5,o5⟩,hR⟩,rfl,rfl,.inl rfl⟩,fun y ⟨⟨⟨y1,y2⟩,y3,y4⟩,yv⟩=>QE (fun hj=> ?_) (fun hj=> ?_)⟩
    · have hj:y.i<Sj y.out:=(j7 hj)
      obtain⟨k,hk'⟩: ∃k,y.k=k+1:=⟨y.k-1,o3⟩;rw[hk',YT]at yv;obtain⟨r,hr,yv⟩:=bind_some yv;refine⟨⟨⟨FU,k,y.i,0,y.out,r⟩,⟨⟨⟨⟨y1,o5⟩,y3⟩,hr,yv⟩,hk'.symm⟩,rfl,rfl,.inl rfl⟩,fun z ⟨⟨⟨z1,z2⟩,z3⟩,zv,zw⟩ hz=> ?_⟩;obtain⟨s,hs⟩: ∃s,z.out[z.i-1]? =some s:=⟨_,Zj o3⟩
      obtain⟨t,ht⟩: ∃t,z.out[z.i]? =some t:=⟨_,Zj o3⟩
      have ew:Zd.wrap ((z.i:Int)-1)=((z.i-1:Nat):Int):=by rw[w64 o3];omega
      rw[spD hs,spD ht]at zv;rw[ew];simp only[Int.toNat_natCast];refine⟨⟨o3,o3⟩,s.hi,100000,QkV hs,⟨o3,o3⟩,t.lo,100000,QkW ht,o3,QE (fun hb=> ?_) (fun hb=> ?_)⟩
      · have hb:t.lo<=s.hi:=Rat.not_lt.1 fun e=>by have:=R5 hb;have:=QPP.2 e;omega
        cases hkk:z.kk with
        | zero=>rw[hkk]at zv;cases zv
        | succ kk=>
          rw[hkk,K6,decide_eq_true hb]at zv;simp only[R7]at zv;obtain⟨s',h1,zv⟩:=bind_some zv;obtain⟨t',h2,zv⟩:=bind_some zv;have l1:(z.i-1)<Sj z.out:=o3
          refine⟨⟨o3,o3⟩,s.lo,100000,s.hi,100000,ZD hs,⟨o3,o3⟩,t.lo,100000,t.hi,100000,ZD ht,c,s,s',rfl,rfl,⟨hk,h1⟩,c,t,t',rfl,rfl,⟨hk,h2⟩,⟨o3,o3⟩,by rw[List.length_map];omega,⟨o3,o3⟩,by rw[Zh,List.length_map];omega,⟨kk,z.k,z.i,0,(z.out.set (z.i-1) s').set z.i t',z.r⟩,⟨⟨⟨⟨z1,by simp only[Zh];omega⟩,by simp only[Zh];omega⟩,?_,?_⟩,hz,o5⟩,by simp only[Zh],rfl,.inl ?_⟩
          · simp only;rw[spD (t:=s') (by rw[List.getElem?_set_ne o3,Zk o3]),spD (t:=t') (by rw[Zk (by rw[Zh];omega)])];exact zv
          · simp only;rw[<-Qcz (by omega:z.i-1≠z.i)];exact zw
          · rw[List.map_set,List.map_set];rfl
      · have hb : ¬ t.lo ≤ s.hi := fun e => by have := R6 hb; have : ¬ YY s.hi t.lo < 0 := fun k => by have := QPP.1 k; grind
                                               omega
        cases hkk:z.kk with
        | zero=>rw[hkk]at zv;cases zv
        | succ kk=>
          rw[hkk,K6,decide_eq_false hb]at zv;have er:(s,t)=z.r:=Option.some.inj zv;rw[<-er,QKJ hs,QKJ ht]at zw;exact⟨⟨0,z.k,z.i+1,0,z.out,(s0,s0)⟩,⟨⟨⟨⟨o5,o5⟩,z3,o5⟩,zw⟩,o5⟩,rfl,by rw[w64 o3];simp,.inl rfl⟩
    · have hj:y.out.length<=y.i:=(j8 hj)
      have:y.k=0:=o3
      rw[this]at yv;have yv:y.out=R:=Option.some.inj yv;rw[List.drop_zero,List.take_of_length_le o6,yv];exact hK
def Gk:Ctr
 | [.x E [.s 3 x]]=>B fun K=> ∃(p:A C) (c:A (A C)) (m:C) (o:A Sp) (R:A Sp),x=lR 100000 p/\(((F p<=1000/\o.length<=1000)/\JE p=B c)/\(Kr (c.getD 0 []) 1=B m/\Xo c FU [] ⟨-m,m⟩=B o/\YT c (F o-1) 1 o=B R))/\(K (.t [(E,[.s 6 (R.map (spN 100000))]),(E,[.v (.int .i64 0)])]))
 | _=>M
theorem QR6:QH 131 Gk:=by
 refine okL func131 fun l T a K h=> ?_
 unfold Gk at a;split at a<;>cases a
 obtain⟨p,c,m,o,R,rfl,b,h⟩:=h;exact spL (QP eY al Qb) QK func131 (QYT _ _ _ _ _ b K h)
def QkX:LC:=(131,Gk)::aU
noncomputable def QlM:Qd:=mkT QkX S5 X4
def aM (r:RtV):A Ch:=[.s 3 (lR 100000 r.p),.r r.s.lo 100000,.r r.s.hi 100000]
theorem iu{m:C}(h:Ge s=B m):m=(s.lo+s.hi)/2:=by
 unfold Ge at h;obtain⟨a,d,f⟩:=bind_some h;have e:=(JY.1 d).2;have b:=(JY.1 f).2;subst e;rw[<-b,(j5:vu=1/2)];grind
theorem sA(h:KV c s=B t)(d:s.lo<=s.hi):t.lo<=t.hi:=by
 unfold KV at h;obtain⟨m,b,h⟩:=bind_some h;obtain⟨z,_,h⟩:=bind_some h;have e:=iu b;cases z with
 | true=>cases h;exact C.le_refl
 | false=>
  simp only[R8]at h;obtain⟨n,_,h⟩:=bind_some h;cases a:n==1 with
  | true=>rw[a]at h;cases h;show s.lo<=m;grind
  | false=>rw[a]at h;cases h;show m<=s.hi;grind
theorem QR7{w:C}: ∀{k:D} {s t:Sp},HM c w k s=B t->s.lo<=s.hi->t.lo<=t.hi:=by
 intro k;induction k with
 | zero=>intro s t h;cases h
 | succ k f=>
  intro s t h b;rw[HM]at h;obtain⟨d,_,h⟩:=bind_some h;cases a:decide (w<d)with
  | true=>rw[a]at h;obtain⟨g,e,h⟩:=bind_some h;exact f h (sA e b)
  | false=>rw[a]at h;cases h;exact b
theorem QYU {r R:RtV}{d:G}(h:Ug r d=B R)(e:r.s.lo<=r.s.hi):R.p=r.p/\R.s.lo<=R.s.hi:=by
 unfold Ug at h;obtain⟨s,a,h⟩:=bind_some h;cases h
 unfold aS at a;obtain⟨c,_,a⟩:=bind_some a;obtain⟨n,_,a⟩:=bind_some a;refine⟨rfl,?_⟩;cases b:n==1 with
 | true=>rw[b]at a;exact QR7 a e
 | false=>rw[b]at a;cases a
def vO (r:RtV)(d:G)(_R:RtV)(K:AV->Prop):Prop:=QN QeY (oF f53) noL f53 [.x I [.s 3 (lR 100000 r.p),.r r.s.lo 100000,.r r.s.hi 100000],iA .i64 d] K
theorem QEd (r:RtV)(d:G)(R:RtV)(K:AV->Prop):vO r d R K=(((((-9223372036854775808:G)<=1/\(1:G)<9223372036854775808)/\ -9223372036854775808<=d/\d<9223372036854775808)/\(↑d:C)≠O.ofNat 0)/\∃(p:A C)(c:A (A C))(s:Sp)(w:C)(R:Sp),lR 100000 r.p=lR 100000 p/\[L r.s.lo 100000,L r.s.hi 100000]=[L s.lo 100000,L s.hi 100000]/\[L ((↑(1:G):C)/(↑d:C)) 100000]=[L w 100000]/\(((F p<=1000/\s.lo<=s.hi)/\JE p=B c)/\O.ofNat 0<w/\aS p s w=B R)/\K (AV.x I [Ch.s 3 (lR 100000 r.p),L R.lo 100000,L R.hi 100000])):=o4
theorem Qc0 (r:RtV)(d:G)(R:RtV)(b:((F r.p<=1000/\r.s.lo<=r.s.hi)/\1<=d/\d<9223372036854775808)/\(Ug r d=B R))(K:AV->Prop)(j:K (.x I (aM R))):QM (vO r d R K):=by
 refine⟨?_⟩;rw[QEd];try simp only[Zf,R0,R1,Zm,S,R4,R2,R3]
 obtain⟨⟨⟨m,o⟩,p,k⟩,a⟩:=b;unfold Ug at a;obtain⟨s,f,a⟩:=bind_some a;cases a
 have h:=f;unfold aS at h;obtain⟨c,b,_⟩:=bind_some h;have g:(0:C)<((1:G):C)/(d:C):=by
  have:(0:C)<(d:C):=C.intCast_pos.2 o3;rw[C.div_def];exact C.mul_pos o8 (C.inv_pos.2 this)
 have n:(d:C)≠0:=fun e=>by have:=C.intCast_eq_zero_iff.1 e;omega
 exact⟨⟨⟨o3,o3⟩,n⟩,r.p,c,r.s,_,s,rfl,rfl,rfl,⟨⟨⟨m,o⟩,b⟩,g,f⟩,j⟩
def l8:Ctr
 | [.x I x,.x E [.v (.int .i64 d)]]=>B fun K=> ∃(r:RtV) (R:RtV),x=aM r/\(((F r.p<=1000/\r.s.lo<=r.s.hi)/\1<=d/\d<9223372036854775808)/\(Ug r d=B R))/\(K (.x I (aM R)))
 | _=>M
theorem QYV:QH 53 l8:=by
 refine okL func53 fun l T a K h=> ?_
 unfold l8 at a;split at a<;>cases a
 obtain⟨r,R,rfl,b,h⟩:=h;exact spL Qcv QK func53 (Qc0 _ _ _ b K h)
def nq:LC:=(53,l8)::aU
theorem wB:QF nq:= .cons QYV eY
def Gl (r:RtV)(d:C)(a:D)(h:C)(b:D)(_R:Q)(K:AV->Prop):Prop:=QN (mkT nq Ww X4) (oF f93) noL f93 [.x I [.s 3 (lR 100000 r.p),.r r.s.lo 100000,.r r.s.hi 100000],rA d a,rA h b] K
theorem QBX (r:RtV)(d:C)(a:D)(h:C)(b:D)(R:Q)(K:AV->Prop):Gl r d a h b R K=((100000<=100000/\a<=100000)/\(100000<=100000/\b<=100000)/\200000<=4294967296/\bif decide (YY (Q6 r.s.lo d) (Qx r.s.hi h)>0)then K (AV.x E [Ch.v (Value.bool E)])else ∃(p:A C)(s:Sp)(R:G),lR 100000 r.p=lR 100000 p/\[L (Q6 r.s.lo d) 100000,L (Qx r.s.hi h) 100000]=[L s.lo 100000,L s.hi 100000]/\((F p<=1000/\s.lo<=s.hi)/\Hs p s=B R)/\K (AV.x E [Ch.v (Value.bool (R==1))])):=o4
theorem QR8 (r:RtV)(g:C)(a:D)(f:C)(b:D)(R:Q)(o:(F r.p<=1000/\a<=100000/\b<=100000)/\(Vh r g f=B R))(K:AV->Prop)(j:K (.x E [.v (.bool R)])):QM (Gl r g a f b R K):=by
 refine⟨?_⟩;rw[QBX];try simp only[R0,S]
 obtain⟨⟨p,k,m⟩,d⟩:=o;unfold Vh at d;refine⟨k,m,o3,QE (fun h=> ?_) (fun h=> ?_)⟩
 ·have e: ¬Q6 r.s.lo g<=Qx r.s.hi f:=fun e=>by have:=R5 h;have:=(Jh _ _).2 e;omega
  rw[decide_eq_false e]at d;cases d
  exact j
 ·have e:Q6 r.s.lo g<=Qx r.s.hi f:=(Jh _ _).1 ((j8 h));rw[decide_eq_true e]at d;obtain⟨n,q,d⟩:=bind_some d;cases d
  exact⟨r.p,⟨Q6 r.s.lo g,Qx r.s.hi f⟩,n,rfl,rfl,⟨⟨p,e⟩,q⟩,j⟩
def gR:Ctr
 | [.x I x,.x I [.r d a],.x I [.r h b]]=>B fun K=> ∃(r:RtV) (R:Q),x=aM r/\((F r.p<=1000/\a<=100000/\b<=100000)/\(Vh r d h=B R))/\(K (.x E [.v (.bool R)]))
 | _=>M
theorem QNU:QH 93 gR:=by
 refine okL func93 fun l T a K h=> ?_
 unfold gR at a;split at a<;>cases a
 obtain⟨r,R,rfl,b,h⟩:=h;exact spL (QP wB YC Qb) QK func93 (QR8 _ _ _ _ _ _ b K h)
def qI:LC:=(93,gR)::nq
theorem tW:QF qI:= .cons QNU wB
structure SdX where
 k:D
 den:G
 r:RtV
def QR9 (_x y m _R:C)(n:G):LI:=fun _=> .inv ⟨SdX,fun e=>⟨[(2,.x E [.p 2 0]),(5,.x E [.w 500 0 3]),(6,iA .i64 e.den)],[(2,.box 115 (aM e.r)),(500,YU 100000 [y,m,-y])]⟩,fun e=>(F e.r.p<=1000/\e.r.s.lo<=e.r.s.hi)/\(e.k<=15/\e.den=((16^(16-e.k):D):G))/\Gf [y,m,-y] e.k e.den e.r=B n,fun e=>e.k,fun _=>0⟩
abbrev zH (r:RtV)(x:C)(y:C)(m:C)(n:G)(K:AV->Prop):Prop:=((F r.p<=1000/\r.s.lo<=r.s.hi)/\(JX (((-2:G)):C) x=B m/\Gf [y,m,-y] 15 16 r=B n))/\(K (iA .i64 n))
def P4(a b c:C):A (A Ch):=[[P1 a],[P1 b],[P1 (-c)]]
def RC(a:RtV):=lR 100000 a.p
def RK(a b c d e f:SdX)(g h i:C)(j k l:SdX)(m:G):=(F a.r.p<=1000/\b.r.s.lo<=c.r.s.hi)/\(d.k<=15/\e.den=J (16^(16-f.k)))/\Gf [g,h,-i] j.k k.den l.r=B m
theorem Qc1 (r:RtV)(x:C)(y:C)(m:C)(n:G)(K:AV->Prop)(o:zH r x y m n K):QM (QN (mkT qI Ww X4) (oF f132) (QR9 x y m 0 n) f132 [.x I [.s 3 (lR 100000 r.p),.r r.s.lo 100000,.r r.s.hi 100000],.x I [.r x 100000,.r y 100000]] K):=by
 obtain⟨Z,o⟩:=o;refine HV (((-9223372036854775808:G)<= -2/\RJ (-2:G))/\200000<=4294967296/\∃(f:C),JX ↑(-2:G) x=B f/\P2/\(∃(x:SdX),(RK x x x x x x y m y x x x n/\Pz=0)/\0=0/\Px/\3=3/\16=x.den/\115=115/\3=3/\RC r=RC x.r/\r.s.lo=x.r.s.lo/\P2/\r.s.hi=x.r.s.hi/\P2/\25=25/\3=3/\(P4 y f y=P4 y m y\/QC (P4 y f y) (P4 y m y))/\H)/\∀(x:SdX),RK x x x x x x y m y x x x n->Pz=0->∃(p:A C)(s:Sp)(R:G),P4 y m y=lR 100000 p/\Pu x.r.s x.r.s=Pu s s/\((F p<=1000/\s.lo<=s.hi)/\Hs p s=B R)/\bif R ==0 then∃(p:A C)(r:C),P4 y m y=lR 100000 p/\((F p<=1000/\P2)/\Tb p x.r.s.lo=B r)/\100000<=4294967296/\K (AV.x E [Ch.v (Value.int P (XY r))])else∃(r R:RtV),[Ch.s 3 (RC x.r),P1 x.r.s.lo,P1 x.r.s.hi]=[Ch.s 3 (RC r),P1 r.s.lo,P1 r.s.hi]/\(((F r.p<=1000/\r.s.lo<=r.s.hi)/\1<=x.den/\RJ x.den)/\Ug r x.den=B R)/\∃(b:SdX),(RK b b b b b b y m y b b b n/\Pz=0/\b.k<x.k)/\0=0/\Px/\3=3/\P.wrap (x.den*16)=b.den/\115=115/\3=3/\RC R=RC b.r/\R.s.lo=b.r.s.lo/\P2/\R.s.hi=b.r.s.hi/\P2/\25=25/\3=3/\(P4 y m y=P4 y m y\/QC (P4 y m y) (P4 y m y))/\H) ?_
 delta P1 P2 Py Pu Px Pz P4 RJ RC RK
 try simp only[Zf,R0,R1,S,R4,R2]
 obtain⟨⟨hl,ho⟩,hm,Y⟩:=Z;refine⟨o3,o3,m,hm,⟨⟨15,16,r⟩,⟨⟨hl,ho⟩,⟨S _,by show(16:G)=((16^(16-15):D):G);decide⟩,Y⟩,rfl,rfl,rfl,rfl,.inl rfl⟩,fun e ⟨⟨j,g⟩,⟨U,h⟩,a⟩=> ?_⟩;obtain⟨k,d,Q⟩:=e;simp only at j g U h a;cases k with
 | zero=>cases a
 | succ k=>
  rw[Gf]at a;obtain⟨N,X,a⟩:=bind_some a;refine⟨[y,m,-y],Q.s,N,rfl,rfl,⟨⟨o6,g⟩,X⟩,QE (fun q=> ?_) (fun q=> ?_)⟩
  ·rw[q]at a;obtain⟨z,hz,a⟩:=bind_some a;cases a
   exact⟨[y,m,-y],z,rfl,⟨o6,hz⟩,o3,o⟩
  ·rw[q]at a;obtain⟨T,w,a⟩:=bind_some a;obtain⟨V,W⟩:=QYU w g;have p1:1<=(16:D)^(16-(k+1)):=D.pow_pos o8;have O:(16:D)^(16-(k+1))<=16^15:=D.pow_le_pow_right o8 o3;have u:(16:D)^15=1152921504606846976:=o8
   have k1:k≠0:=fun e=>by subst e;cases a
   have p4:(16:D)^(16-k)=16^(16-(k+1))*16:=by rw[<-D.pow_succ];congr 1;omega
   have p5:(16:D)^(16-k)<=16^15:=D.pow_le_pow_right o8 o3;have v:d*16=((16^(16-k):D):G):=by rw[h,p4];push_cast;rfl
   refine⟨Q,T,rfl,⟨⟨⟨j,g⟩,?_,?_⟩,w⟩,⟨k,d*16,T⟩,⟨⟨⟨by simp only;rw[V];exact j,W⟩,⟨o5,v⟩,a⟩,Zg k⟩,?_,rfl,rfl,rfl⟩
   ·show 1<=d;rw[h];rw[u]at O;generalize (16:D)^(16-(k+1))=z at*;omega
   ·show d<9223372036854775808;rw[h];rw[u]at O;generalize (16:D)^(16-(k+1))=z at*;omega
   ·simp only;rw[w64 (by rw[v];rw[u]at p5;generalize (16:D)^(16-k)=z at*;omega)]
def lG:Ctr
 | [.x I a,.x I b]=>B fun K=> ∃(r:RtV) (x:C) (y:C) (m:C) (n:G),a=aM r/\b=[.r x 100000,.r y 100000]/\zH r x y m n K
 | _=>M
theorem QYY:QH 132 lG:=by
 refine okL func132 fun l T a K h=> ?_
 unfold lG at a;split at a<;>cases a
 obtain⟨r,x,y,m,n,rfl,rfl,h⟩:=h;exact spL (QP tW YC Qb) QK func132 (Qc1 _ _ _ _ _ K h)
def gC:LC:=(132,lG)::qI
theorem uT:QF gC:= .cons QYY tW
abbrev uv (x:C)(a:D)(y:C)(b:D)(u:C)(c:D)(v:C)(d:D)(K:AV->Prop):Prop:=((a<=100000/\b<=100000/\c<=100000/\d<=100000))/\(∃p,JX x u=B p/\ ∃q,JX y v=B q/\ ∃s,VM p q=B s/\K (rA s 100000))
theorem Qc2 (x:C)(a:D)(y:C)(b:D)(u:C)(c:D)(v:C)(d:D)(K:AV->Prop)(h:uv x a y b u c v d K):QM (QN (mkT gC Ww X4) (oF f152) noL f152 [.x I [.r x a,.r y b],.x I [.r u c,.r v d]] K):=by
 obtain⟨g,h⟩:=h;refine HV (a+c<=4294967296/\∃(r:C),JX x u=B r/\b+d<=4294967296/\∃(e:C),RD (JX y v) e (fun f=>VM r e=B f/\K (AV.x I [P1 f]))) ?_
 delta P1 RD
 try simp only[Zf,R0,R1,Zm,S,R4,R2,R3]
 obtain⟨p,j,q,k,s,m,h⟩:=h;obtain⟨n,o,w,z⟩:=g;exact⟨o3,p,j,o3,q,k,o3,s,m,h⟩
def kJ:Ctr
 | [.x I [.r x a,.r y b],.x I [.r u c,.r v d]]=>B fun K=>uv x a y b u c v d K
 | _=>M
theorem QYa:QH 152 kJ:=by
 refine okL func152 fun l T h K a=> ?_
 unfold kJ at h;split at h<;>cases h
 exact spL (QP uT YC Qb) QK func152 (Qc2 _ _ _ _ _ _ _ _ K a)
def kD:LC:=(152,kJ)::gC
theorem vT:QF kD:= .cons QYa uT
theorem Qc3 (x:C)(a:D)(y:C)(b:D)(d:(a<=100000/\b<=100000))(K:AV->Prop)(e: ∃s,Tg x y=B s/\K (rA s 100000)):QM (QN (mkT kD Ww X4) (oF f129) noL f129 [.x I [.r x a,.r y b]] K):=by
 refine HV ((a<=100000/\b<=100000/\a<=100000/\b<=100000)/\∃(p:C),JX x x=B p/\∃(q:C),JX y y=B q/\∃(s:C),VM p q=B s/\K (AV.x I [P1 s])) ?_
 delta P1
 try simp only[Zf,R0,R1,Zm,S,R4,R2,R3]
 obtain⟨s,h,e⟩:=e;unfold Tg at h;obtain⟨p,f,h⟩:=bind_some h;obtain⟨q,g,h⟩:=bind_some h;exact⟨⟨d.1,d.2,d.1,d.2⟩,p,f,q,g,s,h,e⟩
def sx:Ctr
 | [.x I [.r x a,.r y b]]=>B fun K=>((a<=100000/\b<=100000))/\(∃s,Tg x y=B s/\K (rA s 100000))
 | _=>M
theorem QYc:QH 129 sx:=by
 refine okL func129 fun l T a K h=> ?_
 unfold sx at a;split at a<;>cases a
 obtain⟨b,h⟩:=h;exact spL (QP vT YC Qb) QK func129 (Qc3 _ _ _ _ b K h)
def iO:LC:=(129,sx)::kD
theorem QPW:QF iO:= .cons QYc vT
theorem QkY (x:C)(a:D)(d:(a<=100000))(K:AV->Prop)(h: ∃s,sqZ x=B s/\K (rA s 100000)):QM (QN (mkT iO Ww X4) (oF f130) noL f130 [rA x a] K):=by
 refine HV (a+a<=4294967296/\∃(r:C),JX x x=B r/\K (AV.x I [P1 r])) ?_
 delta P1
 try simp only[Zf,R0,R1,Zm,S,R4,R2,R3]
 obtain⟨s,b,h⟩:=h;exact⟨o3,s,b,h⟩
def rL:Ctr
 | [.x I [.r x a]]=>B fun K=>((a<=100000))/\(∃s,sqZ x=B s/\K (rA s 100000))
 | _=>M
theorem QiC:QH 130 rL:=by
 refine okL func130 fun l T a K h=> ?_
 unfold rL at a;split at a<;>cases a
 obtain⟨b,h⟩:=h;exact spL (QP QPW YC Qb) QK func130 (QkY _ _ b K h)
def qG:LC:=(130,rL)::iO
noncomputable def QlN:Qd:=mkT qG Ww X4
theorem Qc4:QF qG:= .cons QiC QPW
end Go.Proofs
