/- The stream of raw numbers. -/
import Derived.Test.YtmpfaflhpioaiaaGreatDoorR1
open _root_ renaming List → A, Nat → B, Rat → C, Int → D, mkRat → J, True → N, UInt8 → Q, ByteArray → R, or_false → S, Bool → K
open Bool renaming false → E, true → H
open Option renaming some → F, none → O
open List renaming length → G, map → e, length_map → b, getElem?_eq_getElem → f, take → j, length_cons → Zp, take_of_length_le → Zo, length_append → Zs, length_nil → Zz, mem_cons → Yc, not_mem_nil → Zx, getElem?_map → Ya, mem_of_getElem? → Zv, drop_zero → Yf, getElem?_eq_some_iff → Zy, getD_eq_getElem?_getD → Yd
open Int renaming ofNat → I, ofNat_eq_natCast → T, toNat_natCast → Zt
open Go.Eng.Ch renaming r → M, v → U, s → Z
open Go.IntKind renaming i64 → P
open Nat renaming le_refl → Y, zero_add → Zw, eq_of_beq_eq_true → Yb
open Go.Value renaming int → o, string → Zq, slice → Zr, bool → Zn
open Go.Eng.AV renaming x → z
open ByteArray renaming mk → Zd
open Array renaming mk → Zi
set_option maxHeartbeats 1000000
set_option maxRecDepth 100000
namespace Go.Proofs
open Go Go.Eng Tryz
def ints (l:A D):A (A Ch):=l.map fun n=>[U (.int .i64 n)]
def stB (l:A D):Blk:= .box 70 [.s 1 (ints l)]
def QU (l:A D)(n:D):D:=match l with | []=>0 | x::_=>x % n
theorem XG (l:A D):(ints l).length=G l:=by simp[ints]
variable{n:D}
theorem Vf {l:A D}(h:1<=n):0<=QU l n/\QU l n<n:=by
 unfold QU;split
 ·omega
 ·rename_i x a;exact⟨D.emod_nonneg x o3,D.emod_lt_of_pos x o3⟩
def CT(a:A (A Ch)):=I a.length
def Cq(a:D):A Ch:=[U (o P a)]
def Cb(a:Prop)(b:D):=a/\b<9223372036854775808
def Ck(a b:A D):=ints a=ints b
def DA(a b:D)(c d:Prop):=bif decide (a<b)then c else d
def C3(a:Prop):=70=70/\1=1/\a
def C6:=(0:D)
def DC(a:A D):=CT (ints a)
theorem QT0 (l:A D)(n:D)(b:1<=n/\n<9223372036854775808)(c:l.length<=9223372036854775807):QM (Xp (X:=Unit) T26 (oF f20) noL f20 [.x E [.p 1000 0],iA .i64 n] [(1000,stB l)] (fun _=>N) (fun _=>⟨[(4,iA .i64 (QU l n))],[(1000,stB l.tail)]⟩)):=by
 refine HV (bif DC l ==0 then∃(v:Unit),N/\0=QU l n/\C3 (Ck l l.tail/\N)else DA n 1 (∃(u:Unit),N/\0=QU l n/\C3 (Ck l l.tail/\N)) ((C6<=0/\0<DC l)/\∃(d:D),ldE (ints l) 0 0 1=F (Cq d)/\(C6<=1/\1<=DC l/\DC l<=DC l)/\Cb (0<n) n/\∃(a:Unit),N/\d%n=QU l n/\C3 (j ((DC l).toNat-1) (A.drop 1 (ints l))=ints l.tail/\N))) ?_
 delta CT Cq Cb Ck DA C3 C6 DC
 simp only[T,R0,R1];simp only[XG];cases l with
 | nil=>exact⟨(),rfl,rfl⟩
 | cons x l=>
  refine QE (fun h=> ?_) (fun _=>QE (fun h=> ?_) (fun _=>⟨o6,x,rfl,by simp only[Zp];omega,⟨o3,b.2⟩,(),rfl,?_⟩))
  ·simp at h;omega
  ·have:=R5 h;omega
  ·simp only[Zp,A.tail_cons,ints,A.map_cons,A.drop_succ_cons,Yf];exact Zo o6
def rX:XS:=fun c a _=>match c with
  | [.x E [.p k b],.x E [.v (.int .i64 n)]]=>match b with
    | 0=>match a k with
      | some (.box t [.s 1 x])=>bif t.beq 70 then
          F fun K=> ∃l,x=ints l/\(1<=n/\n<9223372036854775808)/\l.length<=9223372036854775807/\ ∀(r:D) (d:A D),(0<=r/\r<n)->G d<=G l->K (iA .i64 r) (XW [(1000,k)] (QO [(1000,stB d)]) a)
          else O
      | _=>O
    | _+1=>O
  | _=>O
theorem QaX:Xg 20 rX:=by
 refine⟨Qf func20 o4,fun l a d T e K m=> ?_⟩;unfold rX at e;split at e
 ·rename_i k c n;split at e
  ·split at e
   ·rename_i t v r;cases f:t.beq 70 with
    | false=>rw[f]at e;cases e
    | true=>
     rw[f]at e;cases e
     have u:=Yb f;subst u;obtain⟨l,rfl,q,s,m⟩:=m;refine Xc (R:=[(1000,k)]) (N:=[]) (Hl:=[(1000,stB l)]) Qde QK func20 o4 o4 j6
      (as0:=[.x E [.p 1000 0],iA .i64 n]) ?_ (Kk r rfl rfl) rfl o6 o6 (fun _ h=>by cases h) (fun x=>⟨fun p g=> ?_,fun p g b f=> ?_⟩) (QT0 l n q s) (fun _ _=> ?_)
     ·simp[X7,X2,XZ,lkB,iA]
     ·simp at g;subst g;exact fun h=>by have j:F (stB _)=O:=h;cases j
     ·simp at g;subst g;have j:F (stB _)=F b:=f;cases j;rfl
     ·exact⟨_,rfl,m _ _ (Vf q.1) (by rw[A.length_tail];omega)⟩
   ·cases e
  ·cases e
 ·cases e
def M30:A (B×XS):=(20,rX)::M23
theorem df:XK M30:= .cons QaX aZ
def QS (n:B)(p:C×C):A Ch:=[.r p.1 n,.r p.2 n]
abbrev XL:C×C->A Ch:=QS 63
def at4 (x y:D):C×C:=(J x 4,J y 4)
abbrev Qdf (x y:D)(K:AV->Prop):Prop:=(((-9223372036854775808<x/\x<9223372036854775808)/\ -9223372036854775808<y/\y<9223372036854775808))/\(K (.x H (XL (at4 x y))))
def CR(a:C):=M a 63
def Cp(a:D):=J a 4
def C2(a:D):=-9223372036854775808<a
def Cx(a:D):=(a:D)<9223372036854775808
def DU(a b:D):=Cb (C2 a) b/\(0:D)<4/\Cx 4
theorem Qi9 (x y:D)(K:AV->Prop)(h:Qdf x y K):QM (QN (mkT L26 M30 X4) (oF f54) noL f54 [iA .i64 x,iA .i64 y] K):=by
 obtain⟨a,h⟩:=h;refine HV (DU x x/\DU y y/\K (z H [CR (Cp x),CR (Cp y)])) ?_
 delta CR Cp Cb C2 Cx DU
 try simp only[T,R0,R1,Zw,Y,R4,R2,R3]
 exact⟨o3,o3,h⟩
def nj:Ctr
 | [.x E [.v (.int .i64 x)],.x E [.v (.int .i64 y)]]=>F fun K=>Qdf x y K
 | _=>O
theorem QfU:QH 54 nj:=by
 refine okL func54 fun l T h K a=> ?_
 unfold nj at h;split at h<;>cases h
 exact spL (QP qL df Qb) QK func54 (Qi9 _ _ K a)
def L31:LC:=(54,nj)::L26
theorem Qdg:QF L31:= .cons QfU qL
def dB (x y u v:D):A (C×C):=[at4 x y,at4 u y,at4 u v,at4 x v]
abbrev QN5 (x y u v:D)(K:AV->Prop):Prop:=(((-9223372036854775808<x/\x<9223372036854775808)/\ -9223372036854775808<y/\y<9223372036854775808)/\((-9223372036854775808<u/\u<9223372036854775808)/\ -9223372036854775808<v/\v<9223372036854775808))/\(K (.x E [.s 6 ((dB x y u v).map XL)]))
def Cu(a b c d:D):A Ch:=[CR (Cp a,Cp b).1,CR (Cp c,Cp d).2]
def DH(a:D):=a<9223372036854775808
def DI(a b c d:D):=Cb (C2 a) b/\C2 c/\DH d
theorem QaY (x y u v:D)(K:AV->Prop)(h:QN5 x y u v K):QM (QN (mkT L31 M30 X4) (oF f55) noL f55 [iA .i64 x,iA .i64 y,iA .i64 u,iA .i64 v] K):=by
 obtain⟨a,h⟩:=h;refine HV (DI x x y y/\DI u u y y/\DI u u v v/\DI x x v v/\K (z E [Z 6 [Cu x y x y,Cu u y u y,Cu u v u v,Cu x v x v]])) ?_
 delta CR Cp Cb Cu C2 DH DI
 try simp only[]
 exact⟨o3,o3,o3,o3,h⟩
def mO:Ctr
 | [.x E [.v (.int .i64 x)],.x E [.v (.int .i64 y)],.x E [.v (.int .i64 u)],.x E [.v (.int .i64 v)]]=>F fun K=>QN5 x y u v K
 | _=>O
theorem QT2:QH 55 mO:=by
 refine okL func55 fun l T h K a=> ?_
 unfold mO at h;split at h<;>cases h
 exact spL (QP Qdg df Qb) QK func55 (QaY _ _ _ _ K a)
def L32:LC:=(55,mO)::L31
noncomputable def T32:Qd:=mkT L32 M30 X4
theorem kZ:QF L32:= .cons QT2 Qdg
theorem QjA:Qr T32:=QP kZ df Qb
structure QV where
 len:C
 lo:C
 hi:C
 sp:C
 br:C
 shape:A (C×C)
def QA (L:QV):A Ch:=[.r L.len 63,.r L.lo 63,.r L.hi 63,.r L.sp 63,.r L.br 63,.s 6 (L.shape.map XL)]
structure ArmV where
 name:R
 x:C
 y:C
 half:K
 t:C
 za:A QV
def Qp (a:ArmV):A Ch:=[.v (.string a.name),.r a.x 63,.r a.y 63,.v (.bool a.half),.r a.t 63,.s 16 (a.za.map QA)]
def JV (a:ArmV):AV:= .x H (Qp a)
def dg (a:ArmV)(k:B):A Ch:=[.v (.string a.name),.r a.x 63,.r a.y 63,.v (.bool a.half),.r a.t 63,.w k 0 a.za.length]
def Qaa:A Ch:=[.v (.string ⟨⟨[]⟩⟩)]++Xm++Xm++[.v (.bool E)]++Xm++[.v (.slice O 0 0)]
def UQ (l i j s b:D)(t:K):QV:=⟨J l 4,J (-1-i) 3,J (1+j) 3,J 1 (4+s).toNat,J 1 (10+b).toNat,bif t then[at4 (-1) (-1),at4 (l+1) 0,at4 (-1) 1]else dB (-1) (-1) (l+1) 1⟩
def MadeLink (L:QV):Prop:= ∃r i j s b:D,∃t,(0<=r/\r<4)/\(0<=i/\i<6)/\(0<=j/\j<6)/\(0<=s/\s<8)/\(0<=b/\b<20)/\L=UQ (4+2*r) i j s b t
def a8:R:=⟨⟨[111,110,101]⟩⟩
structure Made (a:ArmV):Prop where
 name:a.name=a8
 x:a.x=J 0 4
 y:a.y=J 0 4
 half:a.half=E
 t: ∃c d:D,(-1<=c/\c<=1)/\(1<=d/\d<=3)/\a.t=J c d.toNat
 n:a.za.length<=3
 za: ∀L∈a.za,MadeLink L
def bT (l:A QV):Blk:= .row 61 16 (l.map QA)
structure MkX where
 a:ArmV
 l:A D
 n:B
def QT5 (l:A D):LI:=fun _=> .inv ⟨MkX,fun x=>⟨[(0,.x E [.p 1000 0]),(4,.x E [.p 4 0]),(5,.x E [.p 5 0]),(30,iA .i64 x.n),(31,iA .i64 x.a.za.length)],
 [(1000,stB x.l),(4,.box 34 Qaa),(5,.box 34 (dg x.a 500)),(500,bT x.a.za)]⟩,fun x=>Made x.a/\x.l.length<=G l/\x.a.za.length<=x.n/\1<=x.n/\x.n<=3,fun x=>x.n-G x.a.za,fun _=>0⟩
variable{L:QV}
theorem Made.add {a:ArmV}(h:Made a)(d:MadeLink L)(e:a.za.length<3):Made {a with za:=a.za++[L]}:=
 ⟨h.name,h.x,h.y,h.half,h.t,by simp only[Zs,Zp,Zz];omega,fun b c=>by
  rcases A.mem_append.1 c with c | c
  ·exact h.za b c
  ·rw[A.mem_singleton.1 c];exact d⟩
def CV(a b:D):=P.wrap (a+b)
def CQ(a:ArmV):=a.za.length
def C1(a b:D):=P.wrap (a*b)
def CP(a:ArmV):=e QA a.za
def CS:D:=-1
def CY(a:MkX):=CQ a.a
def Ca(a b:B):=I a=I b
def Cl:=OfNat.ofNat 0=0
def CZ:=Zd (Zi [])=Zd (Zi [])
def DF(a:D):=CV (CV 4 (C1 2 a)) 1
def Cd(a b:B):=CV (I a) 1=I b
def Cf:=E=E
def Cj(a:Prop)(b c d e:B):=a/\OfNat.ofNat 0=0/\b-c<d-e
def Cg(a:D):=(-9223372036854775808:D)<a
def Cn(a b:B)(c d:Prop):=Cl->DA (I a) (I b) c d
def Cs(a:A D->A D)(b c:A D->D)(d:A D->D->A D->D)(e:A D->D->A D->Prop):=∃(f:A D),Ck (a f) f/\((1:D)<=b f/\(c f:D)<9223372036854775808)/\f.length<=9223372036854775807/\∀(y:D)(x:A D),0<=y/\y<d f y x->G x<=G f->e f y x
def DD(a b c d:D):=Cu (DF a) b (DF c) d
def DG:=Zr O 0 0=Zr O 0 0
def DQ(a b:MkX)(c d e f g:D)(h:A (A Ch)):=j (CY a) (CP b.a)++[[CR (Cp (CV 4 (C1 2 c))),CR (J (P.wrap (CS-d)) 3),CR (J (CV 1 e) 3),CR (J 1 (CV 4 f).toNat),CR (J 1 (CV 10 g).toNat),Z 6 h]]
def DL:=Cu CS CS CS CS
def DR(a b:MkX)(c:A D)(d e f g:MkX):=Made a.a/\b.l.length<=G c/\CY d<=e.n/\1<=f.n/\g.n<=3
def DT(a b c:B):=a*b<=140737488355328/\c<=9223372036854775807
theorem QfV (l:A D)(hl:l.length<=9223372036854775807):QM (Xp (X:=ArmV×A D) T32 (oF f19) (QT5 l) f19 [.x E [.p 1000 0],iA .i64 0] [(1000,stB l)] (fun x=>(Made x.1/\1<=G x.1.za)/\x.2.length<=G l) (fun x=>⟨[(4,.x E [.p 4 0])],[(1000,stB x.2),(4,.box 34 (dg x.1 500)),(500,bT x.1.za)]⟩)):=by
 refine HV ((C6<=0/\(0:D)<4)/\∃(a:R),F [U (Zq (Zd (Zi [OfNat.ofNat 111,OfNat.ofNat 110,OfNat.ofNat 101])))]=F [U (Zq a)]/\(Cb (Cg 0) C6/\Cg 0/\Cx 0)/\Cs (fun y=>l) (fun y=>4) (fun y=>4) (fun y r g=>4) (fun y r g=>(0<=r/\r<4)/\∃(d:D),ldE [Cq 0,Cq 1,Cq CS,Cq 1] (0+r.toNat) 0 1=F (Cq d)/\Cs (fun B=>g) (fun B=>3) (fun B=>3) (fun B r g=>3) (fun B r g=>(Cb (C2 d) d/\0<CV 1 r/\DH (CV 1 r))/\Cs (fun v=>g) (fun At=>3) (fun At=>3) (fun At jb g=>3) (fun At jb g=>(∃(x:MkX),(DR x x l x x x x/\Cl)/\0=0/\0=0/\0=0/\CV 1 jb=I x.n/\0=I (CY x)/\C3 (Ck g x.l/\34=34/\CZ/\Cf/\CZ/\CZ/\Cf/\CZ/\CZ/\Cf/\Cf/\CZ/\CZ/\DG/\34=34/\a=x.a.name/\(Cp 0,Cp 0).1=x.a.x/\63<=63/\(Cp 0,Cp 0).2=x.a.y/\63<=63/\E=x.a.half/\J d (CV 1 r).toNat=x.a.t/\63<=63/\DG/\0=0/\CY x=0/\CP x.a=[]/\N))/\∀(x:MkX),DR x x l x x x x->Cn (CY x) x.n (Cs (fun C=>x.l) (fun C=>4) (fun C=>4) (fun C r g=>4) (fun C r g=>DU (CV 4 (C1 2 r)) (CV 4 (C1 2 r))/\Cs (fun u=>g) (fun Lm=>6) (fun Lm=>6) (fun Lm k g=>6) (fun Lm k g=>(Cb (C2 (P.wrap (CS-k))) (P.wrap (CS-k))/\(0:D)<3/\Cx 3)/\Cs (fun K=>g) (fun K=>6) (fun K=>6) (fun K m g=>6) (fun K m g=>(Cb (C2 (CV 1 m)) (CV 1 m)/\(0:D)<3/\Cx 3)/\Cs (fun f=>g) (fun be=>8) (fun be=>8) (fun be p g=>8) (fun be p g=>(Cb (Cg 1) (1:D)/\0<CV 4 p/\DH (CV 4 p))/\Cs (fun Q=>g) (fun Q=>20) (fun Q=>20) (fun Q t g=>20) (fun Q t g=>(Cb (Cg 1) (1:D)/\0<CV 10 t/\DH (CV 10 t))/\((Cb (Cg CS) (CS:D)/\Cg CS/\Cx CS)/\Cb (C2 (DF r)) (DF r)/\Cb (Cg 1) (1:D))/\Cs (fun S=>g) (fun S=>3) (fun S=>3) (fun S jc g=>3) (fun S jc g=>bif jc ==2 then(Cb (Cg CS) (CS:D)/\Cg CS/\Cx CS)/\(Cb (C2 (DF r)) (DF r)/\Cg 0/\Cx 0)/\(Cb (Cg CS) (CS:D)/\Cg 1/\Cx 1)/\DT (CY x+1) 224 (CY x+1)/\∃(w:MkX),Cj (DR w w l w w w w) w.n (CY w) x.n (CY x)/\0=0/\0=0/\0=0/\Ca x.n w.n/\Cd (CY x) (CY w)/\C3 (Ck g w.l/\34=34/\CZ/\Cf/\CZ/\CZ/\Cf/\CZ/\CZ/\Cf/\Cf/\CZ/\CZ/\DG/\34=34/\x.a.name=w.a.name/\x.a.x=w.a.x/\63<=63/\x.a.y=w.a.y/\63<=63/\x.a.half=w.a.half/\x.a.t=w.a.t/\63<=63/\0=0/\CY x+1=CY w/\61=61/\16=16/\(DQ x x r k m p t [DL,DD r 0 r 0,Cu CS 1 CS 1]=CP w.a\/QC (DQ x x r k m p t [DL,DD r 0 r 0,Cu CS 1 CS 1]) (CP w.a))/\N)else DT (CY x+1) 224 (CY x+1)/\∃(q:MkX),Cj (DR q q l q q q q) q.n (CY q) x.n (CY x)/\0=0/\0=0/\0=0/\Ca x.n q.n/\Cd (CY x) (CY q)/\C3 (Ck g q.l/\34=34/\CZ/\Cf/\CZ/\CZ/\Cf/\CZ/\CZ/\Cf/\Cf/\CZ/\CZ/\DG/\34=34/\x.a.name=q.a.name/\x.a.x=q.a.x/\63<=63/\x.a.y=q.a.y/\63<=63/\x.a.half=q.a.half/\x.a.t=q.a.t/\63<=63/\0=0/\CY x+1=CY q/\61=61/\16=16/\(DQ x x r k m p t [DL,DD r CS r CS,DD r 1 r 1,Cu CS 1 CS 1]=CP q.a\/QC (DQ x x r k m p t [DL,DD r CS r CS,DD r 1 r 1,Cu CS 1 CS 1]) (CP q.a))/\N)))))))) (∃(h:ArmV×A D),((Made h.1/\1<=CQ h.1)/\h.2.length<=G l)/\0=0/\C3 (Ck x.l h.2/\34=34/\x.a.name=h.1.name/\x.a.x=h.1.x/\63<=63/\x.a.y=h.1.y/\63<=63/\x.a.half=h.1.half/\x.a.t=h.1.t/\63<=63/\0=0/\CY x=CQ h.1/\61=61/\16=16/\(CP x.a=CP h.1\/QC (CP x.a) (CP h.1))/\N)))))) ?_
 delta CR CV Cp CQ C1 CP CS Cq CY Ca Cl Cb Ck CZ Cu DA C2 DF Cd Cx Cf Cj Cg Cn Cs C3 DH C6 DD DG DQ DL DR DU DT
 simp only[T,R0,R1,Zw,Y,R4];refine⟨o3,_,rfl,o3,l,rfl,o3,hl,fun r l1 hr h1=>⟨o3,?_⟩⟩;obtain⟨d,hd,hdr⟩: ∃d,ldE [[U (o P 0)],[U (o P 1)],[U (o P (-1))],[U (o P 1)]] r.toNat 0 1=F [U (o P d)]/\ -1<=d/\d<=1:=by
  have:r=0\/r=1\/r=2\/r=3:=o3
  rcases this with rfl | rfl | rfl | rfl
  ·exact⟨0,rfl,o3⟩
  ·exact⟨1,rfl,o3⟩
  ·exact⟨-1,rfl,o3⟩
  ·exact⟨1,rfl,o3⟩
 refine⟨d,hd,l1,rfl,o3,o3,fun r2 l2 jd h2=> ?_⟩;rw[w64 (n:=1+r2) o3];refine⟨o3,l2,rfl,o3,o3,fun r3 l3 je h3=> ?_⟩;rw[w64 (n:=1+r3) o3];refine⟨⟨⟨⟨a8,J 0 4,J 0 4,E,J d (1+r2).toNat,[]⟩,l3,(1+r3).toNat⟩,⟨⟨rfl,rfl,rfl,rfl,⟨d,1+r2,hdr,o3,rfl⟩,o6,o6⟩,o5,o6,o5,o5⟩,o5,rfl,rfl,rfl,rfl,rfl,rfl,rfl,rfl,rfl⟩,fun x hx=>QE (fun hp=> ?_) (fun hp=> ?_)⟩
 ·obtain⟨hm,ja,hn,V,W⟩:=hx;have hp:=R5 hp;refine⟨_,rfl,o3,o3,fun r l1 hr h1=> ?_⟩;rw[w64 (n:=2*r) o3,w64 (n:=4+2*r) o3];refine⟨o3,l1,rfl,o3,o3,fun i l2 hi h2=> ?_⟩;rw[w64 (n:= -1-i) o3];refine⟨o3,l2,rfl,o3,o3,fun c l3 hj h3=> ?_⟩;rw[w64 (n:=1+c) o3];refine⟨o3,l3,rfl,o3,o3,fun s l4 hs h4=> ?_⟩;rw[w64 (n:=4+s) o3];refine⟨o3,l4,rfl,o3,o3,fun a l5 hb h5=> ?_⟩;rw[w64 (n:=10+a) o3,w64 (n:=4+2*r+1) o3];refine⟨o3,o3,l5,rfl,o3,o3,fun q l6 hq h6=> ?_⟩
  have hL: ∀hZ,MadeLink (UQ (4+2*r) i c s a hZ):=fun hZ=>⟨r,i,c,s,a,hZ,hr,hi,hj,hs,hb,rfl⟩;have ht: ∀L:QV,j x.a.za.length (e QA x.a.za)++[QA L]=e QA (x.a.za++[L]):=fun L=>by
   rw[Zo (by rw[b];exact Y _),A.map_append];rfl
  refine QE (fun _=>⟨o3,o3,o3,o3,⟨{x.a with za:=x.a.za++[UQ (4+2*r) i c s a H]},l6,x.n⟩,⟨⟨hm.add (hL H) o3,o5,?_,V,W⟩,?_⟩,rfl,?_,rfl,rfl,rfl,rfl,rfl,rfl,o6,.inl (ht (UQ _ _ _ _ _ H))⟩) (fun _=>⟨o3,⟨{x.a with za:=x.a.za++[UQ (4+2*r) i c s a E]},l6,x.n⟩,⟨⟨hm.add (hL E) o3,o5,?_,V,W⟩,?_⟩,rfl,?_,rfl,rfl,rfl,rfl,rfl,rfl,o6,.inl (ht (UQ _ _ _ _ _ E))⟩);all_goals simp only[Zs,Zp,Zz]
  all_goals first | omega | (rw[w64 o3];simp)
 ·obtain⟨hm,ja,hn,V,W⟩:=hx;have hp:=R6 hp;exact⟨⟨x.a,x.l⟩,⟨⟨hm,o5⟩,ja⟩,rfl,rfl,rfl,rfl,rfl,rfl,rfl,.inl rfl⟩
def MadeA (a:ArmV):Prop:=Made a/\1<=a.za.length
def pj:XS:=fun e b d=>match e with
 | [.x E [.p k c],.x E [.v (.int .i64 n)]]=>match c with
  | 0=>match b k with
   | some (.box t [.s 1 x])=>match b d with
    | none=>bif t.beq 70 then
     F fun K=> ∃l,x=ints l/\n=0/\l.length<=9223372036854775807/\ ∀(a:ArmV) (f:A D),MadeA a->G f<=G l->
      K (.x H (dg a d)) (XW [(1000,k),(500,d)] (QO [(1000,stB f),(4,.box 34 (dg a 500)),(500,bT a.za)]) b)
     else O
    | some _=>O
   | _=>O
  | _+1=>O
 | _=>O
theorem Qab:Xg 19 pj:=by
 refine⟨Qf func19 o4,fun l a d T e K m=> ?_⟩;unfold pj at e;split at e
 ·rename_i k c n;split at e
  ·split at e
   ·rename_i t w r;split at e
    ·rename_i s;cases g:t.beq 70 with
     | false=>rw[g]at e;cases e
     | true=>
      rw[g]at e;cases e
      have v:=Yb g;subst v;obtain⟨l,rfl,rfl,u,m⟩:=m;refine Xc (R:=[(1000,k)]) (N:=[(500,d)]) (Hl:=[(1000,stB l)]) QjA QK func19 o4 o4 j6
       (as0:=[.x E [.p 1000 0],iA .i64 0]) ?_ (Kk r rfl rfl) rfl o6 o6 (fun p f=>by simp at f;subst f;exact s) (fun x=>⟨fun p f=> ?_,fun p f b g=> ?_⟩) (QfV l u) (fun x q=> ?_)
      ·simp[X7,X2,XZ,lkB,iA]
      ·simp at f;subst f;exact fun h=>by have j:F (stB _)=O:=h;cases j
      ·simp at f;rcases f with rfl | rfl
       ·have j:F (stB _)=F b:=g;cases j;rfl
       ·have j:F (bT _)=F b:=g;cases j;rfl
      ·exact⟨_,rfl,m _ _ q.1 q.2⟩
    ·cases e
   ·cases e
  ·cases e
 ·cases e
def M33:A (B×XS):=(19,pj)::M30
theorem Wz:XK M33:= .cons Qab df
def C8(a b c d e:ArmV)(f:A (A Ch)):A Ch:=[U (Zq a.name),CR b.x,CR c.y,U (Zn d.half),CR e.t,Z 16 f]
theorem QfW (l:A D)(f:(G l<=9223372036854775807))(K:AV->Prop)(h: ∀a:ArmV,MadeA a->K (JV a)):QM (QN (mkT L32 M33 X4) (oF f5) noL f5 [.x E [.s 1 (ints l)]] K):=by
 refine HV (∃(c:A D),Ck l c/\C6=0/\c.length<=9223372036854775807/\∀(a:ArmV)(d:A D),Made a/\1<=CQ a->G d<=G c->K (z H (C8 a a a a a (j (CQ a) (A.drop 0 (CP a)))))) ?_
 delta CR CQ CP Ck C6 C8
 try simp only[R0]
 refine⟨l,rfl,f,fun a d e _=> ?_⟩;have:=h a e;unfold JV Qp at this;rw[Yf,Zo (by rw[b];exact Y _)];exact this
def kO:Ctr
 | [.x E [.s 1 x]]=>F fun K=> ∃(l:A D),x=ints l/\((G l<=9223372036854775807))/\(∀a:ArmV,MadeA a->K (JV a))
 | _=>O
theorem Qac:QH 5 kO:=by
 refine okL func5 fun l T a K h=> ?_
 unfold kO at a;split at a<;>cases a
 obtain⟨l,rfl,b,h⟩:=h;exact spL (QP kZ Wz Qb) QK func5 (QfW _ b K h)
def L34:LC:=(5,kO)::L32
noncomputable def T34:Qd:=mkT L34 M33 X4
theorem xM:QF L34:= .cons Qac kZ
theorem QjB:Qr T34:=QP xM Wz Qb
def YH (q:C):Prop:=q.num.natAbs<=1000000/\q.den<=1000
def lft (a b c:C×C):C:=(b.1-a.1)*(c.2-a.2)-(b.2-a.2)*(c.1-a.1)
structure QY (l:A (C×C)):Prop where
 lo:3<=l.length
 hi:l.length<=8
 left: ∀i k a b c,2<=k->k<G l->l[i]? =F a->l[(i+1) % l.length]? =F b->l[(i+k) % l.length]? =F c->0<lft a b c
theorem QN6 (m n:B):Je m n<=0↔m<=n:=by
 unfold Je;split
 ·omega
 ·split<;>omega
def Ce(a:C):=a.num.natAbs
def Ct(a:C):=(QB a.den).length
def Cv(a:C):=(QB (Ce a)).length
def C0(a:AV->Prop)(b:K):=a (z E [U (Zn b)])
theorem QT6 (p:C)(a:B)(e:(a<=1000000)/\(YH p))(K:AV->Prop)(d:K (.x E [.v (.bool H)])):QM (QN T34 (oF f112) noL f112 [rA p a] K):=by
 refine HV (bif decide (I (Cv p)<=3)then bif decide (I (Ct p)<=2)then a<=4294967296/\Cx 1000000/\bif decide (Je (Ce p) 1000000<=0)then Cx 1000/\C0 K (decide (Je p.den (D.toNat 1000)<=0))else C0 K E else C0 K E else C0 K E) ?_
 delta Ce Cx Ct Cv C0
 try simp only[T]
 obtain⟨j,b,c⟩:=e;have f:(QB p.num.natAbs).length<=3:=Qh.2 o3;have g:(QB p.den).length<=2:=Qh.2 o3;refine QE (fun _=>QE (fun _=>⟨o3,o3,QE (fun _=>⟨o3,?_⟩) (fun h=> ?_)⟩) (fun h=> ?_)) (fun h=> ?_)
 ·rw[show decide (Je p.den (D.toNat 1000)<=0)=H from decide_eq_true ((QN6 _ _).2 c)];exact d
 ·exact absurd ((QN6 _ _).2 b) (R6 h)
 ·have:=R6 h;omega
 ·have:=R6 h;omega
def iM:Ctr
 | [.x H [.r p a]]=>F fun K=>((a<=1000000)/\(YH p))/\(K (.x E [.v (.bool H)]))
 | _=>O
theorem QQk:QH 112 iM:=by
 refine okL func112 fun l T a K h=> ?_
 unfold iM at a;split at a<;>cases a
 obtain⟨b,h⟩:=h;exact spL QjB QK func112 (QT6 _ _ b K h)
def L35:LC:=(112,iM)::L34
theorem Qdi:QF L35:= .cons QQk xM
theorem QfX (p:C)(a:B)(e:C)(b:B)(q:C)(c:B)(f:C)(d:B)(g:(a+c<=4294967290)/\(b+d<=4294967290))(K:AV->Prop)(h:K (.x H [.r (p-q) (a+c+1),.r (e-f) (b+d+1)])):QM (QN (mkT L35 M33 X4) (oF f96) noL f96 [.x H [.r p a,.r e b],.x H [.r q c,.r f d]] K):=by
 refine HV (a+c+1<=4294967296/\b+d+1<=4294967296/\K (z H [M (p-q) (a+c+1),M (e-f) (b+d+1)])) ?_
 try simp only[T,R0,R1,Zw,Y,R4,R2,R3]
 exact⟨o3,o3,h⟩
def gT:Ctr
 | [.x H [.r p a,.r e b],.x H [.r q c,.r f d]]=>F fun K=>((a+c<=4294967290)/\(b+d<=4294967290))/\(K (.x H [.r (p-q) (a+c+1),.r (e-f) (b+d+1)]))
 | _=>O
theorem Qad:QH 96 gT:=by
 refine okL func96 fun l T a K h=> ?_
 unfold gT at a;split at a<;>cases a
 obtain⟨b,h⟩:=h;exact spL (QP Qdi Wz Qb) QK func96 (QfX _ _ _ _ _ _ _ _ b K h)
def L36:LC:=(96,gT)::L35
theorem Qdj:QF L36:= .cons Qad Qdi
theorem QT7 (p:C)(a:B)(e:C)(b:B)(q:C)(c:B)(f:C)(d:B)(g:(a+b+c+d<=4294967290))(K:AV->Prop)(h:K (rA (p*f-e*q) (a+d+(b+c)+1))):QM (QN (mkT L36 M33 X4) (oF f175) noL f175 [.x H [.r p a,.r e b],.x H [.r q c,.r f d]] K):=by
 refine HV (a+d<=4294967296/\b+c<=4294967296/\a+d+(b+c)+1<=4294967296/\K (z H [M (p*f-e*q) (a+d+(b+c)+1)])) ?_
 try simp only[T,R0,R1,Zw,Y,R4,R2,R3]
 exact⟨o3,o3,o3,h⟩
def nF:Ctr
 | [.x H [.r p a,.r e b],.x H [.r q c,.r f d]]=>F fun K=>((a+b+c+d<=4294967290))/\(K (rA (p*f-e*q) (a+d+(b+c)+1)))
 | _=>O
theorem QQl:QH 175 nF:=by
 refine okL func175 fun l T a K h=> ?_
 unfold nF at a;split at a<;>cases a
 obtain⟨b,h⟩:=h;exact spL (QP Qdj Wz Qb) QK func175 (QT7 _ _ _ _ _ _ _ _ b K h)
def L37:LC:=(175,nF)::L36
theorem xb:QF L37:= .cons QQl Qdj
def Cc(a:AV->Prop)(b:D):=a (z E (Cq b))
theorem Qae (a:C×C)(b:C×C)(c:C×C)(n:B)(d:(n<=500000000))(K:AV->Prop)(h:K (iA .i64 (XY (lft a b c)))):QM (QN (mkT L37 M33 X4) (oF f150) noL f150 [.x H (QS n a),.x H (QS n b),.x H (QS n c)] K):=by
 refine HV ((n+n<=4294967290/\n+n<=4294967290)/\(n+n<=4294967290/\n+n<=4294967290)/\n+n+1+(n+n+1)+(n+n+1)+(n+n+1)<=4294967290/\n+n+1+(n+n+1)+(n+n+1+(n+n+1))+1<=4294967296/\Cc K (XY ((b.1-a.1)*(c.2-a.2)-(b.2-a.2)*(c.1-a.1)))) ?_
 delta Cq Cc
 try simp only[T,R0,R1,Zw,Y,R4,R2,R3]
 exact⟨o3,o3,o3,o3,h⟩
def pf:Ctr
 | [.x H p,.x H d,.x H e]=>F fun K=> ∃(a:C×C) (b:C×C) (c:C×C) (n:B),p=QS n a/\d=QS n b/\e=QS n c/\((n<=500000000))/\(K (iA .i64 (XY (lft a b c))))
 | _=>O
theorem QT8:QH 150 pf:=by
 refine okL func150 fun l T d K h=> ?_
 unfold pf at d;split at d<;>cases d
 obtain⟨a,b,c,n,rfl,rfl,rfl,e,h⟩:=h;exact spL (QP xb Wz Qb) QK func150 (Qae _ _ _ _ e K h)
def L38:LC:=(150,pf)::L37
noncomputable def T38:Qd:=mkT L38 M33 X4
theorem zU:QF L38:= .cons QT8 xb
theorem QjC:Qr T38:=QP zU Wz Qb
def lRb (l:A (C×B)):A (A Ch):=l.map fun p=>[M p.1 p.2]
def cy (b:R):Prop:=(1<=b.size/\b.size<=12)/\ ∀(i:B) (x:Q),b.data.toList[i]? =F x->97<=x.toNat/\x.toNat<=122
variable{i:B}
theorem WX {n:B}{l:A (C×C)}{a:C×C}(h:l[i]? =F a):ldE (l.map (QS n)) i 0 6=F [.r a.1 n,.r a.2 n]:=by
 simp only[ldE,Ya,h];rfl
theorem qH {q:C}(h:0<q):XY q=1:=by
 unfold XY;have b:=C.num_nonneg.2 (C.le_of_lt h);have a:q.num≠0:=fun e=>by
  rw[C.num_eq_zero.1 e]at h;exact absurd h C.lt_irrefl
 rw[if_neg a,if_neg o3]
abbrev QJO (l:A (C×B))(K:AV->Prop):Prop:=((G l<=1000000)/\(∀p∈l,YH p.1/\p.2<=1000000))/\(K (.x E [.v (.bool H)]))
def Cm(a:A (A Ch))(b c:B)(d:A Ch):=ldE a (I b).toNat 0 c=F d
theorem QT9 (l:A (C×B))(K:AV->Prop)(h:QJO l K):QM (QN T38 (oF f72) (fun _=> .inv ⟨B,fun i=>⟨[(5,.x E [.s 3 (lRb l)]),(6,iA .i64 l.length),(7,iA .i64 i)],[]⟩,fun i=>i<=G l,fun i=>G l-i,fun _=>0⟩) f72 [.x E [.s 3 (lRb l)]] K):=by
 obtain⟨g,h⟩:=h;refine HV ((∃(x:B),(x<=G l/\Cl)/\3=3/\lRb l=lRb l/\CT (lRb l)=I l.length/\0=I x/\N)/\∀(v:B),v<=G l->Cn v l.length ((0<=I v/\I v<CT (lRb l))/\∃(q:C)(n:B),Cm (lRb l) v 3 [M q n]/\(n<=1000000/\Ce q<=1000000/\q.den<=1000)/\∃(u:B),Cj (u<=G l) l.length u l.length v/\3=3/\lRb l=lRb l/\Ca l.length l.length/\Cd v u/\N) (C0 K H)) ?_
 delta CV CT Ce Ca Cl DA Cd Cj Cn Cm C0
 try simp only[T,R0,R1,R4]
 obtain⟨k,e⟩:=g;have j:(lRb l).length=G l:=by simp[lRb]
 simp only[j];refine⟨⟨0,o3,trivial,rfl⟩,fun x m=>QE (fun a=> ?_) (fun _=>h)⟩;have a:=R5 a;obtain⟨p,hpp⟩: ∃p,l[x]? =F p:=⟨_,f o3⟩
 obtain⟨⟨b,c⟩,d⟩:=e p (Zv hpp);refine⟨o3,p.1,p.2,by simp only[ldE,lRb,Ya,Zt,hpp];rfl,⟨d,b,c⟩,x+1,⟨o3,o3⟩,by rw[w64 o3];simp⟩
def sO:Ctr
 | [.x E [.s 3 x]]=>F fun K=> ∃(l:A (C×B)),x=lRb l/\QJO l K
 | _=>O
theorem QQm:QH 72 sO:=by
 refine okL func72 fun l T a K h=> ?_
 unfold sO at a;split at a<;>cases a
 obtain⟨l,rfl,h⟩:=h;exact spL QjC QK func72 (QT9 _ K h)
def L39:LC:=(72,sO)::L38
theorem Qdm:QF L39:= .cons QQm zU
theorem QUA (b:R)(j:(cy b))(K:AV->Prop)(g:K (.x E [.v (.bool H)])):QM (QN (mkT L39 M33 X4) (oF f71) (fun _=> .inv ⟨B,fun i=>⟨[(0,.x E [.v (.string b)]),(5,iA .i64 b.size),(6,iA .i64 i)],[]⟩,fun i=>i<=b.size,fun i=>b.size-i,fun _=>0⟩) f71 [.x E [.v (.string b)]] K):=by
 refine HV ((∃(x:B),(x<=b.size/\Cl)/\b=b/\Ca b.size b.size/\0=I x/\N)/\∀(v:B),v<=b.size->Cn v b.size (∃(u:Q),(0<=I v/\b.data.toList[(I v).toNat]? =F u)/\DA (I u.toNat) 97 (C0 K E) (∃(a:Q),(0<=I v/\b.data.toList[(I v).toNat]? =F a)/\bif decide (I a.toNat>122)then C0 K E else∃(c:B),Cj (c<=b.size) b.size c b.size v/\b=b/\Ca b.size b.size/\Cd v c/\N)) (bif decide (I b.size>=1)then C0 K (decide (I b.size<=12))else C0 K E)) ?_
 delta CV Ca Cl DA Cd Cj Cn C0
 try simp only[T,R0,R1,R4]
 obtain⟨⟨l,m⟩,e⟩:=j;have q:b.data.toList.length=b.size:=o6
 refine⟨⟨0,o3,rfl⟩,fun x r=>QE (fun d=> ?_) (fun _=> ?_)⟩
 ·have d:=R5 d;obtain⟨p,hpp⟩: ∃p,b.data.toList[x]? =F p:=⟨_,f o3⟩
  have k:=e x p hpp;simp only[Zt];exact⟨p,⟨o3,hpp⟩,QE (fun h=>(j7 h)) (fun _=>⟨p,⟨o3,hpp⟩,QE (fun h=>(j7 h)) (fun _=>⟨x+1,⟨o3,o3⟩,by rw[w64 o3];simp⟩)⟩)⟩
 ·refine QE (fun _=> ?_) (fun h=>(j8 h));rw[show decide ((b.size:D)<=12)=H from decide_eq_true o3];exact g
def iz:Ctr
 | [.x E [.v (.string b)]]=>F fun K=>((cy b))/\(K (.x E [.v (.bool H)]))
 | _=>O
theorem QQn:QH 71 iz:=by
 refine okL func71 fun l T a K h=> ?_
 unfold iz at a;split at a<;>cases a
 obtain⟨b,h⟩:=h;exact spL (QP Qdm Wz Qb) QK func71 (QUA _ b K h)
def L40:LC:=(71,iz)::L39
theorem Qdn:QF L40:= .cons QQn Qdm
def CU(a:B)(b:A (C×C)):=e (QS a) b
def DM:C:=OfNat.ofNat 0
def Ci(a:C->B->C->B->Prop):=∃(b:C)(y:B)(x:C)(w:B),a b y x w
def DE(a b:A (C×C)):=Ca a.length b.length
def DO(a:A (C×C))(b:B×B):=(a.getD b.1 (DM,DM)).2
def DK(a:A (C×C))(b:B×B):=(a.getD b.1 (DM,DM)).1
def DP(a:C):=decide (XY a<=0)
def DW(a b:B×B)(c:A (C×C)):=(CV (I a.1) (I b.2)).tmod (I c.length)
def DV(a:B×B)(b:A (C×C)):=(CV (I a.1) 1).tmod (I b.length)
theorem Qaf (n:B)(l:A (C×C))(m:D)(hc:(n<=500000000)/\(QY l)/\((8<=m)))(K:AV->Prop)(hK:K (iA .i64 0)):QM (QN (mkT L40 M33 X4) (oF f113) (fun id=>bif id.beq 10 then .inv ⟨B×B,fun x=>⟨[(0,.x E [.s 6 (l.map (QS n))]),(5,iA .i64 l.length),(6,iA .i64 x.1),(7,.x E [.p 7 0]),(8,iA .i64 x.2),(18,.x E [.s 6 (l.map (QS n))]),(19,iA .i64 l.length),(20,iA .i64 x.1)],[(7,.box 27 (QS n (l.getD x.1 (0,0))))]⟩,fun x=>x.1<G l/\2<=x.2/\x.2<=G l,fun x=>G l-x.2,fun x=>G l-x.1⟩else .inv ⟨B,fun i=>⟨[(0,.x E [.s 6 (l.map (QS n))]),(5,iA .i64 l.length),(18,.x E [.s 6 (l.map (QS n))]),(19,iA .i64 l.length),(20,iA .i64 i)],[]⟩,fun i=>i<=G l,fun i=>G l-i,fun _=>0⟩) f113 [.x E [.s 6 (l.map (QS n))],iA .i64 m] K):=by
 refine HV (bif decide (CT (CU n l)>m)then Cc K 2 else DA (CT (CU n l)) 3 (Cc K 3) ((∃(x:B),(x<=G l/\Cl)/\6=6/\CU n l=CU n l/\CT (CU n l)=I l.length/\6=6/\CU n l=CU n l/\CT (CU n l)=I l.length/\0=I x/\N)/\∀(v:B),v<=G l->Cn v l.length ((0<=I v/\I v<CT (CU n l))/\Ci (fun q t S u=>Cm (CU n l) v 6 [M q t,M S u]/\(∃(e:B×B),((e.1<G l/\2<=e.2/\e.2<=G l)/\l.length-e.1=G l-v)/\6=6/\CU n l=CU n l/\DE l l/\Ca v e.1/\0=0/\2=I e.2/\6=6/\CU n l=CU n l/\DE l l/\Ca v e.1/\27=27/\q=DK l e/\t<=n/\S=DO l e/\u<=n/\N)/\∀(e:B×B),e.1<G l/\2<=e.2/\e.2<=G l->G l-e.1=G l-v->DA (I e.2) (I l.length) (I l.length≠0/\(0<=DV e l/\DV e l<CT (CU n l))/\Ci (fun q w V J=>ldE (CU n l) (DV e l).toNat 0 6=F [M q w,M V J]/\I l.length≠0/\(0<=DW e e l/\DW e e l<CT (CU n l))/\Ci (fun W Q X R=>ldE (CU n l) (DW e e l).toNat 0 6=F [M W Q,M X R]/\∃(a d c:C×C)(g:B),[M (DK l e) n,M (DO l e) n]=[M a.1 g,M a.2 g]/\[M q w,M V J]=[M d.1 g,M d.2 g]/\[M W Q,M X R]=[M c.1 g,M c.2 g]/\g<=500000000/\bif DP (lft a d c)then Cc K 3 else∃(j:B×B),((j.1<G l/\2<=j.2/\j.2<=G l)/\l.length-j.1=G l-v/\l.length-j.2<G l-e.2)/\6=6/\CU n l=CU n l/\DE l l/\Ca e.1 j.1/\0=0/\Cd e.2 j.2/\6=6/\CU n l=CU n l/\DE l l/\Ca e.1 j.1/\27=27/\DK l e=DK l j/\n<=n/\DO l e=DO l j/\n<=n/\N))) (∃(j:B),Cj (j<=G l) l.length j l.length v/\6=6/\CU n l=CU n l/\DE l l/\6=6/\CU n l=CU n l/\DE l l/\Cd e.1 j/\N))) (Cc K 0))) ?_
 delta CV CT Cq CU Ca Cl Cc DA DM Cd Cj Cn Cm Ci DE DO DK DP DW DV
 try simp only[T,R0,R1,Y,R4]
 obtain⟨h1,h2,h3⟩:=hc;have l1:=h2.lo;have l2:=h2.hi;simp only[b];refine QE (fun h=>(j7 h)) (fun _=>QE (fun h=>(j7 h)) (fun _=>⟨⟨0,o3,trivial,trivial,rfl⟩,fun x hx=>QE (fun r=> ?_) (fun _=>hK)⟩));have r:x<G l:=(j7 r)
 obtain⟨a,ha⟩: ∃a,l[x]? =F a:=⟨_,f r⟩
 have p:l.getD x (0,0)=a:=by rw[Yd,ha];rfl
 refine⟨o3,_,_,_,_,WX ((j9 ha)),⟨(x,2),⟨⟨r,o5,o5⟩,rfl⟩,rfl,rfl,rfl,by simp only;rw[<-p],Y _,by simp only;rw[<-p],Y _⟩,fun y hy ht=> ?_⟩;obtain⟨i,k⟩:=y;simp only at hy ht|-;have hi:i=x:=o3
 subst hi;refine QE (fun hk=> ?_) (fun _=>⟨i+1,⟨o3,o3⟩,by rw[w64 o3];simp⟩);have hk:k<G l:=(j7 hk)
 have e1:(P.wrap ((i:D)+1)).tmod (G l:D)=(((i+1) % l.length:B):D):=by
  rw[w64 o3,tm o3];simp
 have e2:(P.wrap ((i:D)+k)).tmod (G l:D)=(((i+k) % l.length:B):D):=by
  rw[w64 o3,tm o3];simp
 have m1:=B.mod_lt (i+1) (by omega:0<G l);have m2:=B.mod_lt (i+k) (by omega:0<G l);obtain⟨d,hb⟩: ∃d,l[(i+1) % l.length]? =F d:=⟨_,f m1⟩
 obtain⟨c,hcc⟩: ∃c,l[(i+k) % l.length]? =F c:=⟨_,f m2⟩
 have s:=h2.left i k a d c hy.2.1 hk ha hb hcc;rw[e1,e2,Zt,Zt];refine⟨o3,o3,_,_,_,_,WX hb,o3,o3,_,_,_,_,WX hcc,a,d,c,n,by rw[p],rfl,rfl,o3,QE (fun h=> ?_) (fun _=> ?_)⟩
 ·have h:=R5 h;rw[qH s]at h;omega
 ·refine⟨(i,k+1),?_⟩;simp only;refine⟨⟨⟨r,o3,o3⟩,trivial,o3⟩,trivial,?_,trivial,trivial,trivial⟩;rw[w64 o3];simp
def lg:Ctr
 | [.x E [.s 6 x],.x E [.v (.int .i64 m)]]=>F fun K=> ∃(n:B) (l:A (C×C)),x=l.map (QS n)/\((n<=500000000)/\(QY l)/\((8<=m)))/\(K (iA .i64 0))
 | _=>O
theorem QUB:QH 113 lg:=by
 refine okL func113 fun l T a K h=> ?_
 unfold lg at a;split at a<;>cases a
 obtain⟨n,l,rfl,b,h⟩:=h;exact spL (QP Qdn Wz Qb) QK func113 (Qaf _ _ _ b K h)
def L41:LC:=(113,lg)::L40
noncomputable def T41:Qd:=mkT L41 M33 X4
theorem Qdo:QF L41:= .cons QUB Qdn
theorem QjD:Qr T41:=QP Qdo Wz Qb
structure WB (L:QV):Prop where
 small:YH L.len/\YH L.lo/\YH L.hi/\YH L.sp/\YH L.br
 len:0<L.len
 lim:L.lo<L.hi
 sp:0<L.sp
 br:0<L.br
 zt:QY L.shape
 shape: ∀p∈L.shape,YH p.1/\YH p.2
structure QJ (a:ArmV):Prop where
 name:cy a.name
 n:1<=G a.za/\a.za.length<=3
 small:YH a.x/\YH a.y/\YH a.t
 half:a.half=H->a.t=0
 za: ∀L∈a.za,WB L
def Fit (a:ArmV)(b:A C):Prop:= ∀(i:B) (L:QV) (q:C),a.za[i]? =F L->b[i]? =F q->L.lo<=q/\q<=L.hi
theorem JW {l:A QV}(h:l[i]? =F L):ldE (l.map QA) i 0 16=F (QA L):=by
 simp only[ldE,Ya,h];rfl
theorem Qag (n:B)(l:A (C×C))(h:(n<=500000000)/\(QY l))(K:AV->Prop)(c:K (iA .i64 0)):QM (QN T41 (oF f78) noL f78 [.x E [.s 6 (l.map (QS n))]] K):=by
 refine HV (∃(b:B)(a:A (C×C)),CU n l=CU b a/\(b<=500000000/\QY a/\(8:D)<=8)/\Cc K 0) ?_
 delta Cq CU Cc
 try simp only[T,R0,R1,Zw,Y,R4,R2,R3]
 exact⟨n,l,rfl,⟨h.1,h.2,o3⟩,c⟩
def la:Ctr
 | [.x E [.s 6 x]]=>F fun K=> ∃(n:B) (l:A (C×C)),x=l.map (QS n)/\((n<=500000000)/\(QY l))/\(K (iA .i64 0))
 | _=>O
theorem QUC:QH 78 la:=by
 refine okL func78 fun l T a K h=> ?_
 unfold la at a;split at a<;>cases a
 obtain⟨n,l,rfl,b,h⟩:=h;exact spL QjD QK func78 (Qag _ _ b K h)
def L42:LC:=(78,la)::L41
theorem uN:QF L42:= .cons QUC Qdo
def Cw(a:QV):=e XL a.shape
def Cy(a:QV):=a.shape.length
def C7(a:K)(b:AV->Prop)(c:Prop):=bif a then Cc b 1 else c
def DS(a:C×B->A (C×B)):=∀(b:C×B),b∈a b->(Ce b.1<=1000000/\b.1.den<=1000)/\b.2<=1000000
theorem QQo (L:QV)(V:(WB L))(K:AV->Prop)(R:K (iA .i64 0)):QM (QN (mkT L42 M33 X4) (oF f74) (fun _=> .inv ⟨B,fun i=>⟨[(50,.x E [.s 6 (L.shape.map XL)]),(51,iA .i64 L.shape.length),(52,iA .i64 i)],[]⟩,fun i=>i<=G L.shape,fun i=>G L.shape-i,fun _=>0⟩) f74 [.x H (QA L)] K):=by
 refine HV (∃(l:A (C×B)),[[CR L.len],[CR L.lo],[CR L.hi],[CR L.sp],[CR L.br]]=lRb l/\(G l<=1000000/\DS (fun p=>l))/\63<=4294967296/\C7 (DP L.len) K (126<=4294967296/\C7 (decide (YY L.lo L.hi>=0)) K (63<=4294967296/\C7 (DP L.sp) K (63<=4294967296/\C7 (DP L.br) K (∃(n:B)(l:A (C×C)),Cw L=CU n l/\(n<=500000000/\QY l)/\(∃(x:B),(x<=Cy L/\Cl)/\6=6/\Cw L=Cw L/\CT (Cw L)=I (Cy L)/\0=I x/\N)/\∀(v:B),v<=Cy L->Cn v (Cy L) ((0<=I v/\I v<CT (Cw L))/\Ci (fun q n e d=>Cm (Cw L) v 6 [M q n,M e d]/\∃(l:A (C×B)),[[M q n],[M e d]]=lRb l/\(G l<=1000000/\DS (fun u=>l))/\∃(a:B),Cj (a<=Cy L) (Cy L) a (Cy L) v/\6=6/\Cw L=Cw L/\Ca (Cy L) (Cy L)/\Cd v a/\N)) (Cc K 0)))))) ?_
 delta CR CV CT Ce Cq CU Ca Cl Cc DA Cd Cj Cn Cm Ci Cw Cy C7 DP DS
 try simp only[T,R0,R1,R4]
 obtain⟨⟨W,X,Y,s4,s5⟩,w,y,D,J,g,Q⟩:=V;have s: ∀{q:C},0<q->decide (XY q<=0)=H->False:=fun h t=>by
  have:=R5 t;rw[qH h]at this;omega
 refine⟨[(L.len,63),(L.lo,63),(L.hi,63),(L.sp,63),(L.br,63)],rfl,⟨o6,fun p c=> ?_⟩,o3,QE (fun h=>(s w h).elim) (fun _=>⟨o3,QE (fun h=> ?_) (fun _=>⟨o3,QE (fun h=>(s D h).elim) (fun _=>⟨o3,QE (fun h=>(s J h).elim) (fun _=>⟨63,L.shape,rfl,⟨o3,g⟩,⟨0,o3,o6,rfl⟩,fun x hx=>QE (fun c=> ?_) (fun _=>R)⟩)⟩)⟩)⟩)⟩
 ·simp only[Yc,Zx,S]at c;rcases c with rfl | rfl | rfl | rfl | rfl
  ·exact⟨W,o6⟩
  ·exact⟨X,o6⟩
  ·exact⟨Y,o6⟩
  ·exact⟨s4,o6⟩
  ·exact⟨s5,o6⟩
 ·have:=(aw _ _).1 (R5 h);exact absurd y (C.not_lt.2 this)
 ·have c:x<G L.shape:=(j7 c)
  obtain⟨p,hpp⟩: ∃p,L.shape[x]? =F p:=⟨_,f c⟩
  obtain⟨k,m⟩:=Q p (Zv hpp);refine⟨by rw[b];omega,_,_,_,_,WX ((j9 hpp)),[(p.1,63),(p.2,63)],rfl,⟨o6,fun r j=> ?_⟩,x+1,⟨o3,o3⟩,by rw[w64 (by have:=g.hi;omega)];simp⟩;simp only[Yc,Zx,S]at j;rcases j with rfl | rfl
  ·exact⟨k,o6⟩
  ·exact⟨m,o6⟩
def kU:Ctr
 | [.x H x]=>F fun K=> ∃(L:QV),x=QA L/\((WB L))/\(K (iA .i64 0))
 | _=>O
theorem QLz:QH 74 kU:=by
 refine okL func74 fun l T a K h=> ?_
 unfold kU at a;split at a<;>cases a
 obtain⟨L,rfl,b,h⟩:=h;exact spL (QP uN Wz Qb) QK func74 (QQo _ b K h)
def L43:LC:=(74,kU)::L42
theorem xd:QF L43:= .cons QLz uN
theorem QUD (a:ArmV)(hc:(QJ a))(K:AV->Prop)(hK:K (iA .i64 0)):QM (QN (mkT L43 M33 X4) (oF f34) (fun _=> .inv ⟨B,fun i=>⟨[(48,.x E [.s 16 (a.za.map QA)]),(49,iA .i64 a.za.length),(50,iA .i64 i)],[]⟩,fun i=>i<=G a.za,fun i=>G a.za-i,fun _=>0⟩) f34 [JV a] K):=by
 refine HV (((1<=a.name.size/\a.name.size<=12)/\∀(i:B)(x:Q),a.name.data.toList[i]? =F x->97<=x.toNat/\x.toNat<=122)/\bif decide (CT (CP a)>3)then Cc K 2 else C7 (CT (CP a) ==0) K (∃(l:A (C×B)),[[CR a.x],[CR a.y],[CR a.t]]=lRb l/\(G l<=1000000/\DS (fun v=>l))/\bif a.half then 63<=4294967296/\C7 (XY a.t !=0) K ((∃(u:B),(u<=CQ a/\Cl)/\16=16/\CP a=CP a/\CT (CP a)=I (CQ a)/\0=I u/\N)/\∀(c:B),c<=CQ a->Cn c (CQ a) ((0<=I c/\I c<CT (CP a))/\Ci (fun q n y d=>Ci (fun J g R s=>∃(V:C)(t:B)(X:A (A Ch)),Cm (CP a) c 16 [M q n,M y d,M J g,M R s,M V t,Z 6 X]/\∃(w:QV),[M q n,M y d,M J g,M R s,M V t,Z 6 X]=[CR w.len,CR w.lo,CR w.hi,CR w.sp,CR w.br,Z 6 (Cw w)]/\WB w/\∃(r:B),Cj (r<=CQ a) (CQ a) r (CQ a) c/\16=16/\CP a=CP a/\Ca (CQ a) (CQ a)/\Cd c r/\N))) (Cc K 0))else(∃(p:B),(p<=CQ a/\Cl)/\16=16/\CP a=CP a/\CT (CP a)=I (CQ a)/\0=I p/\N)/\∀(m:B),m<=CQ a->Cn m (CQ a) ((0<=I m/\I m<CT (CP a))/\Ci (fun q n y d=>Ci (fun J g R s=>∃(V:C)(t:B)(X:A (A Ch)),Cm (CP a) m 16 [M q n,M y d,M J g,M R s,M V t,Z 6 X]/\∃(k:QV),[M q n,M y d,M J g,M R s,M V t,Z 6 X]=[CR k.len,CR k.lo,CR k.hi,CR k.sp,CR k.br,Z 6 (Cw k)]/\WB k/\∃(j:B),Cj (j<=CQ a) (CQ a) j (CQ a) m/\16=16/\CP a=CP a/\Ca (CQ a) (CQ a)/\Cd m j/\N))) (Cc K 0))) ?_
 delta CR CV CQ CP CT Ce Cq Ca Cl Cc DA Cd Cj Cn Cm Ci Cw C7 DS
 try simp only[T,R0,R1,R4]
 have hl:=hc.n;obtain⟨s1,s2,s3⟩:=hc.small;have W:(∃x,x<=G a.za/\((e QA a.za).length:D)=G a.za/\(0:D)=(x:B))/\ ∀(x:B),x<=G a.za->bif decide ((x:D)<G a.za)then((0:D)<=x/\(x:D)<((e QA a.za).length:B))/\
   ∃q n y d J g R s V t X,ldE (e QA a.za) (x:D).toNat 0 16=F [M q n,M y d,M J g,M R s,M V t,Z 6 X]/\
    ∃L:QV,[M q n,M y d,M J g,M R s,M V t,Z 6 X]=[M L.len 63,M L.lo 63,M L.hi 63,M L.sp 63,M L.br 63,Z 6 (e XL L.shape)]/\WB L/\
     ∃x':B,(x'<=G a.za/\a.za.length-x'<G a.za-x)/\P.wrap ((x:D)+1)=x'
   else K (z E [U (o P 0)]):=by
  refine⟨⟨0,o3,o6,rfl⟩,fun x hx=>QE (fun Y=> ?_) (fun _=>hK)⟩;have Y:x<G a.za:=(j7 Y)
  obtain⟨L,hL⟩: ∃L,a.za[x]? =F L:=⟨_,f Y⟩
  exact⟨by rw[b];omega,_,_,_,_,_,_,_,_,_,_,_,JW ((j9 hL)),L,rfl,hc.za L (Zv hL),x+1,⟨o3,o3⟩,by rw[w64 o3];simp⟩
 simp only[b]at W⊢;refine⟨hc.name,QE (fun h=>(j7 h)) (fun _=>QE (fun h=>by simp only[beq_iff_eq]at h;omega) (fun _=>⟨[(a.x,63),(a.y,63),(a.t,63)],rfl,⟨o6,fun p Y=> ?_⟩,QE (fun h=>⟨o3,QE (fun h'=> ?_) (fun _=>W)⟩) (fun _=>W)⟩))⟩
 ·simp only[Yc,Zx,S]at Y;rcases Y with rfl | rfl | rfl
  ·exact⟨s1,o6⟩
  ·exact⟨s2,o6⟩
  ·exact⟨s3,o6⟩
 ·rw[hc.half h]at h';exact absurd h' o8
def sS:Ctr
 | [.x H x]=>F fun K=> ∃(a:ArmV),x=Qp a/\((QJ a))/\(K (iA .i64 0))
 | _=>O
theorem QQp:QH 34 sS:=by
 refine okL func34 fun l T b K h=> ?_
 unfold sS at b;split at b<;>cases b
 obtain⟨a,rfl,c,h⟩:=h;exact spL (QP xd Wz Qb) QK func34 (QUD _ c K h)
def L44:LC:=(34,sS)::L43
theorem Qdr:QF L44:= .cons QQp xd
theorem QfY (a:ArmV)(n:D)(d:(QJ a)/\(n=G a.za))(K:AV->Prop)(e:K (iA .i64 0)):QM (QN (mkT L44 M33 X4) (oF f49) noL f49 [JV a,iA .i64 n] K):=by
 refine HV (∃(c:ArmV),C8 a a a a a (CP a)=C8 c c c c c (CP c)/\QJ c/\C7 (n !=CT (CP a)) K (Cc K 0)) ?_
 delta CR CP CT Cq Cc C8 C7
 try simp only[T]
 refine⟨a,rfl,d.1,QE (fun h=> ?_) (fun _=>e)⟩;rw[b,d.2]at h;simp at h
def kx:Ctr
 | [.x H x,.x E [.v (.int .i64 n)]]=>F fun K=> ∃(a:ArmV),x=Qp a/\((QJ a)/\(n=G a.za))/\(K (iA .i64 0))
 | _=>O
theorem Qah:QH 49 kx:=by
 refine okL func49 fun l T b K h=> ?_
 unfold kx at b;split at b<;>cases b
 obtain⟨a,rfl,c,h⟩:=h;exact spL (QP Qdr Wz Qb) QK func49 (QfY _ _ c K h)
def L45:LC:=(49,kx)::L44
theorem Qds:QF L45:= .cons Qah Qdr
abbrev xr (a:ArmV)(n:B)(q:A C)(K:AV->Prop):Prop:=((QJ a)/\(n<=1000000/\q.length=G a.za))/\((Fit a q->K (iA .i64 0))/\(¬Fit a q->K (iA .i64 17)))
def C5(a:A C)(b:B)(c:C)(d:QV)(e f:C)(g:QV):=a[b]? =F c->d.lo<=e/\f<=g.hi
def C4(a:ArmV)(b:B)(c:QV):=a.za[b]? =F c
theorem Qai (a:ArmV)(n:B)(g:A C)(K:AV->Prop)(Y:xr a n g K):QM (QN (mkT L45 M33 X4) (oF f23) (fun _=> .inv ⟨B,fun i=>⟨[(1,.x E [.s 3 (lR n g)]),(16,.x E [.s 16 (a.za.map QA)]),(17,iA .i64 a.za.length),(18,iA .i64 i)],[]⟩,fun i=>i<=G a.za/\ ∀j L q,j<i->a.za[j]? =F L->g[j]? =F q->L.lo<=q/\q<=L.hi,fun i=>G a.za-i,fun _=>0⟩) f23 [JV a,.x E [.s 3 (lR n g)]] K):=by
 obtain⟨hc,Y⟩:=Y;refine HV (∃(k:ArmV),C8 a a a a a (CP a)=C8 k k k k k (CP k)/\(QJ k/\CT (lR n g)=I (CQ k))/\(∃(x:B),((x<=CQ a/\∀(v:B)(u:QV)(d:C),v<x->C4 a v u->C5 g v d u d d u)/\Cl)/\3=3/\lR n g=lR n g/\16=16/\CP a=CP a/\CT (CP a)=I (CQ a)/\0=I x/\N)/\∀(x:B),(x<=CQ a/\∀(y:B)(w:QV)(t:C),y<x->C4 a y w->C5 g y t w t t w)->Cn x (CQ a) ((0<=I x/\I x<CT (CP a))/\Ci (fun q At V J=>Ci (fun W Q hZ Lm=>∃(ja:C)(be:B)(ys:A (A Ch)),Cm (CP a) x 16 [M q At,M V J,M W Q,M hZ Lm,M ja be,Z 6 ys]/\(0<=I x/\I x<CT (lR n g))/\∃(q:C)(R:B),Cm (lR n g) x 3 [M q R]/\R+J<=4294967296/\DA (YY q V) 0 (Cc K 17) ((0<=I x/\I x<CT (lR n g))/\∃(q:C)(S:B),Cm (lR n g) x 3 [M q S]/\S+Q<=4294967296/\bif decide (YY q W>0)then Cc K 17 else∃(X:B),Cj (X<=CQ a/\∀(r:B)(p:QV)(m:C),r<X->C4 a r p->C5 g r m p m m p) (CQ a) X (CQ a) x/\3=3/\lR n g=lR n g/\16=16/\CP a=CP a/\Ca (CQ a) (CQ a)/\Cd x X/\N)))) (Cc K 0)) ?_
 delta CR CV CQ CP CT Cq Ca Cl Cc DA Cd Cj Cn Cm Ci C5 C4 C8
 try simp only[T,R0,R1,R4]
 obtain⟨h1,h2,h3⟩:=hc;obtain⟨k1,k2⟩:=Y;have hl:=h1.n;refine⟨a,rfl,⟨h1,by rw[Qw,h3]⟩,⟨0,⟨o3,fun j L q hj=>o3⟩,o6,rfl⟩,fun x hx=>QE (fun l=> ?_) (fun l=>k1 fun i L q hi s=>hx.2 i L q ?_ hi s)⟩
 ·have l:x<G a.za:=(j7 l)
  obtain⟨L,hL⟩: ∃L,a.za[x]? =F L:=⟨_,f l⟩
  obtain⟨q,s⟩: ∃q,g[x]? =F q:=⟨_,f o3⟩
  have no: ¬(L.lo<=q/\q<=L.hi)-> ¬Fit a g:=fun h D=>h (D x L q hL s);refine⟨by rw[b];omega,_,_,_,_,_,_,_,_,_,_,_,JW ((j9 hL)),by rw[Qw];omega,_,_,Xd ((j9 s)),o3,QE (fun h=> ?_) (fun h=>⟨by rw[Qw];omega,_,_,Xd ((j9 s)),o3,QE (fun D=> ?_) (fun D=>⟨x+1,⟨⟨o3,fun j c r hj hM hr=> ?_⟩,o3⟩,by rw[w64 o3];simp⟩)⟩)⟩
  ·refine k2 (no fun⟨a1,_⟩=> ?_);have:=R5 h;have:=(aw _ _).2 a1;omega
  ·refine k2 (no fun⟨_,a2⟩=> ?_);have:=R5 D;have:=(Jh _ _).2 a2;omega
  ·by_cases e:j=x
   ·subst e;rw[hL]at hM;cases hM
    rw[s]at hr;cases hr
    exact⟨(aw _ _).1 ((j8 h)),(Jh _ _).1 ((j8 D))⟩
   ·exact hx.2 j c r o3 hM hr
 ·have l:=R6 l;have:=(Zy.1 hi).1;omega
def qh:Ctr
 | [.x H x,.x E [.s 3 y]]=>F fun K=> ∃(a:ArmV) (n:B) (q:A C),x=Qp a/\y=lR n q/\xr a n q K
 | _=>O
theorem QUE:QH 23 qh:=by
 refine okL func23 fun l T b K h=> ?_
 unfold qh at b;split at b<;>cases b
 obtain⟨a,n,q,rfl,rfl,h⟩:=h;exact spL (QP Qds Wz Qb) QK func23 (Qai _ _ _ K h)
def L46:LC:=(23,qh)::L45
noncomputable def T46:Qd:=mkT L46 M33 X4
theorem tp:QF L46:= .cons QUE Qds
theorem QjE:Qr T46:=QP tp Wz Qb
theorem Q7{d:B}(a:n.natAbs<=1000000)(h:d≠0/\d<=1000):YH (J n d):=by
 refine⟨?_,?_⟩
 ·rw[ka _ _ h.1,D.natAbs_tdiv,D.natAbs_natCast];exact B.le_trans (B.div_le_self _ _) a
 ·rw[th _ _ h.1];exact B.le_trans (B.div_le_self _ _) h.2
def HH (l:A (C×C)):K:=decide (3<=G l)&&decide (G l<=8)&&(A.range l.length).all fun i=>(A.range l.length).all fun k=>decide (k<2) || decide (0<lft (l.getD i (0,0)) (l.getD ((i+1) % l.length) (0,0)) (l.getD ((i+k) % l.length) (0,0)))
theorem Wk {l:A (C×C)}(h:HH l=H):QY l:=by
 simp only[HH,K.and_eq_true,decide_eq_true_eq,A.all_eq_true,A.mem_range,K.or_eq_true]at h;obtain⟨⟨f,g⟩,j⟩:=h;refine⟨f,g,fun i k a b c q d e m p=> ?_⟩;have:=j i (Zy.1 e).1 k d;simp only[Yd,e,m,p,Option.getD_some]at this;rcases this with h | h
 ·omega
 ·exact h
theorem QQq:([4,6,8,10]:A D).all (fun n=>HH (dB (-1) (-1) (n+1) 1)&&HH [at4 (-1) (-1),at4 (n+1) 0,at4 (-1) 1])=H:=j5
theorem MadeLink.good(h:MadeLink L):WB L:=by
 obtain⟨r,i,j,s,b,t,v,q,u,w,m,rfl⟩:=h
 have a:=A.all_eq_true.1 QQq (4+2*r) (by
  have:r=0\/r=1\/r=2\/r=3:=o3
  rcases this with rfl | rfl | rfl | rfl<;>decide)
 simp only[K.and_eq_true]at a;have B:J (-1-i) 3<0:=by
  have:=YQ (n:=1+i) (d:=3) o3 o8;have e:J (-1-i) 3= -J (1+i) 3:=by rw[C.neg_mkRat];congr 1;omega
  rw[e];grind
 have g:=YQ (n:=1+j) (d:=3) o3 o8;refine⟨⟨?_,?_,?_,?_,?_⟩,?_,?_,?_,?_,?_,?_⟩
 ·exact Q7 o3 o8
 ·exact Q7 o3 o8
 ·exact Q7 o3 o8
 ·exact Q7 o3 o3
 ·exact Q7 o3 o3
 ·exact YQ o3 o8
 ·show J (-1-i) 3<J (1+j) 3
  grind
 ·exact YQ o3 o3
 ·exact YQ o3 o3
 ·cases t
  ·exact Wk a.1
  ·exact Wk a.2
 ·have c: ∀x y:D,x.natAbs<=1000000->y.natAbs<=1000000->YH (at4 x y).1/\YH (at4 x y).2:=fun x y k l=>⟨Q7 k o8,Q7 l o8⟩;intro p f;cases t
  ·simp only[UQ,R8,dB,Yc,Zx,S]at f;rcases f with rfl | rfl | rfl | rfl<;>exact c _ _ o3 o3
  ·simp only[UQ,R7,Yc,Zx,S]at f;rcases f with rfl | rfl | rfl<;>exact c _ _ o3 o3
theorem zM:cy a8:=by
 refine⟨o8,fun i x h=> ?_⟩;match i,h with
 | 0,h=>cases h;decide
 | 1,h=>cases h;decide
 | 2,h=>cases h;decide
 | i+3,h=>cases h
theorem MadeA.good {a:ArmV}(h:MadeA a):QJ a:=by
 obtain⟨⟨b,e,f,g,j,k,l⟩,m⟩:=h;obtain⟨c,d,r,s,q⟩:=j;refine⟨by rw[b];exact zM,⟨m,k⟩,⟨?_,?_,?_⟩,fun h=>absurd (g.symm.trans h) o8,fun L p=>(l L p).good⟩
 ·rw[e];exact Q7 o8 o8
 ·rw[f];exact Q7 o8 o8
 ·rw[q];exact Q7 o3 o3
theorem MadeLink.wide(h:MadeLink L):L.hi-L.lo<=4/\J 1 11<=L.sp:=by
  obtain⟨r,i,j,s,b,t,k,f,g,l,e,rfl⟩:=h;show J (1+j) 3-J (-1-i) 3<=4/\J 1 11<=J 1 (4+s).toNat
  have c:j=0\/j=1\/j=2\/j=3\/j=4\/j=5:=o3
  have a:i=0\/i=1\/i=2\/i=3\/i=4\/i=5:=o3
  have d:s=0\/s=1\/s=2\/s=3\/s=4\/s=5\/s=6\/s=7:=o3
  constructor
  · rcases c with rfl | rfl | rfl | rfl | rfl | rfl<;>rcases a with rfl | rfl | rfl | rfl | rfl | rfl<;>decide+kernel
  · rcases d with rfl | rfl | rfl | rfl | rfl | rfl | rfl | rfl<;>decide+kernel
def Qdu (q:C)(v:D)(w:D)(b:A Q)(i:B)(a t c d:B):SL:=⟨[(1,.x E [.p 1 0]),(4,iA .i64 v),(5,iA .i64 w),(t,.x E [.s 1 (b.map QW)]),(c,iA .i64 b.length),(a,iA .i64 i)],[(1,.box 25 [.r q d])]⟩
theorem zY {l:A Q}{b:Q}(h:l[i]? =F b):QG (l.take (i+1))=256*QG (l.take i)+b.toNat:=by
 rw[A.take_add_one,h];exact YX _ _
theorem vX (l:A Q)(i:B):QG (l.take i)<=QG l:=by
 conv=>rhs;rw[<-A.take_append_drop i l,Vb]
 have:1<=256^(l.drop i).length:=B.pow_pos o8;have:=B.mul_le_mul_left (QG (l.take i)) this;omega
theorem QN9 {l:A Q}{b:Q}(h:l[i]? =F b):ldE (l.map QW) i 0 1=F [.v (.int .u8 (b.toNat:D))]:=by
 simp only[ldE,Ya,h];rfl
theorem bP {x y:D}{a b:B}(h:x.natAbs<=a)(c:y.natAbs<=b):(x*y).natAbs<=a*b:=by
 rw[D.natAbs_mul];exact B.mul_le_mul h c
theorem QL1{d m e r:D}(a:n.natAbs<=1000000)(b:1<=d/\d<=1000)(h:m.natAbs<=1000000)(c:1<=e/\e<=1000)(f:0<=r/\r<=8):
  P.wrap (P.wrap (P.wrap (8*n)*e)+P.wrap (P.wrap (P.wrap (m*d)-P.wrap (n*e))*r))=8*n*e+(m*d-n*e)*r/\
  P.wrap (P.wrap (8*d)*e)=8*d*e/\(-9223372036854775808<8*n*e+(m*d-n*e)*r/\8*n*e+(m*d-n*e)*r<9223372036854775808)/\0<8*d*e/\8*d*e<9223372036854775808:=by
 have g:=bP a (o3:e.natAbs<=1000);have j:=bP h (o3:d.natAbs<=1000);have k:=bP (o3:(m*d-n*e).natAbs<=2000000000) (o3:r.natAbs<=8);have l:=bP (o3:(8*n).natAbs<=8000000) (o3:e.natAbs<=1000);have q:=bP (o3:(8*d).natAbs<=8000) (o3:e.natAbs<=1000);have p:0<8*d*e:=D.mul_pos o3 o3;rw[w64 (n:=8*n) o3,w64 (n:=8*n*e) o3,w64 (n:=m*d) o3,w64 (n:=n*e) o3,w64 (n:=m*d-n*e) o3,w64 (n:=(m*d-n*e)*r) o3,w64 (n:=8*d) o3,w64 (n:=8*d*e) o3,w64 o3]
 exact⟨rfl,rfl,o3,p,o3⟩
abbrev wM (q:C)(n:B)(K:AV->Prop):Prop:=((q.num.natAbs<1000000000)/\(q.den<1000000000))/\(K (.t [(E,[.v (.int .i64 q.num)]),(E,[.v (.int .i64 q.den)])]))
def Cr(a:B)(b:C):=QG (j a (QB b.den))
def DB(a:C):=e QW (QB a.den)
def C9(a:C):=e QW (QB (Ce a))
def DJ(a:B)(b:C):=QG (j a (QB (Ce b)))
theorem Qaj (q:C)(n:B)(K:AV->Prop)(j:wM q n K):QM (QN T46 (oF f70) (fun J=>bif J.beq 3 then .inv ⟨B,fun i=>Qdu q (QG ((QB q.num.natAbs).take i)) 0 (QB q.num.natAbs) i 14 12 13 n,fun i=>i<=(QB q.num.natAbs).length,fun i=>(QB q.num.natAbs).length-i,fun _=>0⟩else .inv ⟨B,fun i=>Qdu q q.num.natAbs (QG ((QB q.den).take i)) (QB q.den) i 28 26 27 n,fun i=>i<=(QB q.den).length,fun i=>(QB q.den).length-i,fun _=>0⟩) f70 [rA q n] K):=by
 obtain⟨S,j⟩:=j;refine HV ((∃(v:B),(v<=Cv q/\Cl)/\0=0/\0=I (DJ v q)/\C6=0/\1=1/\C9 q=C9 q/\CT (C9 q)=I (Cv q)/\0=I v/\25=25/\q=q/\n<=n/\N)/\∀(u:B),u<=Cv q->Cn u (Cv q) ((0<=I u/\I u<CT (C9 q))/\∃(d:D),Cm (C9 q) u 1 [U (o IntKind.u8 d)]/\∃(c:B),Cj (c<=Cv q) (Cv q) c (Cv q) u/\0=0/\CV (C1 256 (I (DJ u q))) (P.wrap d)=I (DJ c q)/\C6=0/\1=1/\C9 q=C9 q/\Ca (Cv q) (Cv q)/\Cd u c/\25=25/\q=q/\n<=n/\N) ((∃(y:B),(y<=Ct q/\Cl)/\0=0/\Ca (DJ u q) (Ce q)/\0=I (Cr y q)/\1=1/\DB q=DB q/\CT (DB q)=I (Ct q)/\0=I y/\25=25/\q=q/\n<=n/\N)/\∀(w:B),w<=Ct q->Cn w (Ct q) ((0<=I w/\I w<CT (DB q))/\∃(d:D),Cm (DB q) w 1 [U (o IntKind.u8 d)]/\∃(t:B),Cj (t<=Ct q) (Ct q) t (Ct q) w/\0=0/\Ca (Ce q) (Ce q)/\CV (C1 256 (I (Cr w q))) (P.wrap d)=I (Cr t q)/\1=1/\DB q=DB q/\Ca (Ct q) (Ct q)/\Cd w t/\25=25/\q=q/\n<=n/\N) (DA q.num 0 (K (AV.t [(E,Cq (P.wrap (0-I (Ce q)))),(E,Cq (bif H then if 1>I (Cr w q)then 1 else I (Cr w q)else if 1<I (Cr w q)then 1 else I (Cr w q)))])) (K (AV.t [(E,Cq (I (Ce q))),(E,Cq (bif H then if 1>I (Cr w q)then 1 else I (Cr w q)else if 1<I (Cr w q)then 1 else I (Cr w q)))]))))) ?_
 delta CV C1 CT Ce Cq Ca Cl DA Cd Cj Cn Cm Cr Ct Cv C6 DB C9 DJ
 try simp only[T,R0,R1,Y,R4]
 have m:QG (QB q.num.natAbs)=q.num.natAbs:=Xv _;have p:QG (QB q.den)=q.den:=Xv _;have V:=q.den_nz;have Q:(QB q.num.natAbs).length<=4:=Qh.2 o3;have R:(QB q.den).length<=4:=Qh.2 o3;generalize QB q.num.natAbs=u at*;generalize QB q.den=v at*;simp only[b];refine⟨⟨0,o3,by simp[KA],trivial,rfl⟩,fun x s=>QE (fun g=> ?_) (fun g=> ?_)⟩
 ·have g:x<G u:=(j7 g)
  obtain⟨a,hb⟩: ∃a,u[x]? =F a:=⟨_,f g⟩
  have k:=zY hb;have r:=vX u (x+1);have l:=a.toNat_lt;refine⟨o3,_,QN9 ((j9 hb)),x+1,⟨o3,o3⟩,?_,by rw[w64 o3];simp⟩;rw[w64 (n:=256*_) o3,w64 (n:=(a.toNat:D)) o3,w64 o3,k];simp
 ·have g:x=G u:=(j8 g)
  subst g;refine⟨⟨0,o3,by rw[A.take_length,m],by simp[KA],trivial,rfl⟩,fun x s=>QE (fun g=> ?_) (fun g=> ?_)⟩
  ·have g:x<G v:=(j7 g)
   obtain⟨a,hb⟩: ∃a,v[x]? =F a:=⟨_,f g⟩
   have k:=zY hb;have r:=vX v (x+1);have l:=a.toNat_lt;refine⟨o3,_,QN9 ((j9 hb)),x+1,⟨o3,o3⟩,?_,by rw[w64 o3];simp⟩;rw[w64 (n:=256*_) o3,w64 (n:=(a.toNat:D)) o3,w64 o3,k];simp
  ·have g:x=G v:=(j8 g)
   subst g;rw[A.take_length,p];have e:(bif H then if(1:D)>(q.den:D)then(1:D)else(q.den:D)else if(1:D)<(q.den:D)then(1:D)else(q.den:D))=(q.den:D):=by
    simp only[R7];rw[if_neg o3]
   rw[e];refine QE (fun h=> ?_) (fun h=> ?_)
   ·have h:=R5 h;rw[w64 o3,(o3:(0:D)-(q.num.natAbs:D)=q.num)];exact j
   ·have h:=R6 h;rw[(o3:(q.num.natAbs:D)=q.num)];exact j
def gf:Ctr
 | [.x H [.r q n]]=>F fun K=>wM q n K
 | _=>O
theorem QUG:QH 70 gf:=by
 refine okL func70 fun l T h K a=> ?_
 unfold gf at h;split at h<;>cases h
 exact spL QjE QK func70 (Qaj _ _ K a)
def L47:LC:=(70,gf)::L46
noncomputable def T47:Qd:=mkT L47 M33 X4
theorem lW:QF L47:= .cons QUG tp
theorem QjF:Qr T47:=QP lW Wz Qb
def QOB (l:A QV)(a:A C):Prop:=G a<=G l/\ ∀(i:B) (L:QV) (q:C),l[i]? =F L->a[i]? =F q->L.lo<=q/\q<=L.hi
structure CfX where
 qs:A C
 l:A D
def cfS (a:ArmV)(x:CfX):SL:=⟨[(1,.x E [.p 1000 0]),(5,.x E [.w 500 0 x.qs.length]),(14,.x E [.s 16 (a.za.map QA)]),(15,iA .i64 a.za.length),(16,iA .i64 x.qs.length)],[(1000,stB x.l),(500,YU 63 x.qs)]⟩
def QUI (a:ArmV)(l:A D):LI:=fun _=> .inv ⟨CfX,cfS a,fun x=>QOB a.za x.qs/\x.l.length<=G l,fun x=>G a.za-G x.qs,fun _=>0⟩
def CW(a:CfX):=a.qs.length
def Co(a:D)(b:C):=C1 a (I b.den)
def Cz(a:CfX):=e (fun(b:C)=>[CR b]) a.qs
def DN(a b c d e f:C)(g:D):=CV (Co (C1 8 a.num) b) (C1 (P.wrap (Co c.num d-Co e.num f)) g)
theorem QfZ (a:ArmV)(l:A D)(ha:QJ a)(hl:l.length<=9223372036854775807):QM (Xp (X:=CfX) T47 (oF f31) (QUI a l) f31 [JV a,.x E [.p 1000 0]] [(1000,stB l)] (fun x=>(QOB a.za x.qs/\x.qs.length=G a.za)/\x.l.length<=G l) (fun x=>⟨[(4,.x E [.w 500 0 x.qs.length])],[(1000,stB x.l),(500,YU 63 x.qs)]⟩)):=by
 refine HV ((∃(x:CfX),(((CW x<=CQ a/\∀(i:B)(L:QV)(q:C),C4 a i L->C5 x.qs i q L q q L)/\x.l.length<=G l)/\Cl)/\0=0/\DG/\0=0/\CW x=0/\16=16/\CP a=CP a/\CT (CP a)=I (CQ a)/\0=I (CW x)/\70=70/\1=1/\Ck l x.l/\Cz x=[]/\N)/\∀(x:CfX),(CW x<=CQ a/\∀(i:B)(L:QV)(q:C),C4 a i L->C5 x.qs i q L q q L)/\x.l.length<=G l->Cn (CW x) (CQ a) ((0<=I (CW x)/\I (CW x)<CT (CP a))/\Ci (fun q n g W=>Ci (fun p At hZ Lm=>∃(ja:C)(be:B)(ys:A (A Ch)),Cm (CP a) (CW x) 16 [M q n,M g W,M p At,M hZ Lm,M ja be,Z 6 ys]/\(Ce g<1000000000/\g.den<1000000000)/\(Ce p<1000000000/\p.den<1000000000)/\Cs (fun t=>x.l) (fun t=>9) (fun t=>9) (fun t r y=>9) (fun t r y=>(Cb (C2 (DN g p p g g p r)) (DN g p p g g p r)/\0<Co (Co 8 g) p/\DH (Co (Co 8 g) p))/\DT (CW x+1) 40 (CW x+1)/\∃(u:CfX),Cj ((CW u<=CQ a/\∀(i:B)(L:QV)(q:C),C4 a i L->C5 u.qs i q L q q L)/\u.l.length<=G l) (CQ a) (CW u) (CQ a) (CW x)/\0=0/\0=0/\CW x+1=CW u/\16=16/\CP a=CP a/\Ca (CQ a) (CQ a)/\Cd (CW x) (CW u)/\C3 (Ck y u.l/\25=25/\3=3/\(j (CW x) (Cz x)++[[CR (J (DN g p p g g p r) (Co (Co 8 g) p).toNat)]]=Cz u\/QC (j (CW x) (Cz x)++[[CR (J (DN g p p g g p r) (Co (Co 8 g) p).toNat)]]) (Cz u))/\N))))) (∃(s:CfX),(((CW s<=CQ a/\∀(i:B)(L:QV)(q:C),C4 a i L->C5 s.qs i q L q q L)/\CW s=CQ a)/\s.l.length<=G l)/\0=0/\CW x=CW s/\70=70/\1=1/\Ck x.l s.l/\25=25/\3=3/\(Cz x=Cz s\/QC (Cz x) (Cz s))/\N)) ?_
 delta CR CV CQ C1 CP CT Ce Ca CW Cl Cb Ck Co DA C2 Cd Cj Cn Cm Ci Cs Cz C3 DH C5 C4 DG DN DT
 simp only[T,R0,R1,R4];have hn:=ha.n;refine⟨⟨⟨[],l⟩,⟨⟨o6,fun i L q _ h=>by simp at h⟩,o6⟩,rfl,o6,rfl,rfl,rfl⟩,fun x hx=>QE (fun v=> ?_) (fun v=> ?_)⟩
 ·obtain⟨⟨h1,R⟩,h3⟩:=hx;have v:x.qs.length<G a.za:=(j7 v)
  obtain⟨L,hL⟩: ∃L,a.za[G x.qs]? =F L:=⟨_,f v⟩
  have hg:=ha.za L (Zv hL);obtain⟨_,K,Q,_⟩:=hg.small;have d2:=L.lo.den_nz;have d3:=L.hi.den_nz;refine⟨by rw[b];omega,_,_,_,_,_,_,_,_,_,_,_,JW ((j9 hL)),⟨by have:=K.1;omega,by have:=K.2;omega⟩,⟨by have:=Q.1;omega,by have:=Q.2;omega⟩,x.l,rfl,o3,o3,fun r y hr jb=> ?_⟩;obtain⟨w1,w2,w3,w4⟩:=QL1 (n:=L.lo.num) (d:=L.lo.den) (m:=L.hi.num) (e:=L.hi.den) (r:=r) K.1 (by have:=K.2;omega) Q.1 (by have:=Q.2;omega) o3;rw[w1,w2];have hq:=QIk (k:=r) (C.le_of_lt hg.lim) o3;refine⟨⟨w3,w4⟩,o3,⟨x.qs++[ZZ L.lo L.hi r],y⟩,⟨⟨⟨by simp only[Zs,Zp,Zz];omega,fun i c q S w=> ?_⟩,o5⟩,by simp only[Zs,Zp,Zz];omega⟩,o6,by rw[w64 o3];simp,rfl,.inl ?_⟩
  ·by_cases e:i<x.qs.length
   ·rw[A.getElem?_append_left e]at w;exact R i c q S w
   ·have V:=(Zy.1 w).1;simp only[Zs,Zp,Zz]at V;have e':i=G x.qs:=o3
    subst e';rw[hL]at S;cases S
    simp at w;subst w;exact hq
  ·rw[Zo (by rw[b];exact Y _),A.map_append];simp only[A.map_cons,A.map_nil];unfold ZZ;have e:(8*(L.lo.den:D)*(L.hi.den:D)).toNat=8*L.lo.den*L.hi.den:=by
    rw[(o6:(8*(L.lo.den:D)*(L.hi.den:D))=((8*L.lo.den*L.hi.den:B):D))];exact Zt _
   rw[e]
 ·obtain⟨⟨h1,R⟩,h3⟩:=hx;have v:=R6 v;exact⟨x,⟨⟨⟨h1,R⟩,o3⟩,h3⟩,rfl,rfl,.inl rfl⟩
def kQ:XS:=fun e b d=>match e with
 | [.x H x,.x E [.p k c]]=>match c with
  | 0=>match b k with
   | some (.box t [.s 1 g])=>match b d with
    | none=>bif t.beq 70 then
     F fun K=> ∃a l,x=Qp a/\g=ints l/\QJ a/\l.length<=9223372036854775807/\ ∀(q:A C) (f:A D),Fit a q->G q=G a.za->G f<=G l->
      K (.x E [.w d 0 q.length]) (XW [(1000,k),(500,d)] (QO [(1000,stB f),(500,YU 63 q)]) b)
     else O
    | some _=>O
   | _=>O
  | _+1=>O
 | _=>O
theorem Qak:Xg 31 kQ:=by
 refine⟨Qf func31 o4,fun l c d T f K r=> ?_⟩;unfold kQ at f;split at f
 ·rename_i D k e;split at f
  ·split at f
   ·rename_i t G u;split at f
    ·rename_i A;cases j:t.beq 70 with
     | false=>rw[j]at f;cases f
     | true=>
      rw[j]at f;cases f
      have C:=Yb j;subst C;obtain⟨a,l,rfl,rfl,y,B,r⟩:=r;refine Xc (R:=[(1000,k)]) (N:=[(500,d)]) (Hl:=[(1000,stB l)]) QjF QK func31 o4 o4 j6
       (as0:=[JV a,.x E [.p 1000 0]]) ?_ (Kk u rfl rfl) rfl o6 o6 (fun p g=>by simp at g;subst g;exact A) (fun x=>⟨fun p g=> ?_,fun p g b j=> ?_⟩) (QfZ a l y B) (fun x s=> ?_)
      ·simp[X7,X2,XZ,lkB,JV,Qp]
      ·simp at g;subst g;exact fun h=>by have m:F (stB _)=O:=h;cases m
      ·simp at g;rcases g with rfl | rfl
       ·have m:F (stB _)=F b:=j;cases m;rfl
       ·have m:F (YU _ _)=F b:=j;cases m;rfl
      ·exact⟨_,rfl,r _ _ (fun i L q v w=>s.1.1.2 i L q v w) s.1.2 s.2⟩
    ·cases f
   ·cases f
  ·cases f
 ·cases f
def M48:A (B×XS):=(31,kQ)::M33
theorem UR:XK M48:= .cons Qak Wz
abbrev QOC (a:ArmV)(l:A D)(K:AV->Prop):Prop:=((QJ a)/\(G l<=9223372036854775807))/\(∀q:A C,Fit a q->G q=G a.za->K (sR 63 q))
theorem Qal (a:ArmV)(l:A D)(K:AV->Prop)(h:QOC a l K):QM (QN (mkT L47 M48 X4) (oF f8) noL f8 [JV a,.x E [.s 1 (ints l)]] K):=by
 obtain⟨g,h⟩:=h;refine HV (∃(c:ArmV)(d:A D),C8 a a a a a (CP a)=C8 c c c c c (CP c)/\Ck l d/\QJ c/\d.length<=9223372036854775807/\∀(f:A C)(k:A D),(∀(i:B)(L:QV)(q:C),C4 c i L->C5 f i q L q q L)->G f=CQ c->G k<=G d->K (z E [Z 3 (j f.length (A.drop 0 (e (fun(v:C)=>[CR v]) f)))])) ?_
 delta CR CQ CP Ck C5 C4 C8
 try simp only[T,R0,R1,Zw,Y,R4,R2,R3]
 refine⟨a,l,rfl,rfl,g.1,g.2,fun f k m p _=> ?_⟩;have:=h f m p;rw[Yf,Zo (by rw[b];exact Y _)];exact this
def mv:Ctr
 | [.x H x,.x E [.s 1 y]]=>F fun K=> ∃(a:ArmV) (l:A D),x=Qp a/\y=ints l/\QOC a l K
 | _=>O
theorem QUJ:QH 8 mv:=by
 refine okL func8 fun l T b K h=> ?_
 unfold mv at b;split at b<;>cases b
 obtain⟨a,l,rfl,rfl,h⟩:=h;exact spL (QP lW UR Qb) QK func8 (Qal _ _ K h)
def L49:LC:=(8,mv)::L47
noncomputable def T49:Qd:=mkT L49 M48 X4
theorem dH:QF L49:= .cons QUJ lW
theorem xJ:Qr T49:=QP dH UR Qb
end Go.Proofs
