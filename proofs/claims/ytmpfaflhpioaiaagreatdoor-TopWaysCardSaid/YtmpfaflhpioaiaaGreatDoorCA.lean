/- Polygons apart: zt.Box of points, apart.valid, Boxes, both, beyond, Meet. -/
import Derived.Test.YtmpfaflhpioaiaaGreatDoorCL
open _root_ renaming List → A, Rat → B, Nat → C, True → I, Int → L
open Bool renaming false → D, true → E
open List renaming length → F, take → N, getElem?_eq_getElem → P, take_of_length_le → Q, drop → T, length_map → X, map → Y, take_add_one → Zp, length_take → Zs, drop_zero → Zw, foldl → Yd, mem_of_getElem? → Zu, map_append → Zy, all_append → Yb, take_length → Ya, getElem?_map → Zz, getElem?_zipWith → Zx
open Option renaming some → G, none → J
open Int renaming ofNat → H, ofNat_eq_natCast → O
open Go.Eng.Ch renaming r → M, s → R, v → Zm
open Nat renaming le_refl → S, zero_add → Zv
open Go.IntKind renaming i64 → U
open Go.Value renaming bool → Zk, int → Zo, string → Zq, slice → Zn
open ByteArray renaming mk → Zc
open Array renaming mk → Zd
set_option maxHeartbeats 1000000
set_option maxRecDepth 100000
namespace Go.Proofs
open Go Go.Eng Tryz
def orC (c d:Ctr):Ctr:=fun a=>match c a with
 | none=>d a
 | some T=>G T
def QVs (n:C)(l:A (B×B)):LI:=fun _=> .inv ⟨X9×C,fun x=>⟨[(2,.x D [.p 2 0]),(5,.x D [.p 5 0]),(26,.x D [.s 6 (l.tail.map (QS n))]),(27,iA .i64 l.tail.length),(28,iA .i64 x.2)],
 [(2,.box 137 (Xm++Xm++Xm++Xm)),(5,.box 137 (bxN (n+66) x.1))]⟩,fun x=>x.2<=F l.tail/\(l.tail.drop x.2).foldl Qv x.1=X5 l,fun x=>F l.tail-x.2,fun _=>0⟩
structure ByX where
 i:C
 j:C
 zf:Bool
def atP (l:A (B×B))(i:C):B×B:=l.getD i (0,0)
def nxP (l:A (B×B))(i:C):B×B:=l.getD ((i+1) % l.length) (0,0)
def byT (n:C)(a:A (B×B))(m:C)(b:A (B×B))(i:C):A (C×AV):=[(0,sVv n a),(1,sVv m b),(4,.x D [.p 4 0]),(13,sVv n a),(14,iA .i64 a.length),(15,iA .i64 i)]
def byI (a b:A (B×B))(i:C):Prop:= ∀k,k<i->K1 (atP a k) (nxP a k) b=D
def QMb (n:C)(a:A (B×B))(m:C)(b:A (B×B)):LI:=fun c=>bif c.beq 2 then .inv ⟨C,fun i=>⟨byT n a m b i,[(4,.box 27 (Xm++Xm))]⟩,fun i=>i<=F a/\byI a b i,fun i=>F a-i,fun _=>0⟩
 else .inv ⟨ByX,fun x=>⟨byT n a m b x.i++[(6,iA .i64 x.i),(7,.x D [.p 7 0]),(9,.x D [.p 9 0]),(10,.x D [.v (.bool x.zf)]),(36,sVv m b),(37,iA .i64 b.length),(38,iA .i64 x.j)],
  [(4,.box 27 (Xm++Xm)),(7,.box 27 (QS n (atP a x.i))),(9,.box 27 (QS (2*n+2) (TU (atP a x.i) (nxP a x.i))))]⟩,
  fun x=>(x.i<F a/\byI a b x.i)/\x.j<=F b/\x.zf=K1 (atP a x.i) (nxP a x.i) (b.take x.j),fun x=>F b-x.j,fun x=>F a-x.i⟩
theorem _root_.Go.Eng.CtrOK.or {P:Program}{g:C}{z:A Value}{f:C}{c d:Ctr}(h:CtrOK P g z f c)(k:CtrOK P g z f d):CtrOK P g z f (orC c d):=by
 refine⟨h.enter,fun b T a K i=> ?_⟩;unfold orC at a;split at a
 ·exact k.sound b T a K i
 ·rename_i e;cases a
  exact h.sound b _ e K i
theorem kK (p q:B):decide (YY p q<=0)=decide (p<=q):=decide_eq_decide.2 (Jh p q)
theorem QbX (q:B):decide (XY q>0)=decide (0<q):=by
 refine decide_eq_decide.2 ⟨fun h=> ?_,fun h=>by rw[qH h];omega⟩;unfold XY at h;split at h
 ·omega
 ·split at h
  ·omega
  ·rename_i b d;have c:0<=q:=B.num_nonneg.1 o3;rcases B.le_iff_lt_or_eq.1 c with a | a
   ·exact a
   ·rw[<-a]at b;exact absurd rfl b
theorem QVt {p q:B×B}{b:A (B×B)}{j:C}{v:B×B}(h:b[j]? =G v):K1 p q (b.take (j+1))=(K1 p q (b.take j)&&decide (0<TD (TU p q) (v.1-p.1,v.2-p.2))):=by
 unfold K1;rw[Zp,h,Yb];simp
theorem QOV {a b:A (B×B)}:UY a b=E↔ ∃k,k<F a/\K1 (atP a k) (nxP a k) b=E:=by
 simp[UY,atP,nxP,A.any_eq_true]
def FZ:=Zk D
def Ff(a:AV->Prop)(b:Value):=a (AV.x D [Zm b])
theorem QVu (_hc:I)(K:AV->Prop)(h:K (.x D [.v (.bool D)])):QM (QN Qjy (oF f125) noL f125 [.x E Xm] K):=by
 refine HV (Ff K FZ) ?_
 delta FZ Ff
 try simp only[O,R0,R1,Zv,S,R4,R2,R3]
 exact h
def gD:Ctr
 | [.x E [.v (.bool D),.v (.string ⟨⟨[]⟩⟩),.v (.string ⟨⟨[]⟩⟩)]]=>G fun K=>(I)/\(K (.x D [.v (.bool D)]))
 | _=>J
theorem QRK:QH 125 gD:=by
 refine okL func125 fun l T a K h=> ?_
 unfold gD at a;split at a<;>cases a
 obtain⟨b,h⟩:=h;exact spL QhD QK func125 (QVu  b K h)
def k8:LC:=(125,gD)::dL
theorem xY:QF k8:= .cons QRK ri
def Fk:B:=OfNat.ofNat 0
theorem QbY (_hc:I)(K:AV->Prop)(h:K (.x E [.r 0 1])):QM (QN (mkT k8 M79 X4) (oF f85) noL f85 [.x E Xm] K):=by
 refine HV (I/\K (AV.x E [M Fk 1])) ?_
 delta Fk
 try simp only[R0]
 exact h
def lU:Ctr
 | [.x E [.v (.bool D),.v (.string ⟨⟨[]⟩⟩),.v (.string ⟨⟨[]⟩⟩)]]=>G fun K=>(I)/\(K (.x E [.r 0 1]))
 | _=>J
theorem QVw:QH 85 lU:=by
 refine okL func85 fun l T a K h=> ?_
 unfold lU at a;split at a<;>cases a
 obtain⟨b,h⟩:=h;exact spL (QP xY Qq Qb) QK func85 (QbY  b K h)
def fz:LC:=(85,lU)::k8
theorem QOX:QF fz:= .cons QVw xY
theorem QbZ (_hc:I)(K:AV->Prop)(h:K (.x E [.r 0 2])):QM (QN (mkT fz M79 X4) (oF f45) noL f45 [.x E Xm,.x E Xm] K):=by
 refine HV (I/\I/\(1<=549755813888/\1<=549755813888)/\((2<=4294967296/\1<=4294967296)/\1≠0)/\K (AV.x E [M (XT D 0 1) 2])) ?_
 try simp only[R0]
 exact⟨⟨o3,o3⟩,⟨⟨o3,o3⟩,o3⟩,by rw[zF];exact h⟩
def qM:Ctr
 | [.x E [.v (.bool D),.v (.string ⟨⟨[]⟩⟩),.v (.string ⟨⟨[]⟩⟩)],.x E [.v (.bool D),.v (.string ⟨⟨[]⟩⟩),.v (.string ⟨⟨[]⟩⟩)]]=>G fun K=>(I)/\(K (.x E [.r 0 2]))
 | _=>J
theorem QVy:QH 45 qM:=by
 refine okL func45 fun l T a K h=> ?_
 unfold qM at a;split at a<;>cases a
 obtain⟨b,h⟩:=h;exact spL (QP QOX Qq Qb) QK func45 (QbZ  b K h)
def QeH:LC:=(45,qM)::fz
theorem Qba:QF QeH:= .cons QVy QOX
def FP(a:B)(b:C)(c:B)(d:C):A Ch:=[M a b,M c d]
theorem Qbb (_hc:I)(K:AV->Prop)(h:K (.x E [.r 0 2,.r 0 2])):QM (QN (mkT QeH M79 X4) (oF f22) noL f22 [.x E (Xm++Xm),.x E (Xm++Xm)] K):=by
 refine HV (I/\I/\K (AV.x E (FP Fk 2 Fk 2))) ?_
 delta FP Fk
 try simp only[R0]
 exact h
def rV:Ctr
 | [.x E [.v (.bool D),.v (.string ⟨⟨[]⟩⟩),.v (.string ⟨⟨[]⟩⟩),.v (.bool D),.v (.string ⟨⟨[]⟩⟩),.v (.string ⟨⟨[]⟩⟩)],.x E [.v (.bool D),.v (.string ⟨⟨[]⟩⟩),.v (.string ⟨⟨[]⟩⟩),.v (.bool D),.v (.string ⟨⟨[]⟩⟩),.v (.string ⟨⟨[]⟩⟩)]]=>G fun K=>(I)/\(K (.x E [.r 0 2,.r 0 2]))
 | _=>J
theorem QVz:QH 22 rV:=by
 refine okL func22 fun l T a K h=> ?_
 unfold rV at a;split at a<;>cases a
 obtain⟨b,h⟩:=h;exact spL (QP Qba Qq Qb) QK func22 (Qbb  b K h)
def lN:LC:=(59,GP)::(151,Uv)::(22,orC rV eh)::dL
theorem xw:QF lN:= .cons QQ1 (.cons zO (.cons (.or QVz QOH) ri))
def FV(a:C)(b:A (B×B)):=Y (QS a) b
def IN:=Zc (Zd [])
def FH(a b:C):=H a=H b
def Fw(a:A (A Ch)):=H a.length
def FI:=IN=IN
def FJ(a:C)(b:A (B×B))(c:C)(d:A (B×B)):=FV a b=FV c d
def Fv:C:=OfNat.ofNat 0
def FT:=D=D
def FX(a:A (B×B))(b:C):=F a-b
def FW(a:A (A Ch))(b:L)(c:C)(d:A Ch):=ldE a b.toNat 0 c=G d
def Fb(a:C):=U.wrap (H a+1)
def Fa(a:C)(b:A (B×B)):=Fw (FV a b)
def Fe:=Fv=0
def Fj(a b:L)(c d:Prop):=bif decide (a<b)then c else d
def Fp(a:X9)(b:C)(c:X9)(d:C)(e:X9)(f:C)(g:X9)(h:C):A Ch:=[M a.x1 b,M c.y1 d,M e.x2 f,M g.y2 h]
def F1(a b:C)(c:Prop):=a+b<=4294967296/\c
def Fz(a:A (B×B)):=a.tail.length
def F8(a b:C):=a+b<=4294967296
def IP(a b c d:C):=a+b<=4294967290/\c+d<=4294967290
theorem QhI (n:C)(l:A (B×B))(o:(n<=1000000000/\1<=F l/\l.length<=100))(K:AV->Prop)(m:K (.x E (bxN (n+66) (X5 l)))):QM (QN (mkT lN M79 X4) (oF f80) (QVs n l) f80 [sVv n l] K):=by
 refine HV (I/\bif Fa n l ==0 then K (AV.x E [M Fk 2,M Fk 2,M Fk 2,M Fk 2])else((0:L)<=0/\0<Fa n l)/\∃(q:B)(c:C)(g:B)(d:C),ldE (FV n l) 0 0 6=G (FP q c g d)/\IP c 2 d 2/\((0:L)<=1/\1<=Fa n l/\Fa n l<=Fa n l)/\(∃(x:X9×C),((x.2<=Fz l/\Yd Qv x.1 (T x.2 l.tail)=X5 l)/\Fe)/\0=0/\0=0/\6=6/\N ((Fa n l).toNat-1) (T 1 (FV n l))=FV n l.tail/\FH (N ((Fa n l).toNat-1) (T 1 (FV n l))).length (Fz l)/\0=H x.2/\137=137/\FT/\FI/\FI/\FT/\FI/\FI/\FT/\FI/\FI/\FT/\FI/\FI/\137=137/\q+Fk=x.1.x1/\c+2+1<=n+66/\g+Fk=x.1.y1/\d+2+1<=n+66/\q+Fk=x.1.x2/\c+2+1<=n+66/\g+Fk=x.1.y2/\d+2+1<=n+66/\I)/\∀(x:X9×C),x.2<=Fz l/\Yd Qv x.1 (T x.2 l.tail)=X5 l->Fe->Fj (H x.2) (H (Fz l)) ((0<=H x.2/\H x.2<Fa n l.tail)/\∃(q:B)(a:C)(i:B)(b:C),FW (FV n l.tail) (H x.2) 6 (FP q a i b)/\F8 (n+66) a/\F8 (n+66) b/\F8 (n+66) a/\F1 (n+66) b (∃(e:X9×C),((e.2<=Fz l/\Yd Qv e.1 (T e.2 l.tail)=X5 l)/\Fv=0/\FX l.tail e.2<FX l.tail x.2)/\0=0/\0=0/\6=6/\FJ n l.tail n l.tail/\FH (Fz l) (Fz l)/\Fb x.2=H e.2/\137=137/\FT/\FI/\FI/\FT/\FI/\FI/\FT/\FI/\FI/\FT/\FI/\FI/\137=137/\Qx x.1.x1 q=e.1.x1/\max (n+66) a<=n+66/\Qx x.1.y1 i=e.1.y1/\max (n+66) b<=n+66/\Q6 x.1.x2 q=e.1.x2/\max (n+66) a<=n+66/\Q6 x.1.y2 i=e.1.y2/\max (n+66) b<=n+66/\I)) (K (AV.x E (Fp x.1 (n+66) x.1 (n+66) x.1 (n+66) x.1 (n+66))))) ?_
 delta FV IN FH Fw FI FJ FP Fv FT FX FW Fb Fa Fe Fj Fk Fp F1 Fz F8 IP
 try simp only[O,R0,R1,R4]
 obtain⟨u,r,t⟩:=o;obtain⟨p0,hp0⟩: ∃p,l[0]? =G p:=⟨_,P o3⟩
 have w:l.tail.length=F l-1:=A.length_tail;have k:N (F l-1) (T 1 (l.map (QS n)))=l.tail.map (QS n):=by rw[A.drop_one,<-A.map_tail,Q o6]
 simp only[X,L.toNat_natCast];refine QE (fun h=>by have:=eq_of_beq h;omega) (fun _=>⟨o3,_,_,_,_,WX hp0,o3,o3,⟨(⟨p0.1,p0.2,p0.1,p0.2⟩,0),⟨o6,?_⟩,k,by rw[k,X],rfl,B.add_zero _,o3,B.add_zero _,o3,B.add_zero _,o3,B.add_zero _,o3⟩,fun x ⟨v,j⟩=>QE (fun f=> ?_) (fun f=> ?_)⟩)
 ·show Yd Qv ⟨p0.1,p0.2,p0.1,p0.2⟩ (l.tail.drop 0)=X5 l
  unfold X5;rw[Zw,iq hp0]
 ·have f:x.2<F l.tail:=(j7 f)
  obtain⟨p,hpp⟩: ∃p,l.tail[x.2]? =G p:=⟨_,P f⟩
  rw[QUk hpp,A.foldl_cons]at j;exact⟨o3,_,_,_,_,WX ((j9 hpp)),o3,o3,o3,o3,(Qv x.1 p,x.2+1),⟨⟨f,j⟩,o5⟩,by rw[w64 o3];simp,rfl,o3,rfl,o3,rfl,o3,rfl,o3⟩
 ·have f:x.2=F l.tail:=(j8 f)
  rw[f,A.drop_length]at j;have j:x.1=X5 l:=j;rw[<-j]at m;exact m
def nY:Ctr
 | [.x D [.s 6 x]]=>G fun K=> ∃(n:C) (l:A (B×B)),x=l.map (QS n)/\((n<=1000000000/\1<=F l/\l.length<=100))/\(K (.x E (bxN (n+66) (X5 l))))
 | _=>J
theorem Qbc:QH 80 nY:=by
 refine okL func80 fun l T a K h=> ?_
 unfold nY at a;split at a<;>cases a
 obtain⟨n,l,rfl,b,h⟩:=h;exact spL (QP xw Qq Qb) QK func80 (QhI _ _ b K h)
def gU:LC:=(80,nY)::lN
theorem wu:QF gU:= .cons Qbc xw
def F9(a b:B):=decide (YY a b<=0)
theorem QV2 (n:C)(b:X9)(c:(n<=1100000000))(K:AV->Prop)(a:K (.x D [.v (.bool b.ok)])):QM (QN (mkT gU M79 X4) (oF f114) noL f114 [.x E (bxN n b)] K):=by
 refine HV (F1 n n (bif F9 b.x1 b.x2 then F1 n n (Ff K (Zk (F9 b.y1 b.y2)))else Ff K FZ)) ?_
 delta FZ Ff F1 F9
 try simp only[O,R0,R1,Zv,S,R4,R2,R3]
 unfold X9.ok at a;refine⟨o3,QE (fun h=>⟨o3,?_⟩) (fun h=> ?_)⟩
 ·rw[kK]at h⊢;rw[h]at a;exact a
 ·rw[kK]at h;rw[h]at a;exact a
def gv:Ctr
 | [.x E x]=>G fun K=> ∃(n:C) (b:X9),x=bxN n b/\((n<=1100000000))/\(K (.x D [.v (.bool b.ok)]))
 | _=>J
theorem QRL:QH 114 gv:=by
 refine okL func114 fun l T a K h=> ?_
 unfold gv at a;split at a<;>cases a
 obtain⟨n,b,rfl,c,h⟩:=h;exact spL (QP wu Qq Qb) QK func114 (QV2 _ _ c K h)
def ku:LC:=(114,gv)::gU
theorem ur:QF ku:= .cons QRL wu
theorem QV4 (n:C)(a:X9)(m:C)(b:X9)(o:(n<=1100000000/\m<=1100000000))(K:AV->Prop)(h:K (.x D [.v (.bool (WH a b))])):QM (QN (mkT ku M79 X4) (oF f79) noL f79 [.x E (bxN n a),.x E (bxN m b)] K):=by
 refine HV (∃(e:C)(c:X9),Fp a n a n a n a n=Fp c e c e c e c e/\e<=1100000000/\bif c.ok then∃(f:C)(d:X9),Fp b m b m b m b m=Fp d f d f d f d f/\f<=1100000000/\bif d.ok then F1 n m (bif F9 a.x1 b.x2 then F1 m n (bif F9 b.x1 a.x2 then F1 n m (bif F9 a.y1 b.y2 then F1 m n (Ff K (Zk (F9 b.y1 a.y2)))else Ff K FZ)else Ff K FZ)else Ff K FZ)else Ff K FZ else Ff K FZ) ?_
 delta FZ Ff Fp F1 F9
 try simp only[O,R0,R1,Zv,S,R4,R2,R3]
 unfold WH at h;simp only[kK];refine⟨n,a,rfl,o3,QE (fun g=>⟨m,b,rfl,o3,QE (fun i=>⟨o3,QE (fun j=>⟨o3,QE (fun k=>⟨o3,QE (fun l=>⟨o3,?_⟩) (fun l=> ?_)⟩) (fun k=> ?_)⟩) (fun j=> ?_)⟩) (fun i=> ?_)⟩) (fun g=> ?_)⟩
 ·rw[g,i,j,k,l]at h;exact h
 ·rw[g,i,j,k,l]at h;exact h
 ·rw[g,i,j,k]at h;exact h
 ·rw[g,i,j]at h;exact h
 ·rw[g,i]at h;exact h
 ·rw[g]at h;exact h
def nv:Ctr
 | [.x E x,.x E y]=>G fun K=> ∃(n:C) (a:X9) (m:C) (b:X9),x=bxN n a/\y=bxN m b/\((n<=1100000000/\m<=1100000000))/\(K (.x D [.v (.bool (WH a b))]))
 | _=>J
theorem QRM:QH 79 nv:=by
 refine okL func79 fun l T c K h=> ?_
 unfold nv at c;split at c<;>cases c
 obtain⟨n,a,m,b,rfl,rfl,d,h⟩:=h;exact spL (QP ur Qq Qb) QK func79 (QV4 _ _ _ _ d K h)
def qJ:LC:=(79,nv)::ku
theorem QOa:QF qJ:= .cons QRM ur
def Fc(a:C->A (B×B)->Prop):=∃(z:C)(y:A (B×B)),a z y
theorem Qbd (n:C)(a:A (B×B))(m:C)(b:A (B×B))(h:(n<=500000000/\m<=500000000)/\(QY a/\QY b))(K:AV->Prop)(d:K (iA .i64 0)):QM (QN (mkT qJ M79 X4) (oF f115) noL f115 [sVv n a,sVv m b] K):=by
 refine HV (Fc (fun c l=>FJ n a c l/\(c<=500000000/\QY l)/\Fc (fun n l=>FJ m b n l/\(n<=500000000/\QY l)/\Ff K (Zo U 0)))) ?_
 delta FV FJ Fc Ff
 try simp only[O,R0,R1,Zv,S,R4,R2,R3]
 exact⟨n,a,rfl,⟨h.1.1,h.2.1⟩,m,b,rfl,⟨h.1.2,h.2.2⟩,d⟩
def iY:Ctr
 | [.x D [.s 6 x],.x D [.s 6 y]]=>G fun K=> ∃(n:C) (a:A (B×B)) (m:C) (b:A (B×B)),x=a.map (QS n)/\y=b.map (QS m)/\((n<=500000000/\m<=500000000)/\(QY a/\QY b))/\(K (iA .i64 0))
 | _=>J
theorem QV6:QH 115 iY:=by
 refine okL func115 fun l T c K h=> ?_
 unfold iY at c;split at c<;>cases c
 obtain⟨n,a,m,b,rfl,rfl,d,h⟩:=h;exact spL (QP QOa Qq Qb) QK func115 (Qbd _ _ _ _ d K h)
def fj:LC:=(115,iY)::qJ
theorem QOb:QF fj:= .cons QV6 QOa
abbrev um (n:C)(a:A (B×B))(m:C)(b:A (B×B))(K:AV->Prop):Prop:=((n<=500000000/\m<=500000000)/\((1<=F a/\a.length<=100)/\b.length<=100))/\((UY a b=E-> ∀v d,K (.t [(E,QS d v),(D,[.v (.bool E)])]))/\(UY a b=D->K (.t [(E,Xm++Xm),(D,[.v (.bool D)])])))
def F3(a:Value):Bool×A Ch:=(D,[Zm a])
def Fq(a:A (B×B))(b:ByX):=(atP a b.i).1
def Fo(a:A (B×B))(b:ByX):=(atP a b.i).2
def IC(a b:A (B×B)):=FH a.length b.length
def ID(a:A (B×B))(b:ByX)(c:A (B×B))(d:ByX)(e:A (B×B))(f:ByX)(g:A (B×B))(h:ByX):=((nxP a b.i).2-Fo c d,-((nxP e f.i).1-Fq g h)).2
def F4(a:A (B×B))(b:ByX)(c:A (B×B))(d:ByX)(e:A (B×B))(f:ByX)(g:A (B×B))(h:ByX):=((nxP a b.i).2-Fo c d,-((nxP e f.i).1-Fq g h)).1
def IJ:=Zm (Zq IN)
def IH:=Zk E
theorem QRN (n:C)(a:A (B×B))(m:C)(b:A (B×B))(K:AV->Prop)(hK:um n a m b K):QM (QN (mkT fj M79 X4) (oF f116) (QMb n a m b) f116 [sVv n a,sVv m b] K):=by
 obtain⟨hc,hK⟩:=hK;refine HV ((∃(x:C),((x<=F a/\∀(v:C),v<x->K1 (atP a v) (nxP a v) b=D)/\Fe)/\6=6/\FJ n a n a/\6=6/\FJ m b m b/\0=0/\6=6/\FJ n a n a/\FH (FV n a).length a.length/\0=H x/\27=27/\FT/\FI/\FI/\FT/\FI/\FI/\I)/\∀(u:C),(u<=F a/\∀(z:C),z<u->K1 (atP a z) (nxP a z) b=D)->Fe->Fj (H u) (H a.length) ((0<=H u/\H u<Fa n a)/\∃(q:B)(g:C)(At:B)(j:C),FW (FV n a) (H u) 6 (FP q g At j)/\Fa n a≠0/\(0<=(Fb u).tmod (Fa n a)/\(Fb u).tmod (Fa n a)<Fa n a)/\∃(hZ:B)(o:C)(ja:B)(Z:C),FW (FV n a) ((Fb u).tmod (Fa n a)) 6 (FP hZ o ja Z)/\IP o g Z j/\o+g+1<=4294967296/\(∃(c:ByX),(((c.i<F a/\∀(y:C),y<c.i->K1 (atP a y) (nxP a y) b=D)/\c.j<=F b/\c.zf=K1 (atP a c.i) (nxP a c.i) (N c.j b))/\FX a c.i=FX a u)/\6=6/\FJ n a n a/\6=6/\FJ m b m b/\0=0/\6=6/\FJ n a n a/\IC a a/\FH u c.i/\FH u c.i/\0=0/\0=0/\E=c.zf/\6=6/\FJ m b m b/\FH (FV m b).length b.length/\0=H c.j/\27=27/\FT/\FI/\FI/\FT/\FI/\FI/\27=27/\q=Fq a c/\g<=n/\At=Fo a c/\j<=n/\27=27/\ja-At=F4 a c a c a c a c/\Z+j+1<=2*n+2/\ -(hZ-q)=ID a c a c a c a c/\o+g+1<=2*n+2/\I)/\∀(c:ByX),(c.i<F a/\∀(w:C),w<c.i->K1 (atP a w) (nxP a w) b=D)/\c.j<=F b/\c.zf=K1 (atP a c.i) (nxP a c.i) (N c.j b)->FX a c.i=FX a u->Fj (H c.j) (H b.length) ((0<=H c.j/\H c.j<Fa m b)/\∃(q:B)(Q:C)(jb:B)(T:C),FW (FV m b) (H c.j) 6 (FP q Q jb T)/\bif c.zf then IP Q n T n/\2*n+2+(2*n+2)+(Q+n+1)+(T+n+1)<=4294967290/\2*n+2+(Q+n+1)+(2*n+2+(T+n+1))+1<=4294967296/\∃(t:ByX),(((t.i<F a/\∀(r:C),r<t.i->K1 (atP a r) (nxP a r) b=D)/\t.j<=F b/\t.zf=K1 (atP a t.i) (nxP a t.i) (N t.j b))/\FX a t.i=FX a u/\FX b t.j<FX b c.j)/\6=6/\FJ n a n a/\6=6/\FJ m b m b/\0=0/\6=6/\FJ n a n a/\IC a a/\FH c.i t.i/\FH c.i t.i/\0=0/\0=0/\decide (XY (F4 a c a c a c a c*(q-Fq a c)+ID a c a c a c a c*(jb-Fo a c))>0)=t.zf/\6=6/\FJ m b m b/\IC b b/\Fb c.j=H t.j/\27=27/\FT/\FI/\FI/\FT/\FI/\FI/\27=27/\Fq a c=Fq a t/\n<=n/\Fo a c=Fo a t/\n<=n/\27=27/\F4 a c a c a c a c=F4 a t a t a t a t/\2*n+2<=2*n+2/\ID a c a c a c a c=ID a t a t a t a t/\2*n+2<=2*n+2/\I else∃(p:ByX),(((p.i<F a/\∀(l:C),l<p.i->K1 (atP a l) (nxP a l) b=D)/\p.j<=F b/\p.zf=K1 (atP a p.i) (nxP a p.i) (N p.j b))/\FX a p.i=FX a u/\FX b p.j<FX b c.j)/\6=6/\FJ n a n a/\6=6/\FJ m b m b/\0=0/\6=6/\FJ n a n a/\IC a a/\FH c.i p.i/\FH c.i p.i/\0=0/\0=0/\D=p.zf/\6=6/\FJ m b m b/\IC b b/\Fb c.j=H p.j/\27=27/\FT/\FI/\FI/\FT/\FI/\FI/\27=27/\Fq a c=Fq a p/\n<=n/\Fo a c=Fo a p/\n<=n/\27=27/\F4 a c a c a c a c=F4 a p a p a p a p/\2*n+2<=2*n+2/\ID a c a c a c a c=ID a p a p a p a p/\2*n+2<=2*n+2/\I) (bif c.zf then K (AV.t [(E,FP ((nxP a c.i).2-Fo a c,-((nxP a c.i).1-Fq a c)).1 (2*n+2) ((nxP a c.i).2-Fo a c,-((nxP a c.i).1-Fq a c)).2 (2*n+2)),F3 IH])else∃(x':C),((x'<=F a/\∀(h:C),h<x'->K1 (atP a h) (nxP a h) b=D)/\Fv=0/\FX a x'<FX a u)/\6=6/\FJ n a n a/\6=6/\FJ m b m b/\0=0/\6=6/\FJ n a n a/\IC a a/\Fb c.i=H x'/\27=27/\FT/\FI/\FI/\FT/\FI/\FI/\I)) (K (AV.t [(E,[Zm FZ,IJ,IJ,Zm FZ,IJ,IJ]),F3 FZ]))) ?_
 delta FV IN FH Fw FI FJ F3 FP Fv Fq Fo FT FX FW FZ Fb Fa Fe Fj IC ID F4 IJ IH IP
 try simp only[O,R0,R1,S,R4]
 obtain⟨⟨hn,hm⟩,⟨jc,jd⟩,hb⟩:=hc;obtain⟨kt,kf⟩:=hK;simp only[X];refine⟨⟨0,⟨o3,fun k d=>absurd d o3⟩,trivial,rfl⟩,fun x ⟨hx,Lm⟩=>QE (fun W=> ?_) (fun W=> ?_)⟩
 ·have W:x<F a:=(j7 W)
  obtain⟨p,hpp⟩: ∃p,a[x]? =G p:=⟨_,P W⟩
  have e1:(U.wrap ((x:L)+1)).tmod (F a:L)=(((x+1) % a.length:C):L):=by
   rw[w64 o3,tm o3];simp
  have m1:=C.mod_lt (x+1) (by omega:0<F a);obtain⟨q,hq⟩: ∃q,a[(x+1) % a.length]? =G q:=⟨_,P m1⟩
  have gp:atP a x=p:=GN hpp;have gq:nxP a x=q:=GN hq;rw[e1,L.toNat_natCast];refine⟨o3,_,_,_,_,WX ((j9 hpp)),o3,o3,_,_,_,_,WX hq,o3,o3,⟨⟨x,0,E⟩,⟨⟨⟨W,Lm⟩,o6,by simp[K1]⟩,rfl⟩,rfl,rfl,rfl,trivial,rfl,by rw[gp],o3,by rw[gp],o3,by rw[gp,gq],o3,by rw[gp,gq],o3⟩,fun y ⟨⟨i,Y⟩,jf,f⟩ be=>QE (fun d=> ?_) (fun d=> ?_)⟩
  ·have d:y.j<F b:=(j7 d)
   obtain⟨v,hv⟩: ∃v,b[y.j]? =G v:=⟨_,P d⟩
   have hs:=QVt (p:=atP a y.i) (q:=nxP a y.i) hv;refine⟨o3,_,_,_,_,WX ((j9 hv)),QE (fun V=>⟨o3,o3,o3,⟨y.i,y.j+1,K1 (atP a y.i) (nxP a y.i) (b.take (y.j+1))⟩,⟨⟨⟨i,Y⟩,d,rfl⟩,be,o5⟩,rfl,rfl,?_,by rw[w64 o3];simp,rfl,rfl,rfl,rfl⟩) (fun V=>⟨⟨y.i,y.j+1,K1 (atP a y.i) (nxP a y.i) (b.take (y.j+1))⟩,⟨⟨⟨i,Y⟩,d,rfl⟩,be,o5⟩,rfl,rfl,?_,by rw[w64 o3];simp,rfl,rfl,rfl,rfl⟩)⟩
   ·simp only;rw[hs,<-f,V,QbX];rfl
   ·simp only;rw[hs,<-f,V];rfl
  ·have d:y.j=F b:=(j8 d)
   rw[d,Ya]at f;refine QE (fun V=> ?_) (fun V=>⟨y.i+1,⟨⟨i,fun k je=> ?_⟩,o3⟩,by rw[w64 o3];simp⟩)
   ·exact kt (QOV.2 ⟨y.i,i,by rw[<-f];exact V⟩) (TU (atP a y.i) (nxP a y.i)) (2*n+2)
   ·by_cases e:k<y.i
    ·exact Y k e
    ·have e:k=y.i:=o3
     rw[e,<-f];exact V
 ·have W:x=F a:=(j8 W)
  refine kf ?_
  cases hB:UY a b with
  | false=>rfl
  | true=>
   obtain⟨k,h1,h2⟩:=QOV.1 hB;rw[Lm k o3]at h2;cases h2
def po:Ctr
 | [.x D [.s 6 x],.x D [.s 6 y]]=>G fun K=> ∃(n:C) (a:A (B×B)) (m:C) (b:A (B×B)),x=a.map (QS n)/\y=b.map (QS m)/\um n a m b K
 | _=>J
theorem QMd:QH 116 po:=by
 refine okL func116 fun l T c K h=> ?_
 unfold po at c;split at c<;>cases c
 obtain⟨n,a,m,b,rfl,rfl,h⟩:=h;exact spL (QP QOb Qq Qb) QK func116 (QRN _ _ _ _ K h)
def mR:LC:=(116,po)::fj
theorem wU:QF mR:= .cons QMd QOb
abbrev vj (n:C)(a:A (B×B))(m:C)(b:A (B×B))(K:AV->Prop):Prop:=((n<=500000000/\m<=500000000)/\(QY a/\QY b))/\(K (.t [(D,[.v (.bool (HJ a b))]),(D,[.v (.int .i64 0)])]))
def Fx(a:AV->Prop)(b:Value):=a (AV.t [F3 b,F3 (Zo U 0)])
def IF(a b:C)(c d:Prop):=(a<=500000000/\b<=500000000)/\c/\d
theorem Qbe (n:C)(a:A (B×B))(m:C)(b:A (B×B))(K:AV->Prop)(k:vj n a m b K):QM (QN (mkT mR M79 X4) (oF f81) noL f81 [sVv n a,sVv m b] K):=by
 obtain⟨y,k⟩:=k;refine HV (Fc (fun p i=>Fc (fun l j=>FJ n a p i/\FJ m b l j/\IF p l (QY i) (QY j)/\Fc (fun q e=>Fc (fun o h=>FJ n a q e/\FJ m b o h/\IF q o (1<=F e/\e.length<=100) (F h<=100)/\(UY e h=E->∀(_v:B×B)(_d:C),Fc (fun g c=>Fc (fun f d=>FJ m b g c/\FJ n a f d/\IF g f (1<=F c/\c.length<=100) (F d<=100)/\(UY c d=E->∀(_v:B×B)(_d:C),Fx K FZ)/\(UY c d=D->Fx K FZ))))/\(UY e h=D->Fc (fun g c=>Fc (fun f d=>FJ m b g c/\FJ n a f d/\IF g f (1<=F c/\c.length<=100) (F d<=100)/\(UY c d=E->∀(_v:B×B)(_d:C),Fx K FZ)/\(UY c d=D->Fx K IH))))))))) ?_
 delta FV FJ F3 FZ Fc Fx IF IH
 try simp only[O,R0,R1,Zv,S,R4,R2,R3]
 obtain⟨⟨u,t⟩,v,w⟩:=y;have z:=v.lo;have I:=v.hi;have L:=w.lo;have N:=w.hi;unfold HJ at k;refine⟨n,a,m,b,rfl,rfl,⟨⟨u,t⟩,v,w⟩,n,a,m,b,rfl,rfl,⟨⟨u,t⟩,o3,o3⟩,fun x _ _=>⟨m,b,n,a,rfl,rfl,⟨⟨t,u⟩,o3,o3⟩,fun r _ _=> ?_,fun r=> ?_⟩,fun x=>⟨m,b,n,a,rfl,rfl,⟨⟨t,u⟩,o3,o3⟩,fun r _ _=> ?_,fun r=> ?_⟩⟩;all_goals
  rw[x,r]at k
  exact k
def rz:Ctr
 | [.x D [.s 6 x],.x D [.s 6 y]]=>G fun K=> ∃(n:C) (a:A (B×B)) (m:C) (b:A (B×B)),x=a.map (QS n)/\y=b.map (QS m)/\vj n a m b K
 | _=>J
theorem QV9:QH 81 rz:=by
 refine okL func81 fun l T c K h=> ?_
 unfold rz at c;split at c<;>cases c
 obtain⟨n,a,m,b,rfl,rfl,h⟩:=h;exact spL (QP wU Qq Qb) QK func81 (Qbe _ _ _ _ K h)
def pe:LC:=(81,rz)::mR
noncomputable def QeI:Qd:=mkT pe M79 X4
theorem tq:QF pe:= .cons QV9 wU
theorem Qbf:Qr QeI:=QP tq Qq Qb
def slA (n:C)(l:A (A (B×B))):AV:= .x D [.s 1 (shN n l)]
def QWB (n:C)(l:A (A (B×B)))(m:C)(ws:A (A (B×B))):LI:=fun a=>bif a.beq 2 then .inv ⟨C,fun i=>⟨[(1,slA m ws),(11,slA n l),(12,iA .i64 l.length),(13,iA .i64 i)],[]⟩,fun i=>i<=F l/\freeB (l.take i) ws=E,fun i=>F l-i,fun _=>0⟩
 else .inv ⟨C×C,fun x=>⟨[(1,slA m ws),(6,sVv n (l.getD x.1 [])),(11,slA n l),(12,iA .i64 l.length),(13,iA .i64 x.1),(17,slA m ws),(18,iA .i64 ws.length),(19,iA .i64 x.2)],[]⟩,fun x=>(x.1<F l/\freeB (l.take x.1) ws=E)/\x.2<=F ws/\freeB [l.getD x.1 []] (ws.take x.2)=E,fun x=>F ws-x.2,fun x=>F l-x.1⟩
def QMe (n:C)(ws:A (A (B×B))):LI:=fun _=> .inv ⟨C,fun i=>⟨[(9,slA n ws),(10,iA .i64 ws.length),(11,iA .i64 i)],[]⟩,fun i=>i<=F ws,fun i=>F ws-i,fun _=>0⟩
def rwN (B:C)(r:A (A Sp)):A (A Ch):=r.map fun a=>[R 6 (a.map (spN B))]
def QRO (d:C)(p:A B)(e:C)(q:A B)(n:C):LI:=fun i=>bif i.beq 6 then .inv ⟨C,fun k=>⟨[(0,sR d p),(1,sR e q),(2,iA .i64 n),(8,.x D [.w 500 0 k]),(9,sR (2*d+e+130) (YA p q n k)),(36,iA .i64 n),(37,iA .i64 k)],[(500,.row 119 1 (rwN (2*d+e+130) ((YB p q n).take k)))]⟩,fun k=>k<=n,fun k=>n-k,fun _=>0⟩
 else .inv ⟨C×C,fun x=>⟨[(0,sR d p),(1,sR e q),(2,iA .i64 n),(8,.x D [.w 500 0 x.1]),(9,sR (2*d+e+130) (YA p q n x.1)),(11,sR (2*d+e+130) (YA p q n (x.1+1))),(12,.x D [.w 501 0 x.2]),(36,iA .i64 n),(37,iA .i64 x.1),(46,sR (2*d+e+130) (YA p q n x.1)),(47,iA .i64 p.length),(48,iA .i64 x.2)],[(500,.row 119 1 (rwN (2*d+e+130) ((YB p q n).take x.1))),(501,.row 113 6 (((X0 p q n x.1).take x.2).map (spN (2*d+e+130))))]⟩,fun x=>x.1<n/\x.2<=F p,fun x=>F p-x.2,fun x=>n-x.1⟩
def Tw (a:ArmV)(row:A Sp):A (Sp×Sp):=XP (XX (Xz a) a.za row) a.za
def QMf (a:ArmV)(d:C)(p:A B)(e:C)(q:A B)(m:C)(ws:A (A (B×B)))(n:C):LI:=fun i=>bif i.beq 10 then .inv ⟨C,fun k=>⟨[(3,slA m ws),(5,.x D [.p 5 0]),(43,.x D [.s 1 (rwN (2*d+e+130) (YB p q n))]),(44,iA .i64 n),(45,iA .i64 k)],[(5,.box 34 (Qp a))]⟩,fun k=>k<=n/\ ∀j,j<k->freeB (YF a (X0 p q n j)) ws=E,fun k=>n-k,fun _=>0⟩
 else .inv ⟨C×C,fun x=>⟨[(3,slA m ws),(5,.x D [.p 5 0]),(19,.x D [.w 500 0 x.2]),(43,.x D [.s 1 (rwN (2*d+e+130) (YB p q n))]),(44,iA .i64 n),(45,iA .i64 x.1),(58,.x D [.s 12 ((Tw a (X0 p q n x.1)).map (bx4 126400000))]),(59,iA .i64 a.za.length),(60,iA .i64 x.2)],[(5,.box 34 (Qp a)),(500,.row 59 1 (shN 126400000 ((YF a (X0 p q n x.1)).take x.2)))]⟩,fun x=>(x.1<n/\ ∀j,j<x.1->freeB (YF a (X0 p q n j)) ws=E)/\x.2<=F a.za,fun x=>F a.za-x.2,fun x=>n-x.1⟩
variable{ws:A (A (B×B))}{s:A (B×B)}
theorem QMg{j:C}{w:A (B×B)}(h:ws[j]? =G w):freeB [s] (ws.take (j+1))=(freeB [s] (ws.take j)&&(!(WH (X5 s) (X5 w)) || !(HJ s w))):=by
 simp only[freeB,A.all_cons,A.all_nil,Bool.and_true];rw[Zp,h,Yb];simp
theorem QRP{l:A (A (B×B))}{i:C}(h:l[i]? =G s):freeB (l.take (i+1)) ws=(freeB (l.take i) ws&&freeB [s] ws):=by
 unfold freeB;rw[Zp,h,Yb];simp
theorem QWC{l:A (A (B×B))}{w:A (B×B)}(c:s∈l)(d:w∈ws)(a:WH (X5 s) (X5 w)=E)(b:HJ s w=E):freeB l ws=D:=by
 cases h:freeB l ws with
 | false=>rfl
 | true=>
  have:=kL.1 h s c w d a;rw[b]at this;cases this
theorem Qjz {B:C}{r:A (A Sp)}{k:C}{row:A Sp}(h:r[k]? =G row):ldE (rwN B r) k 0 1=G [.s 6 (row.map (spN B))]:=by
 simp only[ldE,rwN,Zz,h];rfl
theorem QJo (p q:A B){n k:C}(h:k<n):(YB p q n)[k]? =G (X0 p q n k):=by
 simp[YB,Zz,A.getElem?_range h]
theorem QMh {a:ArmV}(b:QJ a)(f:A FrV): ∀s∈X6 f a.za,QY s:=fun s c=>by
 obtain⟨g,L,h,rfl⟩:=QQz c;exact vV g (b.za L h).zt
theorem QMi {a:A LoV}{l:LoV}{b:A QV}(h:a.length=F b):XP (a++[l]) b=XP a b:=by
 apply A.ext_getElem?
 intro i;by_cases c:i<a.length
 ·simp only[XP,Zx,A.getElem?_append_left c]
 ·have e:b[i]? =J:=A.getElem?_eq_none o3
  simp only[XP,Zx,e];cases(a++[l])[i]? <;>cases a[i]? <;>rfl
theorem QWD {a:ArmV}(k:QJ a){row:A Sp}{q:A B}(e:HasQ row q)(r:row.length=F a.za): ∀s∈YF a row,QY s:=by
 intro s o;obtain⟨b,j,rfl⟩:=A.mem_map.1 o;obtain⟨i,h⟩:=A.getElem?_of_mem j
 simp only[XP,Zx]at h;have n:=e.1;have p:=Hi a.za q (Xs a) o3;cases c:(XX (Xz a) a.za row)[i]? with
 | none=>rw[c]at h;cases h
 | some l=>
  cases d:a.za[i]? with
  | none=>rw[c,d]at h;cases h
  | some L=>
   rw[c,d]at h;cases h
   have m:=(A.getElem?_eq_some_iff.1 d).1;obtain⟨g,hg'⟩: ∃g,(XH (Xs a) a.za q)[i]? =G g:=⟨_,P o3⟩
   have f:=QRJ (KR a.za row q (Xz a) (Xs a) (KS a) e i l g c hg') (k.za L (Zu d)).zt;exact QRI f.1 f.2
abbrev wC (n:C)(l:A (A (B×B)))(m:C)(ws:A (A (B×B)))(K:AV->Prop):Prop:=((n<=400000000/\m<=400000000)/\((∀s∈l,QY s)/\ ∀w∈ws,QY w)/\(F l<=100/\ws.length<=100))/\(K (.x D [.v (.bool (freeB l ws))]))
def FO(a:C×C):=H a.2
def FM(a:C)(b:A (A (B×B)))(c:C)(d:A (A (B×B))):=shN a b=shN c d
def FY(a:A (A (B×B)))(b:C):=F a-b
def Fl(a:A (A (B×B)))(b:C×C):=a.getD b.1 []
def F2(a:C)(b c:A (A (B×B))):=freeB (N a b) c=E
def II(a b:C×C):=U.wrap (FO a+1)=H b.2
theorem Qbg (n:C)(c:A (A (B×B)))(m:C)(ws:A (A (B×B)))(K:AV->Prop)(T:wC n c m ws K):QM (QN QeI (oF f40) (QWB n c m ws) f40 [slA n c,slA m ws] K):=by
 obtain⟨hc,T⟩:=T;refine HV ((∃(x:C),((x<=F c/\F2 x c ws)/\Fe)/\1=1/\FM m ws m ws/\1=1/\FM n c n c/\FH (shN n c).length c.length/\0=H x/\I)/\∀(v:C),v<=F c/\F2 v c ws->Fe->Fj (H v) (H c.length) ((0<=H v/\H v<Fw (shN n c))/\∃(V:A (A Ch)),FW (shN n c) (H v) 1 [R 6 V]/\(∃(f:C×C),(((f.1<F c/\F2 f.1 c ws)/\f.2<=F ws/\freeB [Fl c f] (N f.2 ws)=E)/\FY c f.1=FY c v)/\1=1/\FM m ws m ws/\6=6/\V=FV n (Fl c f)/\1=1/\FM n c n c/\FH c.length c.length/\FH v f.1/\1=1/\FM m ws m ws/\FH (shN m ws).length ws.length/\0=H f.2/\I)/\∀(f:C×C),(f.1<F c/\F2 f.1 c ws)/\f.2<=F ws/\freeB [Fl c f] (N f.2 ws)=E->FY c f.1=FY c v->Fj (FO f) (H ws.length) ((0<=FO f/\FO f<Fw (shN m ws))/\∃(V:A (A Ch)),FW (shN m ws) (FO f) 1 [R 6 V]/\Fc (fun k l=>FJ n (Fl c f) k l/\(k<=1000000000/\1<=F l/\l.length<=100)/\Fc (fun o g=>V=FV o g/\(o<=1000000000/\1<=F g/\g.length<=100)/\∃(t:C)(a:X9)(r:C)(b:X9),Fp (X5 l) (k+66) (X5 l) (k+66) (X5 l) (k+66) (X5 l) (k+66)=Fp a t a t a t a t/\Fp (X5 g) (o+66) (X5 g) (o+66) (X5 g) (o+66) (X5 g) (o+66)=Fp b r b r b r b r/\(t<=1100000000/\r<=1100000000)/\bif !WH a b then∃(u:C×C),(((u.1<F c/\F2 u.1 c ws)/\u.2<=F ws/\freeB [Fl c u] (N u.2 ws)=E)/\FY c u.1=FY c v/\FY ws u.2<FY ws f.2)/\1=1/\FM m ws m ws/\6=6/\FJ n (Fl c f) n (Fl c u)/\1=1/\FM n c n c/\FH c.length c.length/\FH f.1 u.1/\1=1/\FM m ws m ws/\FH ws.length ws.length/\II f u/\I else Fc (fun Z a=>Fc (fun Y b=>FJ n (Fl c f) Z a/\V=FV Y b/\IF Z Y (QY a) (QY b)/\bif HJ a b then Ff K FZ else∃(z:C×C),(((z.1<F c/\F2 z.1 c ws)/\z.2<=F ws/\freeB [Fl c z] (N z.2 ws)=E)/\FY c z.1=FY c v/\FY ws z.2<FY ws f.2)/\1=1/\FM m ws m ws/\6=6/\FJ n (Fl c f) n (Fl c z)/\1=1/\FM n c n c/\FH c.length c.length/\FH f.1 z.1/\1=1/\FM m ws m ws/\FH ws.length ws.length/\II f z/\I))))) (∃(x':C),((x'<=F c/\F2 x' c ws)/\Fv=0/\FY c x'<FY c v)/\1=1/\FM m ws m ws/\1=1/\FM n c n c/\FH c.length c.length/\Fb f.1=H x'/\I)) (Ff K IH)) ?_
 delta FV FH Fw FJ FO FM Fv FW FY FZ Fb Fc Ff Fe Fj Fl Fp F2 IF IH II
 try simp only[O,R0,R1,R4]
 obtain⟨⟨hn,hm⟩,⟨pl,pw⟩,hl,hw⟩:=hc;have be: ∀n (l:A (A (B×B))),(shN n l).length=F l:=fun n l=>by simp[shN]
 simp only[be];refine⟨⟨0,⟨o3,rfl⟩,trivial,rfl⟩,fun i ⟨hi,h⟩=>QE (fun p=> ?_) (fun p=> ?_)⟩
 ·have p:i<F c:=(j7 p)
  obtain⟨s,hs⟩: ∃s,c[i]? =G s:=⟨_,P p⟩
  have S:=GN (d:=([]:A (B×B))) hs;have ms:=Zu hs;have ps:=pl s ms;have s1:=ps.lo;have s2:=ps.hi;refine⟨o3,_,ib ((j9 hs)),⟨(i,0),⟨⟨⟨p,h⟩,o6,by simp[freeB]⟩,rfl⟩,by rw[S],rfl,trivial,rfl⟩,fun y ⟨⟨W,At⟩,Lm,q⟩ X=> ?_⟩;obtain⟨i',j⟩:=y;have e:i'=i:=by simp only at W X;omega
  subst e;simp only at W At Lm q X|-;rw[S]at q;refine QE (fun L=> ?_) (fun L=> ?_)
  ·have L:j<F ws:=(j7 L)
   obtain⟨w,hw'⟩: ∃w,ws[j]? =G w:=⟨_,P L⟩
   have mw:=Zu hw';have Q:=pw w mw;have w1:=Q.lo;have w2:=Q.hi;have sn:=QMg (s:=s) hw';rw[q]at sn;refine⟨o3,_,ib ((j9 hw')),n,s,by rw[S],⟨o3,o3,o3⟩,m,w,rfl,⟨o3,o3,o3⟩,n+66,X5 s,m+66,X5 w,rfl,rfl,⟨o3,o3⟩,QE (fun hb=>⟨(i',j+1),⟨⟨⟨p,h⟩,L,?_⟩,rfl,o5⟩,rfl,rfl,by rw[w64 o3];simp⟩) (fun hb=>⟨n,s,m,w,by rw[S],rfl,⟨⟨o3,o3⟩,ps,Q⟩,QE (fun hM=> ?_) (fun hM=>⟨(i',j+1),⟨⟨⟨p,h⟩,L,?_⟩,rfl,o5⟩,rfl,rfl,by rw[w64 o3];simp⟩)⟩)⟩
   ·simp only;rw[S,sn,hb];rfl
   ·rw[QWC ms mw ((j9 hb)) hM]at T;exact T
   ·simp only;rw[S,sn,hM,hb];rfl
  ·have L:j=F ws:=(j8 L)
   rw[L,Ya]at q;refine⟨i'+1,⟨⟨p,?_⟩,o3⟩,by rw[w64 o3];simp⟩;rw[QRP hs,h,q];rfl
 ·have p:i=F c:=(j8 p)
  rw[p,Ya]at h;rw[h]at T;exact T
def lH:Ctr
 | [.x D [.s 1 x],.x D [.s 1 y]]=>G fun K=> ∃(n:C) (l:A (A (B×B))) (m:C) (ws:A (A (B×B))),x=shN n l/\y=shN m ws/\wC n l m ws K
 | _=>J
theorem QWE:QH 40 lH:=by
 refine okL func40 fun l T a K h=> ?_
 unfold lH at a;split at a<;>cases a
 obtain⟨n,b,m,ws,rfl,rfl,h⟩:=h;exact spL Qbf QK func40 (Qbg _ _ _ _ K h)
def sX:LC:=(40,lH)::pe
theorem vt:QF sX:= .cons QWE tq
theorem QWG (n:C)(ws:A (A (B×B)))(f:(n<=400000000)/\((∀w∈ws,QY w)/\ws.length<=20))(K:AV->Prop)(e:K (iA .i64 0)):QM (QN (mkT sX M79 X4) (oF f39) (QMe n ws) f39 [slA n ws] K):=by
 refine HV (bif decide (Fw (shN n ws)>20)then Ff K (Zo U 2)else(∃(x:C),(x<=F ws/\Fe)/\1=1/\FM n ws n ws/\FH (shN n ws).length ws.length/\0=H x/\I)/\∀(x:C),x<=F ws->Fe->Fj (H x) (H ws.length) ((0<=H x/\H x<Fw (shN n ws))/\∃(y:A (A Ch)),FW (shN n ws) (H x) 1 [R 6 y]/\Fc (fun a l=>y=FV a l/\(a<=500000000/\QY l)/\∃(d:C),(d<=F ws/\Fv=0/\FY ws d<FY ws x)/\1=1/\FM n ws n ws/\FH ws.length ws.length/\Fb x=H d/\I)) (Ff K (Zo U 0))) ?_
 delta FV FH Fw FM Fv FW FY Fb Fc Ff Fe Fj
 try simp only[O,R0,R1,R4]
 obtain⟨j,g,i⟩:=f;have c: ∀n (l:A (A (B×B))),(shN n l).length=F l:=fun n l=>by simp[shN]
 simp only[c];refine QE (fun h=>(j7 h)) (fun _=>⟨⟨0,o3,trivial,rfl⟩,fun x k=>QE (fun b=> ?_) (fun _=>e)⟩);have b:x<F ws:=(j7 b)
 obtain⟨w,hw'⟩: ∃w,ws[x]? =G w:=⟨_,P b⟩
 exact⟨o3,_,ib ((j9 hw')),n,w,rfl,⟨o3,g w (Zu hw')⟩,x+1,⟨o3,o3⟩,by rw[w64 o3];simp⟩
def rR:Ctr
 | [.x D [.s 1 x]]=>G fun K=> ∃(n:C) (ws:A (A (B×B))),x=shN n ws/\((n<=400000000)/\((∀w∈ws,QY w)/\ws.length<=20))/\(K (iA .i64 0))
 | _=>J
theorem QRQ:QH 39 rR:=by
 refine okL func39 fun l T a K h=> ?_
 unfold rR at a;split at a<;>cases a
 obtain⟨n,ws,rfl,b,h⟩:=h;exact spL (QP vt Qq Qb) QK func39 (QWG _ _ b K h)
def kE:LC:=(39,rR)::sX
theorem QOh:QF kE:= .cons QRQ vt
theorem QMj (n:C)(b:X9)(_hc:(n<=400000000))(K:AV->Prop)(h:K (sVv n (Xi b))):QM (QN (mkT kE M79 X4) (oF f64) noL f64 [.x E (bxN n b)] K):=by
 refine HV (K (AV.x D [R 6 [FP b.x1 n b.y1 n,FP b.x2 n b.y1 n,FP b.x2 n b.y2 n,FP b.x1 n b.y2 n]])) ?_
 delta FP
 try simp only[O,R0,R1,Zv,S,R4,R2,R3]
 exact h
def Hn:Ctr
 | [.x E x]=>G fun K=> ∃(n:C) (b:X9),x=bxN n b/\((n<=400000000))/\(K (sVv n (Xi b)))
 | _=>J
theorem QJp:QH 64 Hn:=by
 refine okL func64 fun l T a K h=> ?_
 unfold Hn at a;split at a<;>cases a
 obtain⟨n,b,rfl,c,h⟩:=h;exact spL (QP QOh Qq Qb) QK func64 (QMj _ _ c K h)
def pO:LC:=(64,Hn)::kE
theorem xA:QF pO:= .cons QJp QOh
abbrev QDd (d:C)(a:A B)(e:C)(b:A B)(x:L)(y:L)(K:AV->Prop):Prop:=((((-9223372036854775808<=x/\x<9223372036854775808)/\0<y/\y<9223372036854775808))/\(F a=F b/\a.length<=1000000/\d<=1000000/\e<=1000000))/\(K (sR (2*d+e+130) (KP ((x:B)/(y:B)) a b)))
def FK(a b:C):=2*a+b+130
def FL(a:C)(b:A B)(c:C)(d:A B):=lR a b=lR c d
def FQ(a:C)(b:A B):=Fw (lR a b)
def Ft(a b:L):=(↑a:B)/(↑b:B)
def Fs:=Zn J 0 0
def F5(a b:B->C)(c:C)(d e:L)(f g:A B):=Y (fun(z:B)=>[M z (FK (a z) (b z))]) (N c (KP (Ft d e) f g))
def IL(a b c:C)(d:Prop):=(a*b<=140737488355328/\c<=9223372036854775807)/\d
def IQ(a b c d e:L):=(a<=b/\c<9223372036854775808)/\0<d/\e<9223372036854775808
def IM:L:=-9223372036854775808
theorem QMk (d:C)(a:A B)(e:C)(b:A B)(x:L)(y:L)(K:AV->Prop)(m:QDd d a e b x y K):QM (QN (mkT pO M79 X4) (oF f102) (fun _=> .inv ⟨C,fun k=>⟨[(0,sR d a),(1,sR e b),(9,.x D [.p 9 0]),(11,.x D [.w 500 0 k]),(23,iA .i64 a.length),(24,iA .i64 k)],[(9,.box 25 [.r ((x:B)/(y:B)) 128]),(500,YU (2*d+e+130) ((KP ((x:B)/(y:B)) a b).take k))]⟩,fun k=>k<=F a,fun k=>F a-k,fun _=>0⟩) f102 [sR d a,sR e b,iA .i64 x,iA .i64 y] K):=by
 obtain⟨o,m⟩:=m;refine HV (IQ IM x x y y/\(∃(c:C),(c<=F a/\Fe)/\3=3/\FL d a d a/\3=3/\FL e b e b/\0=0/\Fs=Fs/\0=0/\c=0/\(bif D then if FQ e b>FQ d a then FQ e b else FQ d a else if FQ e b<FQ d a then FQ e b else FQ d a)=H a.length/\0=H c/\25=25/\Ft x y=Ft x y/\128<=128/\F5 (fun q=>d) (fun q=>e) c x y a b=[]/\I)/\∀(c:C),c<=F a->Fe->Fj (H c) (H a.length) ((0<=H c/\H c<FQ d a)/\∃(q:B)(n:C),FW (lR d a) (H c) 3 [M q n]/\(0<=H c/\H c<FQ e b)/\∃(i:B)(f:C),FW (lR e b) (H c) 3 [M i f]/\(0<=H c/\H c<FQ d a)/\∃(j:B)(g:C),FW (lR d a) (H c) 3 [M j g]/\f+g+1<=4294967296/\F8 128 (f+g+1)/\n+(128+(f+g+1))+1<=4294967296/\IL (c+1) 40 (c+1) (∃(l:C),(l<=F a/\Fv=0/\a.length-l<F a-c)/\3=3/\FL d a d a/\3=3/\FL e b e b/\0=0/\0=0/\c+1=l/\FH a.length a.length/\Fb c=H l/\25=25/\Ft x y=Ft x y/\128<=128/\25=25/\3=3/\(N c (F5 (fun q=>d) (fun q=>e) c x y a b)++[[M (q+Ft x y*(i-j)) (n+(128+(f+g+1))+1)]]=F5 (fun q=>d) (fun q=>e) l x y a b\/QC (N c (F5 (fun q=>d) (fun q=>e) c x y a b)++[[M (q+Ft x y*(i-j)) (n+(128+(f+g+1))+1)]]) (F5 (fun q=>d) (fun q=>e) l x y a b))/\I)) (K (AV.x D [R 3 (N c (T 0 (F5 (fun q=>d) (fun q=>e) c x y a b)))]))) ?_
 delta FK FH Fw FL Fv FQ FW Fb Fe Ft Fj Fs F8 F5 IL IQ IM
 try simp only[O,R0,R1,S,R4]
 obtain⟨⟨u,v⟩,r,W,w,z⟩:=o;simp only[Qw];have t:(KP ((x:B)/(y:B)) a b).length=F a:=c9 r;refine⟨⟨u,v⟩,⟨0,o3,rfl,by simp only[R8];split<;>omega,rfl,o6⟩,fun k V=>QE (fun h=> ?_) (fun h=> ?_)⟩
 ·have h:k<F a:=(j7 h)
  obtain⟨p,hpp⟩: ∃p,a[k]? =G p:=⟨_,P h⟩
  obtain⟨q,hq⟩: ∃q,b[k]? =G q:=⟨_,P o3⟩
  refine⟨o3,p,d,Xd ((j9 hpp)),o3,q,e,Xd ((j9 hq)),o3,p,d,Xd ((j9 hpp)),o3,o3,o3,o3,k+1,⟨o3,o3⟩,rfl,by rw[w64 o3];simp,.inl ?_⟩;rw[Q (by rw[X,Zs];omega),Zp,dN hpp hq,Zy];simp only[Option.toList,A.map_cons,A.map_nil];rw[(o3:d+(128+(e+d+1))+1=2*d+e+130)]
 ·have h:k=F a:=(j8 h)
  subst h;rw[Zw,Q (by rw[X,Zs];omega),Q o3];exact m
def Ho:Ctr
 | [.x D [.s 3 c],.x D [.s 3 f],.x D [.v (.int .i64 x)],.x D [.v (.int .i64 y)]]=>G fun K=> ∃(d:C) (a:A B) (e:C) (b:A B),c=lR d a/\f=lR e b/\QDd d a e b x y K
 | _=>J
theorem QJq:QH 102 Ho:=by
 refine okL func102 fun l T c K h=> ?_
 unfold Ho at c;split at c<;>cases c
 obtain⟨d,a,e,b,rfl,rfl,h⟩:=h;exact spL (QP xA Qq Qb) QK func102 (QMk _ _ _ _ _ _ K h)
def qg:LC:=(102,Ho)::pO
theorem QOj:QF qg:= .cons QJq xA
abbrev td (d:C)(p:A B)(e:C)(q:A B)(n:C)(K:AV->Prop):Prop:=((d<=1000000/\e<=1000000)/\(F p=F q/\p.length<=3)/\(1<=n/\n<=50))/\(K (.t [(D,[.s 1 (rwN (2*d+e+130) (YB p q n))]),(D,[.v (.int .i64 0)])]))
def Fh(a b c:C)(d e:A B)(f:C):=rwN (FK a b) (N c (YB d e f))
def Fy(a b:C)(c:C×C)(d e:A B)(f:C)(g:C×C):=Y (spN (FK a b)) (N c.2 (X0 d e f g.1))
def IA(a:C):=a<=1000000
def IK(a:AV->Prop):=a (AV.t [F3 Fs,F3 (Zo U 1)])
theorem QWK (d:C)(p:A B)(e:C)(q:A B)(n:C)(K:AV->Prop)(hK:td d p e q n K):QM (QN (mkT qg M79 X4) (oF f62) (QRO d p e q n) f62 [sR d p,sR e q,iA .i64 n] K):=by
 obtain⟨hc,hK⟩:=hK;refine HV (bif FQ d p !=FQ e q then IK K else bif decide (FQ d p>3)then IK K else Fj (H n) 1 (IK K) (bif decide (H n>50)then IK K else∃(W:C)(a:A B)(At:C)(b:A B),FL d p W a/\FL e q At b/\(IQ (IM:L) 0 (0:L) (H n) (H n)/\a.length=F b/\IA a.length/\IA W/\IA At)/\(∃(x:C),(x<=n/\Fe)/\3=3/\FL d p d p/\3=3/\FL e q e q/\FH n n/\Fs=Fs/\0=0/\x=0/\3=3/\FL (FK W At) (KP (Ft (0:L) (H n)) a b) (FK d e) (YA p q n x)/\FH n n/\0=H x/\Fh d e x p q n=[]/\I)/\∀(x:C),x<=n->Fe->Fj (H x) (H n) (∃(Z:C)(a:A B)(Lm:C)(b:A B),FL d p Z a/\FL e q Lm b/\(IQ IM (Fb x) (Fb x) (H n) (H n)/\a.length=F b/\IA a.length/\IA Z/\IA Lm)/\(∃(f:C×C),((f.1<n/\f.2<=F p)/\n-f.1=n-x)/\3=3/\FL d p d p/\3=3/\FL e q e q/\FH n n/\0=0/\x=f.1/\3=3/\FL (FK d e) (YA p q n x) (FK d e) (YA p q n f.1)/\3=3/\FL (FK Z Lm) (KP (Ft (Fb x) (H n)) a b) (FK d e) (YA p q n (f.1+1))/\Fs=Fs/\0=0/\f.2=0/\FH n n/\FH x f.1/\3=3/\FL (FK d e) (YA p q n x) (FK d e) (YA p q n f.1)/\FH (lR (FK d e) (YA p q n x)).length p.length/\0=H f.2/\119=119/\1=1/\(Fh d e x p q n=Fh d e f.1 p q n\/QC (Fh d e x p q n) (Fh d e f.1 p q n))/\Fy d e f p q n f=[]/\I)/\∀(f:C×C),f.1<n/\f.2<=F p->n-f.1=n-x->Fj (FO f) (H p.length) ((0<=FO f/\FO f<FQ (FK d e) (YA p q n f.1))/\∃(hZ:B)(o:C),FW (lR (FK d e) (YA p q n f.1)) (FO f) 3 [M hZ o]/\(0<=FO f/\FO f<FQ (FK d e) (YA p q n (f.1+1)))/\∃(ja:B)(t:C),FW (lR (FK d e) (YA p q n (f.1+1))) (FO f) 3 [M ja t]/\(0<=FO f/\FO f<FQ (FK d e) (YA p q n f.1))/\∃(jb:B)(w:C),FW (lR (FK d e) (YA p q n f.1)) (FO f) 3 [M jb w]/\(0<=FO f/\FO f<FQ (FK d e) (YA p q n (f.1+1)))/\∃(jc:B)(z:C),FW (lR (FK d e) (YA p q n (f.1+1))) (FO f) 3 [M jc z]/\F8 o t/\F8 w z/\((f.2+1)*80<=140737488355328/\f.2+1<=9223372036854775807)/\∃(g:C×C),((g.1<n/\g.2<=F p)/\n-g.1=n-x/\p.length-g.2<F p-f.2)/\3=3/\FL d p d p/\3=3/\FL e q e q/\FH n n/\0=0/\f.1=g.1/\3=3/\FL (FK d e) (YA p q n f.1) (FK d e) (YA p q n g.1)/\3=3/\FL (FK d e) (YA p q n (f.1+1)) (FK d e) (YA p q n (g.1+1))/\0=0/\f.2+1=g.2/\FH n n/\FH f.1 g.1/\3=3/\FL (FK d e) (YA p q n f.1) (FK d e) (YA p q n g.1)/\FH p.length p.length/\II f g/\119=119/\1=1/\(Fh d e f.1 p q n=Fh d e g.1 p q n\/QC (Fh d e f.1 p q n) (Fh d e g.1 p q n))/\113=113/\6=6/\(N f.2 (Fy d e f p q n f)++[FP (Qx hZ ja) (max o t) (Q6 jb jc) (max w z)]=Fy d e g p q n g\/QC (N f.2 (Fy d e f p q n f)++[FP (Qx hZ ja) (max o t) (Q6 jb jc) (max w z)]) (Fy d e g p q n g))/\I) (IL (f.1+1) 24 (f.1+1) (∃(g:C),(g<=n/\Fv=0/\n-g<n-x)/\3=3/\FL d p d p/\3=3/\FL e q e q/\FH n n/\0=0/\f.1+1=g/\3=3/\FL (FK d e) (YA p q n (f.1+1)) (FK d e) (YA p q n g)/\FH n n/\Fb f.1=H g/\119=119/\1=1/\(N f.1 (Fh d e f.1 p q n)++[[R 6 (N f.2 (T 0 (Fy d e f p q n f)))]]=Fh d e g p q n\/QC (N f.1 (Fh d e f.1 p q n)++[[R 6 (N f.2 (T 0 (Fy d e f p q n f)))]]) (Fh d e g p q n))/\I))) (K (AV.t [(D,[R 1 (N x (T 0 (Fh d e x p q n)))]),F3 (Zo U 0)])))) ?_
 delta FK FH Fw FL F3 FO FP Fv FQ FW Fb Fe Ft Fh Fj Fs Fy F8 IA II IK IL IQ IM
 try simp only[O,R0,R1,R4]
 obtain⟨⟨hd,he⟩,⟨hl,h3⟩,jg,jh⟩:=hc;simp only[Qw];have i: ∀k,(YA p q n k).length=F p:=fun k=>nJ hl n k;have rl: ∀k,(X0 p q n k).length=F p:=fun k=>by rw[X0,QFS (by rw[i,i]),i]
 have sl:(YB p q n).length=n:=by simp[YB]
 have je: ∀c (r:A (A Sp)),(rwN c r).length=F r:=fun c r=>by simp[rwN]
 refine QE (fun h=>by simp[hl]at h) (fun _=>QE (fun h=>(j7 h)) (fun _=>QE (fun h=>(j7 h)) (fun _=>QE (fun h=>(j7 h)) (fun _=>⟨d,p,e,q,rfl,rfl,⟨⟨⟨o3,o3⟩,o3,o3⟩,hl,o3,hd,he⟩,⟨0,o3,rfl,rfl,rfl,by simp[rwN]⟩,fun k hk=>QE (fun V=> ?_) (fun V=> ?_)⟩))))
 ·have V:k<n:=(j7 V)
  have ew:U.wrap ((k:L)+1)=((k+1:C):L):=by rw[w64 o3];omega
  rw[ew];refine⟨d,p,e,q,rfl,rfl,⟨⟨⟨o3,o3⟩,o3,o3⟩,hl,o3,hd,he⟩,⟨(k,0),⟨⟨V,o3⟩,rfl⟩,rfl,rfl,rfl,rfl,rfl,rfl,by rw[i],rfl,.inl rfl,o6⟩,fun y ⟨be,jf⟩ jd=> ?_⟩;obtain⟨m,j⟩:=y;have e':m=k:=by simp only at be jd;omega
  subst e';simp only at be jf jd|-;refine QE (fun S=> ?_) (fun S=> ?_)
  ·have S:j<F p:=(j7 S)
   obtain⟨u,hu⟩: ∃u,(YA p q n m)[j]? =G u:=⟨_,P (by rw[i];exact S)⟩
   obtain⟨v,hv⟩: ∃v,(YA p q n (m+1))[j]? =G v:=⟨_,P (by rw[i];exact S)⟩
   have hr:(X0 p q n m)[j]? =G ⟨Qx u v,Q6 u v⟩:=tO hu hv
   refine⟨by rw[i];omega,u,_,Xd ((j9 hu)),by rw[i];omega,v,_,Xd ((j9 hv)),by rw[i];omega,u,_,Xd ((j9 hu)),by rw[i];omega,v,_,Xd ((j9 hv)),o3,o3,⟨o3,o3⟩,(m,j+1),⟨⟨be,S⟩,rfl,o5⟩,rfl,rfl,rfl,rfl,rfl,rfl,by rw[w64 o3];simp,.inl rfl,.inl ?_⟩;rw[Q (by rw[X,Zs];omega),Zp,hr,Zy,C.max_self];rfl
  ·have S:j=F p:=(j8 S)
   refine⟨⟨o3,o3⟩,m+1,⟨V,o3⟩,rfl,rfl,by rw[ew],.inl ?_⟩;have e1:N j (X0 p q n m)=X0 p q n m:=Q (by rw[rl];omega);rw[e1,Zw,Q (l:=Y _ (X0 p q n m)) (by rw[X,rl];omega),Q (l:=rwN _ _) (by rw[je,Zs];omega),Zp,QJo p q V];unfold rwN;rw[Zy];rfl
 ·have V:k=n:=(j8 V)
  rw[Zw,Q (l:=rwN _ _) (by rw[je,Zs];omega),Q (by rw[sl];omega)];exact hK
def se:Ctr
 | [.x D [.s 3 x],.x D [.s 3 y],.x D [.v (.int .i64 N)]]=>G fun K=> ∃(d:C) (p:A B) (e:C) (q:A B) (n:C),x=lR d p/\y=lR e q/\N=(n:L)/\td d p e q n K
 | _=>J
theorem QRR:QH 62 se:=by
 refine okL func62 fun l T a K h=> ?_
 unfold se at a;split at a<;>cases a
 obtain⟨d,p,e,q,n,rfl,rfl,rfl,h⟩:=h;exact spL (QP QOj Qq Qb) QK func62 (QWK _ _ _ _ _ K h)
def gj:LC:=(62,se)::qg
theorem QOk:QF gj:= .cons QRR QOj
abbrev xN (a:ArmV)(b:C)(q:A B)(m:C)(ws:A (A (B×B)))(K:AV->Prop):Prop:=((QJ a)/\(b<=400/\q.length=F a.za)/\(m<=400000000)/\((∀w∈ws,QY w)/\ws.length<=20))/\(∀(c:A FrV) (f:FrV),c++[f]=XH (Xs a) a.za q->F c=F a.za->K (.t [(D,[.v (.bool (freeB (X6 c a.za) ws))]),(D,[.v (.int .i64 0)])]))
def Fg(a:ArmV):=a.za.length
def Fu(a:ArmV):=Y QA a.za
def F6(a:C->A (A (B×B))->Prop):=∃(z:C)(y:A (A (B×B))),a z y
def IB(a:A (B×B)->A (A (B×B))):=∀(z:A (B×B)),z∈a z->QY z
def F7(a b c d e f:ArmV):A Ch:=[Zm (Zq a.name),M b.x 63,M c.y 63,Zm (Zk d.half),M e.t 63,R 16 (Fu f)]
theorem QWM (a:ArmV)(b:C)(j:A B)(m:C)(ws:A (A (B×B)))(K:AV->Prop)(k:xN a b j m ws K):QM (QN (mkT gj M79 X4) (oF f12) noL f12 [JV a,sR b j,slA m ws] K):=by
 obtain⟨x,k⟩:=k;refine HV (∃(c:ArmV)(h:C)(q:A B),F7 a a a a a a=F7 c c c c c c/\FL b j h q/\(QJ c/\h<=400/\q.length=Fg c)/\∀(g:A FrV)(f:FrV),g++[f]=XH (Xs c) c.za q->F g=Fg c->F6 (fun n e=>FM m ws n e/\(n<=400000000/\IB (fun w=>e)/\e.length<=20)/\F6 (fun n l=>F6 (fun i d=>FM 115300000 (X6 g c.za) n l/\FM m ws i d/\((n<=400000000/\i<=400000000)/\(IB (fun s=>l)/\IB (fun w=>d))/\l.length<=100/\d.length<=100)/\Fx K (Zk (freeB l d)))))) ?_
 delta FL F3 FM Fg Fu Fx F6 IB F7
 try simp only[O,R0,R1,Zv,S,R4,R2,R3]
 obtain⟨o,⟨v,z⟩,t,u,p⟩:=x;have I:=o.n;exact⟨a,b,j,rfl,rfl,⟨o,v,z⟩,fun g f y r=>⟨m,ws,rfl,⟨t,u,p⟩,115300000,X6 g a.za,m,ws,rfl,rfl,⟨⟨o3,t⟩,⟨QMh o g,u⟩,by rw[Uu r];omega,o3⟩,k g f y r⟩⟩
def nb:Ctr
 | [.x E x,.x D [.s 3 y],.x D [.s 1 z]]=>G fun K=> ∃(a:ArmV) (b:C) (q:A B) (m:C) (ws:A (A (B×B))),x=Qp a/\y=lR b q/\z=shN m ws/\xN a b q m ws K
 | _=>J
theorem ok_cWalls:QH 12 nb:=by
 refine okL func12 fun l T c K h=> ?_
 unfold nb at c;split at c<;>cases c
 obtain⟨a,b,q,m,ws,rfl,rfl,rfl,h⟩:=h;exact spL (QP QOk Qq Qb) QK func12 (QWM _ _ _ _ _ K h)
def QeJ:LC:=(12,nb)::gj
theorem Qbh:QF QeJ:= .cons ok_cWalls QOk
def sE:LC:=QeJ
theorem xg:QF sE:=Qbh
abbrev wg (a:ArmV)(d:C)(p:A B)(e:C)(q:A B)(m:C)(ws:A (A (B×B)))(n:C)(K:AV->Prop):Prop:=((QJ a)/\(2*d+e+130<=400)/\(F p=F a.za/\q.length=F a.za)/\(m<=400000000)/\((∀w∈ws,QY w)/\ws.length<=20)/\(1<=n/\n<=50))/\(K (.t [(D,[.v (.bool (S6 a (YB p q n) ws))]),(D,[.v (.int .i64 0)])]))
def Fi:=63<=63
def Fm(a b:C)(c d:A B)(e:C):=rwN (FK a b) (YB c d e)
def IG(a:C×C)(b:ArmV)(c d:A B)(e:C)(f:C×C):=shN 126400000 (N a.2 (YF b (X0 c d e f.1)))
def IE(a:ArmV)(b c:A B)(d:C)(e:C×C):=Y (bx4 126400000) (Tw a (X0 b c d e.1))
theorem QRS (a:ArmV)(d:C)(p:A B)(e:C)(q:A B)(m:C)(ws:A (A (B×B)))(n:C)(K:AV->Prop)(hK:wg a d p e q m ws n K):QM (QN (mkT sE M79 X4) (oF f26) (QMf a d p e q m ws n) f26 [JV a,sR d p,sR e q,slA m ws,iA .i64 n] K):=by
 obtain⟨hc,hK⟩:=hK;refine HV (∃(L:ArmV),F7 a a a a a a=F7 L L L L L L/\(QJ L/\FH (lR d p).length (Fg L))/\∃(ja:C)(be:A B)(jb:C)(jc:A B)(At:C),FL d p ja be/\FL e q jb jc/\FH n At/\((ja<=1000000/\jb<=1000000)/\(F be=F jc/\be.length<=3)/\1<=At/\At<=50)/\F6 (fun jn hZ=>FM m ws jn hZ/\(jn<=400000000/\IB (fun w=>hZ)/\hZ.length<=20)/\(∃(x:C),((x<=n/\∀(v:C),v<x->freeB (YF a (X0 p q n v)) ws=E)/\Fe)/\1=1/\FM m ws m ws/\0=0/\1=1/\Fm ja jb be jc At=Fm d e p q n/\FH (Fm ja jb be jc At).length n/\0=H x/\34=34/\a.name=a.name/\a.x=a.x/\Fi/\a.y=a.y/\Fi/\a.half=a.half/\a.t=a.t/\Fi/\16=16/\Fu a=Fu a/\I)/\∀(x:C),(x<=n/\∀(u:C),u<x->freeB (YF a (X0 p q n u)) ws=E)->Fe->Fj (H x) (H n) ((0<=H x/\H x<Fw (Fm d e p q n))/\∃(ys:A (A Ch)),FW (Fm d e p q n) (H x) 1 [R 6 ys]/\∃(h:ArmV)(c:C)(ts:A Sp)(qs:A B),F7 a a a a a a=F7 h h h h h h/\ys=Y (spN c) ts/\(QJ h/\(c<=100000/\ts.length=Fg h)/\ts.length=F qs/\∀(i:C)(t:Sp)(q:B),ts[i]? =G t->qs[i]? =G q->t.lo<=q/\q<=t.hi)/\∀(Z:A LoV)(l:LoV),Z++[l]=XX (Xz h) h.za ts->F Z=Fg h->(∃(f:C×C),(((f.1<n/\∀(z:C),z<f.1->freeB (YF a (X0 p q n z)) ws=E)/\f.2<=Fg a)/\n-f.1=n-x)/\1=1/\FM m ws m ws/\0=0/\Fs=Fs/\0=0/\f.2=0/\1=1/\Fm d e p q n=Fm d e p q n/\FH n n/\FH x f.1/\12=12/\Y (bx4 126400000) (XP Z h.za)=IE a p q n f/\FH (Y (bx4 126400000) (XP Z h.za)).length (Fg a)/\0=H f.2/\34=34/\a.name=a.name/\a.x=a.x/\Fi/\a.y=a.y/\Fi/\a.half=a.half/\a.t=a.t/\Fi/\16=16/\Fu a=Fu a/\IG f a p q n f=[]/\I)/\∀(f:C×C),(f.1<n/\∀(y:C),y<f.1->freeB (YF a (X0 p q n y)) ws=E)/\f.2<=Fg a->n-f.1=n-x->Fj (FO f) (H (Fg a)) ((0<=FO f/\FO f<Fw (IE a p q n f))/\∃(ju:B)(Lm:C)(jv:B)(jq:C)(jw:B)(jr:C)(jx:B)(jt:C),FW (IE a p q n f) (FO f) 12 [M ju Lm,M jv jq,M jw jr,M jx jt]/\∃(g:C)(b:X9),[M ju Lm,M jv jq,M jw jr,M jx jt]=Fp b g b g b g b g/\g<=400000000/\IL (f.2+1) 24 (f.2+1) (∃(o:C×C),(((o.1<n/\∀(r:C),r<o.1->freeB (YF a (X0 p q n r)) ws=E)/\o.2<=Fg a)/\n-o.1=n-x/\Fg a-o.2<Fg a-f.2)/\1=1/\FM m ws m ws/\0=0/\0=0/\f.2+1=o.2/\1=1/\Fm d e p q n=Fm d e p q n/\FH n n/\FH f.1 o.1/\12=12/\IE a p q n f=IE a p q n o/\FH (Fg a) (Fg a)/\II f o/\34=34/\a.name=a.name/\a.x=a.x/\Fi/\a.y=a.y/\Fi/\a.half=a.half/\a.t=a.t/\Fi/\16=16/\Fu a=Fu a/\59=59/\1=1/\(N f.2 (IG f a p q n f)++[[R 6 [FP (b.x1,b.y1).1 g (b.x1,b.y1).2 g,FP (b.x2,b.y1).1 g (b.x2,b.y1).2 g,FP (b.x2,b.y2).1 g (b.x2,b.y2).2 g,FP (b.x1,b.y2).1 g (b.x1,b.y2).2 g]]]=shN 126400000 (N o.2 (YF a (X0 p q n o.1)))\/QC (N f.2 (IG f a p q n f)++[[R 6 [FP (b.x1,b.y1).1 g (b.x1,b.y1).2 g,FP (b.x2,b.y1).1 g (b.x2,b.y1).2 g,FP (b.x2,b.y2).1 g (b.x2,b.y2).2 g,FP (b.x1,b.y2).1 g (b.x1,b.y2).2 g]]]) (IG o a p q n o))/\I)) (F6 (fun Lm Z=>F6 (fun jm V=>N f.2 (T 0 (IG f a p q n f))=shN Lm Z/\FM m ws jm V/\((Lm<=400000000/\jm<=400000000)/\(IB (fun s=>Z)/\IB (fun w=>V))/\Z.length<=100/\V.length<=100)/\bif !freeB Z V then Fx K FZ else∃(o:C),((o<=n/\∀(k:C),k<o->freeB (YF a (X0 p q n k)) ws=E)/\Fv=0/\n-o<n-x)/\1=1/\FM m ws m ws/\0=0/\1=1/\Fm d e p q n=Fm d e p q n/\FH n n/\Fb f.1=H o/\34=34/\a.name=a.name/\a.x=a.x/\Fi/\a.y=a.y/\Fi/\a.half=a.half/\a.t=a.t/\Fi/\16=16/\Fu a=Fu a/\I)))) (Fx K IH))) ?_
 delta FK FH Fw FL F3 FO FM FP Fv FW FZ Fb Fe Fg Fu Fj Fs Fi Fm Fp Fx F6 IB F7 IG IE IH II IL
 try simp only[O,R0,R1,S,R4]
 obtain⟨hg,hB,⟨hp,hq⟩,hm,⟨hw,jC⟩,jf,jB⟩:=hc;have hn:=hg.n;have jh:p.length=F q:=o3
 have pl: ∀k,(YA p q n k).length=F p:=fun k=>nJ jh n k;have rl: ∀k,(X0 p q n k).length=F p:=fun k=>by rw[X0,QFS (by rw[pl,pl]),pl]
 have sl:(YB p q n).length=n:=by simp[YB]
 have jy: ∀c (r:A (A Sp)),(rwN c r).length=F r:=fun c r=>by simp[rwN]
 have jz: ∀n (l:A (A (B×B))),(shN n l).length=F l:=fun n l=>by simp[shN]
 have mi:=eM (a:=a) (p:=p) (q:=q) (n:=n) (ws:=ws);refine⟨a,rfl,⟨hg,by rw[Qw,hp]⟩,d,p,e,q,n,rfl,rfl,rfl,⟨⟨o3,o3⟩,⟨jh,o3⟩,jf,jB⟩,m,ws,rfl,⟨hm,hw,jC⟩,⟨0,⟨o3,fun j hj=>absurd hj o3⟩,rfl,by rw[jy,sl],rfl⟩,fun k ⟨hk,jk⟩=>QE (fun jg=> ?_) (fun jg=> ?_)⟩
 ·have W:k<n:=(j7 jg)
  have jd:HasQ (X0 p q n k) (YA p q n k):=cb jh jf jf (S _) (C.mul_le_mul_right _ o3);refine⟨by rw[jy,sl];omega,_,Qjz (by simpa using QJo p q W),a,2*d+e+130,X0 p q n k,YA p q n k,rfl,rfl,⟨hg,⟨o3,by rw[rl];omega⟩,jd⟩,fun Z l jA je=> ?_⟩;have eb:XP Z a.za=Tw a (X0 p q n k):=by unfold Tw;rw[<-jA,QMi je]
  have bl:(Tw a (X0 p q n k)).length=F a.za:=by rw[<-eb];exact U0 je
  have hPl:(YF a (X0 p q n k)).length=F a.za:=by unfold YF;rw[X];exact bl
  refine⟨⟨(k,0),⟨⟨⟨W,jk⟩,o3⟩,rfl⟩,rfl,rfl,by rw[eb],by rw[X,U0 je],rfl,by simp[shN]⟩,fun y ⟨⟨ji,jj⟩,jD⟩ jl=> ?_⟩;obtain⟨k',j⟩:=y;have e':k'=k:=by simp only at ji jl;omega
  subst e';simp only at ji jD jl jj|-;refine QE (fun hj=> ?_) (fun hj=> ?_)
  ·have hj:j<F a.za:=(j7 hj)
   obtain⟨u,hu⟩: ∃u,(Tw a (X0 p q n k'))[j]? =G u:=⟨_,P o3⟩
   have hP:(YF a (X0 p q n k'))[j]? =G (Xi (ZE u)):=by
    unfold Tw at hu;simp only[YF,Zz,hu];rfl
   refine⟨by rw[X,bl];omega,_,_,_,_,_,_,_,_,Qg8 ((j9 hu)),126400000,ZE u,rfl,o3,⟨o3,o3⟩,(k',j+1),⟨⟨⟨ji,jj⟩,hj⟩,rfl,o5⟩,rfl,rfl,rfl,by rw[w64 o3];simp,.inl ?_⟩;rw[Q (by rw[jz,Zs];omega),Zp,hP];unfold shN;rw[Zy];rfl
  ·have hj:j=F a.za:=(j8 hj)
   refine⟨126400000,YF a (X0 p q n k'),m,ws,?_,rfl,⟨⟨o3,hm⟩,⟨QWD hg jd (by rw[rl];omega),hw⟩,o3,o3⟩,QE (fun hF=> ?_) (fun hF=>⟨k'+1,⟨⟨W,fun i hi=> ?_⟩,o3⟩,by rw[w64 o3];simp⟩)⟩
   ·rw[Zw,Q (by rw[jz,Zs];omega),Q o3]
   ·have hF:freeB (YF a (X0 p q n k')) ws=D:=(j9 hF)
    have:S6 a (YB p q n) ws=D:=by
     cases hM:S6 a (YB p q n) ws with
     | false=>rfl
     | true=>rw[mi.1 hM k' W]at hF;cases hF
    rw[this]at hK;exact hK
   ·by_cases e:i<k'
    ·exact jj i e
    ·have e:i=k':=o3
     rw[e];simpa using hF
 ·have W:k=n:=(j8 jg)
  rw[mi.2 fun i hi=>jk i o3]at hK;exact hK
def pM:Ctr
 | [.x E x,.x D [.s 3 y],.x D [.s 3 z],.x D [.s 1 u],.x D [.v (.int .i64 N)]]=>G fun K=> ∃(a:ArmV) (d:C) (p:A B) (e:C) (q:A B) (m:C) (ws:A (A (B×B))) (n:C),x=Qp a/\y=lR d p/\z=lR e q/\u=shN m ws/\N=(n:L)/\wg a d p e q m ws n K
 | _=>J
theorem QMl:QH 26 pM:=by
 refine okL func26 fun l T b K h=> ?_
 unfold pM at b;split at b<;>cases b
 obtain⟨a,d,p,e,q,m,ws,n,rfl,rfl,rfl,rfl,rfl,h⟩:=h;exact spL (QP xg Qq Qb) QK func26 (QRS _ _ _ _ _ _ _ _ K h)
def sI:LC:=(26,pM)::sE
noncomputable def QlH:Qd:=mkT sI M79 X4
theorem Qbi:QF sI:= .cons QMl xg
end Go.Proofs
