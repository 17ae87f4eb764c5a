/- gantmake.zt, Poly; walls, clears. -/
import Derived.Test.YtmpfaflhpioaiaaGreatDoorCA
open _root_ renaming List → A, Int → B, Rat → C
open Bool renaming false → D
open List renaming length → E, all_eq_true → Zd, map → Zc, length_map → Ze
open Go.IntKind renaming i64 → F
open Go.Eng.Ch renaming r → Zb
set_option maxHeartbeats 1000000
set_option maxRecDepth 100000
namespace Go.Proofs
open Go Go.Eng
def ZI (n:Nat)(ps:A (C×C)):Blk:= .row 27 6 (ps.map (QS n))
def Tr:LC:=sI
theorem U2:QF Tr:=Qbi
def QWP:OT:=fun _=>([],[])
def gP0 (w h:B):A (C×C):=[at4 (-w) (-h),at4 w (-h),at4 w h,at4 (-w) h]
def gP1 (w h r:B):A (C×C):=[at4 (-w) (-h),at4 w (-h),at4 (r-w) h]
def gP2 (w h:B):A (C×C):=[at4 (-w-1) (-h-1),at4 w (-h-1),at4 (w+1) (-h),at4 (w+1) h,at4 (-w-1) h]
def gP3 (w h:B):A (C×C):=[at4 (-w) 0,at4 0 (-h),at4 w 0,at4 0 h]
theorem QRT:([1,2,3,4,5,6]:A B).all (fun w=>([1,2,3,4,5,6]:A B).all fun h=>HH (gP0 w h)&&HH (gP2 w h)&&HH (gP3 w h)&&(A.range (2*w+1).toNat).all fun(r:Nat)=>HH (gP1 w h (r:B)))=true:=j5
theorem QWQ {w h:B}(b:1<=w/\w<=6)(a:1<=h/\h<=6):QY (gP0 w h)/\QY (gP2 w h)/\QY (gP3 w h)/\ ∀r:B,0<=r->r<2*w+1->QY (gP1 w h r):=by
 have m: ∀{x:B},1<=x/\x<=6->x∈([1,2,3,4,5,6]:A B):=fun {x} e=>by
  have:x=1\/x=2\/x=3\/x=4\/x=5\/x=6:=o3
  simpa using this
 have k:=Zd.1 (Zd.1 QRT w (m b)) h (m a);simp only[Bool.and_eq_true]at k;refine⟨Wk k.1.1.1,Wk k.1.1.2,Wk k.1.2,fun r c d=> ?_⟩;have:=Zd.1 k.2 r.toNat (A.mem_range.2 o3);rw[(o3:((r.toNat:Nat):B)=r)]at this;exact Wk this
def IS(a:B):=F.wrap (1+a)
def Ia(a b:B):=F.wrap (a-IS b)
def IT(a:B):=Ia 0 a
def Ic(a:Prop)(b:B):=a/\b<9223372036854775808
def IZ(a b c d:B):A Ch:=[Zb (mkRat a 4,mkRat b 4).1 63,Zb (mkRat c 4,mkRat d 4).2 63]
def Ib(a b:B):=Ic (-9223372036854775808<a) b
def IU(a:B):=F.wrap (IT a-1)
def IV(a b c d:B):=IZ a (IS b) c (IS d)
def IX(a b c d:B):=IZ a (IT b) c (IT d)
def IW(a:B):=F.wrap (IS a+1)
def IY(a b c d:B):=Ib a b/\Ib c d
def Ie(a:A B):=E a<=9223372036854775807
def If(a:A (C×C)×A B->A B)(b:A (C×C)×A B->Nat)(c:A (C×C)×A B->A B)(d e:A (C×C)×A B->A (A Ch)):=∃(z:A (C×C)×A B),(QY z.1/\z.2.length<=(a z).length)/\0=0/\b z=E z.1/\70=70/\1=1/\ints (c z)=ints z.2/\27=27/\6=6/\(d z=Zc (QS 63) z.1\/QC (e z) (Zc (QS 63) z.1))/\True
def Ig:=Ic ((-9223372036854775808:B)<0) (0:B)
def Ih(a:B):=F.wrap (F.wrap (2*IS a)+1)
theorem Qbj (l:A B)(L:l.length<=9223372036854775807):QM (Xp (X:=A (C×C)×A B) (mkT Tr M79 X4) QWP noL Tryz.f56 [.x D [.p 1000 0]] [(1000,stB l)] (fun x=>QY x.1/\x.2.length<=E l) (fun x=>⟨[(2,.x D [.w 500 0 x.1.length])],[(1000,stB x.2),(500,ZI 63 x.1)]⟩)):=by
 refine HV (∃(b:A B),ints l=ints b/\Ic ((1:B)<=6) (6:B)/\Ie b/\∀(v:B)(u:A B),0<=v/\v<6->E u<=E b->∃(c:A B),ints u=ints c/\Ic ((1:B)<=6) (6:B)/\Ie c/\∀(z:B)(y:A B),0<=z/\z<6->E y<=E c->∃(d:A B),ints y=ints d/\Ic ((1:B)<=4) (4:B)/\Ie d/\∀(w:B)(t:A B),0<=w/\w<4->E t<=E d->bif w ==0 then IY (IT v) (IT v) (IT z) (IT z)/\IY (IS v) (IS v) (IT z) (IT z)/\IY (IS v) (IS v) (IS z) (IS z)/\IY (IT v) (IT v) (IS z) (IS z)/\If (fun x=>l) (fun q=>4) (fun x=>t) (fun x=>[IX (IT v) z (IT v) z,IX (IS v) z (IS v) z,IV (IS v) z (IS v) z,IV (IT v) z (IT v) z]) (fun x=>[IX (IT v) z (IT v) z,IX (IS v) z (IS v) z,IV (IS v) z (IS v) z,IV (IT v) z (IT v) z])else bif w ==1 then IY (IT v) (IT v) (IT z) (IT z)/\IY (IS v) (IS v) (IT z) (IT z)/\∃(e:A B),ints t=ints e/\Ic (1<=Ih v) (Ih v)/\Ie e/\∀(p:B)(n:A B),0<=p/\p<Ih v->E n<=E e->IY (Ia p v) (Ia p v) (IS z) (IS z)/\If (fun x=>l) (fun x=>3) (fun x=>n) (fun x=>[IX (IT v) z (IT v) z,IX (IS v) z (IS v) z,IV (Ia p v) z (Ia p v) z]) (fun x=>[IX (IT v) z (IT v) z,IX (IS v) z (IS v) z,IV (Ia p v) z (Ia p v) z])else bif w ==2 then IY (IU v) (IU v) (IU z) (IU z)/\IY (IS v) (IS v) (IU z) (IU z)/\IY (IW v) (IW v) (IT z) (IT z)/\IY (IW v) (IW v) (IS z) (IS z)/\IY (IU v) (IU v) (IS z) (IS z)/\If (fun x=>l) (fun x=>5) (fun x=>t) (fun x=>[IZ (IU v) (IU z) (IU v) (IU z),IZ (IS v) (IU z) (IS v) (IU z),IX (IW v) z (IW v) z,IV (IW v) z (IW v) z,IV (IU v) z (IU v) z]) (fun x=>[IZ (IU v) (IU z) (IU v) (IU z),IZ (IS v) (IU z) (IS v) (IU z),IX (IW v) z (IW v) z,IV (IW v) z (IW v) z,IV (IU v) z (IU v) z])else(Ib (IT v) (IT v)/\Ig)/\(Ig/\Ib (IT z) (IT z))/\(Ib (IS v) (IS v)/\Ig)/\(Ig/\Ib (IS z) (IS z))/\If (fun x=>l) (fun m=>4) (fun x=>t) (fun x=>[IZ (IT v) 0 (IT v) 0,IX 0 z 0 z,IZ (IS v) 0 (IS v) 0,IV 0 z 0 z]) (fun x=>[IZ (IT v) 0 (IT v) 0,IX 0 z 0 z,IZ (IS v) 0 (IS v) 0,IV 0 z 0 z])) ?_
 delta IS Ia IT Ic IZ Ib IU IV IX IW IY Ie If Ig Ih
 simp only[R0,R1];refine⟨l,rfl,o3,L,fun r O hr V=>⟨O,rfl,o3,o3,fun a P M W=>⟨P,rfl,o3,o3,fun r2 g N Y=> ?_⟩⟩⟩;obtain⟨R,T,U,S⟩:=QWQ (w:=1+r) (h:=1+a) o3 o3;have j:F.wrap (1+r)=1+r:=w64 o3;have k:F.wrap (1+a)=1+a:=w64 o3;have o:F.wrap (0-(1+r))= -(1+r):=by rw[w64 o3];omega
 have s:F.wrap (0-(1+a))= -(1+a):=by rw[w64 o3];omega
 have G:F.wrap (2*(1+r))=2*(1+r):=w64 o3;have H:F.wrap (2*(1+r)+1)=2*(1+r)+1:=w64 o3;have I:F.wrap (-(1+r)-1)= -(1+r)-1:=w64 o3;have J:F.wrap (-(1+a)-1)= -(1+a)-1:=w64 o3;have K:F.wrap (1+r+1)=1+r+1:=w64 o3;simp only[j,k,o,s,G,H,I,J,K];refine QE (fun _=>⟨o3,o3,o3,o3,(gP0 (1+r) (1+a),g),⟨R,o5⟩,rfl,rfl,.inl rfl⟩) (fun _=>QE (fun _=>⟨o3,o3,g,rfl,o3,o3,fun i Q f Z=> ?_⟩) (fun _=>QE (fun _=>⟨o3,o3,o3,o3,o3,(gP2 (1+r) (1+a),g),⟨T,o5⟩,rfl,rfl,.inl rfl⟩) (fun _=>⟨o3,o3,o3,o3,(gP3 (1+r) (1+a),g),⟨U,o5⟩,rfl,rfl,.inl rfl⟩)))
 rw[w64 (n:=i-(1+r)) o3];exact⟨o3,(gP1 (1+r) (1+a) i,Q),⟨S i f.1 f.2,o5⟩,rfl,rfl,.inl rfl⟩
def rH:XS:=fun a H d=>match a with
 | [.x D [.p k o]]=>match o with
  | 0=>match H k with
   | some (.box t [.s 1 z])=>match H d with
    | none=>bif t.beq 70 then
     some fun K=> ∃l,z=ints l/\l.length<=9223372036854775807/\ ∀(p:A (C×C)) (b:A B),QY p->E b<=E l->
      K (.x D [.w d 0 p.length]) (XW [(1000,k),(500,d)] (QO [(1000,stB b),(500,ZI 63 p)]) H)
     else none
    | some _=>none
   | _=>none
  | _+1=>none
 | _=>none
theorem QWR:Xg 56 rH:=by
 refine⟨Qf Tryz.func56 o4,fun l H d T a K g=> ?_⟩;unfold rH at a;split at a
 ·rename_i k o;split at a
  ·split at a
   ·rename_i t z j;split at a
    ·rename_i m;cases e:t.beq 70 with
     | false=>rw[e]at a;cases a
     | true=>
      rw[e]at a;cases a
      have q:=Nat.eq_of_beq_eq_true e;subst q;obtain⟨l,rfl,n,g⟩:=g;refine Xc (R:=[(1000,k)]) (N:=[(500,d)]) (Hl:=[(1000,stB l)]) (QP U2 Qq Qb) QK Tryz.func56 o4 o4 j6
       (as0:=[.x D [.p 1000 0]]) ?_ (Kk j rfl rfl) rfl o6 o6 (fun p c=>by simp at c;subst c;exact m) (fun x=>⟨fun p c=> ?_,fun p c b e=> ?_⟩) (Qbj l n) (fun x i=> ?_)
      ·simp[X7,X2,XZ,lkB]
      ·simp at c;subst c;exact fun h=>by have f:some (stB _)=none:=h;cases f
      ·simp at c;rcases c with rfl | rfl
       ·have f:some (stB _)=some b:=e;cases f;rfl
       ·have f:some (ZI _ _)=some b:=e;cases f;rfl
      ·exact⟨_,rfl,g _ _ i.1 i.2⟩
    ·cases a
   ·cases a
  ·cases a
 ·cases a
def cF:A (Nat×XS):=(56,rH)::M79
def mvP (v p:C×C):C×C:=(p.1+v.1,p.2+v.2)
structure Sr where
 ws:A (A (C×C))
 l:A B
 n:Nat
 ps:A (C×C)
 v:C×C
 j:Nat
structure Th (l:A B)(x:Sr):Prop where
 n:x.ws.length<=x.n/\x.n<=3
 ok: ∀w∈x.ws,QY w
 l:x.l.length<=l.length
def QRU (l:A B):LI:=fun i=>bif i.beq 4 then .inv ⟨Sr,fun x=>⟨[(3,.x D [.p 11 0]),(4,.x D [.w 500 0 x.ws.length]),(13,iA .i64 x.n),(14,iA .i64 x.ws.length)],[(11,stB x.l),(500,.row 59 1 (shN 127 x.ws))]⟩,Th l,fun x=>x.n-E x.ws,fun _=>0⟩
 else .inv ⟨Sr,fun x=>⟨[(3,.x D [.p 11 0]),(4,.x D [.w 500 0 x.ws.length]),(5,.x D [.w 501 0 x.j]),(6,.x D [.p 6 0]),(13,iA .i64 x.n),(14,iA .i64 x.ws.length),(32,sVv 63 x.ps),(33,iA .i64 x.ps.length),(34,iA .i64 x.j)],[(6,.box 27 (QS 63 x.v)),(11,stB x.l),(500,.row 59 1 (shN 127 x.ws)),(501,ZI 127 ((x.ps.take x.j).map (mvP x.v)))]⟩,fun x=>(Th l x/\x.ws.length<x.n)/\QY x.ps/\x.j<=E x.ps,fun x=>E x.ps-x.j,fun x=>x.n-E x.ws⟩
theorem Qbk {l:A (C×C)}(v:C×C)(h:QY l):QY (l.map (mvP v)):=by
 refine⟨by rw[Ze];exact h.lo,by rw[Ze];exact h.hi,fun i k a b c r m n e g=> ?_⟩;rw[Ze]at m e g;rw[A.getElem?_map]at n e g;obtain⟨o,d,rfl⟩:=Option.map_eq_some_iff.1 n;obtain⟨p,f,rfl⟩:=Option.map_eq_some_iff.1 e;obtain⟨q,j,rfl⟩:=Option.map_eq_some_iff.1 g;have:=h.left i k o p q r m d f j;unfold lft at this|-;unfold mvP;simp only;grind
theorem xC:XK cF:= .cons QWR Qq
theorem Qbl (l:A B)(c:(E l<=9223372036854775807))(K:AV->Prop)(h: ∀ps,QY ps->K (sVv 63 ps)):QM (QN (mkT Tr cF X4) (oF Tryz.f21) noL Tryz.f21 [.x D [.s 1 (ints l)]] K):=by
 refine HV (∃(a:A B),ints l=ints a/\Ie a/\∀(ps:A (C×C))(b:A B),QY ps->E b<=E a->K (AV.x D [Ch.s 6 (A.take ps.length (A.drop 0 (Zc (QS 63) ps)))])) ?_
 delta Ie
 try simp only[B.ofNat_eq_natCast,R0,R1,Nat.zero_add,Nat.le_refl,R4,R2,R3]
 refine⟨l,rfl,c,fun ps b d e=> ?_⟩;have:=h ps d;rw[A.drop_zero,A.take_of_length_le o6];exact this
def fL:Ctr
 | [.x D [.s 1 x]]=>some fun K=> ∃(l:A B),x=ints l/\((E l<=9223372036854775807))/\(∀p,QY p->K (sVv 63 p))
 | _=>none
theorem QWU:QH 21 fL:=by
 refine okL Tryz.func21 fun l T a K h=> ?_
 unfold fL at a;split at a<;>cases a
 obtain⟨l,rfl,b,h⟩:=h;exact spL (QP U2 xC Qb) QK Tryz.func21 (Qbl _ b K h)
def Qj0:LC:=(21,fL)::Tr
def Qj1:LC:=Qj0
noncomputable def QlI:Qd:=mkT Qj1 cF X4
end Go.Proofs
