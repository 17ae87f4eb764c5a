/- sturm: trim. -/
import Derived.Test.YtmpfaflhpioaiaaGreatDoorQA
open _root_ renaming List → A, Rat → C, Nat → F, Int → G, True → H, Option → N
open Option renaming some → B, none → J
open List renaming length → D, getElem?_eq_getElem → O, drop → Q, replicate → S, take → Zw, map → Zd, length_set → Zq, length_replicate → Zo, length_take → Zx, getD_eq_getElem?_getD → Zs, drop_eq_getElem_cons → Zt, drop_eq_nil_of_le → Zv
open Bool renaming false → E
open Int renaming ofNat → I, toNat_natCast → P, ofNat_eq_natCast → Zm
open Go.Eng.Ch renaming r → L, v → Zl
open Go.IntKind renaming i64 → M
open Nat renaming le_refl → T, zero_le → Zu, zero_add → Zy, eq_of_beq_eq_true → Zr
open Go.Value renaming string → Zf, bool → Zk
open ByteArray renaming mk → Zc
open Array renaming mk → Zg
set_option maxHeartbeats 1000000
set_option maxRecDepth 100000
namespace Go.Proofs
open Go Go.Eng Tryz
def XN (l:A C)(n i:F):A (A Ch):=lR 100000 (l.take i)++S (n-i) Xm
def uC (l:A C)(n i:F):Blk:= .row 25 3 (XN l n i)
structure TrX where
 n:F
 i:F
def QRw (p:A C):LI:=fun a=>
 bif a.beq 2 then .inv ⟨TrX,fun x=>⟨[(0,sR 100000 p),(3,iA .i64 x.n)],[]⟩,fun x=>x.n<=D p/\Xk p x.n=Xk p p.length,fun x=>x.n,fun _=>0⟩
 else .inv ⟨TrX,fun x=>⟨[(0,sR 100000 p),(4,.x E [.w 500 0 x.n]),(24,iA .i64 x.n),(25,iA .i64 x.i)],[(500,uC p x.n x.i)]⟩,fun x=>x.n=Xk p p.length/\x.i<=x.n,fun x=>x.n-x.i,fun _=>0⟩
def QNG (p:A C):LI:=fun a=>
 bif a.beq 2 then .inv ⟨TrX,fun x=>⟨[(0,.x E [.w 1000 0 p.length]),(3,iA .i64 x.n)],[(1000,YU 100000 p)]⟩,fun x=>x.n<=D p/\Xk p x.n=Xk p p.length,fun x=>x.n,fun _=>0⟩
 else .inv ⟨TrX,fun x=>⟨[(0,.x E [.w 1000 0 p.length]),(4,.x E [.w 500 0 x.n]),(24,iA .i64 x.n),(25,iA .i64 x.i)],[(500,uC p x.n x.i),(1000,YU 100000 p)]⟩,fun x=>x.n=Xk p p.length/\x.i<=x.n,fun x=>x.n-x.i,fun _=>0⟩
theorem Uh (p:A C): ∀n,Xk p n<=n
 | 0=>T _
 | n+1=>by
  unfold Xk;cases XY (p.getD n 0)==0 with
  | true=>exact F.le_succ_of_le (Uh p n)
  | false=>exact T _
theorem VN (p:A C):(QR p).length=Xk p p.length:=by
 unfold QR;rw[Zx,F.min_eq_left (Uh p _)]
theorem U3 (l:A C)(n:F):S n Xm=XN l n 0:=by simp[XN,lR]
variable{l:A C}{i n:F}
theorem Gg(h:i<=n)(a:n<=D l):(XN l n i).length=n:=by
 simp only[XN,A.length_append,Qw,Zx,Zo];omega
theorem Gh(_:n<=D l):XN l n n=lR 100000 (l.take n):=by simp[XN]
variable{q:C}
theorem Gi(b:l[i]? =B q)(h:i<n)(c:n<=D l):(XN l n i).set i [L q 100000]=XN l n (i+1):=by
 have a:(lR 100000 (l.take i)).length=i:=by rw[Qw,Zx];omega
 unfold XN;rw[A.set_append,if_neg o3,a,F.sub_self];obtain⟨k,hk⟩: ∃k,n-i=k+1:=⟨n-i-1,o3⟩;rw[hk,A.replicate_succ,A.set_cons_zero,(o3:n-(i+1)=k),A.take_add_one,b];simp[lR]
def O7(a:A C):=lR 100000 a
def Oa(a:A C):=Zd (fun(z:C)=>[L z 100000]) a
def Ol(a:A C):=I (O7 a).length
def Ob(a:TrX):=I a.n
def Oy:=Zc (Zg [])
def Oc(a:TrX):=I a.i
def O0(a:G):=M.wrap (a+1)
def Oe(a:A C)(b c:TrX):=XN a b.n c.i
def Oo(a:G):=0+a.toNat
def PD(a:F):=S a [Zl (Zk E),Zl (Zf Oy),Zl (Zf Oy)]
def Od(a:A C):=(QR a).length
def Og(a b:A C):=O7 a=O7 b
def Oh:=OfNat.ofNat 0=0
def Oi(a:A C):=Oa (QR a)
def PE(a b:A C):=Xk a b.length
def O1(a:A (A Ch))(b:G)(c:C):=a.set (Oo b) [L c 100000]
def O5(a:TrX):=(Ob a).toNat
def Ou(a:TrX)(b c:A C)(d e:TrX):=a.n=PE b c/\d.i<=e.n
def Ow(a b:G)(c:A C)(d:C->F->A C)(e:C->F->G)(f:C->F->Prop):=(0<=a/\b<Ol c)/\∃(z:C)(y:F),ldE (O7 (d z y)) (e z y).toNat 0 3=B [L z y]/\f z y
def Ox(a:Prop)(b c:F):=a/\OfNat.ofNat 0=0/\b<c
def O2(a b:G)(c d e f:A (A Ch)):=a=b/\25=25/\3=3/\(c=d\/QC e f)/\H
def Oz(a:F)(b:Prop):=a<=4294967296/\b
def O9(a:A C)(b c d:TrX)(e f:C):=O1 (Oe a b c) (Oc d) (Qx e f)
def PA(a:TrX):=PD (O5 a)
def PB(a:TrX):=M.wrap (Ob a-1)
def PF(a b c d e:G)(f:Prop):=(0<=a/\b<=c/\40*d<=281474976710656/\e<=9223372036854775807)/\f
def PI(a b:F)(c d e f:TrX)(g:A C)(h i:TrX)(j:TrX->Prop):=(a<=100000/\b<=100000)/\(0<=Oc c/\Oc d<Ob e)/\Oo (Oc f)<(Oe g h i).length/\∃(z:TrX),j z
theorem Qcc (p:A C)(Q:p.length<=1000):QM (Xp (X:=Unit) Qhu (oF f161) (QRw p) f161 [sR 100000 p] [] (fun _=>H) (fun _=>⟨[(2,.x E [.w 0 0 (QR p).length])],[(0,YU 100000 (QR p))]⟩)):=by
 refine HV ((∃(x:TrX),((x.n<=D p/\Xk p x.n=PE p p)/\Oh)/\3=3/\Og p p/\Ol p=Ob x/\H)/\∀(v:TrX),v.n<=D p/\Xk p v.n=PE p p->Oh->bif decide (Ob v>0)then Ow (PB v) (PB v) p (fun q n=>p) (fun q n=>PB v) (fun q n=>Oz n (bif XY q ==0 then∃(o:TrX),Ox (o.n<=D p/\Xk p o.n=PE p p) o.n v.n/\3=3/\Og p p/\PB v=Ob o/\H else PF (Ob v) (Ob v) (Ob v) (Ob v) (Ob v) ((∃(a:TrX),(Ou a p p a a/\Oh)/\3=3/\Og p p/\0=0/\O5 v=a.n/\I (O5 v)=Ob a/\O2 0 (Oc a) (PA v) (Oe p a a) (PA v) (Oe p a a))/\∀(u:TrX),Ou u p p u u->Oh->bif decide (Oc u<Ob u)then Ow (Oc u) (Oc u) p (fun q n=>p) (fun q n=>Oc u) (fun q n=>Ow (Oc u) (Oc u) p (fun f d=>p) (fun f d=>Oc u) (fun w z=>PI n z u u u u p u u (fun y=>Ox (Ou y p p y y) (y.n-y.i) (u.n-u.i)/\3=3/\Og p p/\0=0/\u.n=y.n/\Ob u=Ob y/\O2 (O0 (Oc u)) (Oc y) (O9 p u u u q w) (Oe p y y) (O9 p u u u q w) (Oe p y y))))else∃(t:Unit),H/\0=0/\u.n=Od p/\25=25/\3=3/\(Oe p u u=Oi p\/QC (Oe p u u) (Oi p))/\H)))else PF (Ob v) (Ob v) (Ob v) (Ob v) (Ob v) ((∃(a:TrX),(Ou a p p a a/\Oh)/\3=3/\Og p p/\0=0/\O5 v=a.n/\I (O5 v)=Ob a/\O2 0 (Oc a) (PA v) (Oe p a a) (PA v) (Oe p a a))/\∀(r:TrX),Ou r p p r r->Oh->bif decide (Oc r<Ob r)then Ow (Oc r) (Oc r) p (fun q n=>p) (fun q n=>Oc r) (fun q n=>Ow (Oc r) (Oc r) p (fun f d=>p) (fun f d=>Oc r) (fun k m=>PI n m r r r r p r r (fun l=>Ox (Ou l p p l l) (l.n-l.i) (r.n-r.i)/\3=3/\Og p p/\0=0/\r.n=l.n/\Ob r=Ob l/\O2 (O0 (Oc r)) (Oc l) (O9 p r r r q k) (Oe p l l) (O9 p r r r q k) (Oe p l l))))else∃(j:Unit),H/\0=0/\r.n=Od p/\25=25/\3=3/\(Oe p r r=Oi p\/QC (Oe p r r) (Oi p))/\H)) ?_
 delta O7 Oa Ol Ob Oy Oc O0 Oe Oo PD Od Og Oh Oi PE O1 O5 Ou Ow Ox O2 Oz O9 PA PB PF PI
 simp only[Zm,R0,R1,Zy,R4];simp only[Qw];have S:=Uh p p.length;refine⟨⟨⟨D p,0⟩,⟨T _,rfl⟩,rfl⟩,fun x ⟨R,F⟩=>QE (fun g=> ?_) (fun g=> ?_)⟩
 ·have g:0<x.n:=(j7 g)
  obtain⟨m,hm⟩: ∃m,x.n=m+1:=⟨x.n-1,o3⟩;have K:M.wrap ((x.n:G)-1)=(m:G):=by rw[w64 o3];omega
  obtain⟨q,hq⟩: ∃q,p[m]? =B q:=⟨_,O o3⟩
  have N:p.getD m 0=q:=by rw[Zs,hq];rfl
  have b:=F;rw[hm,Xk,N]at b;rw[K,P];refine⟨⟨o3,o3⟩,q,100000,Xd hq,o3,QE (fun h=>⟨⟨m,0⟩,⟨⟨o5,by rw[h]at b;exact b⟩,o5⟩,rfl⟩) (fun h=> ?_)⟩;rw[h]at b;have e:x.n=Xk p p.length:=by rw[hm];exact b
  refine⟨⟨o3,o3,o3,o3⟩,⟨⟨x.n,0⟩,⟨e,Zu _⟩,o5,o5,rfl,.inl (by rw[P];exact U3 p x.n)⟩,fun y ⟨c,s⟩=>QE (fun h=> ?_) (fun h=> ?_)⟩
  ·have h:y.i<y.n:=(j7 h)
   obtain⟨q,hq⟩: ∃q,p[y.i]? =B q:=⟨_,O o3⟩
   rw[P];refine⟨⟨o3,o3⟩,q,100000,Xd hq,⟨o3,o3⟩,q,100000,Xd hq,⟨o3,o3⟩,⟨o3,o3⟩,by rw[Gg o3 o3];omega,⟨y.n,y.i+1⟩,⟨⟨c,o5⟩,o5⟩,rfl,rfl,by rw[w64 o3];simp,.inl ?_⟩;rw[YR];exact Gi hq h o3
  ·have h:y.i=y.n:=(j8 h)
   exact⟨(),by rw[VN];exact c,.inl (by rw[h,Gh o3,c];rfl)⟩
 ·have g:x.n=0:=(j8 g)
  have e:x.n=Xk p p.length:=by rw[<-F,g];rfl
  refine⟨⟨o3,o3,o3,o3⟩,⟨⟨x.n,0⟩,⟨e,Zu _⟩,o5,o5,rfl,.inl (by rw[P];exact U3 p x.n)⟩,fun y ⟨c,s⟩=>QE (fun h=> ?_) (fun h=> ?_)⟩
  ·have h:y.i<y.n:=(j7 h)
   obtain⟨q,hq⟩: ∃q,p[y.i]? =B q:=⟨_,O o3⟩
   rw[P];refine⟨⟨o3,o3⟩,q,100000,Xd hq,⟨o3,o3⟩,q,100000,Xd hq,⟨o3,o3⟩,⟨o3,o3⟩,by rw[Gg o3 o3];omega,⟨y.n,y.i+1⟩,⟨⟨c,o5⟩,o5⟩,rfl,rfl,by rw[w64 o3];simp,.inl ?_⟩;rw[YR];exact Gi hq h o3
  ·have h:y.i=y.n:=(j8 h)
   exact⟨(),by rw[VN];exact c,.inl (by rw[h,Gh o3,c];rfl)⟩
def Of(a:A C):=I a.length
def Ot(a b c d e f g h:A (A Ch)):=(a=b\/QC c d)/\25=25/\3=3/\(e=f\/QC g h)/\H
theorem QXt (p:A C)(Q:p.length<=1000):QM (Xp (X:=Unit) Qhu (oF f161) (QNG p) f161 [.x E [.w 1000 0 p.length]] [(1000,YU 100000 p)] (fun _=>H) (fun _=>⟨[(2,.x E [.w 500 0 (QR p).length])],[(1000,YU 100000 p),(500,YU 100000 (QR p))]⟩)):=by
 refine HV ((∃(x:TrX),((x.n<=D p/\Xk p x.n=PE p p)/\Oh)/\0=0/\p.length=D p/\O2 (Of p) (Ob x) (Oa p) (Oa p) (Oa p) (Oa p))/\∀(v:TrX),v.n<=D p/\Xk p v.n=PE p p->Oh->bif decide (Ob v>0)then(0<=PB v/\PB v<Of p)/\∃(q:C)(n:F),ldE (Oa p) (Oo (PB v)) 0 3=B [L q n]/\Oz n (bif XY q ==0 then∃(j:TrX),Ox (j.n<=D p/\Xk p j.n=PE p p) j.n v.n/\0=0/\p.length=D p/\O2 (PB v) (Ob j) (Oa p) (Oa p) (Oa p) (Oa p)else PF (Ob v) (Ob v) (Ob v) (Ob v) (Ob v) ((∃(a:TrX),(Ou a p p a a/\Oh)/\0=0/\p.length=D p/\0=0/\O5 v=a.n/\I (O5 v)=Ob a/\0=Oc a/\25=25/\3=3/\Ot (PA v) (Oe p a a) (PA v) (Oe p a a) (Oa p) (Oa p) (Oa p) (Oa p))/\∀(u:TrX),Ou u p p u u->Oh->bif decide (Oc u<Ob u)then(0<=Oc u/\Oc u<Of p)/\∃(q:C)(n:F),ldE (Oa p) (Oo (Oc u)) 0 3=B [L q n]/\(0<=Oc u/\Oc u<Of p)/\∃(b:C)(d:F),ldE (Oa p) (Oo (Oc u)) 0 3=B [L b d]/\PI n d u u u u p u u (fun z=>Ox (Ou z p p z z) (z.n-z.i) (u.n-u.i)/\0=0/\p.length=D p/\0=0/\u.n=z.n/\Ob u=Ob z/\O0 (Oc u)=Oc z/\25=25/\3=3/\Ot (O9 p u u u q b) (Oe p z z) (O9 p u u u q b) (Oe p z z) (Oa p) (Oa p) (Oa p) (Oa p))else∃(y:Unit),H/\0=0/\u.n=Od p/\25=25/\3=3/\Ot (Oa p) (Oa p) (Oa p) (Oa p) (Oe p u u) (Oi p) (Oe p u u) (Oi p)))else PF (Ob v) (Ob v) (Ob v) (Ob v) (Ob v) ((∃(a:TrX),(Ou a p p a a/\Oh)/\0=0/\p.length=D p/\0=0/\O5 v=a.n/\I (O5 v)=Ob a/\0=Oc a/\25=25/\3=3/\Ot (PA v) (Oe p a a) (PA v) (Oe p a a) (Oa p) (Oa p) (Oa p) (Oa p))/\∀(w:TrX),Ou w p p w w->Oh->bif decide (Oc w<Ob w)then(0<=Oc w/\Oc w<Of p)/\∃(q:C)(n:F),ldE (Oa p) (Oo (Oc w)) 0 3=B [L q n]/\(0<=Oc w/\Oc w<Of p)/\∃(b:C)(d:F),ldE (Oa p) (Oo (Oc w)) 0 3=B [L b d]/\PI n d w w w w p w w (fun t=>Ox (Ou t p p t t) (t.n-t.i) (w.n-w.i)/\0=0/\p.length=D p/\0=0/\w.n=t.n/\Ob w=Ob t/\O0 (Oc w)=Oc t/\25=25/\3=3/\Ot (O9 p w w w q b) (Oe p t t) (O9 p w w w q b) (Oe p t t) (Oa p) (Oa p) (Oa p) (Oa p))else∃(r:Unit),H/\0=0/\w.n=Od p/\25=25/\3=3/\Ot (Oa p) (Oa p) (Oa p) (Oa p) (Oe p w w) (Oi p) (Oe p w w) (Oi p))) ?_
 delta Oa Ob Oy Of Oc O0 Oe Oo PD Od Oh Oi PE O1 O5 Ou Ot Ox O2 Oz O9 PA PB PF PI
 simp only[Zm,R0,R1,Zy,R4,R2];have S:=Uh p p.length;refine⟨⟨⟨D p,0⟩,⟨T _,rfl⟩,rfl⟩,fun x ⟨R,s⟩=>QE (fun g=> ?_) (fun g=> ?_)⟩
 ·have g:0<x.n:=(j7 g)
  obtain⟨m,hm⟩: ∃m,x.n=m+1:=⟨x.n-1,o3⟩;have K:M.wrap ((x.n:G)-1)=(m:G):=by rw[w64 o3];omega
  obtain⟨q,hq⟩: ∃q,p[m]? =B q:=⟨_,O o3⟩
  have N:p.getD m 0=q:=by rw[Zs,hq];rfl
  have c:=s;rw[hm,Xk,N]at c;rw[K,P];refine⟨⟨o3,o3⟩,q,100000,Xd hq,o3,QE (fun h=>⟨⟨m,0⟩,⟨⟨o5,by rw[h]at c;exact c⟩,o5⟩,rfl⟩) (fun h=> ?_)⟩;rw[h]at c;have e:x.n=Xk p p.length:=by rw[hm];exact c
  refine⟨⟨o3,o3,o3,o3⟩,⟨⟨x.n,0⟩,⟨e,Zu _⟩,o5,o5,rfl,.inl (by rw[P];exact U3 p x.n)⟩,fun y ⟨f,o⟩=>QE (fun h=> ?_) (fun h=> ?_)⟩
  ·have h:y.i<y.n:=(j7 h)
   obtain⟨q,hq⟩: ∃q,p[y.i]? =B q:=⟨_,O o3⟩
   rw[P];refine⟨⟨o3,o3⟩,q,100000,Xd hq,⟨o3,o3⟩,q,100000,Xd hq,⟨o3,o3⟩,⟨o3,o3⟩,by rw[Gg o3 o3];omega,⟨y.n,y.i+1⟩,⟨⟨f,o5⟩,o5⟩,rfl,rfl,by rw[w64 o3];simp,.inl ?_⟩;rw[YR];exact Gi hq h o3
  ·have h:y.i=y.n:=(j8 h)
   exact⟨(),by rw[VN];exact f,.inl (by rw[h,Gh o3,f];rfl)⟩
 ·have g:x.n=0:=(j8 g)
  have e:x.n=Xk p p.length:=by rw[<-s,g];rfl
  refine⟨⟨o3,o3,o3,o3⟩,⟨⟨x.n,0⟩,⟨e,Zu _⟩,o5,o5,rfl,.inl (by rw[P];exact U3 p x.n)⟩,fun y ⟨f,o⟩=>QE (fun h=> ?_) (fun h=> ?_)⟩
  ·have h:y.i<y.n:=(j7 h)
   obtain⟨q,hq⟩: ∃q,p[y.i]? =B q:=⟨_,O o3⟩
   rw[P];refine⟨⟨o3,o3⟩,q,100000,Xd hq,⟨o3,o3⟩,q,100000,Xd hq,⟨o3,o3⟩,⟨o3,o3⟩,by rw[Gg o3 o3];omega,⟨y.n,y.i+1⟩,⟨⟨f,o5⟩,o5⟩,rfl,rfl,by rw[w64 o3];simp,.inl ?_⟩;rw[YR];exact Gi hq h o3
  ·have h:y.i=y.n:=(j8 h)
   exact⟨(),by rw[VN];exact f,.inl (by rw[h,Gh o3,f];rfl)⟩
variable{k:F}
theorem QXu {H:HP}{d:F}{b b':Blk}(hk:H k=B b)(c:H d=J):XW [(1000,k),(500,d)] (QO [(1000,b),(500,b')]) H=upd H d (B b'):=by
 have f:d≠k:=fun h=>by subst h;rw[hk]at c;cases c
 funext j;unfold XW;simp only[lkB];cases h:j.beq k with
 | true=>
  have:=Zr h;subst this;rw[Qc _ _ (fun h=>f h.symm),hk];rfl
 | false=>
  simp only[R8];cases a:j.beq d with
  | true=>
   have:=Zr a;subst this;rw[QT];rfl
  | false=>
   have:j≠d:=fun e=>by subst e;simp at a
   rw[Qc _ _ this];rfl
theorem wX {H:HP}{d:F}{b:Blk}:XW [(0,d)] (QO [(0,b)]) H=upd H d (B b):=by
 funext j;unfold XW;simp only[lkB];cases h:j.beq d with
 | true=>
  have:=Zr h;subst this;rw[QT];rfl
 | false=>
  have:j≠d:=fun e=>by subst e;simp at h
  rw[Qc _ _ this];rfl
def r8:XS:=fun a H d=>match a with
  | [.x E [c]]=>match c with
    | .s 3 x=>match H d with
      | none=>B fun K=> ∃p:A C,x=lR 100000 p/\p.length<=1000/\K (.x E [.w d 0 (QR p).length]) (upd H d (B (YU 100000 (QR p))))
      | some _=>J
    | .w k o n=>match o with
      | 0=>match H k with
        | some (.row t 3 x)=>match H d with
          | none=>bif t.beq 25 then B fun K=> ∃p:A C,x=lR 100000 p/\n=D p/\p.length<=1000/\K (.x E [.w d 0 (QR p).length]) (upd H d (B (YU 100000 (QR p))))else J
          | some _=>J
        | _=>J
      | _+1=>J
    | _=>J
  | _=>J
theorem QRx:Xg 161 r8:=by
 refine⟨Qf func161 o4,fun l H d T a K e=> ?_⟩;unfold r8 at a;split at a
 ·split at a
  ·split at a
   ·rename_i j;cases a
    obtain⟨p,rfl,m,e⟩:=e;exact WW QXm QK func161 o4 o4 j6 rfl j rfl (Qcc p m) (by rw[show QO [(0,Blk.row _ 3 (Zd (fun q=>[L q 100000]) (QR p)))]=QO [(0,YU 100000 (QR p))]from rfl,wX];exact e)
   ·cases a
  ·split at a
   ·split at a
    ·split at a
     ·rename_i k n _ _ t u o _ j;cases f:t.beq 25 with
      | false=>rw[f]at a;cases a
      | true=>
       rw[f]at a;cases a
       have r:=Zr f;subst r;obtain⟨p,rfl,rfl,m,e⟩:=e;refine Xc (R:=[(1000,k)]) (N:=[(500,d)]) (Hl:=[(1000,YU 100000 p)]) QXm QK func161 o4 o4 j6
        (as0:=[.x E [.w 1000 0 p.length]]) ?_ (Kk o rfl rfl) rfl o6 o6 (fun q c=>by simp at c;subst c;exact j) (fun x=>⟨fun q c=> ?_,fun q c b f=> ?_⟩) (QXt p m) (fun x s=>⟨_,rfl,?_⟩)
       ·simp[X7,X2,XZ,lkB]
       ·simp at c;subst c;exact fun h=>by have g:B (YU _ _)=J:=h;cases g
       ·simp at c;rcases c with rfl | rfl
        ·have g:B (YU _ _)=B b:=f;cases g;rfl
        ·have g:B (YU _ _)=B b:=f;cases g;rfl
       ·show K _ (XW [(1000,k),(500,d)] (QO [(1000,YU 100000 p),(500,YU 100000 (QR p))]) H)
        rw[QXu (b:=YU 100000 p) o j];exact e
     ·cases a
    ·cases a
   ·cases a
  ·cases a
 ·cases a
def Ww:A (F×XS):=(161,r8)::M79
theorem YC:XK Ww:= .cons QRx Qq
structure EvX where
 i:F
 s:C
 deriving Inhabited
theorem bind_some {b c:Type}{o:N b}{f:b->N c}{r:c}(h:o.bind f=B r): ∃a,o=B a/\f a=B r:=N.bind_eq_some_iff.1 h
theorem bU(h:l[i]? =B q):l.getD i 0=q:=by rw[Zs,h];rfl
theorem Vi(h:k=D l):((Zd (fun q=>[L q n]) l).drop 0).take k=lR n l:=by
 subst h;rw[A.drop_zero,show Zd (fun q=>[L q n]) l=lR n l from rfl,<-Qw n l,A.take_length]
theorem Qh1:Zw l.length (Zd (fun q=>[L q n]) l)++[[L q n]]=Zd (fun q=>[L q n]) (l++[q]):=by
 rw[A.take_of_length_le o6,A.map_append];rfl
variable{z:A Ch}
theorem QKD:(lR 100000 l++S n z).length=D l+n:=by rw[A.length_append,Qw,Zo]
theorem QKE(h:i=D l)(a:0<n):(lR 100000 l++S n z).set i [L q 100000]=lR 100000 (l++[q])++S (n-1) z:=by
 subst h;obtain⟨k,rfl⟩: ∃k,n=k+1:=⟨n-1,o3⟩;rw[A.set_append_right _ _ (by rw[Qw];exact T _),Qw,F.sub_self,A.replicate_succ,A.set_cons_zero,F.add_sub_cancel];simp[lR]
theorem KY (p:A C):(QR p).length<=D p:=by rw[VN];exact Uh p _
theorem QXv {c:C}: ∀{l:A C} {j:F} {r a:A C},TT c l j r=B a->D a=D r:=by
 intro l;induction l with
 | nil=>intro j r a h;cases h;rfl
 | cons x l b=>
  intro j r a h;rw[TT]at h;obtain⟨u,_,h⟩:=bind_some h;obtain⟨v,_,h⟩:=bind_some h;rw[b h,Zq]
theorem Qcd {a b:F}(h:a<=1000)(c:b<=1000):(bif true then if M.wrap (M.wrap ((a:G)-b)+1)>0 then M.wrap (M.wrap ((a:G)-b)+1)else 0 else if M.wrap (M.wrap ((a:G)-b)+1)<0 then M.wrap (M.wrap ((a:G)-b)+1)else 0)=((a+1-b:F):G):=by
 rw[R7,w64 (by omega: -9223372036854775808<=(a:G)-b/\(a:G)-b<9223372036854775808),w64 o3];split<;>omega
theorem Qh2(h:k=n):lR 100000 (S n q)++S (k-n) z=Zd (fun q=>[L q 100000]) (S n q):=by
 subst h;rw[F.sub_self,A.replicate_zero,A.append_nil];rfl
def QRy (p:A C)(x:C)(n:F)(r:C):LI:=fun _=> .inv ⟨EvX,fun e=>⟨[(0,sR 100000 p),(3,.x E [.p 3 0]),(4,.x E [.p 4 0]),(5,.x E [.p 5 0]),(6,iA .i64 ((e.i:G)-1))],[(3,.box 25 [.r x n]),(4,.box 25 Xm),(5,.box 25 [.r e.s 100000])]⟩,fun e=>e.i<=D p/\evN p x e.i e.s=B r,fun e=>e.i,fun _=>0⟩
def PC(a:A C):=M.wrap (Ol a-1)
def PH:=(0:G)
def PL:G:=-9223372036854775808
theorem Qce (p:A C)(x:C)(n:F)(r:C)(w:(D p<=1000/\n<=100000)/\(Tb p x=B r))(K:AV->Prop)(t:K (rA r 100000)):QM (QN (mkT eP Ww X4) (oF f160) (QRy p x n r) f160 [sR 100000 p,rA x n] K):=by
 refine HV (((PL:G)<=0/\PH<9223372036854775808)/\(∃(a:EvX),((a.i<=D p/\evN p x a.i a.s=B r)/\Oh)/\3=3/\Og p p/\0=0/\0=0/\0=0/\PC p=I a.i-1/\25=25/\x=x/\n<=n/\25=25/\E=E/\Oy=Oy/\Oy=Oy/\25=25/\↑PH=a.s/\100000<=100000/\H)/\∀(a:EvX),a.i<=D p/\evN p x a.i a.s=B r->Oh->bif decide (I a.i-1>=0)then Ow (I a.i-1) (I a.i-1) p (fun q c=>p) (fun q c=>I a.i-1) (fun q c=>Oz (100000+n) (∃(g:C),JX a.s x=B g/\Oz (100000+c+1) (∃(j:C),VM g q=B j/\∃(f:EvX),Ox (f.i<=D p/\evN p x f.i f.s=B r) f.i a.i/\3=3/\Og p p/\0=0/\0=0/\0=0/\M.wrap (I a.i-1-1)=I f.i-1/\25=25/\x=x/\n<=n/\25=25/\E=E/\Oy=Oy/\Oy=Oy/\25=25/\j=f.s/\100000<=100000/\H)))else K (AV.x true [L a.s 100000])) ?_
 delta O7 Ol Oy Og Oh Ow Ox Oz PC PH PL
 try simp only[Zm,R0,R1,T,R4]
 obtain⟨⟨P,Q⟩,h⟩:=w;simp only[Qw];refine⟨o3,⟨⟨D p,0⟩,⟨T _,h⟩,by rw[w64 o3],rfl⟩,fun e ⟨N,b⟩=>QE (fun d=> ?_) (fun d=> ?_)⟩
 ·have d:0<e.i:=(j7 d)
  obtain⟨m,hm⟩: ∃m,e.i=m+1:=⟨e.i-1,o3⟩;obtain⟨q,hq⟩: ∃q,p[m]? =B q:=⟨_,O o3⟩
  have s:((e.i:G)-1).toNat=m:=o3
  rw[hm,evN,bU hq]at b;obtain⟨u,y,b⟩:=bind_some b;obtain⟨v,o,b⟩:=bind_some b;refine⟨o3,q,100000,by rw[s];exact Xd hq,o3,u,y,o3,v,o,⟨m,v⟩,⟨⟨o5,b⟩,o5⟩,by rw[w64 o3];show(e.i:G)-1-1=(m:G)-1;omega,rfl⟩
 ·have d:e.i=0:=(j8 d)
  rw[d]at b;cases b
  exact t
def nD:Ctr
 | [.x E [.s 3 a],.x true [.r x n]]=>B fun K=> ∃(p:A C) (r:C),a=lR 100000 p/\((D p<=1000/\n<=100000)/\(Tb p x=B r))/\(K (rA r 100000))
 | _=>J
theorem QXw:QH 160 nD:=by
 refine okL func160 fun l T a K h=> ?_
 unfold nD at a;split at a<;>cases a
 obtain⟨p,r,rfl,b,h⟩:=h;exact spL (QP nM YC Qb) QK func160 (Qce _ _ _ _ b K h)
def ph:LC:=(160,nD)::eP
theorem QO8:QF ph:= .cons QXw nM
structure DeX where
 i:F
 acc:A C
def QXy (p a:A C):LI:=fun _=> .inv ⟨DeX,fun e=>⟨[(0,sR 100000 p),(3,.x E [.w 500 0 e.acc.length]),(4,iA .i64 e.i)],[(500,YU 100000 e.acc)]⟩,fun e=>(1<=e.i/\e.i<=D p+1/\e.acc.length+1=e.i)/\Hq (p.drop e.i) e.i e.acc=B a,fun e=>D p+1-e.i,fun _=>0⟩
def Ov(a:DeX):=a.acc.length
def PN:=Value.slice J 0 0
theorem Qh3 (p:A C)(a:A C)(j:(D p<=1000)/\(Hq (p.drop 1) 1 []=B a))(K:AV->Prop)(g:K (sR 100000 (QR a))):QM (QN (mkT ph Ww X4) (oF f185) (QXy p a) f185 [sR 100000 p] K):=by
 refine HV ((∃(x:DeX),(((1<=x.i/\x.i<=D p+1/\Ov x+1=x.i)/\Hq (Q x.i p) x.i x.acc=B a)/\Oh)/\3=3/\Og p p/\PN=PN/\0=0/\Ov x=0/\1=I x.i/\Oa x.acc=[]/\H)/\∀(x:DeX),(1<=x.i/\x.i<=D p+1/\Ov x+1=x.i)/\Hq (Q x.i p) x.i x.acc=B a->Oh->bif decide (I x.i<Ol p)then Ow (I x.i) (I x.i) p (fun q n=>p) (fun q n=>I x.i) (fun q n=>(PL<=I x.i/\I x.i<9223372036854775808)/\Oz (100000+n) (∃(r:C),JX ↑(I x.i) q=B r/\((Ov x+1)*40<=140737488355328/\Ov x+1<=9223372036854775807)/\∃(b:DeX),Ox ((1<=b.i/\b.i<=D p+1/\Ov b+1=b.i)/\Hq (Q b.i p) b.i b.acc=B a) (D p+1-b.i) (D p+1-x.i)/\3=3/\Og p p/\0=0/\Ov x+1=Ov b/\O2 (O0 (I x.i)) (I b.i) (Zw (Ov x) (Oa x.acc)++[[L r 100000]]) (Oa b.acc) (Zw (Ov x) (Oa x.acc)++[[L r 100000]]) (Oa b.acc)))else∃(p:A C),Oa x.acc=O7 p/\Ov x=D p/\p.length<=1000/\K (AV.x E [Ch.s 3 (Zw (Od p) (Q 0 (Oi p)))])) ?_
 delta O7 Oa Ol O0 Od Og Oh Oi Ow Ox Ov O2 Oz PL PN
 try simp only[Zm,R0,R1,R4]
 obtain⟨v,h⟩:=j;simp only[Qw];refine⟨⟨⟨1,[]⟩,⟨⟨T _,o5,rfl⟩,h⟩,rfl,rfl,rfl⟩,fun e ⟨⟨o,s,t⟩,d⟩=>QE (fun c=> ?_) (fun c=> ?_)⟩
 ·have c:e.i<D p:=(j7 c)
  obtain⟨q,hq⟩: ∃q,p[e.i]? =B q:=⟨_,O o3⟩
  have f:p.drop e.i=q::p.drop (e.i+1):=by
   rw[Zt c];congr 1;rw[O c]at hq;exact N.some.inj hq
  rw[f,Hq]at d;obtain⟨u,m,d⟩:=bind_some d;refine⟨o3,q,100000,by rw[P];exact Xd hq,o3,o3,u,m,⟨o3,o3⟩,⟨e.i+1,e.acc++[u]⟩,⟨⟨⟨o5,o5,o9⟩,d⟩,o5⟩,o6,by rw[w64 o3];simp,.inl Qh1⟩
 ·have c:p.length<=e.i:=(j8 c)
  rw[Zv c]at d;cases d
  exact⟨e.acc,rfl,rfl,o3,by rw[Vi rfl];exact g⟩
def rY:Ctr
 | [.x E [.s 3 x]]=>B fun K=> ∃(p:A C) (a:A C),x=lR 100000 p/\((D p<=1000)/\(Hq (p.drop 1) 1 []=B a))/\(K (sR 100000 (QR a)))
 | _=>J
theorem Qcf:QH 185 rY:=by
 refine okL func185 fun l T a K h=> ?_
 unfold rY at a;split at a<;>cases a
 obtain⟨p,b,rfl,c,h⟩:=h;exact spL (QP QO8 YC Qb) QK func185 (Qh3 _ _ c K h)
def nz:LC:=(185,rY)::ph
theorem QO9:QF nz:= .cons Qcf QO8
structure ScX where
 i:F
 acc:A C
def uu (a:A C)(n:F):Blk:= .row 25 3 (lR 100000 a++S n Xm)
def QX0 (p a:A C):LI:=fun _=> .inv ⟨ScX,fun e=>⟨[(0,sR 100000 p),(3,.x E [.w 500 0 p.length]),(9,sR 100000 p),(10,iA .i64 p.length),(11,iA .i64 e.i)],[(500,uu e.acc (D p-e.i))]⟩,fun e=>(e.i<=D p/\e.acc.length=e.i)/\scF (Xr (Ue p)) (p.drop e.i) e.acc=B a,fun e=>D p-e.i,fun _=>0⟩
def O8(a:ScX)(b:A C)(c:ScX):=O7 a.acc++PD (D b-c.i)
theorem Qh4 (p:A C)(a:A C)(y:(D p<=1000)/\(JZ p=B a))(K:AV->Prop)(w:K (sR 100000 a)):QM (QN (mkT nz Ww X4) (oF f186) (QX0 p a) f186 [sR 100000 p] K):=by
 refine HV (PF (Ol p) (Ol p) (Ol p) (Ol p) (Ol p) ((∃(x:ScX),(((x.i<=D p/\x.acc.length=x.i)/\scF (Xr (Ue p)) (Q x.i p) x.acc=B a)/\Oh)/\3=3/\Og p p/\0=0/\(Ol p).toNat=D p/\3=3/\Og p p/\Ol p=Of p/\O2 0 (I x.i) (PD (Ol p).toNat) (O8 x p x) (PD (Ol p).toNat) (O8 x p x))/\∀(x:ScX),(x.i<=D p/\x.acc.length=x.i)/\scF (Xr (Ue p)) (Q x.i p) x.acc=B a->Oh->bif decide (I x.i<Of p)then Ow (I x.i) (I x.i) p (fun q n=>p) (fun q n=>I x.i) (fun q n=>Ow (PC p) (PC p) p (fun f d=>p) (fun f d=>PC p) (fun f d=>d<=100000/\Oz (n+100000) (∃(r:C),TI q (Xr f)=B r/\(0<=I x.i/\I x.i<Of p)/\Oo (I x.i)<(O8 x p x).length/\∃(b:ScX),Ox ((b.i<=D p/\b.acc.length=b.i)/\scF (Xr (Ue p)) (Q b.i p) b.acc=B a) (D p-b.i) (D p-x.i)/\3=3/\Og p p/\0=0/\p.length=D p/\3=3/\Og p p/\Of p=Of p/\O2 (O0 (I x.i)) (I b.i) (O1 (O8 x p x) (I x.i) r) (O8 b p b) (O1 (O8 x p x) (I x.i) r) (O8 b p b))))else K (AV.x E [Ch.s 3 (Zw p.length (Q 0 (O8 x p x)))]))) ?_
 delta O7 Ol Oy Of O0 Oo PD Og Oh O1 Ow Ox O2 Oz O8 PC PF
 try simp only[Zm,R0,R1,Zy,R4]
 obtain⟨S,h⟩:=y;simp only[Qw,P,R0];refine⟨⟨o3,o3,o3⟩,⟨⟨0,[]⟩,⟨⟨Zu _,rfl⟩,h⟩,rfl,.inl (by simp[lR])⟩,fun e ⟨⟨R,v⟩,g⟩=>QE (fun c=> ?_) (fun c=> ?_)⟩
 ·have c:e.i<D p:=(j7 c)
  obtain⟨q,hq⟩: ∃q,p[e.i]? =B q:=⟨_,O o3⟩
  obtain⟨z,hz⟩: ∃z,p[D p-1]? =B z:=⟨_,O o3⟩
  have s:p.drop e.i=q::p.drop (e.i+1):=by
   rw[Zt c];congr 1;rw[O c]at hq;exact N.some.inj hq
  have j:Ue p=z:=bU hz;have t:(M.wrap ((D p:G)-1))=((D p-1:F):G):=by rw[w64 o3];omega
  rw[s,scF,j]at g;obtain⟨u,H,g⟩:=bind_some g;rw[t,P];refine⟨o3,q,100000,Xd hq,⟨o3,o3⟩,z,100000,Xd hz,o3,o3,u,H,o3,by rw[QKD];omega,⟨e.i+1,e.acc++[u]⟩,⟨⟨⟨o5,o9⟩,by rw[j];exact g⟩,o5⟩,by rw[w64 o3];simp,.inl ?_⟩;rw[QKE v.symm o3,(o3:p.length-e.i-1=D p-(e.i+1))]
 ·have c:p.length<=e.i:=(j8 c)
  rw[Zv c]at g;cases g
  have m:p.length-e.i=0:=o3
  have o:p.length=D e.acc:=o3
  rw[m,A.replicate_zero,A.append_nil];have:Zw p.length (Q 0 (lR 100000 e.acc))=lR 100000 e.acc:=Vi o;rw[this];exact w
def fO:Ctr
 | [.x E [.s 3 x]]=>B fun K=> ∃(p:A C) (a:A C),x=lR 100000 p/\((D p<=1000)/\(JZ p=B a))/\(K (sR 100000 a))
 | _=>J
theorem Qcg:QH 186 fO:=by
 refine okL func186 fun l T a K h=> ?_
 unfold fO at a;split at a<;>cases a
 obtain⟨p,b,rfl,c,h⟩:=h;exact spL (QP QO9 YC Qb) QK func186 (Qh4 _ _ c K h)
def rv:LC:=(186,fO)::nz
theorem QPA:QF rv:= .cons Qcg QO9
structure DvX where
 n:F
 k:F
 j:F
 zo:A C
 rest:A C
 c:C
 r1:A C
def QX2 (p q:A C)(R:A C×A C):LI:=fun a=>
 bif a.beq 4 then .inv ⟨DvX,fun e=>⟨[(1,sR 100000 q),(4,.x E [.w 500 0 e.n]),(5,.x E [.w 501 0 (QR p).length]),(21,iA .i64 e.n),(22,iA .i64 e.j)],[(500,uu (S e.j 0) (e.n-e.j)),(501,YU 100000 (QR p))]⟩,
  fun e=>e.n=(QR p).length+1-D q/\e.j<=e.n,fun e=>e.n-e.j,fun _=>0⟩
 else bif a.beq 8 then .inv ⟨DvX,fun e=>⟨[(1,sR 100000 q),(4,.x E [.w 500 0 e.zo.length]),(5,.x E [.w 501 0 e.rest.length])],[(500,YU 100000 e.zo),(501,YU 100000 e.rest)]⟩,
  fun e=>(D e.zo=(QR p).length+1-D q/\e.rest.length<=(QR p).length)/\Hr q e.n e.zo e.rest=B R,fun e=>e.n,fun _=>0⟩
 else .inv ⟨DvX,fun e=>⟨[(1,sR 100000 q),(4,.x E [.w 500 0 e.zo.length]),(5,.x E [.w 501 0 e.rest.length]),(7,iA .i64 e.k),(59,sR 100000 q),(60,iA .i64 q.length),(61,iA .i64 e.j)],[(500,YU 100000 e.zo),(501,YU 100000 e.rest)]⟩,
  fun e=>((D e.zo=(QR p).length+1-D q/\e.rest.length<=(QR p).length)/\e.k+D q=D e.rest/\e.j<=D q)/\e.zo[e.k]? =B e.c/\TT e.c (q.drop e.j) (e.k+e.j) e.rest=B e.r1/\Hr q e.n e.zo (QR e.r1)=B R,fun e=>D q-e.j,fun e=>e.n+1⟩
abbrev vC (p:A C)(q:A C)(R:A C×A C)(K:AV->Prop):Prop:=((D p<=1000/\(1<=D q/\q.length<=1000))/\(JJ p q=B R))/\(K (.t [(E,[.s 3 (lR 100000 R.1)]),(E,[.s 3 (lR 100000 R.2)])]))
def PJ(a b:A C):=O0 (M.wrap (Of (QR a)-Ol b))
def Oj(a:DvX):=I a.j
def On(a:DvX):=Oa a.rest
def Om(a:DvX):=a.rest.length
def Ok(a:DvX):=Oa a.zo
def Oq(a:DvX):=a.zo.length
def O3(a b c:DvX):=O7 (S a.j (OfNat.ofNat 0))++PD (b.n-c.j)
def O4(a b c d e f g h:A C):=bif true then if PJ a b>0 then PJ c d else 0 else if PJ e f<0 then PJ g h else 0
def O6(a b:DvX):=M.wrap (I a.k+Oj b)
def PG(a:DvX)(b:A C):=M.wrap (Of a.rest-Ol b)
def PK(a:DvX):=M.wrap (Of a.rest-1)
theorem Qh5 (p:A C)(q:A C)(R:A C×A C)(K:AV->Prop)(hK:vC p q R K):QM (QN (mkT rv Ww X4) (oF f187) (QX2 p q R) f187 [sR 100000 p,sR 100000 q] K):=by
 obtain⟨hc,hK⟩:=hK;refine HV (∃(b:A C),Og p b/\b.length<=1000/\PF (O4 b q b q b q b q) (O4 b q b q b q b q) (O4 b q b q b q b q) (O4 b q b q b q b q) (O4 b q b q b q b q) ((∃(x:DvX),((x.n=Od p+1-D q/\x.j<=x.n)/\Oh)/\3=3/\Og q q/\0=0/\(O4 b q b q b q b q).toNat=x.n/\0=0/\Od b=Od p/\I (O4 b q b q b q b q).toNat=I x.n/\0=Oj x/\25=25/\3=3/\Ot (PD (O4 b q b q b q b q).toNat) (O3 x x x) (PD (O4 b q b q b q b q).toNat) (O3 x x x) (Oi b) (Oi p) (Oi b) (Oi p))/\∀(x:DvX),x.n=Od p+1-D q/\x.j<=x.n->Oh->bif decide (Oj x<I x.n)then((PL:G)<=0/\PH<9223372036854775808)/\(0<=Oj x/\Oj x<I x.n)/\Oo (Oj x)<(O3 x x x).length/\∃(e:DvX),Ox (e.n=Od p+1-D q/\e.j<=e.n) (e.n-e.j) (x.n-x.j)/\3=3/\Og q q/\0=0/\x.n=e.n/\0=0/\Od p=Od p/\I x.n=I e.n/\O0 (Oj x)=Oj e/\25=25/\3=3/\Ot (O1 (O3 x x x) (Oj x) ↑PH) (O3 e e e) (O1 (O3 x x x) (Oj x) ↑PH) (O3 e e e) (Oi p) (Oi p) (Oi p) (Oi p)else(∃(a:DvX),(((Oq a=Od p+1-D q/\Om a<=Od p)/\Hr q a.n a.zo a.rest=B R)/\Oh)/\3=3/\Og q q/\0=0/\x.n=Oq a/\0=0/\Od p=Om a/\25=25/\3=3/\Ot (O3 x x x) (Ok a) (O3 x x x) (Ok a) (Oi p) (On a) (Oi p) (On a))/\∀(x:DvX),(Oq x=Od p+1-D q/\Om x<=Od p)/\Hr q x.n x.zo x.rest=B R->Oh->bif decide (Of x.rest>=Ol q)then(0<=PK x/\PK x<Of x.rest)/\∃(At:C)(n:F),ldE (On x) (Oo (PK x)) 0 3=B [L At n]/\Ow (PC q) (PC q) q (fun U H=>q) (fun U H=>PC q) (fun U H=>Oz (n+H) (∃(r:C),TI At U=B r/\(0<=PG x q/\PG x q<Of x.zo)/\Oo (PG x q)<(Ok x).length/\(∃(a:DvX),((((Oq a=Od p+1-D q/\Om a<=Od p)/\a.k+D q=Om a/\a.j<=D q)/\a.zo[a.k]? =B a.c/\TT a.c (Q a.j q) (a.k+a.j) a.rest=B a.r1/\Hr q a.n a.zo (QR a.r1)=B R)/\a.n+1=x.n)/\3=3/\Og q q/\0=0/\Oq x=Oq a/\0=0/\Om x=Om a/\PG x q=I a.k/\3=3/\Og q q/\Ol q=Of q/\0=Oj a/\25=25/\3=3/\Ot (O1 (Ok x) (PG x q) r) (Ok a) (O1 (Ok x) (PG x q) r) (Ok a) (On x) (On a) (On x) (On a))/\∀(a:DvX),((Oq a=Od p+1-D q/\Om a<=Od p)/\a.k+D q=Om a/\a.j<=D q)/\a.zo[a.k]? =B a.c/\TT a.c (Q a.j q) (a.k+a.j) a.rest=B a.r1/\Hr q a.n a.zo (QR a.r1)=B R->a.n+1=x.n->bif decide (Oj a<Of q)then Ow (Oj a) (Oj a) q (fun V n=>q) (fun V n=>Oj a) (fun V n=>(0<=O6 a a/\O6 a a<Of a.rest)/\∃(Lm:C)(Y:F),ldE (On a) (Oo (O6 a a)) 0 3=B [L Lm Y]/\(0<=I a.k/\I a.k<Of a.zo)/\∃(be:C)(Z:F),ldE (Ok a) (Oo (I a.k)) 0 3=B [L be Z]/\Oz (Z+n) (∃(r:C),JX be V=B r/\Oz (Y+100000+1) (∃(W:C),K5 Lm r=B W/\(0<=O6 a a/\O6 a a<Of a.rest)/\Oo (O6 a a)<(On a).length/\∃(e:DvX),((((Oq e=Od p+1-D q/\Om e<=Od p)/\e.k+D q=Om e/\e.j<=D q)/\e.zo[e.k]? =B e.c/\TT e.c (Q e.j q) (e.k+e.j) e.rest=B e.r1/\Hr q e.n e.zo (QR e.r1)=B R)/\e.n+1=x.n/\q.length-e.j<D q-a.j)/\3=3/\Og q q/\0=0/\Oq a=Oq e/\0=0/\Om a=Om e/\I a.k=I e.k/\3=3/\Og q q/\Of q=Of q/\O0 (Oj a)=Oj e/\25=25/\3=3/\Ot (Ok a) (Ok e) (Ok a) (Ok e) (O1 (On a) (O6 a a) W) (On e) (O1 (On a) (O6 a a) W) (On e))))else∃(s:A C),On a=O7 s/\Om a=D s/\s.length<=1000/\∃(e:DvX),Ox ((Oq e=Od p+1-D q/\Om e<=Od p)/\Hr q e.n e.zo e.rest=B R) e.n x.n/\3=3/\Og q q/\0=0/\Oq a=Oq e/\0=0/\Od s=Om e/\25=25/\3=3/\Ot (Ok a) (Ok e) (Ok a) (Ok e) (Oi s) (On e) (Oi s) (On e)))else K (AV.t [(E,[Ch.s 3 (Zw (Oq x) (Q 0 (Ok x)))]),(E,[Ch.s 3 (Zw (Om x) (Q 0 (On x)))])]))) ?_
 delta O7 Oa Ol Oy Of O0 PJ Oo PD Od Oj Og Oh Oi On Om Ok O1 Oq Ot Ow Ox Oz O3 O4 O6 PC PF PG PH PL PK
 try simp only[Zm,R0,R1,Zy,R4,R2]
 obtain⟨hl,h⟩:=hc;obtain⟨hp,jh,hq⟩:=hl;have tl:=KY p;refine⟨p,rfl,hp,?_⟩;simp only[Qw];rw[Qcd o3 hq];simp only[P,R0,R2,R1];refine⟨⟨o3,o3,o3⟩,⟨⟨(QR p).length+1-D q,0,0,[],[],0,[]⟩,⟨rfl,Zu _⟩,by and_intros<;>first | trivial | rfl | exact .inl rfl | exact .inl (by simp[lR])⟩,fun x ⟨X,ji⟩=>QE (fun o=> ?_) (fun o=> ?_)⟩
 ·have o:x.j<x.n:=(j7 o)
  refine⟨o3,o3,by rw[QKD,Zo];omega,⟨x.n,0,x.j+1,[],[],0,[]⟩,⟨⟨X,o5⟩,o5⟩,rfl,rfl,by rw[w64 o3];simp,.inl ?_⟩;rw[QKE o6 o3,(o3:x.n-x.j-1=x.n-(x.j+1)),A.replicate_succ'];rfl
 ·have o:x.n=x.j:=(j8 o)
  refine⟨⟨⟨FU,0,0,S x.j 0,QR p,0,[]⟩,⟨⟨by simp only[Zo];omega,T _⟩,?_⟩,by simp only[Zo];omega,rfl,.inl (Qh2 o),.inl rfl⟩,fun y ⟨⟨jf,jg⟩,j⟩=>QE (fun o=> ?_) (fun o=> ?_)⟩
  ·rw[<-o,X];exact h
  ·have o:q.length<=D y.rest:=(j7 o)
   obtain⟨z,hz⟩: ∃z,y.rest[D y.rest-1]? =B z:=⟨_,O o3⟩
   obtain⟨d,hd⟩: ∃d,q[D q-1]? =B d:=⟨_,O o3⟩
   have hZ:(M.wrap ((D y.rest:G)-1))=((D y.rest-1:F):G):=by rw[w64 o3];omega
   have ja:(M.wrap ((D q:G)-1))=((D q-1:F):G):=by rw[w64 o3];omega
   have jb:(M.wrap ((D y.rest:G)-D q))=((D y.rest-D q:F):G):=by rw[w64 o3];omega
   obtain⟨n,hn⟩: ∃n,y.n=n+1:=by
    cases u:y.n with
    | zero=>rw[u]at j;cases j
    | succ n=>exact⟨n,rfl⟩
   rw[hn,Hr,F.ble_eq_true_of_le o]at j;simp only[R7]at j;obtain⟨c,hc,j⟩:=bind_some j;obtain⟨r1,jd,j⟩:=bind_some j;rw[show Ue y.rest=z from bU hz,show Ue q=d from bU hd]at hc;rw[hZ,ja,jb];simp only[P,A.length_map];refine⟨o3,z,100000,Xd hz,o3,d,100000,Xd hd,o3,c,hc,o3,o3,⟨⟨n,D y.rest-D q,0,y.zo.set (D y.rest-D q) c,y.rest,c,r1⟩,⟨⟨⟨⟨by simp only[Zq];exact jf,jg⟩,o5,Zu _⟩,?_,jd,j⟩,hn.symm⟩,by and_intros<;>first | trivial | rfl | exact .inl rfl | exact .inl (by rw[A.map_set]) | (simp only[Zq])⟩,fun v ⟨⟨⟨v1,v2⟩,v3,v4⟩,v5,t,v7⟩ je=>QE (fun o=> ?_) (fun o=> ?_)⟩
   ·simp only;rw[A.getElem?_set_self o3]
   ·have o:v.j<D q:=(j7 o)
    obtain⟨f,hf⟩: ∃f,q[v.j]? =B f:=⟨_,O o3⟩
    obtain⟨g,hg⟩: ∃g,v.rest[v.k+v.j]? =B g:=⟨_,O o3⟩
    have ed:q.drop v.j=f::q.drop (v.j+1):=by
     rw[Zt o];congr 1;rw[O o]at hf;exact N.some.inj hf
    have jc:(M.wrap ((v.k:G)+v.j))=((v.k+v.j:F):G):=by rw[w64 o3];omega
    have vk:=(A.getElem?_eq_some_iff.1 v5).1;rw[ed,TT,bU hg]at t;obtain⟨m,hm,t⟩:=bind_some t;obtain⟨w,hw,t⟩:=bind_some t;rw[jc];simp only[P];exact⟨o3,f,100000,Xd hf,o3,g,100000,Xd hg,o3,v.c,100000,Xd v5,o3,m,hm,o3,w,hw,o3,o3,⟨v.n,v.k,v.j+1,v.zo,v.rest.set (v.k+v.j) w,v.c,v.r1⟩,⟨⟨⟨⟨v1,by simp only[Zq];exact v2⟩,by simp only[Zq];omega,o5⟩,v5,by rw[(o3:v.k+(v.j+1)=v.k+v.j+1)];exact t,v7⟩,je,o5⟩,rfl,by simp only[Zq],rfl,by rw[w64 o3];simp,.inl rfl,.inl (by rw[A.map_set])⟩
   ·have o:q.length<=v.j:=(j8 o)
    rw[Zv o]at t;have t:=N.some.inj t;rw[<-t]at v7;exact⟨v.rest,rfl,rfl,o3,⟨v.n,0,0,v.zo,QR v.rest,0,[]⟩,⟨⟨⟨v1,by simp only;exact F.le_trans (KY _) v2⟩,v7⟩,o5⟩,by and_intros<;>first | trivial | rfl | exact .inl rfl⟩
  ·have o: ¬q.length<=D y.rest:=(j8 o)
   have:F.ble q.length y.rest.length=E:=by
    cases hb:F.ble q.length y.rest.length with
    | false=>rfl
    | true=>exact absurd (F.le_of_ble_eq_true hb) o
   cases u:y.n with
   | zero=>rw[u]at j;cases j
   | succ n=>
    rw[u,Hr,this]at j;cases j
    rw[Vi rfl,Vi rfl];exact hK
def m6:Ctr
 | [.x E [.s 3 x],.x E [.s 3 y]]=>B fun K=> ∃(p:A C) (q:A C) (R:A C×A C),x=lR 100000 p/\y=lR 100000 q/\vC p q R K
 | _=>J
theorem Qch:QH 187 m6:=by
 refine okL func187 fun l T a K h=> ?_
 unfold m6 at a;split at a<;>cases a
 obtain⟨p,q,R,rfl,rfl,h⟩:=h;exact spL (QP QPA YC Qb) QK func187 (Qh5 _ _ _ K h)
def nK:LC:=(187,m6)::rv
noncomputable def QeX:Qd:=mkT nK Ww X4
theorem uO:QF nK:= .cons Qch QPA
theorem Qci:Qr QeX:=QP uO YC Qb
end Go.Proofs
