/- Sets of all numbers between two numbers: plain laws. -/
import Derived.Test.YtfhfenokfkenoaaGreatDoorFL
open Rat renaming le_trans → Za, not_le → Zc, le_refl → Zd, mul_pos → Ze
open Classical renaming byContradiction → Zb
namespace Go.Proofs
open Go Go.Eng
structure Sp where
 lo:Rat
 hi:Rat
def Sp.has (s:Sp)(x:Rat):Prop:=s.lo<=x/\x<=s.hi
def Sp.sub (s t:Sp):Prop:=t.lo<=s.lo/\s.hi<=t.hi
def HJ (a:Rat):Sp:=⟨a,a⟩
def QCc (s t:Sp):Sp:=⟨s.lo+t.lo,s.hi+t.hi⟩
def QSd (s t:Sp):Sp:=⟨s.lo-t.hi,s.hi-t.lo⟩
def Jm (s t:Sp):Sp:=⟨Qm (Qm (Qm (s.lo*t.lo) (s.lo*t.hi)) (s.hi*t.lo)) (s.hi*t.hi),Qz (Qz (Qz (s.lo*t.lo) (s.lo*t.hi)) (s.hi*t.lo)) (s.hi*t.hi)⟩
def WU (s:Sp)(x:Rat):Bool:=decide (s.lo<=x)&&decide (x<=s.hi)
def QHB (s:Sp):Sp:=⟨bif WU s 0 then 0 else Qm (s.lo*s.lo) (s.hi*s.hi),Qz (s.lo*s.lo) (s.hi*s.hi)⟩
def GK (s t:Sp):Sp:=⟨Qm s.lo t.lo,Qz s.hi t.hi⟩
def Vk (p:Rat)(d:Nat):Rat:=mkRat (p*(d:Rat)).floor d
def upR (p:Rat)(d:Nat):Rat:= -Vk (-p) d
def QSe (s:Sp)(d:Nat):Sp:=⟨Vk s.lo d,upR s.hi d⟩
def QAA (s:Sp):Sp:=⟨Qz (QSe s 1000000).lo (-1),Qm (QSe s 1000000).hi 1⟩
def QAZ (a:Rat):Rat:=(1-a)/(1+a)
def QCd (t:Sp):Sp:=⟨QAZ (QHB t).hi,QAZ (QHB t).lo⟩
def Wq (t:Sp):Sp:=GK (HJ (Qd false t.lo)) (HJ (Qd false t.hi))
def WO (t:Sp)(s:Sp)(a:Rat):Sp:=bif WU t a then GK s (HJ a)else s
def Wr (t:Sp):Sp:=WO t (WO t (Wq t) (-1)) 1
theorem Wc (a b:Rat):Qm a b<=a:=by unfold Qm;split<;>grind
theorem KW (a b:Rat):Qm a b<=b:=by unfold Qm;split<;>grind
theorem QNb {a b c:Rat}(h1:c<=a)(h2:c<=b):c<=Qm a b:=by unfold Qm;split<;>assumption
theorem Wd (a b:Rat):a<=Qz a b:=by unfold Qz;split<;>grind
theorem KX (a b:Rat):b<=Qz a b:=by unfold Qz;split<;>grind
theorem QXX {a b c:Rat}(h1:a<=c)(h2:b<=c):Qz a b<=c:=by unfold Qz;split<;>assumption
theorem Sp.has.ok {s:Sp}{x:Rat}(h:s.has x):s.lo<=s.hi:=Za h.1 h.2
theorem Sp.has.sub {s t:Sp}{x:Rat}(h:s.has x)(k:s.sub t):t.has x:=⟨Za k.1 h.1,Za h.2 k.2⟩
theorem QFH {s:Sp}{x:Rat}:WU s x=true↔s.has x:=by
 unfold WU Sp.has;simp
theorem YK (a:Rat):(HJ a).has a:=⟨Zd,Zd⟩
theorem V3 {s t:Sp}{x y:Rat}(h:s.has x)(k:t.has y):(QCc s t).has (x+y):=by
 obtain⟨h1,h2⟩:=h;obtain⟨k1,k2⟩:=k;exact⟨by show s.lo+t.lo<=_;grind,by show _<=s.hi+t.hi;grind⟩
theorem QFI {s t:Sp}{x y:Rat}(h:s.has x)(k:t.has y):(QSd s t).has (x-y):=by
 obtain⟨h1,h2⟩:=h;obtain⟨k1,k2⟩:=k;exact⟨by show s.lo-t.hi<=_;grind,by show _<=s.hi-t.lo;grind⟩
theorem JI {a b:Rat}(h:0<=a)(k:0<=b):0<=a*b:=Rat.mul_nonneg h k
theorem QHC {p a b x y:Rat}(h1:p<=a*y)(h2:p<=b*y)(ha:a<=x)(hb:x<=b):p<=x*y:=by
 rcases @Rat.le_total 0 y with h | h
 ·have:=JI (show 0<=x-a by grind) h;grind
 ·have:=JI (show 0<=b-x by grind) (show 0<= -y by grind);grind
theorem QHD {p a b x y:Rat}(h1:a*y<=p)(h2:b*y<=p)(ha:a<=x)(hb:x<=b):x*y<=p:=by
 rcases @Rat.le_total 0 y with h | h
 ·have:=JI (show 0<=b-x by grind) h;grind
 ·have:=JI (show 0<=x-a by grind) (show 0<= -y by grind);grind
theorem QSf {p a b x y:Rat}(h1:p<=y*a)(h2:p<=y*b)(ha:a<=x)(hb:x<=b):p<=y*x:=by
 rw[Rat.mul_comm]at h1 h2⊢;exact QHC h1 h2 ha hb
theorem QSg {p a b x y:Rat}(h1:y*a<=p)(h2:y*b<=p)(ha:a<=x)(hb:x<=b):y*x<=p:=by
 rw[Rat.mul_comm]at h1 h2⊢;exact QHD h1 h2 ha hb
theorem Xq {s t:Sp}{x y:Rat}(h:s.has x)(k:t.has y):(Jm s t).has (x*y):=by
 obtain⟨h1,h2⟩:=h;obtain⟨k1,k2⟩:=k;have tr:=fun {a b c:Rat} (h:a<=b) (k:b<=c)=>Za h k;have a1:=Wc (Qm (Qm (s.lo*t.lo) (s.lo*t.hi)) (s.hi*t.lo)) (s.hi*t.hi);have a2:=KW (Qm (Qm (s.lo*t.lo) (s.lo*t.hi)) (s.hi*t.lo)) (s.hi*t.hi);have a3:=Wc (Qm (s.lo*t.lo) (s.lo*t.hi)) (s.hi*t.lo);have a4:=KW (Qm (s.lo*t.lo) (s.lo*t.hi)) (s.hi*t.lo);have a5:=Wc (s.lo*t.lo) (s.lo*t.hi);have a6:=KW (s.lo*t.lo) (s.lo*t.hi);have b1:=Wd (Qz (Qz (s.lo*t.lo) (s.lo*t.hi)) (s.hi*t.lo)) (s.hi*t.hi);have b2:=KX (Qz (Qz (s.lo*t.lo) (s.lo*t.hi)) (s.hi*t.lo)) (s.hi*t.hi)
 have b3:=Wd (Qz (s.lo*t.lo) (s.lo*t.hi)) (s.hi*t.lo);have b4:=KX (Qz (s.lo*t.lo) (s.lo*t.hi)) (s.hi*t.lo);have b5:=Wd (s.lo*t.lo) (s.lo*t.hi);have b6:=KX (s.lo*t.lo) (s.lo*t.hi);refine⟨QSf (QHC (tr a1 (tr a3 a5)) (tr a1 a4) h1 h2) (QHC (tr a1 (tr a3 a6)) a2 h1 h2) k1 k2,QSg (QHD (tr (tr b5 b3) b1) (tr b4 b1) h1 h2) (QHD (tr (tr b6 b3) b1) b2 h1 h2) k1 k2⟩
theorem QJO {s:Sp}{x:Rat}(h:s.has x):(QHB s).has (x*x):=by
 obtain⟨h1,h2⟩:=h;have hx:=UM x;have hm:x*x<=Qz (s.lo*s.lo) (s.hi*s.hi):=by
  have b1:=Wd (s.lo*s.lo) (s.hi*s.hi);have b2:=KX (s.lo*s.lo) (s.hi*s.hi);rcases @Rat.le_total 0 x with h | h
  ·have:=JI (show 0<=s.hi-x by grind) (show 0<=s.hi+x by grind);grind
  ·have:=JI (show 0<=x-s.lo by grind) (show 0<= -x-s.lo by grind);grind
 refine⟨?_,hm⟩;show(bif WU s 0 then 0 else Qm (s.lo*s.lo) (s.hi*s.hi))<=x*x
 cases hb:WU s 0 with
 | true=>exact hx
 | false=>
  have hn: ¬s.has 0:=fun e=>by rw[QFH.2 e]at hb;cases hb
  have a1:=Wc (s.lo*s.lo) (s.hi*s.hi);have a2:=KW (s.lo*s.lo) (s.hi*s.hi);show Qm (s.lo*s.lo) (s.hi*s.hi)<=x*x
  by_cases h0:s.lo<=0
  ·have h3:s.hi<0:=Zc.1 fun e=>hn ⟨h0,e⟩;have:=JI (show 0<=s.hi-x by grind) (show 0<= -s.hi-x by grind);grind
  ·have h0:0<s.lo:=Zc.1 h0;have:=JI (show 0<=x-s.lo by grind) (show 0<=x+s.lo by grind);grind
theorem QNc (s:Sp):0<=(QHB s).lo:=by
 show 0<=bif WU s 0 then 0 else _
 cases WU s 0 with
 | true=>exact Zd
 | false=>exact QNb (UM _) (UM _)
theorem QJP {s t:Sp}{x:Rat}(h:s.has x):(GK s t).has x:=⟨Za (Wc _ _) h.1,Za h.2 (Wd _ _)⟩
theorem QJQ {s t:Sp}{x:Rat}(h:t.has x):(GK s t).has x:=⟨Za (KW _ _) h.1,Za h.2 (KX _ _)⟩
theorem QJR {d:Nat}(hd:d≠0):(0:Rat)<(d:Rat):=by
 have:=Rat.natCast_pos.2 (Nat.pos_of_ne_zero hd);exact this
theorem QcK (n:Int){d:Nat}(hd:d≠0):mkRat n d*(d:Rat)=(n:Rat):=by
 rw[Rat.mkRat_eq_div,Rat.div_mul_cancel];have:=QJR hd;grind
theorem QJS (p:Rat){d:Nat}(hd:d≠0):Vk p d<=p:=by
 have h0:=QJR hd;have h1:=Rat.floor_le (p*(d:Rat));have h2:=QcK (p*(d:Rat)).floor hd;unfold Vk;generalize mkRat (p*(d:Rat)).floor d=m at*;rw[<-h2]at h1;apply Zb;intro hn;have:=Ze (show 0<m-p by have:=Zc.1 hn;grind) h0;grind
theorem QcL (p:Rat){d:Nat}(hd:d≠0):p<=upR p d:=by
 have:=QJS (-p) hd;unfold upR;grind
theorem QPe {s:Sp}{x:Rat}{d:Nat}(hd:d≠0)(h:s.has x):(QSe s d).has x:=⟨Za (QJS _ hd) h.1,Za h.2 (QcL _ hd)⟩
theorem QFJ {s:Sp}{x:Rat}(h:s.has x)(h1: -1<=x)(h2:x<=1):(QAA s).has x:=by
 have:=QPe (d:=1000000) (by decide) h;exact⟨QXX this.1 h1,QNb this.2 h2⟩
theorem QJT {a:Rat}(h:0<=a):QAZ a*(1+a)=1-a:=Rat.div_mul_cancel (by grind)
theorem GL {a b:Rat}(ha:0<=a)(h:a<=b):QAZ b<=QAZ a:=by
 have h1:=QJT ha;have h2:=QJT (Za ha h);have hp:=Ze (show 0<1+a by grind) (show 0<1+b by grind);generalize QAZ a=x at*;generalize QAZ b=y at*;apply Zb;intro hn;have:=Ze (show 0<y-x by have:=Zc.1 hn;grind) hp;have e:(y-x)*((1+a)*(1+b))=(y*(1+b))*(1+a)-(x*(1+a))*(1+b):=by grind
 rw[e,h1,h2]at this;grind
theorem GM {t:Sp}{x:Rat}(h:t.has x):(QCd t).has (Qt false x):=by
 have:=QJO h;exact⟨GL (UM x) this.2,GL (QNc t) this.1⟩
theorem QXY (x y:Rat):(Qd false x-Qd false y)*((1+x*x)*(1+y*y))=2*((x-y)*(1-x*y)):=by
 have h1:=Jk x;have h2:=Jk y;have e:(Qd false x-Qd false y)*((1+x*x)*(1+y*y))=(Qd false x*(1+x*x))*(1+y*y)-(Qd false y*(1+y*y))*(1+x*x):=by grind
 rw[e,h1,h2];grind
theorem QHE {x y:Rat}(h:(x-y)*(1-x*y)<=0):Qd false x<=Qd false y:=by
 have e:=QXY x y;have hp:=Ze (show 0<1+x*x by have:=UM x;grind) (show 0<1+y*y by have:=UM y;grind);apply Zb;intro hn;have:=Ze (show 0<Qd false x-Qd false y by have:=Zc.1 hn;grind) hp;grind
theorem QXZ:Qd false 1=1:=by decide+kernel
theorem Uj (x:Rat):Qd false x<=1:=by
 rw[<-QXZ];apply QHE;have:=UM (x-1);grind
theorem QAt (x:Rat):Qd false (-x)= -Qd false x:=by
 have h1:=Jk x;have h2:=Jk (-x);have h:=sq1 x;refine Ui h ?_
 grind
theorem QJU (x:Rat): -1<=Qd false x:=by
 have:=Uj (-x);rw[QAt]at this;grind
theorem QL6 (x:Rat):Qt false x<=1:=by
 have:=GL (a:=0) Zd (UM x);have e:QAZ 0=1:=by decide+kernel
 rw[e]at this;exact this
theorem QJV (x:Rat): -1<=Qt false x:=by
 have h:=W7 x;have hp:0<1+x*x:=by have:=UM x;grind
 apply Zb;intro hn;have:=Ze (show 0< -1-Qt false x by have:=Zc.1 hn;grind) hp;grind
theorem QSh {l h x p:Rat}(h1:l<=x)(h2:x<=h)(kl:Qd false l<=p)(kh:Qd false h<=p)(k1:l<=1->1<=h->1<=p):Qd false x<=p:=by
  by_cases c1:l<=1
  · by_cases c2:1<=h
    · exact Za (Uj x) (k1 c1 c2)
    · have c2:h<1:=Zc.1 c2;by_cases c3:x*h<=1
      · refine Za (QHE ?_) kh;have:=JI (show 0<=h-x by grind) (show 0<=1-x*h by grind);grind
      · have c3:1<x*h:=Zc.1 c3;refine Za (QHE ?_) kl;have hx:x<0:=by
          apply Zb;intro hn;have hn:0<=x:=Rat.not_lt.1 hn;have:=JI hn (show 0<=1-h by grind);grind
        have e1:=JI (show 0<= -x by grind) (show 0<=h-x by grind);have e2:=JI (show 0<= -x by grind) (show 0<=x-l by grind);have:=JI (show 0<=x-l by grind) (show 0<=x*l-1 by grind);grind
  · have c1:1<l:=Zc.1 c1;refine Za (QHE ?_) kl;have e1:=JI (show 0<=l by grind) (show 0<=x-l by grind);have e2:=JI (show 0<=l-1 by grind) (show 0<=l+1 by grind);have:=JI (show 0<=x-l by grind) (show 0<=x*l-1 by grind);grind
theorem QcM {l h x p:Rat}(h1:l<=x)(h2:x<=h)(kl:p<=Qd false l)(kh:p<=Qd false h)(k1:l<= -1-> -1<=h->p<= -1):p<=Qd false x:=by
 have:=QSh (l:= -h) (h:= -l) (x:= -x) (p:= -p) (by grind) (by grind) (by rw[QAt];grind) (by rw[QAt];grind) (fun a b=>by have:=k1 (by grind) (by grind);grind);rw[QAt]at this;grind
theorem W8 (t s:Sp)(a:Rat):s.sub (WO t s a):=by
 unfold WO;cases WU t a with
 | true=>exact⟨Wc _ _,Wd _ _⟩
 | false=>exact⟨Zd,Zd⟩
theorem QCe {t s:Sp}{a:Rat}(h:t.has a):(WO t s a).has a:=by
 unfold WO;rw[QFH.2 h];exact QJQ (YK a)
theorem GN {t:Sp}{x:Rat}(h:t.has x):(Wr t).has (Qd false x):=by
 have s0:(Wq t).has (Qd false t.lo):=QJP (YK _);have s1:(Wq t).has (Qd false t.hi):=QJQ (YK _);have k1:=W8 t (Wq t) (-1);have k2:=W8 t (WO t (Wq t) (-1)) 1;have a1:=(s0.sub k1).sub k2;have a2:=(s1.sub k1).sub k2;refine⟨QcM h.1 h.2 a1.1 a2.1 fun b1 b2=> ?_,QSh h.1 h.2 a1.2 a2.2 fun b1 b2=> ?_⟩
 ·exact((QCe ⟨b1,b2⟩:(WO t (Wq t) (-1)).has (-1)).sub k2).1
 ·exact(QCe ⟨b1,b2⟩:(Wr t).has 1).2
theorem Sp.sub.trans {s t u:Sp}(h:s.sub t)(k:t.sub u):s.sub u:=⟨Za k.1 h.1,Za h.2 k.2⟩
end Go.Proofs
namespace Go.Proofs
open Go Go.Eng
structure LoV where
 x:Sp
 y:Sp
 c:Sp
 s:Sp
structure LoV.has (l:LoV)(f:FrV):Prop where
 x:l.x.has f.x
 y:l.y.has f.y
 c:l.c.has (Qt f.h f.t)
 s:l.s.has (Qd f.h f.t)
structure LoV.sub (l m:LoV):Prop where
 x:l.x.sub m.x
 y:l.y.sub m.y
 c:l.c.sub m.c
 s:l.s.sub m.s
def loC (l:LoV)(t:Sp):Sp:=QAA (QSd (Jm l.c (QCd t)) (Jm l.s (Wr t)))
def loS (l:LoV)(t:Sp):Sp:=QAA (QCc (Jm l.s (QCd t)) (Jm l.c (Wr t)))
def GO (l:LoV)(t:Sp):LoV:=⟨l.x,l.y,loC l t,loS l t⟩
def QSi (n:LoV)(len:Rat):LoV:=⟨QCc n.x (Jm (HJ len) n.c),QCc n.y (Jm (HJ len) n.s),n.c,n.s⟩
def XP:LoV->List Qw->List Sp->List LoV
 | l,L::ls,t::ts=>GO l t::XP (QSi (GO l t) L.len) ls ts
 | l,_,_=>[l]
def YS (a:Qs):LoV:=⟨HJ a.x,HJ a.y,HJ (Qt a.half a.t),HJ (Qd a.half a.t)⟩
def HasQ (ts:List Sp)(qs:List Rat):Prop:=ts.length=qs.length/\ ∀(i:Nat) t q,ts[i]? =some t->qs[i]? =some q->t.has q
theorem QXa (h:Bool)(t:Rat): -1<=Qt h t/\Qt h t<=1:=by
 cases h with
 | true=>exact⟨Zd,by show(-1:Rat)<=1;decide+kernel⟩
 | false=>exact⟨QJV t,QL6 t⟩
theorem QXb (h:Bool)(t:Rat): -1<=Qd h t/\Qd h t<=1:=by
 cases h with
 | true=>exact⟨by show(-1:Rat)<=0;decide+kernel,by show(0:Rat)<=1;decide+kernel⟩
 | false=>exact⟨QJU t,Uj t⟩
theorem QCf {l:LoV}{f:FrV}{t:Sp}{q:Rat}(h:l.has f)(k:t.has q):(GO l t).has (XZ f ⟨0,0,false,q⟩):=by
 obtain⟨e1,e2⟩:=QXU f q;obtain⟨c1,c2⟩:=QNa f.h f.t false q;have i1:=QXa (thH f.h f.t false q) (thT f.h f.t false q);have i2:=QXb (thH f.h f.t false q) (thT f.h f.t false q);refine⟨by rw[e1];exact h.x,by rw[e2];exact h.y,?_,?_⟩
 ·show(loC l t).has (Qt (thH f.h f.t false q) (thT f.h f.t false q))
  rw[c1]at i1⊢;exact QFJ (QFI (Xq h.c (GM k)) (Xq h.s (GN k))) i1.1 i1.2
 ·show(loS l t).has (Qd (thH f.h f.t false q) (thT f.h f.t false q))
  rw[c2]at i2⊢;exact QFJ (V3 (Xq h.s (GM k)) (Xq h.c (GN k))) i2.1 i2.2
theorem QFK {l:LoV}{f:FrV}(h:l.has f)(len:Rat):(QSi l len).has (XZ f ⟨len,0,false,0⟩):=by
 obtain⟨c1,c2⟩:=Qfz f len;refine⟨?_,?_,by rw[c1];exact h.c,by rw[c2];exact h.s⟩
 ·have e:(XZ f ⟨len,0,false,0⟩).x=f.x+len*Qt f.h f.t:=by show HG f len 0=_;unfold HG;grind
  rw[e];exact V3 h.x (Xq (YK len) h.c)
 ·have e:(XZ f ⟨len,0,false,0⟩).y=f.y+len*Qd f.h f.t:=by show HH f len 0=_;unfold HH;grind
  rw[e];exact V3 h.y (Xq (YK len) h.s)
theorem HasQ.tail {t:Sp}{ts:List Sp}{q:Rat}{qs:List Rat}(h:HasQ (t::ts) (q::qs)):t.has q/\HasQ ts qs:=
 ⟨h.2 0 t q rfl rfl,by simpa using h.1,fun i t q h1 h2=>h.2 (i+1) t q h1 h2⟩
theorem QL7: ∀(ls:List Qw) (ts:List Sp) (qs:List Rat) (l:LoV) (b:FrV),l.has b->HasQ ts qs-> ∀(i:Nat) m f,(XP l ls ts)[i]? =some m->(YG b ls qs)[i]? =some f->m.has f:=by
 intro ls;induction ls with
 | nil=>
  intro ts qs l b h _ i m f hm hf;have e1:XP l [] ts=[l]:=by cases ts<;>rfl
  have e2:YG b [] qs=[b]:=by cases qs<;>rfl
  rw[e1]at hm;rw[e2]at hf;cases i with
  | zero=>cases hm;cases hf;exact h
  | succ i=>cases hm
 | cons L ls ih=>
  intro ts qs l b h hq i m f hm hf;match ts,qs,hq with
  | [],[],_=>
   cases i with
   | zero=>cases hm;cases hf;exact h
   | succ i=>cases hm
  | [],q::qs,hq=>exact absurd hq.1 (by simp)
  | t::ts,[],hq=>exact absurd hq.1 (by simp)
  | t::ts,q::qs,hq=>
   obtain⟨h1,h2⟩:=hq.tail;have hn:=QCf h h1;cases i with
   | zero=>cases hm;cases hf;exact hn
   | succ i=>exact ih ts qs _ _ (QFK hn L.len) h2 i m f hm hf
theorem QL8: ∀(ls:List Qw) (ts:List Sp) (l:LoV),ts.length=ls.length->(XP l ls ts).length=ls.length+1:=by
 intro ls;induction ls with
 | nil=>intro ts l _;cases ts<;>rfl
 | cons L ls ih=>
  intro ts l h;match ts,h with
  | t::ts,h=>simp only[XP,List.length_cons];rw[ih ts _ (by simpa using h)]
theorem QJW (a:Qs):(YS a).has (WT a):=⟨YK _,YK _,YK _,YK _⟩
end Go.Proofs
