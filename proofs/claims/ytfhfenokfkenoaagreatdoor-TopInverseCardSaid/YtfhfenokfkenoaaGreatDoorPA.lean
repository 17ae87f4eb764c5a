/- Sets of all numbers between two numbers: plain laws. -/
import Derived.Test.YtfhfenokfkenoaaGreatDoorFL
open Rat renaming le_trans → Za, not_le → Zc, le_refl → Zd, mul_pos → Ze
open Classical renaming byContradiction → Zb
namespace Go.Proofs
open Go Go.Eng
structure Sp where
 lo:Rat
 hi:Rat
def Sp.has (s:Sp)(x:Rat):Prop:=s.lo<=x/\x<=s.hi
def Sp.sub (s t:Sp):Prop:=t.lo<=s.lo/\s.hi<=t.hi
def Ka (a:Rat):Sp:=⟨a,a⟩
def QBs (s t:Sp):Sp:=⟨s.lo+t.lo,s.hi+t.hi⟩
def QPj (s t:Sp):Sp:=⟨s.lo-t.hi,s.hi-t.lo⟩
def JG (s t:Sp):Sp:=⟨Qt (Qt (Qt (s.lo*t.lo) (s.lo*t.hi)) (s.hi*t.lo)) (s.hi*t.hi),Q7 (Q7 (Q7 (s.lo*t.lo) (s.lo*t.hi)) (s.hi*t.lo)) (s.hi*t.hi)⟩
def XW (s:Sp)(x:Rat):Bool:=decide (s.lo<=x)&&decide (x<=s.hi)
def QGp (s:Sp):Sp:=⟨bif XW s 0 then 0 else Qt (s.lo*s.lo) (s.hi*s.hi),Q7 (s.lo*s.lo) (s.hi*s.hi)⟩
def KM (s t:Sp):Sp:=⟨Qt s.lo t.lo,Q7 s.hi t.hi⟩
def HQ (p:Rat)(d:Nat):Rat:=mkRat (p*(d:Rat)).floor d
def upR (p:Rat)(d:Nat):Rat:= -HQ (-p) d
def QPk (s:Sp)(d:Nat):Sp:=⟨HQ s.lo d,upR s.hi d⟩
def QBt (s:Sp):Sp:=⟨Q7 (QPk s 1000000).lo (-1),Qt (QPk s 1000000).hi 1⟩
def QAI (a:Rat):Rat:=(1-a)/(1+a)
def QDN (t:Sp):Sp:=⟨QAI (QGp t).hi,QAI (QGp t).lo⟩
def Wv (t:Sp):Sp:=KM (Ka (Qa false t.lo)) (Ka (Qa false t.hi))
def WX (t:Sp)(s:Sp)(a:Rat):Sp:=bif XW t a then KM s (Ka a)else s
def Ww (t:Sp):Sp:=WX t (WX t (Wv t) (-1)) 1
theorem J7 (a b:Rat):Qt a b<=a:=by unfold Qt;split<;>grind
theorem Kb (a b:Rat):Qt a b<=b:=by unfold Qt;split<;>grind
theorem QKk {a b c:Rat}(h1:c<=a)(h2:c<=b):c<=Qt a b:=by unfold Qt;split<;>assumption
theorem J8 (a b:Rat):a<=Q7 a b:=by unfold Q7;split<;>grind
theorem Kc (a b:Rat):b<=Q7 a b:=by unfold Q7;split<;>grind
theorem QUI {a b c:Rat}(h1:a<=c)(h2:b<=c):Q7 a b<=c:=by unfold Q7;split<;>assumption
theorem Sp.has.ok {s:Sp}{x:Rat}(h:s.has x):s.lo<=s.hi:=Za h.1 h.2
theorem Sp.has.sub {s t:Sp}{x:Rat}(h:s.has x)(k:s.sub t):t.has x:=⟨Za k.1 h.1,Za h.2 k.2⟩
theorem QDO {s:Sp}{x:Rat}:XW s x=true↔s.has x:=by
 unfold XW Sp.has;simp
theorem XT (a:Rat):(Ka a).has a:=⟨Zd,Zd⟩
theorem Je {s t:Sp}{x y:Rat}(h:s.has x)(k:t.has y):(QBs s t).has (x+y):=by
 obtain⟨h1,h2⟩:=h;obtain⟨k1,k2⟩:=k;exact⟨by show s.lo+t.lo<=_;grind,by show _<=s.hi+t.hi;grind⟩
theorem UJ {s t:Sp}{x y:Rat}(h:s.has x)(k:t.has y):(QPj s t).has (x-y):=by
 obtain⟨h1,h2⟩:=h;obtain⟨k1,k2⟩:=k;exact⟨by show s.lo-t.hi<=_;grind,by show _<=s.hi-t.lo;grind⟩
theorem JM {a b:Rat}(h:0<=a)(k:0<=b):0<=a*b:=Rat.mul_nonneg h k
theorem QEq {p a b x y:Rat}(h1:p<=a*y)(h2:p<=b*y)(ha:a<=x)(hb:x<=b):p<=x*y:=by
 rcases @Rat.le_total 0 y with h | h
 ·have:=JM (show 0<=x-a by grind) h;grind
 ·have:=JM (show 0<=b-x by grind) (show 0<= -y by grind);grind
theorem QEr {p a b x y:Rat}(h1:a*y<=p)(h2:b*y<=p)(ha:a<=x)(hb:x<=b):x*y<=p:=by
 rcases @Rat.le_total 0 y with h | h
 ·have:=JM (show 0<=b-x by grind) h;grind
 ·have:=JM (show 0<=x-a by grind) (show 0<= -y by grind);grind
theorem QPl {p a b x y:Rat}(h1:p<=y*a)(h2:p<=y*b)(ha:a<=x)(hb:x<=b):p<=y*x:=by
 rw[Rat.mul_comm]at h1 h2⊢;exact QEq h1 h2 ha hb
theorem QPm {p a b x y:Rat}(h1:y*a<=p)(h2:y*b<=p)(ha:a<=x)(hb:x<=b):y*x<=p:=by
 rw[Rat.mul_comm]at h1 h2⊢;exact QEr h1 h2 ha hb
theorem XB {s t:Sp}{x y:Rat}(h:s.has x)(k:t.has y):(JG s t).has (x*y):=by
 obtain⟨h1,h2⟩:=h;obtain⟨k1,k2⟩:=k;have tr:=fun {a b c:Rat} (h:a<=b) (k:b<=c)=>Za h k;have a1:=J7 (Qt (Qt (s.lo*t.lo) (s.lo*t.hi)) (s.hi*t.lo)) (s.hi*t.hi);have a2:=Kb (Qt (Qt (s.lo*t.lo) (s.lo*t.hi)) (s.hi*t.lo)) (s.hi*t.hi);have a3:=J7 (Qt (s.lo*t.lo) (s.lo*t.hi)) (s.hi*t.lo);have a4:=Kb (Qt (s.lo*t.lo) (s.lo*t.hi)) (s.hi*t.lo);have a5:=J7 (s.lo*t.lo) (s.lo*t.hi);have a6:=Kb (s.lo*t.lo) (s.lo*t.hi);have b1:=J8 (Q7 (Q7 (s.lo*t.lo) (s.lo*t.hi)) (s.hi*t.lo)) (s.hi*t.hi);have b2:=Kc (Q7 (Q7 (s.lo*t.lo) (s.lo*t.hi)) (s.hi*t.lo)) (s.hi*t.hi)
 have b3:=J8 (Q7 (s.lo*t.lo) (s.lo*t.hi)) (s.hi*t.lo);have b4:=Kc (Q7 (s.lo*t.lo) (s.lo*t.hi)) (s.hi*t.lo);have b5:=J8 (s.lo*t.lo) (s.lo*t.hi);have b6:=Kc (s.lo*t.lo) (s.lo*t.hi);refine⟨QPl (QEq (tr a1 (tr a3 a5)) (tr a1 a4) h1 h2) (QEq (tr a1 (tr a3 a6)) a2 h1 h2) k1 k2,QPm (QEr (tr (tr b5 b3) b1) (tr b4 b1) h1 h2) (QEr (tr (tr b6 b3) b1) b2 h1 h2) k1 k2⟩
theorem QGq {s:Sp}{x:Rat}(h:s.has x):(QGp s).has (x*x):=by
 obtain⟨h1,h2⟩:=h;have hx:=Ud x;have hm:x*x<=Q7 (s.lo*s.lo) (s.hi*s.hi):=by
  have b1:=J8 (s.lo*s.lo) (s.hi*s.hi);have b2:=Kc (s.lo*s.lo) (s.hi*s.hi);rcases @Rat.le_total 0 x with h | h
  ·have:=JM (show 0<=s.hi-x by grind) (show 0<=s.hi+x by grind);grind
  ·have:=JM (show 0<=x-s.lo by grind) (show 0<= -x-s.lo by grind);grind
 refine⟨?_,hm⟩;show(bif XW s 0 then 0 else Qt (s.lo*s.lo) (s.hi*s.hi))<=x*x
 cases hb:XW s 0 with
 | true=>exact hx
 | false=>
  have hn: ¬s.has 0:=fun e=>by rw[QDO.2 e]at hb;cases hb
  have a1:=J7 (s.lo*s.lo) (s.hi*s.hi);have a2:=Kb (s.lo*s.lo) (s.hi*s.hi);show Qt (s.lo*s.lo) (s.hi*s.hi)<=x*x
  by_cases h0:s.lo<=0
  ·have h3:s.hi<0:=Zc.1 fun e=>hn ⟨h0,e⟩;have:=JM (show 0<=s.hi-x by grind) (show 0<= -s.hi-x by grind);grind
  ·have h0:0<s.lo:=Zc.1 h0;have:=JM (show 0<=x-s.lo by grind) (show 0<=x+s.lo by grind);grind
theorem QKl (s:Sp):0<=(QGp s).lo:=by
 show 0<=bif XW s 0 then 0 else _
 cases XW s 0 with
 | true=>exact Zd
 | false=>exact QKk (Ud _) (Ud _)
theorem HR {s t:Sp}{x:Rat}(h:s.has x):(KM s t).has x:=⟨Za (J7 _ _) h.1,Za h.2 (J8 _ _)⟩
theorem HT {s t:Sp}{x:Rat}(h:t.has x):(KM s t).has x:=⟨Za (Kb _ _) h.1,Za h.2 (Kc _ _)⟩
theorem QGr {d:Nat}(hd:d≠0):(0:Rat)<(d:Rat):=by
 have:=Rat.natCast_pos.2 (Nat.pos_of_ne_zero hd);exact this
theorem QYX (n:Int){d:Nat}(hd:d≠0):mkRat n d*(d:Rat)=(n:Rat):=by
 rw[Rat.mkRat_eq_div,Rat.div_mul_cancel];have:=QGr hd;grind
theorem QGs (p:Rat){d:Nat}(hd:d≠0):HQ p d<=p:=by
 have h0:=QGr hd;have h1:=Rat.floor_le (p*(d:Rat));have h2:=QYX (p*(d:Rat)).floor hd;unfold HQ;generalize mkRat (p*(d:Rat)).floor d=m at*;rw[<-h2]at h1;apply Zb;intro hn;have:=Ze (show 0<m-p by have:=Zc.1 hn;grind) h0;grind
theorem QYY (p:Rat){d:Nat}(hd:d≠0):p<=upR p d:=by
 have:=QGs (-p) hd;unfold upR;grind
theorem QMq {s:Sp}{x:Rat}{d:Nat}(hd:d≠0)(h:s.has x):(QPk s d).has x:=⟨Za (QGs _ hd) h.1,Za h.2 (QYY _ hd)⟩
theorem QDP {s:Sp}{x:Rat}(h:s.has x)(h1: -1<=x)(h2:x<=1):(QBt s).has x:=by
 have:=QMq (d:=1000000) (by decide) h;exact⟨QUI this.1 h1,QKk this.2 h2⟩
theorem QGt {a:Rat}(h:0<=a):QAI a*(1+a)=1-a:=Rat.div_mul_cancel (by grind)
theorem GS {a b:Rat}(ha:0<=a)(h:a<=b):QAI b<=QAI a:=by
 have h1:=QGt ha;have h2:=QGt (Za ha h);have hp:=Ze (show 0<1+a by grind) (show 0<1+b by grind);generalize QAI a=x at*;generalize QAI b=y at*;apply Zb;intro hn;have:=Ze (show 0<y-x by have:=Zc.1 hn;grind) hp;have e:(y-x)*((1+a)*(1+b))=(y*(1+b))*(1+a)-(x*(1+a))*(1+b):=by grind
 rw[e,h1,h2]at this;grind
theorem GU {t:Sp}{x:Rat}(h:t.has x):(QDN t).has (Qn false x):=by
 have:=QGq h;exact⟨GS (Ud x) this.2,GS (QKl t) this.1⟩
theorem QUJ (x y:Rat):(Qa false x-Qa false y)*((1+x*x)*(1+y*y))=2*((x-y)*(1-x*y)):=by
 have h1:=Jt x;have h2:=Jt y;have e:(Qa false x-Qa false y)*((1+x*x)*(1+y*y))=(Qa false x*(1+x*x))*(1+y*y)-(Qa false y*(1+y*y))*(1+x*x):=by grind
 rw[e,h1,h2];grind
theorem QEs {x y:Rat}(h:(x-y)*(1-x*y)<=0):Qa false x<=Qa false y:=by
 have e:=QUJ x y;have hp:=Ze (show 0<1+x*x by have:=Ud x;grind) (show 0<1+y*y by have:=Ud y;grind);apply Zb;intro hn;have:=Ze (show 0<Qa false x-Qa false y by have:=Zc.1 hn;grind) hp;grind
theorem QUK:Qa false 1=1:=by decide+kernel
theorem Uv (x:Rat):Qa false x<=1:=by
 rw[<-QUK];apply QEs;have:=Ud (x-1);grind
theorem QAX (x:Rat):Qa false (-x)= -Qa false x:=by
 have h1:=Jt x;have h2:=Jt (-x);have h:=sq1 x;refine Uu h ?_
 grind
theorem QGu (x:Rat): -1<=Qa false x:=by
 have:=Uv (-x);rw[QAX]at this;grind
theorem QJD (x:Rat):Qn false x<=1:=by
 have:=GS (a:=0) Zd (Ud x);have e:QAI 0=1:=by decide+kernel
 rw[e]at this;exact this
theorem QGv (x:Rat): -1<=Qn false x:=by
 have h:=W9 x;have hp:0<1+x*x:=by have:=Ud x;grind
 apply Zb;intro hn;have:=Ze (show 0< -1-Qn false x by have:=Zc.1 hn;grind) hp;grind
theorem QPn {l h x p:Rat}(h1:l<=x)(h2:x<=h)(kl:Qa false l<=p)(kh:Qa false h<=p)(k1:l<=1->1<=h->1<=p):Qa false x<=p:=by
  by_cases c1:l<=1
  · by_cases c2:1<=h
    · exact Za (Uv x) (k1 c1 c2)
    · have c2:h<1:=Zc.1 c2;by_cases c3:x*h<=1
      · refine Za (QEs ?_) kh;have:=JM (show 0<=h-x by grind) (show 0<=1-x*h by grind);grind
      · have c3:1<x*h:=Zc.1 c3;refine Za (QEs ?_) kl;have hx:x<0:=by
          apply Zb;intro hn;have hn:0<=x:=Rat.not_lt.1 hn;have:=JM hn (show 0<=1-h by grind);grind
        have e1:=JM (show 0<= -x by grind) (show 0<=h-x by grind);have e2:=JM (show 0<= -x by grind) (show 0<=x-l by grind);have:=JM (show 0<=x-l by grind) (show 0<=x*l-1 by grind);grind
  · have c1:1<l:=Zc.1 c1;refine Za (QEs ?_) kl;have e1:=JM (show 0<=l by grind) (show 0<=x-l by grind);have e2:=JM (show 0<=l-1 by grind) (show 0<=l+1 by grind);have:=JM (show 0<=x-l by grind) (show 0<=x*l-1 by grind);grind
theorem QYZ {l h x p:Rat}(h1:l<=x)(h2:x<=h)(kl:p<=Qa false l)(kh:p<=Qa false h)(k1:l<= -1-> -1<=h->p<= -1):p<=Qa false x:=by
 have:=QPn (l:= -h) (h:= -l) (x:= -x) (p:= -p) (by grind) (by grind) (by rw[QAX];grind) (by rw[QAX];grind) (fun a b=>by have:=k1 (by grind) (by grind);grind);rw[QAX]at this;grind
theorem KA (t s:Sp)(a:Rat):s.sub (WX t s a):=by
 unfold WX;cases XW t a with
 | true=>exact⟨J7 _ _,J8 _ _⟩
 | false=>exact⟨Zd,Zd⟩
theorem QBu {t s:Sp}{a:Rat}(h:t.has a):(WX t s a).has a:=by
 unfold WX;rw[QDO.2 h];exact HT (XT a)
theorem GV {t:Sp}{x:Rat}(h:t.has x):(Ww t).has (Qa false x):=by
 have s0:(Wv t).has (Qa false t.lo):=HR (XT _);have s1:(Wv t).has (Qa false t.hi):=HT (XT _);have k1:=KA t (Wv t) (-1);have k2:=KA t (WX t (Wv t) (-1)) 1;have a1:=(s0.sub k1).sub k2;have a2:=(s1.sub k1).sub k2;refine⟨QYZ h.1 h.2 a1.1 a2.1 fun b1 b2=> ?_,QPn h.1 h.2 a1.2 a2.2 fun b1 b2=> ?_⟩
 ·exact((QBu ⟨b1,b2⟩:(WX t (Wv t) (-1)).has (-1)).sub k2).1
 ·exact(QBu ⟨b1,b2⟩:(Ww t).has 1).2
theorem Sp.sub.trans {s t u:Sp}(h:s.sub t)(k:t.sub u):s.sub u:=⟨Za k.1 h.1,Za h.2 k.2⟩
end Go.Proofs
namespace Go.Proofs
open Go Go.Eng
structure LoV where
 x:Sp
 y:Sp
 c:Sp
 s:Sp
structure LoV.has (l:LoV)(f:FrV):Prop where
 x:l.x.has f.x
 y:l.y.has f.y
 c:l.c.has (Qn f.h f.t)
 s:l.s.has (Qa f.h f.t)
structure LoV.sub (l m:LoV):Prop where
 x:l.x.sub m.x
 y:l.y.sub m.y
 c:l.c.sub m.c
 s:l.s.sub m.s
def loC (l:LoV)(t:Sp):Sp:=QBt (QPj (JG l.c (QDN t)) (JG l.s (Ww t)))
def loS (l:LoV)(t:Sp):Sp:=QBt (QBs (JG l.s (QDN t)) (JG l.c (Ww t)))
def GW (l:LoV)(t:Sp):LoV:=⟨l.x,l.y,loC l t,loS l t⟩
def QPo (n:LoV)(len:Rat):LoV:=⟨QBs n.x (JG (Ka len) n.c),QBs n.y (JG (Ka len) n.s),n.c,n.s⟩
def XI:LoV->List QT->List Sp->List LoV
 | l,L::ls,t::ts=>GW l t::XI (QPo (GW l t) L.len) ls ts
 | l,_,_=>[l]
def Xe (a:ArmV):LoV:=⟨Ka a.x,Ka a.y,Ka (Qn a.half a.t),Ka (Qa a.half a.t)⟩
def HasQ (ts:List Sp)(qs:List Rat):Prop:=ts.length=qs.length/\ ∀(i:Nat) t q,ts[i]? =some t->qs[i]? =some q->t.has q
theorem QUL (h:Bool)(t:Rat): -1<=Qn h t/\Qn h t<=1:=by
 cases h with
 | true=>exact⟨Zd,by show(-1:Rat)<=1;decide+kernel⟩
 | false=>exact⟨QGv t,QJD t⟩
theorem QUM (h:Bool)(t:Rat): -1<=Qa h t/\Qa h t<=1:=by
 cases h with
 | true=>exact⟨by show(-1:Rat)<=0;decide+kernel,by show(0:Rat)<=1;decide+kernel⟩
 | false=>exact⟨QGu t,Uv t⟩
theorem QBv {l:LoV}{f:FrV}{t:Sp}{q:Rat}(h:l.has f)(k:t.has q):(GW l t).has (Xn f ⟨0,0,false,q⟩):=by
 obtain⟨e1,e2⟩:=QUF f q;obtain⟨c1,c2⟩:=QDK f.h f.t false q;have i1:=QUL (thH f.h f.t false q) (thT f.h f.t false q);have i2:=QUM (thH f.h f.t false q) (thT f.h f.t false q);refine⟨by rw[e1];exact h.x,by rw[e2];exact h.y,?_,?_⟩
 ·show(loC l t).has (Qn (thH f.h f.t false q) (thT f.h f.t false q))
  rw[c1]at i1⊢;exact QDP (UJ (XB h.c (GU k)) (XB h.s (GV k))) i1.1 i1.2
 ·show(loS l t).has (Qa (thH f.h f.t false q) (thT f.h f.t false q))
  rw[c2]at i2⊢;exact QDP (Je (XB h.s (GU k)) (XB h.c (GV k))) i2.1 i2.2
theorem QDQ {l:LoV}{f:FrV}(h:l.has f)(len:Rat):(QPo l len).has (Xn f ⟨len,0,false,0⟩):=by
 obtain⟨c1,c2⟩:=QbW f len;refine⟨?_,?_,by rw[c1];exact h.c,by rw[c2];exact h.s⟩
 ·have e:(Xn f ⟨len,0,false,0⟩).x=f.x+len*Qn f.h f.t:=by show VM f len 0=_;unfold VM;grind
  rw[e];exact Je h.x (XB (XT len) h.c)
 ·have e:(Xn f ⟨len,0,false,0⟩).y=f.y+len*Qa f.h f.t:=by show VN f len 0=_;unfold VN;grind
  rw[e];exact Je h.y (XB (XT len) h.s)
theorem HasQ.tail {t:Sp}{ts:List Sp}{q:Rat}{qs:List Rat}(h:HasQ (t::ts) (q::qs)):t.has q/\HasQ ts qs:=
 ⟨h.2 0 t q rfl rfl,by simpa using h.1,fun i t q h1 h2=>h.2 (i+1) t q h1 h2⟩
theorem VA: ∀(ls:List QT) (ts:List Sp) (qs:List Rat) (l:LoV) (b:FrV),l.has b->HasQ ts qs-> ∀(i:Nat) m f,(XI l ls ts)[i]? =some m->(XD b ls qs)[i]? =some f->m.has f:=by
 intro ls;induction ls with
 | nil=>
  intro ts qs l b h _ i m f hm hf;have e1:XI l [] ts=[l]:=by cases ts<;>rfl
  have e2:XD b [] qs=[b]:=by cases qs<;>rfl
  rw[e1]at hm;rw[e2]at hf;cases i with
  | zero=>cases hm;cases hf;exact h
  | succ i=>cases hm
 | cons L ls ih=>
  intro ts qs l b h hq i m f hm hf;match ts,qs,hq with
  | [],[],_=>
   cases i with
   | zero=>cases hm;cases hf;exact h
   | succ i=>cases hm
  | [],q::qs,hq=>exact absurd hq.1 (by simp)
  | t::ts,[],hq=>exact absurd hq.1 (by simp)
  | t::ts,q::qs,hq=>
   obtain⟨h1,h2⟩:=hq.tail;have hn:=QBv h h1;cases i with
   | zero=>cases hm;cases hf;exact hn
   | succ i=>exact ih ts qs _ _ (QDQ hn L.len) h2 i m f hm hf
theorem QJE: ∀(ls:List QT) (ts:List Sp) (l:LoV),ts.length=ls.length->(XI l ls ts).length=ls.length+1:=by
 intro ls;induction ls with
 | nil=>intro ts l _;cases ts<;>rfl
 | cons L ls ih=>
  intro ts l h;match ts,h with
  | t::ts,h=>simp only[XI,List.length_cons];rw[ih ts _ (by simpa using h)]
theorem QJF: ∀(ls:List QT) (qs:List Rat) (b:FrV),qs.length=ls.length->(XD b ls qs).length=ls.length+1:=by
 intro ls;induction ls with
 | nil=>intro qs b _;cases qs<;>rfl
 | cons L ls ih=>
  intro qs b h;match qs,h with
  | q::qs,h=>simp only[XD,List.length_cons];rw[ih qs _ (by simpa using h)]
theorem V0 (a:ArmV):(Xe a).has (Xs a):=⟨XT _,XT _,XT _,XT _⟩
end Go.Proofs
