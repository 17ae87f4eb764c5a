/- Sets of all numbers between two numbers: plain laws. -/
import Derived.Test.YtnbkdgmgbaangaaGreatDoorFL
open Rat renaming le_trans → Za, not_le → Zc, le_refl → Zd, mul_pos → Ze
open Classical renaming byContradiction → Zb
namespace Go.Proofs
open Go Go.Eng
structure Sp where
 lo:Rat
 hi:Rat
def Sp.has (s:Sp)(x:Rat):Prop:=s.lo<=x/\x<=s.hi
def Sp.sub (s t:Sp):Prop:=t.lo<=s.lo/\s.hi<=t.hi
def W8 (a:Rat):Sp:=⟨a,a⟩
def QCS (s t:Sp):Sp:=⟨s.lo+t.lo,s.hi+t.hi⟩
def QS9 (s t:Sp):Sp:=⟨s.lo-t.hi,s.hi-t.lo⟩
def YK (s t:Sp):Sp:=⟨XC (XC (XC (s.lo*t.lo) (s.lo*t.hi)) (s.hi*t.lo)) (s.hi*t.hi),XF (XF (XF (s.lo*t.lo) (s.lo*t.hi)) (s.hi*t.lo)) (s.hi*t.hi)⟩
def J3 (s:Sp)(x:Rat):Bool:=decide (s.lo<=x)&&decide (x<=s.hi)
def QG8 (s:Sp):Sp:=⟨bif J3 s 0 then 0 else XC (s.lo*s.lo) (s.hi*s.hi),XF (s.lo*s.lo) (s.hi*s.hi)⟩
def Wu (s t:Sp):Sp:=⟨XC s.lo t.lo,XF s.hi t.hi⟩
def VH (p:Rat)(d:Nat):Rat:=mkRat (p*(d:Rat)).floor d
def upR (p:Rat)(d:Nat):Rat:= -VH (-p) d
def QTA (s:Sp)(d:Nat):Sp:=⟨VH s.lo d,upR s.hi d⟩
def Gj (s:Sp):Sp:=⟨XF (QTA s 1000000).lo (-1),XC (QTA s 1000000).hi 1⟩
def QAJ (a:Rat):Rat:=(1-a)/(1+a)
def QCT (t:Sp):Sp:=⟨QAJ (QG8 t).hi,QAJ (QG8 t).lo⟩
def WV (t:Sp):Sp:=Wu (W8 (Q3 false t.lo)) (W8 (Q3 false t.hi))
def J0 (t:Sp)(s:Sp)(a:Rat):Sp:=bif J3 t a then Wu s (W8 a)else s
def WW (t:Sp):Sp:=J0 t (J0 t (WV t) (-1)) 1
theorem Y9 (a b:Rat):XC a b<=a:=by unfold XC;split<;>grind
theorem WE (a b:Rat):XC a b<=b:=by unfold XC;split<;>grind
theorem QNe {a b c:Rat}(h1:c<=a)(h2:c<=b):c<=XC a b:=by unfold XC;split<;>assumption
theorem JA (a b:Rat):a<=XF a b:=by unfold XF;split<;>grind
theorem WG (a b:Rat):b<=XF a b:=by unfold XF;split<;>grind
theorem QYA {a b c:Rat}(h1:a<=c)(h2:b<=c):XF a b<=c:=by unfold XF;split<;>assumption
theorem Sp.has.ok {s:Sp}{x:Rat}(h:s.has x):s.lo<=s.hi:=Za h.1 h.2
theorem Sp.has.sub {s t:Sp}{x:Rat}(h:s.has x)(k:s.sub t):t.has x:=⟨Za k.1 h.1,Za h.2 k.2⟩
theorem QFB {s:Sp}{x:Rat}:J3 s x=true↔s.has x:=by
 unfold J3 Sp.has;simp
theorem XH (a:Rat):(W8 a).has a:=⟨Zd,Zd⟩
theorem JB {s t:Sp}{x y:Rat}(h:s.has x)(k:t.has y):(QCS s t).has (x+y):=by
 obtain⟨h1,h2⟩:=h;obtain⟨k1,k2⟩:=k;exact⟨by show s.lo+t.lo<=_;grind,by show _<=s.hi+t.hi;grind⟩
theorem Va {s t:Sp}{x y:Rat}(h:s.has x)(k:t.has y):(QS9 s t).has (x-y):=by
 obtain⟨h1,h2⟩:=h;obtain⟨k1,k2⟩:=k;exact⟨by show s.lo-t.hi<=_;grind,by show _<=s.hi-t.lo;grind⟩
theorem YX {a b:Rat}(h:0<=a)(k:0<=b):0<=a*b:=Rat.mul_nonneg h k
theorem QG9 {p a b x y:Rat}(h1:p<=a*y)(h2:p<=b*y)(ha:a<=x)(hb:x<=b):p<=x*y:=by
 rcases @Rat.le_total 0 y with h | h
 ·have:=YX (show 0<=x-a by grind) h;grind
 ·have:=YX (show 0<=b-x by grind) (show 0<= -y by grind);grind
theorem QHA {p a b x y:Rat}(h1:a*y<=p)(h2:b*y<=p)(ha:a<=x)(hb:x<=b):x*y<=p:=by
 rcases @Rat.le_total 0 y with h | h
 ·have:=YX (show 0<=b-x by grind) h;grind
 ·have:=YX (show 0<=x-a by grind) (show 0<= -y by grind);grind
theorem QTB {p a b x y:Rat}(h1:p<=y*a)(h2:p<=y*b)(ha:a<=x)(hb:x<=b):p<=y*x:=by
 rw[Rat.mul_comm]at h1 h2⊢;exact QG9 h1 h2 ha hb
theorem QTC {p a b x y:Rat}(h1:y*a<=p)(h2:y*b<=p)(ha:a<=x)(hb:x<=b):y*x<=p:=by
 rw[Rat.mul_comm]at h1 h2⊢;exact QHA h1 h2 ha hb
theorem Q7 {s t:Sp}{x y:Rat}(h:s.has x)(k:t.has y):(YK s t).has (x*y):=by
 obtain⟨h1,h2⟩:=h;obtain⟨k1,k2⟩:=k;have tr:=fun {a b c:Rat} (h:a<=b) (k:b<=c)=>Za h k;have a1:=Y9 (XC (XC (s.lo*t.lo) (s.lo*t.hi)) (s.hi*t.lo)) (s.hi*t.hi);have a2:=WE (XC (XC (s.lo*t.lo) (s.lo*t.hi)) (s.hi*t.lo)) (s.hi*t.hi);have a3:=Y9 (XC (s.lo*t.lo) (s.lo*t.hi)) (s.hi*t.lo);have a4:=WE (XC (s.lo*t.lo) (s.lo*t.hi)) (s.hi*t.lo);have a5:=Y9 (s.lo*t.lo) (s.lo*t.hi);have a6:=WE (s.lo*t.lo) (s.lo*t.hi);have b1:=JA (XF (XF (s.lo*t.lo) (s.lo*t.hi)) (s.hi*t.lo)) (s.hi*t.hi);have b2:=WG (XF (XF (s.lo*t.lo) (s.lo*t.hi)) (s.hi*t.lo)) (s.hi*t.hi)
 have b3:=JA (XF (s.lo*t.lo) (s.lo*t.hi)) (s.hi*t.lo);have b4:=WG (XF (s.lo*t.lo) (s.lo*t.hi)) (s.hi*t.lo);have b5:=JA (s.lo*t.lo) (s.lo*t.hi);have b6:=WG (s.lo*t.lo) (s.lo*t.hi);refine⟨QTB (QG9 (tr a1 (tr a3 a5)) (tr a1 a4) h1 h2) (QG9 (tr a1 (tr a3 a6)) a2 h1 h2) k1 k2,QTC (QHA (tr (tr b5 b3) b1) (tr b4 b1) h1 h2) (QHA (tr (tr b6 b3) b1) b2 h1 h2) k1 k2⟩
theorem QJc {s:Sp}{x:Rat}(h:s.has x):(QG8 s).has (x*x):=by
 obtain⟨h1,h2⟩:=h;have hx:=Vq x;have hm:x*x<=XF (s.lo*s.lo) (s.hi*s.hi):=by
  have b1:=JA (s.lo*s.lo) (s.hi*s.hi);have b2:=WG (s.lo*s.lo) (s.hi*s.hi);rcases @Rat.le_total 0 x with h | h
  ·have:=YX (show 0<=s.hi-x by grind) (show 0<=s.hi+x by grind);grind
  ·have:=YX (show 0<=x-s.lo by grind) (show 0<= -x-s.lo by grind);grind
 refine⟨?_,hm⟩;show(bif J3 s 0 then 0 else XC (s.lo*s.lo) (s.hi*s.hi))<=x*x
 cases hb:J3 s 0 with
 | true=>exact hx
 | false=>
  have hn: ¬s.has 0:=fun e=>by rw[QFB.2 e]at hb;cases hb
  have a1:=Y9 (s.lo*s.lo) (s.hi*s.hi);have a2:=WE (s.lo*s.lo) (s.hi*s.hi);show XC (s.lo*s.lo) (s.hi*s.hi)<=x*x
  by_cases h0:s.lo<=0
  ·have h3:s.hi<0:=Zc.1 fun e=>hn ⟨h0,e⟩;have:=YX (show 0<=s.hi-x by grind) (show 0<= -s.hi-x by grind);grind
  ·have h0:0<s.lo:=Zc.1 h0;have:=YX (show 0<=x-s.lo by grind) (show 0<=x+s.lo by grind);grind
theorem QNf (s:Sp):0<=(QG8 s).lo:=by
 show 0<=bif J3 s 0 then 0 else _
 cases J3 s 0 with
 | true=>exact Zd
 | false=>exact QNe (Vq _) (Vq _)
theorem Us {s t:Sp}{x:Rat}(h:s.has x):(Wu s t).has x:=⟨Za (Y9 _ _) h.1,Za h.2 (JA _ _)⟩
theorem Ut {s t:Sp}{x:Rat}(h:t.has x):(Wu s t).has x:=⟨Za (WE _ _) h.1,Za h.2 (WG _ _)⟩
theorem QJd {d:Nat}(hd:d≠0):(0:Rat)<(d:Rat):=by
 have:=Rat.natCast_pos.2 (Nat.pos_of_ne_zero hd);exact this
theorem Qci (n:Int){d:Nat}(hd:d≠0):mkRat n d*(d:Rat)=(n:Rat):=by
 rw[Rat.mkRat_eq_div,Rat.div_mul_cancel];have:=QJd hd;grind
theorem QJe (p:Rat){d:Nat}(hd:d≠0):VH p d<=p:=by
 have h0:=QJd hd;have h1:=Rat.floor_le (p*(d:Rat));have h2:=Qci (p*(d:Rat)).floor hd;unfold VH;generalize mkRat (p*(d:Rat)).floor d=m at*;rw[<-h2]at h1;apply Zb;intro hn;have:=Ze (show 0<m-p by have:=Zc.1 hn;grind) h0;grind
theorem Qcj (p:Rat){d:Nat}(hd:d≠0):p<=upR p d:=by
 have:=QJe (-p) hd;unfold upR;grind
theorem QPk {s:Sp}{x:Rat}{d:Nat}(hd:d≠0)(h:s.has x):(QTA s d).has x:=⟨Za (QJe _ hd) h.1,Za h.2 (Qcj _ hd)⟩
theorem QFC {s:Sp}{x:Rat}(h:s.has x)(h1: -1<=x)(h2:x<=1):(Gj s).has x:=by
 have:=QPk (d:=1000000) (by decide) h;exact⟨QYA this.1 h1,QNe this.2 h2⟩
theorem QJf {a:Rat}(h:0<=a):QAJ a*(1+a)=1-a:=Rat.div_mul_cancel (by grind)
theorem Hp {a b:Rat}(ha:0<=a)(h:a<=b):QAJ b<=QAJ a:=by
 have h1:=QJf ha;have h2:=QJf (Za ha h);have hp:=Ze (show 0<1+a by grind) (show 0<1+b by grind);generalize QAJ a=x at*;generalize QAJ b=y at*;apply Zb;intro hn;have:=Ze (show 0<y-x by have:=Zc.1 hn;grind) hp;have e:(y-x)*((1+a)*(1+b))=(y*(1+b))*(1+a)-(x*(1+a))*(1+b):=by grind
 rw[e,h1,h2]at this;grind
theorem Hq {t:Sp}{x:Rat}(h:t.has x):(QCT t).has (Xq false x):=by
 have:=QJc h;exact⟨Hp (Vq x) this.2,Hp (QNf t) this.1⟩
theorem QYB (x y:Rat):(Q3 false x-Q3 false y)*((1+x*x)*(1+y*y))=2*((x-y)*(1-x*y)):=by
 have h1:=JS x;have h2:=JS y;have e:(Q3 false x-Q3 false y)*((1+x*x)*(1+y*y))=(Q3 false x*(1+x*x))*(1+y*y)-(Q3 false y*(1+y*y))*(1+x*x):=by grind
 rw[e,h1,h2];grind
theorem QHB {x y:Rat}(h:(x-y)*(1-x*y)<=0):Q3 false x<=Q3 false y:=by
 have e:=QYB x y;have hp:=Ze (show 0<1+x*x by have:=Vq x;grind) (show 0<1+y*y by have:=Vq y;grind);apply Zb;intro hn;have:=Ze (show 0<Q3 false x-Q3 false y by have:=Zc.1 hn;grind) hp;grind
theorem QYC:Q3 false 1=1:=by decide+kernel
theorem UC (x:Rat):Q3 false x<=1:=by
 rw[<-QYC];apply QHB;have:=Vq (x-1);grind
theorem QAg (x:Rat):Q3 false (-x)= -Q3 false x:=by
 have h1:=JS x;have h2:=JS (-x);have h:=sq1 x;refine UB h ?_
 grind
theorem QJg (x:Rat): -1<=Q3 false x:=by
 have:=UC (-x);rw[QAg]at this;grind
theorem QMA (x:Rat):Xq false x<=1:=by
 have:=Hp (a:=0) Zd (Vq x);have e:QAJ 0=1:=by decide+kernel
 rw[e]at this;exact this
theorem QJh (x:Rat): -1<=Xq false x:=by
 have h:=Wi x;have hp:0<1+x*x:=by have:=Vq x;grind
 apply Zb;intro hn;have:=Ze (show 0< -1-Xq false x by have:=Zc.1 hn;grind) hp;grind
theorem QTD {l h x p:Rat}(h1:l<=x)(h2:x<=h)(kl:Q3 false l<=p)(kh:Q3 false h<=p)(k1:l<=1->1<=h->1<=p):Q3 false x<=p:=by
  by_cases c1:l<=1
  · by_cases c2:1<=h
    · exact Za (UC x) (k1 c1 c2)
    · have c2:h<1:=Zc.1 c2;by_cases c3:x*h<=1
      · refine Za (QHB ?_) kh;have:=YX (show 0<=h-x by grind) (show 0<=1-x*h by grind);grind
      · have c3:1<x*h:=Zc.1 c3;refine Za (QHB ?_) kl;have hx:x<0:=by
          apply Zb;intro hn;have hn:0<=x:=Rat.not_lt.1 hn;have:=YX hn (show 0<=1-h by grind);grind
        have e1:=YX (show 0<= -x by grind) (show 0<=h-x by grind);have e2:=YX (show 0<= -x by grind) (show 0<=x-l by grind);have:=YX (show 0<=x-l by grind) (show 0<=x*l-1 by grind);grind
  · have c1:1<l:=Zc.1 c1;refine Za (QHB ?_) kl;have e1:=YX (show 0<=l by grind) (show 0<=x-l by grind);have e2:=YX (show 0<=l-1 by grind) (show 0<=l+1 by grind);have:=YX (show 0<=x-l by grind) (show 0<=x*l-1 by grind);grind
theorem Qck {l h x p:Rat}(h1:l<=x)(h2:x<=h)(kl:p<=Q3 false l)(kh:p<=Q3 false h)(k1:l<= -1-> -1<=h->p<= -1):p<=Q3 false x:=by
 have:=QTD (l:= -h) (h:= -l) (x:= -x) (p:= -p) (by grind) (by grind) (by rw[QAg];grind) (by rw[QAg];grind) (fun a b=>by have:=k1 (by grind) (by grind);grind);rw[QAg]at this;grind
theorem Wj (t s:Sp)(a:Rat):s.sub (J0 t s a):=by
 unfold J0;cases J3 t a with
 | true=>exact⟨Y9 _ _,JA _ _⟩
 | false=>exact⟨Zd,Zd⟩
theorem QCU {t s:Sp}{a:Rat}(h:t.has a):(J0 t s a).has a:=by
 unfold J0;rw[QFB.2 h];exact Ut (XH a)
theorem Hr {t:Sp}{x:Rat}(h:t.has x):(WW t).has (Q3 false x):=by
 have s0:(WV t).has (Q3 false t.lo):=Us (XH _);have s1:(WV t).has (Q3 false t.hi):=Ut (XH _);have k1:=Wj t (WV t) (-1);have k2:=Wj t (J0 t (WV t) (-1)) 1;have a1:=(s0.sub k1).sub k2;have a2:=(s1.sub k1).sub k2;refine⟨Qck h.1 h.2 a1.1 a2.1 fun b1 b2=> ?_,QTD h.1 h.2 a1.2 a2.2 fun b1 b2=> ?_⟩
 ·exact((QCU ⟨b1,b2⟩:(J0 t (WV t) (-1)).has (-1)).sub k2).1
 ·exact(QCU ⟨b1,b2⟩:(WW t).has 1).2
theorem Sp.sub.trans {s t u:Sp}(h:s.sub t)(k:t.sub u):s.sub u:=⟨Za k.1 h.1,Za h.2 k.2⟩
end Go.Proofs
namespace Go.Proofs
open Go Go.Eng
structure LoV where
 x:Sp
 y:Sp
 c:Sp
 s:Sp
structure LoV.has (l:LoV)(f:FrV):Prop where
 x:l.x.has f.x
 y:l.y.has f.y
 c:l.c.has (Xq f.h f.t)
 s:l.s.has (Q3 f.h f.t)
structure LoV.sub (l m:LoV):Prop where
 x:l.x.sub m.x
 y:l.y.sub m.y
 c:l.c.sub m.c
 s:l.s.sub m.s
def loC (l:LoV)(t:Sp):Sp:=Gj (QS9 (YK l.c (QCT t)) (YK l.s (WW t)))
def loS (l:LoV)(t:Sp):Sp:=Gj (QCS (YK l.s (QCT t)) (YK l.c (WW t)))
def Hs (l:LoV)(t:Sp):LoV:=⟨l.x,l.y,loC l t,loS l t⟩
def QTE (n:LoV)(len:Rat):LoV:=⟨QCS n.x (YK (W8 len) n.c),QCS n.y (YK (W8 len) n.s),n.c,n.s⟩
def Xm:LoV->List Qi->List Sp->List LoV
 | l,L::ls,t::ts=>Hs l t::Xm (QTE (Hs l t) L.len) ls ts
 | l,_,_=>[l]
def YY (a:QN):LoV:=⟨W8 a.x,W8 a.y,W8 (Xq a.half a.t),W8 (Q3 a.half a.t)⟩
def HasQ (ts:List Sp)(qs:List Rat):Prop:=ts.length=qs.length/\ ∀(i:Nat) t q,ts[i]? =some t->qs[i]? =some q->t.has q
theorem QYD (h:Bool)(t:Rat): -1<=Xq h t/\Xq h t<=1:=by
 cases h with
 | true=>exact⟨Zd,by show(-1:Rat)<=1;decide+kernel⟩
 | false=>exact⟨QJh t,QMA t⟩
theorem QYE (h:Bool)(t:Rat): -1<=Q3 h t/\Q3 h t<=1:=by
 cases h with
 | true=>exact⟨by show(-1:Rat)<=0;decide+kernel,by show(0:Rat)<=1;decide+kernel⟩
 | false=>exact⟨QJg t,UC t⟩
theorem QCV {l:LoV}{f:FrV}{t:Sp}{q:Rat}(h:l.has f)(k:t.has q):(Hs l t).has (Jg f ⟨0,0,false,q⟩):=by
 obtain⟨e1,e2⟩:=QX7 f q;obtain⟨c1,c2⟩:=Qaf f.h f.t false q;have i1:=QYD (thH f.h f.t false q) (thT f.h f.t false q);have i2:=QYE (thH f.h f.t false q) (thT f.h f.t false q);refine⟨by rw[e1];exact h.x,by rw[e2];exact h.y,?_,?_⟩
 ·show(loC l t).has (Xq (thH f.h f.t false q) (thT f.h f.t false q))
  rw[c1]at i1⊢;exact QFC (Va (Q7 h.c (Hq k)) (Q7 h.s (Hr k))) i1.1 i1.2
 ·show(loS l t).has (Q3 (thH f.h f.t false q) (thT f.h f.t false q))
  rw[c2]at i2⊢;exact QFC (JB (Q7 h.s (Hq k)) (Q7 h.c (Hr k))) i2.1 i2.2
theorem QFD {l:LoV}{f:FrV}(h:l.has f)(len:Rat):(QTE l len).has (Jg f ⟨len,0,false,0⟩):=by
 obtain⟨c1,c2⟩:=QgV f len;refine⟨?_,?_,by rw[c1];exact h.c,by rw[c2];exact h.s⟩
 ·have e:(Jg f ⟨len,0,false,0⟩).x=f.x+len*Xq f.h f.t:=by show QAG f len 0=_;unfold QAG;grind
  rw[e];exact JB h.x (Q7 (XH len) h.c)
 ·have e:(Jg f ⟨len,0,false,0⟩).y=f.y+len*Q3 f.h f.t:=by show QAH f len 0=_;unfold QAH;grind
  rw[e];exact JB h.y (Q7 (XH len) h.s)
theorem HasQ.tail {t:Sp}{ts:List Sp}{q:Rat}{qs:List Rat}(h:HasQ (t::ts) (q::qs)):t.has q/\HasQ ts qs:=
 ⟨h.2 0 t q rfl rfl,by simpa using h.1,fun i t q h1 h2=>h.2 (i+1) t q h1 h2⟩
theorem UD: ∀(ls:List Qi) (ts:List Sp) (qs:List Rat) (l:LoV) (b:FrV),l.has b->HasQ ts qs-> ∀(i:Nat) m f,(Xm l ls ts)[i]? =some m->(Wh b ls qs)[i]? =some f->m.has f:=by
 intro ls;induction ls with
 | nil=>
  intro ts qs l b h _ i m f hm hf;have e1:Xm l [] ts=[l]:=by cases ts<;>rfl
  have e2:Wh b [] qs=[b]:=by cases qs<;>rfl
  rw[e1]at hm;rw[e2]at hf;cases i with
  | zero=>cases hm;cases hf;exact h
  | succ i=>cases hm
 | cons L ls ih=>
  intro ts qs l b h hq i m f hm hf;match ts,qs,hq with
  | [],[],_=>
   cases i with
   | zero=>cases hm;cases hf;exact h
   | succ i=>cases hm
  | [],q::qs,hq=>exact absurd hq.1 (by simp)
  | t::ts,[],hq=>exact absurd hq.1 (by simp)
  | t::ts,q::qs,hq=>
   obtain⟨h1,h2⟩:=hq.tail;have hn:=QCV h h1;cases i with
   | zero=>cases hm;cases hf;exact hn
   | succ i=>exact ih ts qs _ _ (QFD hn L.len) h2 i m f hm hf
theorem QCW: ∀(ls:List Qi) (qs:List Rat) (b:FrV),qs.length=ls.length->(Wh b ls qs).length=ls.length+1:=by
 intro ls;induction ls with
 | nil=>intro qs b _;cases qs<;>rfl
 | cons L ls ih=>
  intro qs b h;match qs,h with
  | q::qs,h=>simp only[Wh,List.length_cons];rw[ih qs _ (by simpa using h)]
theorem Uu (a:QN):(YY a).has (Vr a):=⟨XH _,XH _,XH _,XH _⟩
end Go.Proofs
