/- Sets of all numbers between two numbers: plain laws. -/
import Derived.Test.YtnbkdgmgbaangaaGreatDoorFL
open Rat renaming le_trans → Za, not_le → Zc, le_refl → Zd, mul_pos → Ze
open Classical renaming byContradiction → Zb
namespace Go.Proofs
open Go Go.Eng
structure Sp where
 lo:Rat
 hi:Rat
def Sp.has (s:Sp)(x:Rat):Prop:=s.lo<=x/\x<=s.hi
def Sp.sub (s t:Sp):Prop:=t.lo<=s.lo/\s.hi<=t.hi
def W9 (a:Rat):Sp:=⟨a,a⟩
def QCY (s t:Sp):Sp:=⟨s.lo+t.lo,s.hi+t.hi⟩
def QS3 (s t:Sp):Sp:=⟨s.lo-t.hi,s.hi-t.lo⟩
def YM (s t:Sp):Sp:=⟨XF (XF (XF (s.lo*t.lo) (s.lo*t.hi)) (s.hi*t.lo)) (s.hi*t.hi),XJ (XJ (XJ (s.lo*t.lo) (s.lo*t.hi)) (s.hi*t.lo)) (s.hi*t.hi)⟩
def J4 (s:Sp)(x:Rat):Bool:=decide (s.lo<=x)&&decide (x<=s.hi)
def QHD (s:Sp):Sp:=⟨bif J4 s 0 then 0 else XF (s.lo*s.lo) (s.hi*s.hi),XJ (s.lo*s.lo) (s.hi*s.hi)⟩
def Wu (s t:Sp):Sp:=⟨XF s.lo t.lo,XJ s.hi t.hi⟩
def VI (p:Rat)(d:Nat):Rat:=mkRat (p*(d:Rat)).floor d
def upR (p:Rat)(d:Nat):Rat:= -VI (-p) d
def QS4 (s:Sp)(d:Nat):Sp:=⟨VI s.lo d,upR s.hi d⟩
def Gn (s:Sp):Sp:=⟨XJ (QS4 s 1000000).lo (-1),XF (QS4 s 1000000).hi 1⟩
def QAO (a:Rat):Rat:=(1-a)/(1+a)
def QCZ (t:Sp):Sp:=⟨QAO (QHD t).hi,QAO (QHD t).lo⟩
def WV (t:Sp):Sp:=Wu (W9 (Q4 false t.lo)) (W9 (Q4 false t.hi))
def J0 (t:Sp)(s:Sp)(a:Rat):Sp:=bif J4 t a then Wu s (W9 a)else s
def WW (t:Sp):Sp:=J0 t (J0 t (WV t) (-1)) 1
theorem Y9 (a b:Rat):XF a b<=a:=by unfold XF;split<;>grind
theorem WE (a b:Rat):XF a b<=b:=by unfold XF;split<;>grind
theorem QNb {a b c:Rat}(h1:c<=a)(h2:c<=b):c<=XF a b:=by unfold XF;split<;>assumption
theorem JA (a b:Rat):a<=XJ a b:=by unfold XJ;split<;>grind
theorem WG (a b:Rat):b<=XJ a b:=by unfold XJ;split<;>grind
theorem QX6 {a b c:Rat}(h1:a<=c)(h2:b<=c):XJ a b<=c:=by unfold XJ;split<;>assumption
theorem Sp.has.ok {s:Sp}{x:Rat}(h:s.has x):s.lo<=s.hi:=Za h.1 h.2
theorem Sp.has.sub {s t:Sp}{x:Rat}(h:s.has x)(k:s.sub t):t.has x:=⟨Za k.1 h.1,Za h.2 k.2⟩
theorem QFI {s:Sp}{x:Rat}:J4 s x=true↔s.has x:=by
 unfold J4 Sp.has;simp
theorem XH (a:Rat):(W9 a).has a:=⟨Zd,Zd⟩
theorem JB {s t:Sp}{x y:Rat}(h:s.has x)(k:t.has y):(QCY s t).has (x+y):=by
 obtain⟨h1,h2⟩:=h;obtain⟨k1,k2⟩:=k;exact⟨by show s.lo+t.lo<=_;grind,by show _<=s.hi+t.hi;grind⟩
theorem Vc {s t:Sp}{x y:Rat}(h:s.has x)(k:t.has y):(QS3 s t).has (x-y):=by
 obtain⟨h1,h2⟩:=h;obtain⟨k1,k2⟩:=k;exact⟨by show s.lo-t.hi<=_;grind,by show _<=s.hi-t.lo;grind⟩
theorem YY {a b:Rat}(h:0<=a)(k:0<=b):0<=a*b:=Rat.mul_nonneg h k
theorem QHE {p a b x y:Rat}(h1:p<=a*y)(h2:p<=b*y)(ha:a<=x)(hb:x<=b):p<=x*y:=by
 rcases @Rat.le_total 0 y with h | h
 ·have:=YY (show 0<=x-a by grind) h;grind
 ·have:=YY (show 0<=b-x by grind) (show 0<= -y by grind);grind
theorem QHF {p a b x y:Rat}(h1:a*y<=p)(h2:b*y<=p)(ha:a<=x)(hb:x<=b):x*y<=p:=by
 rcases @Rat.le_total 0 y with h | h
 ·have:=YY (show 0<=b-x by grind) h;grind
 ·have:=YY (show 0<=x-a by grind) (show 0<= -y by grind);grind
theorem QS5 {p a b x y:Rat}(h1:p<=y*a)(h2:p<=y*b)(ha:a<=x)(hb:x<=b):p<=y*x:=by
 rw[Rat.mul_comm]at h1 h2⊢;exact QHE h1 h2 ha hb
theorem QS6 {p a b x y:Rat}(h1:y*a<=p)(h2:y*b<=p)(ha:a<=x)(hb:x<=b):y*x<=p:=by
 rw[Rat.mul_comm]at h1 h2⊢;exact QHF h1 h2 ha hb
theorem Q8 {s t:Sp}{x y:Rat}(h:s.has x)(k:t.has y):(YM s t).has (x*y):=by
 obtain⟨h1,h2⟩:=h;obtain⟨k1,k2⟩:=k;have tr:=fun {a b c:Rat} (h:a<=b) (k:b<=c)=>Za h k;have a1:=Y9 (XF (XF (s.lo*t.lo) (s.lo*t.hi)) (s.hi*t.lo)) (s.hi*t.hi);have a2:=WE (XF (XF (s.lo*t.lo) (s.lo*t.hi)) (s.hi*t.lo)) (s.hi*t.hi);have a3:=Y9 (XF (s.lo*t.lo) (s.lo*t.hi)) (s.hi*t.lo);have a4:=WE (XF (s.lo*t.lo) (s.lo*t.hi)) (s.hi*t.lo);have a5:=Y9 (s.lo*t.lo) (s.lo*t.hi);have a6:=WE (s.lo*t.lo) (s.lo*t.hi);have b1:=JA (XJ (XJ (s.lo*t.lo) (s.lo*t.hi)) (s.hi*t.lo)) (s.hi*t.hi);have b2:=WG (XJ (XJ (s.lo*t.lo) (s.lo*t.hi)) (s.hi*t.lo)) (s.hi*t.hi)
 have b3:=JA (XJ (s.lo*t.lo) (s.lo*t.hi)) (s.hi*t.lo);have b4:=WG (XJ (s.lo*t.lo) (s.lo*t.hi)) (s.hi*t.lo);have b5:=JA (s.lo*t.lo) (s.lo*t.hi);have b6:=WG (s.lo*t.lo) (s.lo*t.hi);refine⟨QS5 (QHE (tr a1 (tr a3 a5)) (tr a1 a4) h1 h2) (QHE (tr a1 (tr a3 a6)) a2 h1 h2) k1 k2,QS6 (QHF (tr (tr b5 b3) b1) (tr b4 b1) h1 h2) (QHF (tr (tr b6 b3) b1) b2 h1 h2) k1 k2⟩
theorem QJf {s:Sp}{x:Rat}(h:s.has x):(QHD s).has (x*x):=by
 obtain⟨h1,h2⟩:=h;have hx:=Vs x;have hm:x*x<=XJ (s.lo*s.lo) (s.hi*s.hi):=by
  have b1:=JA (s.lo*s.lo) (s.hi*s.hi);have b2:=WG (s.lo*s.lo) (s.hi*s.hi);rcases @Rat.le_total 0 x with h | h
  ·have:=YY (show 0<=s.hi-x by grind) (show 0<=s.hi+x by grind);grind
  ·have:=YY (show 0<=x-s.lo by grind) (show 0<= -x-s.lo by grind);grind
 refine⟨?_,hm⟩;show(bif J4 s 0 then 0 else XF (s.lo*s.lo) (s.hi*s.hi))<=x*x
 cases hb:J4 s 0 with
 | true=>exact hx
 | false=>
  have hn: ¬s.has 0:=fun e=>by rw[QFI.2 e]at hb;cases hb
  have a1:=Y9 (s.lo*s.lo) (s.hi*s.hi);have a2:=WE (s.lo*s.lo) (s.hi*s.hi);show XF (s.lo*s.lo) (s.hi*s.hi)<=x*x
  by_cases h0:s.lo<=0
  ·have h3:s.hi<0:=Zc.1 fun e=>hn ⟨h0,e⟩;have:=YY (show 0<=s.hi-x by grind) (show 0<= -s.hi-x by grind);grind
  ·have h0:0<s.lo:=Zc.1 h0;have:=YY (show 0<=x-s.lo by grind) (show 0<=x+s.lo by grind);grind
theorem QNc (s:Sp):0<=(QHD s).lo:=by
 show 0<=bif J4 s 0 then 0 else _
 cases J4 s 0 with
 | true=>exact Zd
 | false=>exact QNb (Vs _) (Vs _)
theorem Uu {s t:Sp}{x:Rat}(h:s.has x):(Wu s t).has x:=⟨Za (Y9 _ _) h.1,Za h.2 (JA _ _)⟩
theorem Uv {s t:Sp}{x:Rat}(h:t.has x):(Wu s t).has x:=⟨Za (WE _ _) h.1,Za h.2 (WG _ _)⟩
theorem QJg {d:Nat}(hd:d≠0):(0:Rat)<(d:Rat):=by
 have:=Rat.natCast_pos.2 (Nat.pos_of_ne_zero hd);exact this
theorem Qch (n:Int){d:Nat}(hd:d≠0):mkRat n d*(d:Rat)=(n:Rat):=by
 rw[Rat.mkRat_eq_div,Rat.div_mul_cancel];have:=QJg hd;grind
theorem QJh (p:Rat){d:Nat}(hd:d≠0):VI p d<=p:=by
 have h0:=QJg hd;have h1:=Rat.floor_le (p*(d:Rat));have h2:=Qch (p*(d:Rat)).floor hd;unfold VI;generalize mkRat (p*(d:Rat)).floor d=m at*;rw[<-h2]at h1;apply Zb;intro hn;have:=Ze (show 0<m-p by have:=Zc.1 hn;grind) h0;grind
theorem Qci (p:Rat){d:Nat}(hd:d≠0):p<=upR p d:=by
 have:=QJh (-p) hd;unfold upR;grind
theorem QPe {s:Sp}{x:Rat}{d:Nat}(hd:d≠0)(h:s.has x):(QS4 s d).has x:=⟨Za (QJh _ hd) h.1,Za h.2 (Qci _ hd)⟩
theorem QFJ {s:Sp}{x:Rat}(h:s.has x)(h1: -1<=x)(h2:x<=1):(Gn s).has x:=by
 have:=QPe (d:=1000000) (by decide) h;exact⟨QX6 this.1 h1,QNb this.2 h2⟩
theorem QJi {a:Rat}(h:0<=a):QAO a*(1+a)=1-a:=Rat.div_mul_cancel (by grind)
theorem Hs {a b:Rat}(ha:0<=a)(h:a<=b):QAO b<=QAO a:=by
 have h1:=QJi ha;have h2:=QJi (Za ha h);have hp:=Ze (show 0<1+a by grind) (show 0<1+b by grind);generalize QAO a=x at*;generalize QAO b=y at*;apply Zb;intro hn;have:=Ze (show 0<y-x by have:=Zc.1 hn;grind) hp;have e:(y-x)*((1+a)*(1+b))=(y*(1+b))*(1+a)-(x*(1+a))*(1+b):=by grind
 rw[e,h1,h2]at this;grind
theorem Ht {t:Sp}{x:Rat}(h:t.has x):(QCZ t).has (Xr false x):=by
 have:=QJf h;exact⟨Hs (Vs x) this.2,Hs (QNc t) this.1⟩
theorem QX7 (x y:Rat):(Q4 false x-Q4 false y)*((1+x*x)*(1+y*y))=2*((x-y)*(1-x*y)):=by
 have h1:=JS x;have h2:=JS y;have e:(Q4 false x-Q4 false y)*((1+x*x)*(1+y*y))=(Q4 false x*(1+x*x))*(1+y*y)-(Q4 false y*(1+y*y))*(1+x*x):=by grind
 rw[e,h1,h2];grind
theorem QHG {x y:Rat}(h:(x-y)*(1-x*y)<=0):Q4 false x<=Q4 false y:=by
 have e:=QX7 x y;have hp:=Ze (show 0<1+x*x by have:=Vs x;grind) (show 0<1+y*y by have:=Vs y;grind);apply Zb;intro hn;have:=Ze (show 0<Q4 false x-Q4 false y by have:=Zc.1 hn;grind) hp;grind
theorem QX8:Q4 false 1=1:=by decide+kernel
theorem UE (x:Rat):Q4 false x<=1:=by
 rw[<-QX8];apply QHG;have:=Vs (x-1);grind
theorem QAl (x:Rat):Q4 false (-x)= -Q4 false x:=by
 have h1:=JS x;have h2:=JS (-x);have h:=sq1 x;refine UD h ?_
 grind
theorem QJj (x:Rat): -1<=Q4 false x:=by
 have:=UE (-x);rw[QAl]at this;grind
theorem QMC (x:Rat):Xr false x<=1:=by
 have:=Hs (a:=0) Zd (Vs x);have e:QAO 0=1:=by decide+kernel
 rw[e]at this;exact this
theorem QJk (x:Rat): -1<=Xr false x:=by
 have h:=Wh x;have hp:0<1+x*x:=by have:=Vs x;grind
 apply Zb;intro hn;have:=Ze (show 0< -1-Xr false x by have:=Zc.1 hn;grind) hp;grind
theorem QS7 {l h x p:Rat}(h1:l<=x)(h2:x<=h)(kl:Q4 false l<=p)(kh:Q4 false h<=p)(k1:l<=1->1<=h->1<=p):Q4 false x<=p:=by
  by_cases c1:l<=1
  · by_cases c2:1<=h
    · exact Za (UE x) (k1 c1 c2)
    · have c2:h<1:=Zc.1 c2;by_cases c3:x*h<=1
      · refine Za (QHG ?_) kh;have:=YY (show 0<=h-x by grind) (show 0<=1-x*h by grind);grind
      · have c3:1<x*h:=Zc.1 c3;refine Za (QHG ?_) kl;have hx:x<0:=by
          apply Zb;intro hn;have hn:0<=x:=Rat.not_lt.1 hn;have:=YY hn (show 0<=1-h by grind);grind
        have e1:=YY (show 0<= -x by grind) (show 0<=h-x by grind);have e2:=YY (show 0<= -x by grind) (show 0<=x-l by grind);have:=YY (show 0<=x-l by grind) (show 0<=x*l-1 by grind);grind
  · have c1:1<l:=Zc.1 c1;refine Za (QHG ?_) kl;have e1:=YY (show 0<=l by grind) (show 0<=x-l by grind);have e2:=YY (show 0<=l-1 by grind) (show 0<=l+1 by grind);have:=YY (show 0<=x-l by grind) (show 0<=x*l-1 by grind);grind
theorem Qcj {l h x p:Rat}(h1:l<=x)(h2:x<=h)(kl:p<=Q4 false l)(kh:p<=Q4 false h)(k1:l<= -1-> -1<=h->p<= -1):p<=Q4 false x:=by
 have:=QS7 (l:= -h) (h:= -l) (x:= -x) (p:= -p) (by grind) (by grind) (by rw[QAl];grind) (by rw[QAl];grind) (fun a b=>by have:=k1 (by grind) (by grind);grind);rw[QAl]at this;grind
theorem Wi (t s:Sp)(a:Rat):s.sub (J0 t s a):=by
 unfold J0;cases J4 t a with
 | true=>exact⟨Y9 _ _,JA _ _⟩
 | false=>exact⟨Zd,Zd⟩
theorem QCa {t s:Sp}{a:Rat}(h:t.has a):(J0 t s a).has a:=by
 unfold J0;rw[QFI.2 h];exact Uv (XH a)
theorem Hu {t:Sp}{x:Rat}(h:t.has x):(WW t).has (Q4 false x):=by
 have s0:(WV t).has (Q4 false t.lo):=Uu (XH _);have s1:(WV t).has (Q4 false t.hi):=Uv (XH _);have k1:=Wi t (WV t) (-1);have k2:=Wi t (J0 t (WV t) (-1)) 1;have a1:=(s0.sub k1).sub k2;have a2:=(s1.sub k1).sub k2;refine⟨Qcj h.1 h.2 a1.1 a2.1 fun b1 b2=> ?_,QS7 h.1 h.2 a1.2 a2.2 fun b1 b2=> ?_⟩
 ·exact((QCa ⟨b1,b2⟩:(J0 t (WV t) (-1)).has (-1)).sub k2).1
 ·exact(QCa ⟨b1,b2⟩:(WW t).has 1).2
theorem Sp.sub.trans {s t u:Sp}(h:s.sub t)(k:t.sub u):s.sub u:=⟨Za k.1 h.1,Za h.2 k.2⟩
end Go.Proofs
namespace Go.Proofs
open Go Go.Eng
structure LoV where
 x:Sp
 y:Sp
 c:Sp
 s:Sp
structure LoV.has (l:LoV)(f:FrV):Prop where
 x:l.x.has f.x
 y:l.y.has f.y
 c:l.c.has (Xr f.h f.t)
 s:l.s.has (Q4 f.h f.t)
structure LoV.sub (l m:LoV):Prop where
 x:l.x.sub m.x
 y:l.y.sub m.y
 c:l.c.sub m.c
 s:l.s.sub m.s
def loC (l:LoV)(t:Sp):Sp:=Gn (QS3 (YM l.c (QCZ t)) (YM l.s (WW t)))
def loS (l:LoV)(t:Sp):Sp:=Gn (QCY (YM l.s (QCZ t)) (YM l.c (WW t)))
def Hv (l:LoV)(t:Sp):LoV:=⟨l.x,l.y,loC l t,loS l t⟩
def QS8 (n:LoV)(len:Rat):LoV:=⟨QCY n.x (YM (W9 len) n.c),QCY n.y (YM (W9 len) n.s),n.c,n.s⟩
def Xn:LoV->List Qg->List Sp->List LoV
 | l,L::ls,t::ts=>Hv l t::Xn (QS8 (Hv l t) L.len) ls ts
 | l,_,_=>[l]
def YZ (a:QN):LoV:=⟨W9 a.x,W9 a.y,W9 (Xr a.half a.t),W9 (Q4 a.half a.t)⟩
def HasQ (ts:List Sp)(qs:List Rat):Prop:=ts.length=qs.length/\ ∀(i:Nat) t q,ts[i]? =some t->qs[i]? =some q->t.has q
theorem QX9 (h:Bool)(t:Rat): -1<=Xr h t/\Xr h t<=1:=by
 cases h with
 | true=>exact⟨Zd,by show(-1:Rat)<=1;decide+kernel⟩
 | false=>exact⟨QJk t,QMC t⟩
theorem QYA (h:Bool)(t:Rat): -1<=Q4 h t/\Q4 h t<=1:=by
 cases h with
 | true=>exact⟨by show(-1:Rat)<=0;decide+kernel,by show(0:Rat)<=1;decide+kernel⟩
 | false=>exact⟨QJj t,UE t⟩
theorem QCb {l:LoV}{f:FrV}{t:Sp}{q:Rat}(h:l.has f)(k:t.has q):(Hv l t).has (Jg f ⟨0,0,false,q⟩):=by
 obtain⟨e1,e2⟩:=QX3 f q;obtain⟨c1,c2⟩:=Qae f.h f.t false q;have i1:=QX9 (thH f.h f.t false q) (thT f.h f.t false q);have i2:=QYA (thH f.h f.t false q) (thT f.h f.t false q);refine⟨by rw[e1];exact h.x,by rw[e2];exact h.y,?_,?_⟩
 ·show(loC l t).has (Xr (thH f.h f.t false q) (thT f.h f.t false q))
  rw[c1]at i1⊢;exact QFJ (Vc (Q8 h.c (Ht k)) (Q8 h.s (Hu k))) i1.1 i1.2
 ·show(loS l t).has (Q4 (thH f.h f.t false q) (thT f.h f.t false q))
  rw[c2]at i2⊢;exact QFJ (JB (Q8 h.s (Ht k)) (Q8 h.c (Hu k))) i2.1 i2.2
theorem QFK {l:LoV}{f:FrV}(h:l.has f)(len:Rat):(QS8 l len).has (Jg f ⟨len,0,false,0⟩):=by
 obtain⟨c1,c2⟩:=QgU f len;refine⟨?_,?_,by rw[c1];exact h.c,by rw[c2];exact h.s⟩
 ·have e:(Jg f ⟨len,0,false,0⟩).x=f.x+len*Xr f.h f.t:=by show QAL f len 0=_;unfold QAL;grind
  rw[e];exact JB h.x (Q8 (XH len) h.c)
 ·have e:(Jg f ⟨len,0,false,0⟩).y=f.y+len*Q4 f.h f.t:=by show QAM f len 0=_;unfold QAM;grind
  rw[e];exact JB h.y (Q8 (XH len) h.s)
theorem HasQ.tail {t:Sp}{ts:List Sp}{q:Rat}{qs:List Rat}(h:HasQ (t::ts) (q::qs)):t.has q/\HasQ ts qs:=
 ⟨h.2 0 t q rfl rfl,by simpa using h.1,fun i t q h1 h2=>h.2 (i+1) t q h1 h2⟩
theorem UF: ∀(ls:List Qg) (ts:List Sp) (qs:List Rat) (l:LoV) (b:FrV),l.has b->HasQ ts qs-> ∀(i:Nat) m f,(Xn l ls ts)[i]? =some m->(Wg b ls qs)[i]? =some f->m.has f:=by
 intro ls;induction ls with
 | nil=>
  intro ts qs l b h _ i m f hm hf;have e1:Xn l [] ts=[l]:=by cases ts<;>rfl
  have e2:Wg b [] qs=[b]:=by cases qs<;>rfl
  rw[e1]at hm;rw[e2]at hf;cases i with
  | zero=>cases hm;cases hf;exact h
  | succ i=>cases hm
 | cons L ls ih=>
  intro ts qs l b h hq i m f hm hf;match ts,qs,hq with
  | [],[],_=>
   cases i with
   | zero=>cases hm;cases hf;exact h
   | succ i=>cases hm
  | [],q::qs,hq=>exact absurd hq.1 (by simp)
  | t::ts,[],hq=>exact absurd hq.1 (by simp)
  | t::ts,q::qs,hq=>
   obtain⟨h1,h2⟩:=hq.tail;have hn:=QCb h h1;cases i with
   | zero=>cases hm;cases hf;exact hn
   | succ i=>exact ih ts qs _ _ (QFK hn L.len) h2 i m f hm hf
theorem QCc: ∀(ls:List Qg) (qs:List Rat) (b:FrV),qs.length=ls.length->(Wg b ls qs).length=ls.length+1:=by
 intro ls;induction ls with
 | nil=>intro qs b _;cases qs<;>rfl
 | cons L ls ih=>
  intro qs b h;match qs,h with
  | q::qs,h=>simp only[Wg,List.length_cons];rw[ih qs _ (by simpa using h)]
theorem Uw (a:QN):(YZ a).has (Vt a):=⟨XH _,XH _,XH _,XH _⟩
end Go.Proofs
