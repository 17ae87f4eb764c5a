/- Polynomials of a degree up to 2: what ready, Roots, Count, Fine answer, plainly. -/
import Derived.Test.YtjdhppdpbkoihaaGreatDoorQC
open Option renaming bind_some → Za
open Rat renaming mul_pos → Zb, mul_nonneg → Zc, le_refl → Ze, mul_eq_zero → Zf, le_of_lt → Zg
open Nat renaming one_le_two_pow → Zd
namespace Go.Proofs
open Go Go.Eng
def dsc (p:List Rat):Rat:=p.getD 1 0*p.getD 1 0-4*p.getD 0 0*p.getD 2 0
structure Rdy (p:List Rat)(f:Rat->Rat)(ch:List (List Rat))(U V:Rat->Int)(sep M:Rat)(E:Nat):Prop where
  rdy:Xg p=some ch
  cnt:Cnt ch U V sep
  root: ∀u,U u≠V u↔f u=0
  most:Y4 (ch.getD 0 []) 1=some M
  mbd:Bd E M
  m1:1<=M
  low: ∀u,U u<=U (-M)
  high: ∀u,V M<=V u
  sep:1<=sep*((2^E:Nat):Rat)
  same: ∀lo hi,lo<=hi->((∀u,lo<=u->u<=hi->0<f u)∨(∀u,lo<=u->u<=hi->f u<0))->U lo=V hi
  tw:(∀u v,U u-V v<=1)∨0<dsc p
  keep: ∀lo hi u,U lo=V hi->lo<=u->u<=hi->Qa (f u)=Qa (f lo)
theorem QTy {q:Rat}{n:Nat}(h:0<q)(hb:Bd n q):1<=q*((2^n:Nat):Rat):=by
 have h1:=HE q;have hd:=hb.2;have hn:0<q.num:=by
  have:=Rat.num_nonneg.2 (Zg h);have:q.num≠0:=fun e=>by rw[Rat.num_eq_zero.1 e]at h;exact absurd h (by decide)
  omega
 have k1:(1:Rat)<=(q.num:Rat):=by exact_mod_cast (show(1:Int)<=q.num by omega)
 have k2:((q.den:Int):Rat)<=((2^n:Nat):Rat):=by exact_mod_cast (show(q.den:Int)<=((2^n:Nat):Int)by exact_mod_cast Nat.le_of_lt hd)
 have:=Rat.mul_le_mul_of_nonneg_left k2 (Zg h);grind
theorem QTz {δ:Rat}{n:Nat}(h:0<δ)(hb:Bd n δ):1<=GQ δ*((2^n:Nat):Rat):=by
 unfold GQ Q9;split
 ·have:(1:Rat)<=((2^n:Nat):Rat):=by exact_mod_cast Zd
  grind
 ·exact QTy h hb
theorem QEs (q:Rat):q<=QX q/\ -q<=QX q/\0<=QX q:=by
 rcases WS q with⟨e,h⟩ | ⟨e,h⟩<;>rw[e]<;>refine⟨?_,?_,?_⟩<;>grind
theorem QZh {a b s:Rat}{B:Nat}(ha:Bd B a)(hb:Bd B b)(hu:Unit1 s)(hB:1<=B/\B<=3000):Y4 [a,b,s] 1=some (1+QX a+QX b+QX s)/\Bd (2*B+10) (1+QX a+QX b+QX s):=by
 have b1:Bd 1 (1:Rat):=⟨by decide,by decide⟩;have bs:Bd 1 (QX s):=by rw[hu.abs];exact b1
 have k1:=XV b1 (KN ha);have k2:=XV k1 (KN hb);have k3:=XV k2 bs;refine⟨?_,k3.mono (by omega)⟩;rw[Y4,Xo b1 (KN ha) (by omega)];simp only[Za];rw[Y4,Xo k1 (KN hb) (by omega)];simp only[Za];rw[Y4,Xo k2 bs (by omega)];simp only[Za];rw[Y4]
theorem QZi {a s:Rat}{B:Nat}(ha:Bd B a)(hu:Unit1 s)(hB:1<=B/\B<=3000):Y4 [a,s] 1=some (1+QX a+QX s)/\Bd (2*B+10) (1+QX a+QX s):=by
 have b1:Bd 1 (1:Rat):=⟨by decide,by decide⟩;have bs:Bd 1 (QX s):=by rw[hu.abs];exact b1
 have k1:=XV b1 (KN ha);have k2:=XV k1 bs;refine⟨?_,k2.mono (by omega)⟩;rw[Y4,Xo b1 (KN ha) (by omega)];simp only[Za];rw[Y4,Xo k1 bs (by omega)];simp only[Za];rw[Y4]
theorem QEt {t x y:Rat}(ht:t≠0)(h:Qa (t*x)=Qa (t*y)):Qa x=Qa y:=by
 have pos: ∀{u v:Rat},0<u->(0<u*v↔0<v)/\(u*v<0↔v<0):=fun {u v} hu=>by
  constructor
  ·constructor
   ·intro h;refine Rat.not_le.1 fun e=> ?_
    have:=Zc (a:=u) (b:= -v) (Zg hu) (by grind);grind
   ·exact fun h=>Zb hu h
  ·constructor
   ·intro h;refine Rat.not_le.1 fun e=> ?_
    have:=Zc (Zg hu) e;grind
   ·intro h;have:=Zb hu (b:= -v) (by grind);grind
 have key: ∀{u v w:Rat},0<u->Qa (u*v)=Qa (u*w)->Qa v=Qa w:=fun {u v w} hu h=>by
  have p1:=pos (v:=v) hu;have p2:=pos (v:=w) hu;rcases Q1 (u*v)with⟨e1,f1⟩ | ⟨e1,f1⟩ | ⟨e1,f1⟩<;>rcases Q1 (u*w)with⟨e2,f2⟩ | ⟨e2,f2⟩ | ⟨e2,f2⟩<;>(try (rw[e1,e2]at h;exact absurd h (by decide)))<;>rcases Q1 v with⟨e3,f3⟩ | ⟨e3,f3⟩ | ⟨e3,f3⟩<;>rcases Q1 w with⟨e4,f4⟩ | ⟨e4,f4⟩ | ⟨e4,f4⟩<;>first | (rw[e3,e4];done) | (exfalso;grind)
 rcases(by grind:0<t∨t<0)with h0 | h0
 ·exact key h0 h
 ·have e1: ∀z:Rat,t*z=(-t)*(-z):=fun z=>by grind
  rw[e1,e1]at h;have:=key (by grind) h;have neg: ∀z:Rat,Qa (-z)= -Qa z:=fun z=>by
   rcases Q1 z with⟨e1,f1⟩ | ⟨e1,f1⟩ | ⟨e1,f1⟩<;>rcases Q1 (-z)with⟨e2,f2⟩ | ⟨e2,f2⟩ | ⟨e2,f2⟩<;>rw[e1,e2]<;>first | rfl | (exfalso;grind)
  rw[neg,neg]at this;omega
theorem HR {p:List Rat}{s:List Rat}{ch:List (List Rat)}(h1:1<=(QJ p).length/\(QJ p).length<=13)(h2:Ws (QJ p)=some s)(h3:Xm s=some ch):Xg p=some ch:=by
 unfold Xg;have e1:Nat.beq (QJ p).length 0=false:=by
  cases hb:Nat.beq (QJ p).length 0 with
  | false=>rfl
  | true=>have:=Nat.eq_of_beq_eq_true hb;omega
 rw[e1,Nat.ble_eq_true_of_le h1.2,h2];exact h3
theorem QZj {h δ u:Rat}(_hd:0<δ)(e:uQ h δ u=vQ h δ u):Qa ((u+h)*(u+h)-δ)=if vQ h δ u=1 then-1 else 1:=by
 have n:=mt uq_ne.2 (fun k=>k e);unfold vQ;generalize u+h=y at*;rcases Q1 (y*y-δ)with⟨e1,f1⟩ | ⟨e1,f1⟩ | ⟨e1,f1⟩<;>rw[e1]<;>(repeat' split)<;>first | rfl | (exfalso;grind) | omega
theorem QXd {h δ lo hi:Rat}(hd:0<δ)(hl:lo<=hi)(hs:(∀u,lo<=u->u<=hi->0<(u+h)*(u+h)-δ)∨(∀u,lo<=u->u<=hi->(u+h)*(u+h)-δ<0)):uQ h δ lo=vQ h δ hi:=by
 rcases hs with hs | hs
 ·have h1:=hs lo Ze hl;have h2:=hs hi hl Ze;have h3: ¬(lo+h<0/\ ¬hi+h<0):=fun⟨k1,k2⟩=>by
   have:=hs (-h) (by grind) (by grind);have e: -h+h=0:=by grind
   rw[e]at this;grind
  unfold uQ vQ;repeat' split
  all_goals first | rfl | omega | (exfalso;grind)
 ·have h1:=hs lo Ze hl;have h2:=hs hi hl Ze;unfold uQ vQ;repeat' split
  all_goals first | rfl | omega | (exfalso;grind)
theorem QXe {c:List (List Rat)}{h δ sep lo hi u:Rat}(hd:0<δ)(C:Cnt c (uQ h δ) (vQ h δ) sep)(e:uQ h δ lo=vQ h δ hi)(h1:lo<=u)(h2:u<=hi):Qa ((u+h)*(u+h)-δ)=Qa ((lo+h)*(lo+h)-δ):=by
 have a1:=C.uu h1;have a2:=C.vv h2;have a3:=C.vv h1;have a4:=C.le u;have a5:=C.le lo;rw[QZj hd (show uQ h δ u=vQ h δ u by omega),QZj hd (show uQ h δ lo=vQ h δ lo by omega),show vQ h δ u=vQ h δ lo by omega]
theorem QZk {h δ A B sa M y:Rat}(hA:0<=A)(hB:0<=B)(e:δ=h*h-sa)(s1: -sa<=A)(b1:2*h<=B)(b2: -(2*h)<=B)(hM:M=1+A+B+1)(hy:y=h+M∨y=h-M):δ<y*y:=by
 have p1:=Zc (a:=M-2) (b:=2+A) (by grind) (by grind);rcases hy with hy | hy
 ·have p2:=Zc (a:=2*h+B) (b:=M) (by grind) (by grind);subst hy;have:(h+M)*(h+M)=h*h+2*h*M+M*M:=by grind
  have:M*M=M*(2+A)+B*M:=by grind
  grind
 ·have p2:=Zc (a:=B-2*h) (b:=M) (by grind) (by grind);subst hy;have:(h-M)*(h-M)=h*h-2*h*M+M*M:=by grind
  have:M*M=M*(2+A)+B*M:=by grind
  grind
theorem QaA {a b c:Rat}{B:Nat}(hs:SzL B [a,b,c])(hc:c≠0)(hd:a-b*b/(4*c)≠0)(hB:1<=B/\B<=400):
  ∃ch U V sep M,Rdy [a,b,c] (fun u=>(c*u+b)*u+a) ch U V sep M (7*B+40):=by
 obtain⟨t,ht,hp,hu,hsz⟩:=QXY hs hc hd ⟨hB.1,by omega⟩;have e0:b*t*(b*t)/4-c*t*(a*t)= -(t*t*c)*(a-b*b/(4*c)):=by grind
 have ha:=hsz (a*t) (by simp);have hb:=hsz (b*t) (by simp);have hn:b*t*(b*t)/4-c*t*(a*t)≠0:=by rw[e0];grind
 have b4:Bd 3 (4:Rat):=⟨by decide,by decide⟩;have hδb:=YX (XR (Qg hb hb) b4 (by decide)) (Qg hu.bd ha);obtain⟨ch,hch,hg,h1,h2⟩:=QZ9 ha hb hu (by omega) hn;obtain⟨m1,m2⟩:=QZh ha hb hu (by omega:1<=2*B+2/\2*B+2<=3000);have hss:c*t*(c*t)=1:=by rcases hu with h | h<;>rw[h]<;>decide+kernel
 have I: ∀u:Rat,(u+c*t*(b*t)/2)*(u+c*t*(b*t)/2)-(b*t*(b*t)/4-c*t*(a*t))=(c*t*t)*((c*u+b)*u+a):=fun u=>by grind
 have hk:c*t*t≠0:=by have:=hu.nz;grind
 have t3:QJ [a,b,c]=[a,b,c]:=XZ (show Qp [a,b,c]≠0 from hc);have hr:Xg [a,b,c]=some ch:=HR (by rw[t3];exact⟨by simp,by simp⟩) (by rw[t3];exact hp) hch;have ab:=QEs (a*t);have bb:=QEs (b*t);have as1:=hu.abs;have ed:b*t*(b*t)/4-c*t*(a*t)=(c*t*(b*t)/2)*(c*t*(b*t)/2)-c*t*(a*t):=by grind
 have sa: -(c*t*(a*t))<=QX (a*t):=by rcases hu with h | h<;>rw[h]<;>grind
 have sb:2*(c*t*(b*t)/2)<=QX (b*t)/\ -(2*(c*t*(b*t)/2))<=QX (b*t):=by rcases hu with h | h<;>rw[h]<;>constructor<;>grind
 generalize hdel:b*t*(b*t)/4-c*t*(a*t)=δ at*;generalize hh:c*t*(b*t)/2=h at*;have mon: ∀y:Rat,y=1+QX (a*t)+QX (b*t)+QX (c*t)->1<=y:=fun y e=>by grind
 rcases(by grind:0<δ∨δ<0)with hp | hp
 ·have C:=h1 hp;have dpos:0<dsc [a,b,c]:=by
   show 0<b*b-4*a*c
   refine Rat.not_le.1 fun k=> ?_
   have:=Zc (a:=t*t) (b:= -(b*b-4*a*c)) (Q5 t) (by grind);grind
  have big: ∀y:Rat,(y=h+(1+QX (a*t)+QX (b*t)+QX (c*t))∨y=h-(1+QX (a*t)+QX (b*t)+QX (c*t)))->δ<y*y:=fun y hy=>
   QZk ab.2.2 bb.2.2 ed sa sb.1 sb.2 (by rw[as1]) hy
  have hA: ∀lo hi:Rat,((∀u,lo<=u->u<=hi->0<(c*u+b)*u+a)∨(∀u,lo<=u->u<=hi->(c*u+b)*u+a<0))->(∀u,lo<=u->u<=hi->0<(u+h)*(u+h)-δ)∨(∀u,lo<=u->u<=hi->(u+h)*(u+h)-δ<0):=fun lo hi hs=>by
   rcases(by grind:0<c*t*t∨c*t*t<0)with hk0 | hk0<;>rcases hs with hs | hs
   ·exact .inl fun u h1 h2=>by rw[I u];exact Zb hk0 (hs u h1 h2)
   ·exact .inr fun u h1 h2=>by rw[I u];have:=Zb hk0 (b:= -((c*u+b)*u+a)) (by have:=hs u h1 h2;grind);grind
   ·exact .inr fun u h1 h2=>by rw[I u];have:=Zb (a:= -(c*t*t)) (by grind) (hs u h1 h2);grind
   ·exact .inl fun u h1 h2=>by rw[I u];have:=Zb (a:= -(c*t*t)) (b:= -((c*u+b)*u+a)) (by grind) (by have:=hs u h1 h2;grind);grind
  refine⟨ch,_,_,_,_,hr,C,fun u=> ?_,by rw[hg];exact m1,m2.mono (by omega),mon _ rfl,fun u=> ?_,fun u=> ?_,?_,fun lo hi hlh hsg=> ?_,.inr dpos,fun lo hi u e h1 h2=> ?_⟩
  ·rw[uq_ne];have:=I u;constructor
   ·intro e;have h0:(c*t*t)*((c*u+b)*u+a)=0:=by rw[<-this];grind
    rcases Zf.1 h0 with h3 | h3
    ·exact absurd h3 hk
    ·exact h3
   ·intro e;have e:(c*u+b)*u+a=0:=e;rw[e]at this;grind
  ·have b1:=big (-(1+QX (a*t)+QX (b*t)+QX (c*t))+h) (.inr (by grind));have b2: -(1+QX (a*t)+QX (b*t)+QX (c*t))+h<0:=by grind
   have:=QJM h δ u;have:uQ h δ (-(1+QX (a*t)+QX (b*t)+QX (c*t)))=2:=by
    unfold uQ vQ;rw[if_pos b1,if_pos b2,if_neg (by grind)];rfl
   omega
  ·have b1:=big (1+QX (a*t)+QX (b*t)+QX (c*t)+h) (.inl (by grind));have b2: ¬1+QX (a*t)+QX (b*t)+QX (c*t)+h<0:=by grind
   have:=QQZ h δ u;have:vQ h δ (1+QX (a*t)+QX (b*t)+QX (c*t))=0:=by
    unfold vQ;rw[if_pos b1,if_neg b2]
   omega
  ·exact QTz hp (hδb.mono (by omega))
  ·exact QXd hp hlh (hA lo hi hsg)
  ·have:=QXe hp C e h1 h2;rw[I u,I lo]at this;exact QEt hk this
 ·have C:=h2 hp;have nz: ∀u:Rat,0<(c*t*t)*((c*u+b)*u+a):=fun u=>by
   rw[<-I u];have:=Q5 (u+h);grind
  refine⟨ch,_,_,_,_,hr,C,fun u=> ?_,by rw[hg];exact m1,m2.mono (by omega),mon _ rfl,fun u=>Int.le_refl _,fun u=>Int.le_refl _,?_,fun lo hi hlh hsg=>rfl,.inl fun _ _=>by decide,fun lo hi u e h1 h2=> ?_⟩
  ·constructor
   ·intro e;exact absurd rfl e
   ·intro e;have e:(c*u+b)*u+a=0:=e;have:=nz u;rw[e]at this;grind
  ·have:(1:Rat)<=((2^(7*B+40):Nat):Rat):=by exact_mod_cast Zd
   grind
  ·refine QEt hk ?_
   have p1:=nz u;have p2:=nz lo;rcases Q1 ((c*t*t)*((c*u+b)*u+a))with⟨e1,f1⟩ | ⟨e1,f1⟩ | ⟨e1,f1⟩
   ·rcases Q1 ((c*t*t)*((c*lo+b)*lo+a))with⟨e2,f2⟩ | ⟨e2,f2⟩ | ⟨e2,f2⟩
    ·rw[e1,e2]
    ·exfalso;grind
    ·exfalso;grind
   ·exfalso;grind
   ·exfalso;grind
theorem uL_ne {h x:Rat}:uL h x≠vL h x↔x+h=0:=by
 unfold uL vL;generalize x+h=y;constructor
 ·intro k;repeat' split at k
  all_goals first | (exfalso;omega) | grind
 ·intro k;subst k;decide
theorem QJN {h lo hi u:Rat}(e:uL h lo=vL h hi)(h1:lo<=u)(h2:u<=hi):(u+h<0/\lo+h<0)∨(0<u+h/\0<lo+h):=by
 unfold uL vL at e;repeat' split at e
 all_goals first | (exfalso;omega) | (left;constructor<;>grind) | (right;constructor<;>grind)
theorem QMW {h lo hi:Rat}(hl:lo<=hi)(hs: ∀u,lo<=u->u<=hi->u+h≠0):uL h lo=vL h hi:=by
 have h1:=hs lo Ze hl;have h2:=hs hi hl Ze;have h3: ¬(lo+h<0/\0<hi+h):=fun⟨k1,k2⟩=>hs (-h) (by grind) (by grind) (by grind);unfold uL vL;repeat' split
 all_goals first | rfl | (exfalso;grind)
theorem QGg {p:List Rat}{f:Rat->Rat}{h a s:Rat}{B E:Nat}{ch:List (List Rat)}(hr:Xg p=some ch)(hg:ch.getD 0 []=[a,s])(ha:Bd B a)(hu:Unit1 s)(hB:1<=B/\B<=2000)(hE:2*B+10<=E)(eh:s*a=h)
    (C:Cnt ch (uL (s*a)) (vL (s*a)) 1) (hf: ∀u,f u=0↔u+h=0) (hk: ∀u v,(u+h<0/\v+h<0)∨(0<u+h/\0<v+h)->Qa (f u)=Qa (f v)): ∃U V sep M,Rdy p f ch U V sep M E:=by
  rw[eh]at C;obtain⟨m1,m2⟩:=QZi ha hu (by omega);have aa:=QEs a;have as1:=hu.abs;have hb:h<=QX a/\ -h<=QX a:=by rw[<-eh];rcases hu with e | e<;>rw[e]<;>constructor<;>grind
  refine⟨_,_,_,_,hr,C,fun u=>uL_ne.trans (hf u).symm,by rw[hg];exact m1,m2.mono hE,by grind,fun u=> ?_,fun u=> ?_,?_,fun lo hi hlh hsg=> ?_,.inl fun u v=> ?_,fun lo hi u e h1 h2=>hk u lo (QJN e h1 h2)⟩
  · unfold uL;rw[if_pos (show-(1+QX a+QX s)+h<=0 by grind)];split<;>decide
  · unfold vL;rw[if_neg (show ¬1+QX a+QX s+h<0 by grind)];split<;>decide
  · have:(1:Rat)<=((2^E:Nat):Rat):=by exact_mod_cast Zd
    grind
  · refine QMW hlh fun u h1 h2 e=> ?_
    have:=(hf u).2 e;rcases hsg with hs | hs
    · have:=hs u h1 h2;grind
    · have:=hs u h1 h2;grind
  · unfold uL vL;repeat' split
    all_goals omega
theorem QZl {a b c:Rat}{B:Nat}(hs:SzL B [a,b,c])(hc:c≠0)(hd:a-b*b/(4*c)=0)(hB:1<=B/\B<=400):
  ∃ch U V sep M,Rdy [a,b,c] (fun u=>(c*u+b)*u+a) ch U V sep M (7*B+40):=by
 obtain⟨s,hu,hp,hbd⟩:=QTw hs hc hd ⟨hB.1,by omega⟩;obtain⟨ch,hch,hg,C⟩:=QZg hbd hu (by omega);have t3:QJ [a,b,c]=[a,b,c]:=XZ (show Qp [a,b,c]≠0 from hc);have hr:Xg [a,b,c]=some ch:=HR (by rw[t3];exact⟨by simp,by simp⟩) (by rw[t3];exact hp) hch;have hss:s*s=1:=by rcases hu with h | h<;>rw[h]<;>decide+kernel
 have F: ∀u:Rat,(c*u+b)*u+a=c*((u+b/(2*c))*(u+b/(2*c))):=fun u=>by grind
 refine⟨ch,QGg (h:=b/(2*c)) hr hg hbd hu (by omega) (by omega) (by grind) C (fun u=> ?_) (fun u v huv=> ?_)⟩
 ·rw[F u];constructor
  ·intro e;rcases Zf.1 e with e | e
   ·exact absurd e hc
   ·rcases Zf.1 e with e | e<;>exact e
  ·intro e;rw[e];grind
 ·simp only[F];have pos: ∀z:Rat,z<0∨0<z->Qa (c*(z*z))=Qa c:=fun z hz=>by
   have h1:0<z*z:=by
    rcases hz with hz | hz
    ·have:=Zb (a:= -z) (b:= -z) (by grind) (by grind);grind
    ·exact Zb hz hz
   rcases Q1 c with⟨e,k⟩ | ⟨e,k⟩ | ⟨e,k⟩
   ·have:=Zb k h1;rcases Q1 (c*(z*z))with⟨e2,k2⟩ | ⟨e2,k2⟩ | ⟨e2,k2⟩
    ·rw[e,e2]
    ·exfalso;grind
    ·exfalso;grind
   ·exact absurd k hc
   ·have:=Zb (a:= -c) (by grind) h1;rcases Q1 (c*(z*z))with⟨e2,k2⟩ | ⟨e2,k2⟩ | ⟨e2,k2⟩
    ·exfalso;grind
    ·exfalso;grind
    ·rw[e,e2]
  rw[pos _ (huv.imp (·.1) (·.1)),pos _ (huv.imp (·.2) (·.2))]
theorem QaB {a b:Rat}{B:Nat}(hs:SzL B [a,b])(hb:b≠0)(hB:1<=B/\B<=400):
  ∃ch U V sep M,Rdy [a,b,0] (fun u=>(0*u+b)*u+a) ch U V sep M (7*B+40):=by
 obtain⟨s,hu,hp,hbd⟩:=QXZ hs hb ⟨hB.1,by omega⟩;obtain⟨ch,hch,hg,C⟩:=QZg hbd hu (by omega);have t3:QJ [a,b,0]=[a,b]:=by rw[show[a,b,(0:Rat)]=[a,b]++[0]from rfl,Vw];exact XZ (show Qp [a,b]≠0 from hb)
 have hr:Xg [a,b,0]=some ch:=HR (by rw[t3];exact⟨by simp,by simp⟩) (by rw[t3];exact hp) hch;have hss:s*s=1:=by rcases hu with h | h<;>rw[h]<;>decide+kernel
 have F: ∀u:Rat,(0*u+b)*u+a=b*(u+a/b):=fun u=>by grind
 refine⟨ch,QGg (h:=a/b) hr hg hbd hu (by omega) (by omega) (by grind) C (fun u=> ?_) (fun u v huv=> ?_)⟩
 ·rw[F u];constructor
  ·intro e;rcases Zf.1 e with e | e
   ·exact absurd e hb
   ·exact e
  ·intro e;rw[e];grind
 ·simp only[F];have key: ∀y z:Rat,(y<0/\z<0)∨(0<y/\0<z)->Qa y=Qa z:=fun y z h=>by
   rcases Q1 y with⟨e,k⟩ | ⟨e,k⟩ | ⟨e,k⟩<;>rcases Q1 z with⟨e2,k2⟩ | ⟨e2,k2⟩ | ⟨e2,k2⟩<;>rw[e,e2]<;>(exfalso;grind)
  have h1:=key _ _ huv;have e1: ∀w:Rat,(1/b)*(b*w)=w:=fun w=>by grind
  refine QEt (t:=1/b) (by grind) ?_
  rw[e1,e1];exact h1
theorem QaC {a:Rat}{B:Nat}(ha:Bd B a)(hn:a≠0)(hB:1<=B/\B<=400):
  ∃ch U V sep M,Rdy [a,0,0] (fun u=>(0*u+0)*u+a) ch U V sep M (7*B+40):=by
 have b1:Bd 1 (1:Rat):=⟨by decide,by decide⟩;have hs:SzL B [a]:=fun q hq=>by simp at hq;subst hq;exact ha
 have t3:QJ [a,0,0]=[a]:=by
  rw[show[a,(0:Rat),0]=([a]++[0])++[0]from rfl,Vw,Vw];exact XZ (show Qp [a]≠0 from hn)
 have d0: ∀z:Rat,GL [z]=some []:=fun z=>rfl;have e1:a/a=1:=by grind
 have hp:Ws [a]=some [1]:=by
  unfold Ws;rw[d0];simp only[Za];rw[show FU=99999+1 from rfl];unfold Kc;rw[show Nat.ble 1 ([]:List Rat).length=false from rfl];simp only[R8,Za];rw[K8 ha hn (by omega) hs (by simp) (XZ (show Qp [a]≠0 from hn))];simp only[Za];rw[show[a].map (fun q=>q/a)=[a/a]from rfl,e1];decide+kernel
 have hch:Xm [1]=some [[1]]:=by decide+kernel
 have hr:Xg [a,0,0]=some [[1]]:=HR (by rw[t3];exact⟨by simp,by simp⟩) (by rw[t3];exact hp) hch;have ev: ∀x,Bd 20000 x->X7 [1] x=some 1:=fun x hx=>ev1 b1 hx (by omega);have Z: ∀x,Bd 20000 x->YQ [[1]] x=some false:=fun x hx=>by
  unfold YQ;rw[show[[(1:Rat)]].getD 0 []=[1]from rfl,ev x hx];rfl
 have Ch: ∀x,Bd 20000 x->Xs [[1]] x=some 0:=fun x hx=>by
  unfold Xs Kd;rw[ev x hx];rfl
 have C:Cnt [[1]] (fun _=>0) (fun _=>0) 1:=by
  refine⟨fun sp hl hh'=> ?_,fun x hx=>by rw[Z x hx];simp,fun _=>by decide,fun _ _ _=>by decide,fun _=>by decide,fun _=>by decide,by decide,fun x y _ e=>by simp at e⟩;unfold YF;rw[Ch _ hl,Ch _ hh',Z _ hl];rfl
 refine⟨_,_,_,_,2,hr,C,fun u=> ?_,by decide+kernel,(show Bd 2 (2:Rat)from⟨by decide,by decide⟩).mono (by omega),by decide,fun _=>Int.le_refl _,fun _=>Int.le_refl _,?_,fun _ _ _ _=>rfl,.inl fun _ _=>by decide,fun lo hi u _ _ _=> ?_⟩
 ·constructor
  ·intro e;exact absurd rfl e
  ·intro e;have e:(0*u+0)*u+a=0:=e;exfalso;apply hn;grind
 ·have:(1:Rat)<=((2^(7*B+40):Nat):Rat):=by exact_mod_cast Zd
  grind
 ·have e: ∀w:Rat,(0*w+0)*w+a=a:=fun w=>by grind
  simp only[e]
theorem QEu {a b c:Rat}{B:Nat}(hs:SzL B [a,b,c])(hn: ¬(a=0/\b=0/\c=0))(hB:1<=B/\B<=400):
    ∃ch U V sep M,Rdy [a,b,c] (fun u=>(c*u+b)*u+a) ch U V sep M (7*B+40):=by
  by_cases hc:c=0
  · subst hc;by_cases hb:b=0
    · subst hb;exact QaC (hs a (by simp)) (fun e=>hn ⟨e,rfl,rfl⟩) hB
    · exact QaB (fun q hq=>hs q (by simp at hq;rcases hq with rfl | rfl<;>simp)) hb hB
  · by_cases hd:a-b*b/(4*c)=0
    · exact QZl hs hc hd hB
    · exact QaA hs hc hd hB
end Go.Proofs
