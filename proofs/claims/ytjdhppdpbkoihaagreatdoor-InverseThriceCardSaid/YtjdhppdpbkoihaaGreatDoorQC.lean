/- Polynomials of a degree up to 2: their chains count roots, plainly. -/
import Derived.Test.YtjdhppdpbkoihaaGreatDoorQB
open Option renaming bind_some → Za
namespace Go.Proofs
open Go Go.Eng
theorem Q1 (q:Rat):(Qa q=1/\0<q)∨(Qa q=0/\q=0)∨(Qa q= -1/\q<0):=by
 unfold Qa;by_cases h:q.num=0
 ·rw[if_pos h];exact .inr (.inl ⟨rfl,Rat.num_eq_zero.1 h⟩)
 ·rw[if_neg h];by_cases h2:q.num<0
  ·rw[if_pos h2];exact .inr (.inr ⟨rfl,(QQX q).1 h2⟩)
  ·rw[if_neg h2];exact .inl ⟨rfl,by have:=Rat.num_nonneg.1 (show 0<=q.num by omega);have:q≠0:=fun e=>h (Rat.num_eq_zero.2 e);grind⟩
theorem ev1 {a x:Rat}{B X:Nat}(ha:Bd B a)(hx:Bd X x)(hB:B+X+10<=100000):X7 [a] x=some a:=by
 have b0:Bd 1 (0:Rat):=⟨by decide,by decide⟩;have m0:=Qg b0 hx;have z0:(0:Rat)*x=0:=by grind
 unfold X7;rw[show[a].length=0+1 from rfl];unfold evN;rw[XD b0 hx (by omega)];simp only[Za];rw[z0]at m0⊢;rw[show[a].getD 0 0=a from rfl,Xo m0 ha (by omega)];simp only[Za];unfold evN;congr 1;grind
theorem ev2 {a b x:Rat}{B X:Nat}(ha:Bd B a)(hb:Bd B b)(hx:Bd X x)(hB:3*B+3*X+10<=100000):X7 [a,b] x=some (b*x+a):=by
 have b0:Bd 1 (0:Rat):=⟨by decide,by decide⟩;have m0:=Qg b0 hx;have z0:(0:Rat)*x=0:=by grind
 unfold X7;rw[show[a,b].length=0+1+1 from rfl];unfold evN;rw[XD b0 hx (by omega)];simp only[Za];rw[z0]at m0⊢;rw[show[a,b].getD (0+1) 0=b from rfl,Xo m0 hb (by omega),show 0+b=b by grind];simp only[Za];have m1:=Qg hb hx;unfold evN;rw[XD hb hx (by omega)];simp only[Za];rw[show[a,b].getD 0 0=a from rfl,Xo m1 ha (by omega)];simp only[Za];unfold evN;rfl
theorem ev3 {a b c x:Rat}{B X:Nat}(ha:Bd B a)(hb:Bd B b)(hc:Bd B c)(hx:Bd X x)(hB:4*B+4*X+10<=100000):X7 [a,b,c] x=some ((c*x+b)*x+a):=by
 have b0:Bd 1 (0:Rat):=⟨by decide,by decide⟩;have m0:=Qg b0 hx;have z0:(0:Rat)*x=0:=by grind
 unfold X7;rw[show[a,b,c].length=0+1+1+1 from rfl];unfold evN;rw[XD b0 hx (by omega)];simp only[Za];rw[z0]at m0⊢;rw[show[a,b,c].getD (0+1+1) 0=c from rfl,Xo m0 hc (by omega),show 0+c=c by grind];simp only[Za];have m1:=Qg hc hx;unfold evN;rw[XD hc hx (by omega)];simp only[Za];rw[show[a,b,c].getD (0+1) 0=b from rfl,Xo m1 hb (by omega)];simp only[Za];have m2:=Qg (XV m1 hb) hx;unfold evN;rw[XD (XV m1 hb) hx (by omega)];simp only[Za];rw[show[a,b,c].getD 0 0=a from rfl,Xo m2 ha (by omega)];simp only[Za];unfold evN;rfl
def QKf (a b:Int):Int:=if b*a<0 then 1 else 0
def QQY (a b c:Int):Int:=QKf a b+if c*(if b=0 then a else b)<0 then 1 else 0
theorem QZ7 {P D:List Rat}{x p d:Rat}(h1:X7 P x=some p)(h2:X7 D x=some d):Xs [P,D] x=some (QKf (Qa p) (Qa d)):=by
 unfold Xs Kd;rw[h1];simp only[Za];unfold Kd;rw[h2];simp only[Za];unfold Kd;unfold QKf;rcases Q1 p with⟨e,_⟩ | ⟨e,_⟩ | ⟨e,_⟩<;>rcases Q1 d with⟨f,_⟩ | ⟨f,_⟩ | ⟨f,_⟩<;>rw[e,f]<;>rfl
theorem QZ8 {P D T:List Rat}{x p d t:Rat}(h1:X7 P x=some p)(h2:X7 D x=some d)(h3:X7 T x=some t):Xs [P,D,T] x=some (QQY (Qa p) (Qa d) (Qa t)):=by
 unfold Xs Kd;rw[h1];simp only[Za];unfold Kd;rw[h2];simp only[Za];unfold Kd;rw[h3];simp only[Za];unfold Kd;unfold QQY QKf;rcases Q1 p with⟨e,_⟩ | ⟨e,_⟩ | ⟨e,_⟩<;>rcases Q1 d with⟨f,_⟩ | ⟨f,_⟩ | ⟨f,_⟩<;>rcases Q1 t with⟨g,_⟩ | ⟨g,_⟩ | ⟨g,_⟩<;>rw[e,f,g]<;>rfl
def vQ (h δ x:Rat):Int:=if δ<(x+h)*(x+h)then(if x+h<0 then 2 else 0)else if(x+h)*(x+h)=δ then(if x+h<0 then 1 else 0)else 1
def uQ (h δ x:Rat):Int:=vQ h δ x+if(x+h)*(x+h)=δ then 1 else 0
theorem Q5 (y:Rat):0<=y*y:=by
 rcases(Rat.le_total:(0:Rat)<=y∨y<=0)with h | h
 ·exact Rat.mul_nonneg h h
 ·have:=Rat.mul_nonneg (a:= -y) (b:= -y) (by grind) (by grind);grind
theorem QKg {y z:Rat}(h0:0<=y)(h:y<z):y*y<z*z:=by
 have h1:0<z:=by grind
 have:=Rat.mul_nonneg (a:=y) (b:=z-y) h0 (by grind);have:=Rat.mul_pos (a:=z) (b:=z-y) h1 (by grind);grind
theorem QZf {y z:Rat}(h0:0<=y)(h:y<=z):y*y<=z*z:=by
 rcases Rat.le_iff_lt_or_eq.1 h with e | e
 ·exact Rat.le_of_lt (QKg h0 e)
 ·rw[e];exact Rat.le_refl
theorem QTx {h δ x y:Rat}(hd:0<δ)(hxy:x<y):uQ h δ y<=vQ h δ x:=by
 unfold uQ vQ;have key:x+h<y+h:=by grind
 generalize x+h=u at*;generalize y+h=v at*;-- by the signs of both
 have s1:v<0->v*v<u*u:=fun hv=>by
  have:=QKg (y:= -v) (z:= -u) (by grind) (by grind);grind
 have s2:0<=u->u*u<v*v:=fun hu=>QKg hu key;have s3:0<=v∨v<0:=by grind
 have s4:0<=u∨u<0:=by grind
 have n1:=Q5 u;have n2:=Q5 v;have zz: ∀w:Rat,w*w=δ->w≠0:=fun w hw e=>by subst e;grind
 repeat' split
 all_goals first | omega | (exfalso;first | grind | skip)
theorem QU6 (h δ x:Rat):vQ h δ x<=uQ h δ x/\uQ h δ x<=vQ h δ x+1:=by
 unfold uQ;split<;>omega
theorem QQZ (h δ x:Rat):0<=vQ h δ x:=by
 unfold vQ;repeat' split
 all_goals omega
theorem QJM (h δ x:Rat):uQ h δ x<=2:=by
 unfold uQ vQ;repeat' split
 all_goals first | omega | (exfalso;grind)
theorem uq_ne {h δ x:Rat}:uQ h δ x≠vQ h δ x↔(x+h)*(x+h)=δ:=by
 unfold uQ;by_cases e:(x+h)*(x+h)=δ
 ·rw[if_pos e];exact⟨fun _=>e,fun _=>by omega⟩
 ·rw[if_neg e];exact⟨fun k=>by omega,fun k=>absurd k e⟩
def GQ (δ:Rat):Rat:=Q9 1 δ
theorem QXc {h δ x y:Rat}(hd:0<δ)(hxy:x<=y)(hn:2<=uQ h δ x-vQ h δ y):GQ δ<=y-x:=by
 have k1:uQ h δ x=2/\vQ h δ y=0:=by
  have:=QJM h δ x;have:=QQZ h δ y;omega
 have e1:x+h<0/\δ<=(x+h)*(x+h):=by
  have:=k1.1;unfold uQ vQ at this;repeat' split at this
  all_goals first | (exfalso;omega) | (constructor<;>grind)
 have e2:0<=y+h/\δ<=(y+h)*(y+h):=by
  have:=k1.2;unfold vQ at this;repeat' split at this
  all_goals first | (exfalso;omega) | (constructor<;>grind)
 have e3:δ<=(y-x)*(y-x):=by
  have:=QZf (y:=y+h) (z:=y-x) e2.1 (by grind);grind
 have e4:0<=y-x:=by grind
 refine Rat.not_lt.1 fun e=> ?_
 have s0:0<GQ δ:=by unfold GQ Q9;split<;>first | decide | exact hd
 have s1:GQ δ<=1:=by unfold GQ Q9;split<;>grind
 have s2:GQ δ<=δ:=by unfold GQ Q9;split<;>grind
 have:=QKg e4 e;have:=Rat.mul_nonneg (a:=GQ δ) (b:=1-GQ δ) (by grind) (by grind);grind
theorem QQa {c:List (List Rat)}{U V:Rat->Int}{x y:Rat}{v w:Int}(h1:Xs c x=some v)(h2:Xs c y=some w)(hz:YQ c x=some (decide (U x≠V x)))(e1:v=V x)(e2:w=V y)(hl:V x<=U x/\U x<=V x+1):YF c ⟨x,y⟩=some (U x-V y):=by
 unfold YF;rw[h1,h2];simp only[Za];rw[hz];simp only[Za];by_cases e:U x=V x
 ·rw[decide_eq_false (by simpa using e)];simp only[R8];congr 1;omega
 ·rw[decide_eq_true (by simpa using e)];simp only[R7];congr 1;omega
theorem QZ9 {a b s:Rat}{B:Nat}(ha:Bd B a)(hb:Bd B b)(hu:Unit1 s)(hB:1<=B/\B<=2100)(hd:b*b/4-s*a≠0):
    ∃c,Xm [a,b,s]=some c/\c.getD 0 []=[a,b,s]/\(0<b*b/4-s*a->Cnt c (uQ (s*b/2) (b*b/4-s*a)) (vQ (s*b/2) (b*b/4-s*a)) (GQ (b*b/4-s*a)))/\
      (b*b/4-s*a<0->Cnt c (fun _=>0) (fun _=>0) 1):=by
  obtain⟨t,ut,hc,ht⟩:=QXb ha hb hu hB hd;have b2:Bd 2 (2:Rat):=⟨by decide,by decide⟩;have hb2:=XR hb b2 (by decide);have hss:s*s=1:=by rcases hu with rfl | rfl<;>decide+kernel
  have P1: ∀x,Bd 20000 x->X7 [a,b,s] x=some ((s*x+b)*x+a):=fun x hx=>ev3 ha hb (X9 hu hB.1:Bd B s) hx (by omega);have P2: ∀x,Bd 20000 x->X7 [b/2,s] x=some (s*x+b/2):=fun x hx=>ev2 hb2 (X9 hu (by omega):Bd (B+2) s) hx (by omega);have P3: ∀x,Bd 20000 x->X7 [t] x=some t:=fun x hx=>ev1 ut.bd hx (by omega);have Z: ∀x,Bd 20000 x->YQ [[a,b,s],[b/2,s],[t]] x=some (decide ((s*x+b)*x+a=0)):=fun x hx=>by
    unfold YQ;rw[show[[a,b,s],[b/2,s],[t]].getD 0 []=[a,b,s]from rfl,P1 x hx];simp only[Za,QTv]
  have I: ∀x:Rat,s*((s*x+b)*x+a)=(x+s*b/2)*(x+s*b/2)-(b*b/4-s*a):=fun x=>by grind
  have I2: ∀x:Rat,s*x+b/2=s*(x+s*b/2):=fun x=>by grind
  have R: ∀x:Rat,(s*x+b)*x+a=0↔(x+s*b/2)*(x+s*b/2)=b*b/4-s*a:=fun x=>by
    have:=I x;have hn:=hu.nz;constructor
    · intro h;rw[h]at this;grind
    · intro h;have h2:s*((s*x+b)*x+a)=0:=by rw[this];grind
      rcases Rat.mul_eq_zero.1 h2 with h3 | h3
      · exact absurd h3 hn
      · exact h3
  have C: ∀x,Bd 20000 x->Xs [[a,b,s],[b/2,s],[t]] x=some (QQY (Qa ((s*x+b)*x+a)) (Qa (s*x+b/2)) (Qa t)):=fun x hx=>QZ8 (P1 x hx) (P2 x hx) (P3 x hx);generalize hδ:b*b/4-s*a=δ at*;generalize hh:s*b/2=h at*;refine⟨_,hc,rfl,fun hp=> ?_,fun hn=> ?_⟩
  · have ets:t=s:=by
      have:=ht.2 hp;rcases hu with rfl | rfl<;>rcases ut with rfl | rfl<;>first | rfl | (exfalso;revert this;decide+kernel)
    have V1: ∀x,QQY (Qa ((s*x+b)*x+a)) (Qa (s*x+b/2)) (Qa t)=vQ h δ x:=fun x=>by
      have i1:=I x;have i2:=I2 x;rw[ets];unfold vQ;generalize (s*x+b)*x+a=p at*;generalize s*x+b/2=d at*;generalize x+h=y at*;have n:=Q5 y;rcases hu with rfl | rfl
      · have e1:p=y*y-δ:=by grind
        have e2:d=y:=by grind
        subst e1 e2;rcases Q1 (d*d-δ)with⟨e,k⟩ | ⟨e,k⟩ | ⟨e,k⟩<;>rcases Q1 d with⟨f,l⟩ | ⟨f,l⟩ | ⟨f,l⟩<;>rw[e,f]<;>(repeat' split)<;>first | rfl | (exfalso;grind)
      · have e1:p= -(y*y-δ):=by grind
        have e2:d= -y:=by grind
        subst e1 e2;rcases Q1 (-(y*y-δ))with⟨e,k⟩ | ⟨e,k⟩ | ⟨e,k⟩<;>rcases Q1 (-y)with⟨f,l⟩ | ⟨f,l⟩ | ⟨f,l⟩<;>rw[e,f]<;>(repeat' split)<;>first | rfl | (exfalso;grind)
    have Z1: ∀x,Bd 20000 x->YQ [[a,b,s],[b/2,s],[t]] x=some (decide (uQ h δ x≠vQ h δ x)):=fun x hx=>by
      rw[Z x hx];congr 1;exact decide_eq_decide.2 ((R x).trans uq_ne.symm)
    refine⟨fun sp hl hh'=>QQa (C _ hl) (C _ hh') (Z1 _ hl) (V1 _) (V1 _) (QU6 _ _ _),Z1,QU6 h δ,fun x y=>QTx hp,QQZ h δ,QJM h δ,?_,fun x y=>QXc hp⟩;unfold GQ Q9;split
    · decide
    · exact hp
  · have ets:t= -s:=by
      have: ¬t*s=1:=fun e=>by have:=ht.1 e;grind
      rcases hu with rfl | rfl<;>rcases ut with rfl | rfl<;>first | rfl | (exfalso;revert this;decide+kernel)
    have V1: ∀x,QQY (Qa ((s*x+b)*x+a)) (Qa (s*x+b/2)) (Qa t)=1:=fun x=>by
      have i1:=I x;have i2:=I2 x;rw[ets];generalize (s*x+b)*x+a=p at*;generalize s*x+b/2=d at*;generalize x+h=y at*;have n:=Q5 y;rcases hu with rfl | rfl
      · have e1:p=y*y-δ:=by grind
        have e2:d=y:=by grind
        subst e1 e2;rcases Q1 (d*d-δ)with⟨e,k⟩ | ⟨e,k⟩ | ⟨e,k⟩<;>rcases Q1 d with⟨f,l⟩ | ⟨f,l⟩ | ⟨f,l⟩<;>rw[e,f]<;>first | rfl | (exfalso;grind)
      · have e1:p= -(y*y-δ):=by grind
        have e2:d= -y:=by grind
        subst e1 e2;rcases Q1 (-(y*y-δ))with⟨e,k⟩ | ⟨e,k⟩ | ⟨e,k⟩<;>rcases Q1 (-y)with⟨f,l⟩ | ⟨f,l⟩ | ⟨f,l⟩<;>rw[e,f]<;>first | rfl | (exfalso;grind)
    have nz: ∀x:Rat,¬(s*x+b)*x+a=0:=fun x e=>by
      have:=(R x).1 e;have:=Q5 (x+h);grind
    refine⟨fun sp hl hh'=> ?_,fun x hx=> ?_,fun _=>by decide,fun _ _ _=>by decide,fun _=>by decide,fun _=>by decide,by decide,fun x y _ e=>by simp at e⟩
    · unfold YF;rw[C _ hl,C _ hh',V1,V1,Z _ hl,decide_eq_false (nz _)];rfl
    · rw[Z x hx,decide_eq_false (nz _)];simp
def vL (h x:Rat):Int:=if x+h<0 then 1 else 0
def uL (h x:Rat):Int:=if x+h<=0 then 1 else 0
theorem QZg {a s:Rat}{B:Nat}(ha:Bd B a)(hu:Unit1 s)(hB:1<=B/\B<=2100): ∃c,Xm [a,s]=some c/\c.getD 0 []=[a,s]/\Cnt c (uL (s*a)) (vL (s*a)) 1:=by
 have hc:=QXa ha hu ⟨hB.1,by omega⟩;have hss:s*s=1:=by rcases hu with rfl | rfl<;>decide+kernel
 have P1: ∀x,Bd 20000 x->X7 [a,s] x=some (s*x+a):=fun x hx=>ev2 ha (X9 hu hB.1:Bd B s) hx (by omega);have P2: ∀x,Bd 20000 x->X7 [s] x=some s:=fun x hx=>ev1 hu.bd hx (by omega);have I: ∀x:Rat,s*x+a=s*(x+s*a):=fun x=>by grind
 have hn:=hu.nz;have C: ∀x,Bd 20000 x->Xs [[a,s],[s]] x=some (vL (s*a) x):=fun x hx=>by
  rw[QZ7 (P1 x hx) (P2 x hx),I x];congr 1;unfold vL;generalize x+s*a=y;rcases hu with rfl | rfl
  ·rw[show(1:Rat)*y=y by grind];rcases Q1 y with⟨e,k⟩ | ⟨e,k⟩ | ⟨e,k⟩<;>rw[e]<;>split<;>first | rfl | (exfalso;grind)
  ·rw[show(-1:Rat)*y= -y by grind];rcases Q1 (-y)with⟨e,k⟩ | ⟨e,k⟩ | ⟨e,k⟩<;>rw[e]<;>split<;>first | rfl | (exfalso;grind)
 have L: ∀x:Rat,vL (s*a) x<=uL (s*a) x/\uL (s*a) x<=vL (s*a) x+1:=fun x=>by
  unfold uL vL;repeat' split
  all_goals first | omega | (exfalso;grind)
 have Z: ∀x,Bd 20000 x->YQ [[a,s],[s]] x=some (decide (uL (s*a) x≠vL (s*a) x)):=fun x hx=>by
  unfold YQ;rw[show[[a,s],[s]].getD 0 []=[a,s]from rfl,P1 x hx];simp only[Za,QTv];congr 1;refine decide_eq_decide.2 ?_
  rw[I x];unfold uL vL;generalize x+s*a=y;constructor
  ·intro h;have:y=0:=by rcases Rat.mul_eq_zero.1 h with h3 | h3;exact absurd h3 hn;exact h3
   subst this;decide
  ·intro h;have:y=0:=by
    repeat' split at h
    all_goals first | (exfalso;omega) | grind
   subst this;grind
 refine⟨_,hc,rfl,fun sp hl hh'=>QQa (C _ hl) (C _ hh') (Z _ hl) rfl rfl (L _),Z,L,fun x y hxy=> ?_,fun x=> ?_,fun x=> ?_,by decide,fun x y _ e=> ?_⟩
 ·unfold uL vL;repeat' split
  all_goals first | omega | (exfalso;grind)
 ·unfold vL;split<;>omega
 ·unfold uL;split<;>omega
 ·exfalso;unfold uL vL at e;repeat' split at e
  all_goals omega
end Go.Proofs
