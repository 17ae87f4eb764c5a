/- Turns, vectors, frames. -/
import Derived.Test.YtmpfaflhpioaiaaGreatDoorAJ
open _root_ renaming Rat → A, Nat → B, List → E, Bool → F, Int → J
open Bool renaming true → C, false → D
open Option renaming some → G, none → I
open Go.Eng.Ch renaming r → H, v → Zi
open Int renaming ofNat → L, ofNat_eq_natCast → O
open List renaming length → M, map → Zc, take → Zo, getElem?_eq_getElem → Zh, getElem?_append_left → Zl, getElem?_append_right → Zk, length_map → Zn, take_of_length_le → Zm
open Nat renaming le_refl → N, zero_add → P
open Go.Value renaming bool → Za, string → Zj
set_option maxHeartbeats 1000000
set_option maxRecDepth 100000
namespace Go.Proofs
open Go Go.Eng Tryz
def Xu (h:F)(t:A):A:=bif h then 0 else t
def GL (t:A):F:=decide (t=0)
def Hd (t:A):A:=bif GL t then 0 else((-1:J):A)/t
def thH (h1:F)(t:A)(h:F)(a:A):F:=bif h1&&h then D else bif h1 then GL (Xu h a)else bif h then GL (Xu h1 t)else decide (1-t*a=0)
def thT (h1:F)(t:A)(h:F)(a:A):A:=bif h1&&h then 0 else bif h1 then Hd (Xu h a)else bif h then Hd (Xu h1 t)else bif decide (1-t*a=0)then 0 else(t+a)/(1-t*a)
def Xy (h:F)(t:A):A:=bif h then-1 else(1-t*t)/(1+t*t)
def Q3 (h:F)(t:A):A:=bif h then 0 else(t+t)/(1+t*t)
structure FrV where
  x:A
  y:A
  h:F
  t:A
def Vu (f:FrV)(x y:A):A:=f.x+(x*Xy f.h f.t-y*Q3 f.h f.t)
def Vv (f:FrV)(x y:A):A:=f.y+(x*Q3 f.h f.t+y*Xy f.h f.t)
def Y0 (f g:FrV):FrV:=⟨Vu f g.x g.y,Vv f g.x g.y,thH f.h f.t g.h g.t,thT f.h f.t g.h g.t⟩
theorem YR (p:A):Qx p p=p:=by unfold Qx;split<;>rfl
theorem HI (t:A):0<=t*t:=by
 rcases @A.le_total 0 t with h | h
 ·exact A.mul_nonneg h h
 ·have:=A.mul_nonneg (j4:0<= -t) (j4:0<= -t);grind
theorem sq1 (t:A):1+t*t≠0:=by have:=HI t;grind
def L79:LC:=L52
def M79:E (B×XS):=M48
theorem Qdw:QF L79:=cd
theorem Qq:XK M79:=UR
def Dq(a:F):=Zi (Za a)
def Dn(a:B)(b:Prop):=a<=4294967296/\b
def Dv(a:AV->Prop)(b:E Ch):=a (AV.x C b)
def Dr(a:AV->Prop)(b:F)(c:A)(d:B):=Dv a [Dq b,H c d]
theorem QjM (t:A)(a:B)(b:(a<=1000000000))(K:AV->Prop)(h:K (.x C [.v (.bool D),.r t a])):QM (QN (mkT L79 M79 X4) (oF f90) noL f90 [rA t a] K):=by
 refine HV (Dn (a+a) (Dr K D (Qx t t) (max a a))) ?_
 delta Dq Dn Dv Dr
 try simp only[O,R0,R1,P,N,R4,R2,R3]
 rw[YR,B.max_self];exact⟨o3,h⟩
def p7:Ctr
 | [.x C [.r t a]]=>G fun K=>((a<=1000000000))/\(K (.x C [.v (.bool D),.r t a]))
 | _=>I
theorem Qfg:QH 90 p7:=by
 refine okL func90 fun l T a K h=> ?_
 unfold p7 at a;split at a<;>cases a
 obtain⟨b,h⟩:=h;exact spL (QP Qdw Qq Qb) QK func90 (QjM _ _ b K h)
def L80:LC:=(90,p7)::L79
theorem wK:QF L80:= .cons Qfg Qdw
def D2:=↑(0:J)
def D0(a b:J):=(-9223372036854775808:J)<=a/\b<9223372036854775808
def D3:=D0 0 (0:J)
theorem Qap (_hc:True)(K:AV->Prop)(h:K (.x C [.v (.bool C),.r 0 64])):QM (QN (mkT L80 M79 X4) (oF f158) noL f158 [] K):=by
 refine HV (D3/\Dr K C D2 64) ?_
 delta Dq Dv D2 Dr D0 D3
 try simp only[O,R0,R1,P,N,R4,R2,R3]
 exact⟨o3,h⟩
def fu:Ctr
 | []=>G fun K=>(True)/\(K (.x C [.v (.bool C),.r 0 64]))
 | _=>I
theorem QUb:QH 158 fu:=by
 refine okL func158 fun l T a K h=> ?_
 unfold fu at a;split at a<;>cases a
 obtain⟨b,h⟩:=h;exact spL (QP wK Qq Qb) QK func158 (Qap  b K h)
def L81:LC:=(158,fu)::L80
theorem Qdy:QF L81:= .cons QUb wK
def Du:A:=OfNat.ofNat 0
def D7(a:AV->Prop):=True/\Dr a C Du 64
theorem Qfh (h:F)(t:A)(a:B)(c:(a<=1000000000))(K:AV->Prop)(b: ∀n,n<=a+64->K (.x C [.v (.bool h),.r (Xu h t) n])):QM (QN (mkT L81 M79 X4) (oF f136) noL f136 [.x C [.v (.bool h),.r t a]] K):=by
 refine HV (bif h then D7 K else a<=1000000000/\Dr K D t a) ?_
 delta Dq Dv Dr Du D7
 try simp only[R0]
 cases h with
 | true=>exact b 64 o3
 | false=>exact⟨c,b a o3⟩
def ru:Ctr
 | [.x C [.v (.bool h),.r t a]]=>G fun K=>((a<=1000000000))/\(∀n,n<=a+64->K (.x C [.v (.bool h),.r (Xu h t) n]))
 | _=>I
theorem Qaq:QH 136 ru:=by
 refine okL func136 fun l T a K h=> ?_
 unfold ru at a;split at a<;>cases a
 obtain⟨b,h⟩:=h;exact spL (QP Qdy Qq Qb) QK func136 (Qfh _ _ _ b K h)
def L82:LC:=(136,ru)::L81
theorem Qdz:QF L82:= .cons Qaq Qdy
theorem Qfi (h:F)(t:A)(a:B)(d:(a<=900000000))(K:AV->Prop)(c: ∀n,n<=a+64->K (.x C [.v (.bool (GL t)),.r (Hd t) n])):QM (QN (mkT L82 M79 X4) (oF f157) noL f157 [.x C [.v (.bool h),.r t a]] K):=by
 refine HV (D0 (-1) (-1:J)/\Dn (64+a) ((t≠Du->64+a<=1000000000/\Dr K D (↑(-1:J)/t) (64+a))/\(t=Du->D7 K))) ?_
 delta Dq Dn Dv Dr Du D0 D7
 try simp only[R0]
 refine⟨o3,o3,fun b=>⟨o3,?_⟩,fun b=> ?_⟩
 ·have e:GL t=D:=decide_eq_false b;have:=c (64+a) o3;unfold Hd at this;rw[e]at this;exact this
 ·have e:GL t=C:=decide_eq_true b;have:=c 64 o3;unfold Hd at this;rw[e]at this;exact this
def mS:Ctr
 | [.x C [.v (.bool _h),.r t a]]=>G fun K=>((a<=900000000))/\(∀n,n<=a+64->K (.x C [.v (.bool (GL t)),.r (Hd t) n]))
 | _=>I
theorem Qar:QH 157 mS:=by
 refine okL func157 fun l T a K h=> ?_
 unfold mS at a;split at a<;>cases a
 obtain⟨b,h⟩:=h;exact spL (QP Qdz Qq Qb) QK func157 (Qfi _ _ _ b K h)
def L83:LC:=(157,mS)::L82
theorem zW:QF L83:= .cons Qar Qdz
def Dw(a b c d:B):=a+b+1+(64+(c+d)+1)
def D1(a:F)(b:A)(c:F)(d:A):=↑(1:J)-Xu a b*Xu c d
theorem Qas (h:F)(t:A)(a:B)(g:F)(u:A)(b:B)(i:(a+b<=400000000))(K:AV->Prop)(c: ∀n,n<=2*a+2*b+400->K (.x C [.v (.bool (thH h t g u)),.r (thT h t g u) n])):QM (QN (mkT L83 M79 X4) (oF f128) noL f128 [.x C [.v (.bool h),.r t a],.x C [.v (.bool g),.r u b]] K):=by
 refine HV (a<=1000000000/\∀(v:B),v<=a+64->b<=1000000000/\∀(z:B),z<=b+64->bif h then bif g then D3/\64<=1000000000/\Dr K D D2 64 else bif h then z<=900000000/\∀(y:B),y<=z+64->Dr K (GL (Xu g u)) (Hd (Xu g u)) y else bif g then v<=900000000/\∀(x:B),x<=v+64->Dr K (GL (Xu h t)) (Hd (Xu h t)) x else Dn (v+z+1) (D0 1 (1:J)/\Dn (v+z) (Dn (64+(v+z)+1) (Dn (Dw v z v z) ((D1 h t g u≠Du->Dw v z v z<=1000000000/\Dr K D ((Xu h t+Xu g u)/D1 h t g u) (Dw v z v z))/\(D1 h t g u=Du->D7 K)))))else bif h then z<=900000000/\∀(w:B),w<=z+64->Dr K (GL (Xu g u)) (Hd (Xu g u)) w else bif g then v<=900000000/\∀(r:B),r<=v+64->Dr K (GL (Xu h t)) (Hd (Xu h t)) r else Dn (v+z+1) (D0 1 (1:J)/\Dn (v+z) (Dn (64+(v+z)+1) (Dn (Dw v z v z) ((D1 h t g u≠Du->Dw v z v z<=1000000000/\Dr K D ((Xu h t+Xu g u)/D1 h t g u) (Dw v z v z))/\(D1 h t g u=Du->D7 K)))))) ?_
 delta Dq Dn Dv D2 Dr Du D0 Dw D1 D3 D7
 try simp only[R0]
 refine⟨o3,fun n l=>⟨o3,fun m j=> ?_⟩⟩;cases h with
 | true=>
  cases g with
  | true=>exact⟨o3,o3,c 64 o3⟩
  | false=>exact⟨o3,fun k f=>c k o3⟩
 | false=>
  cases g with
  | true=>exact⟨o3,fun k f=>c k o3⟩
  | false=>
   refine⟨o3,o3,o3,o3,o3,fun d=>⟨o3,?_⟩,fun d=> ?_⟩
   ·have e:decide (1-t*u=0)=D:=decide_eq_false d;have:=c (n+m+1+(64+(n+m)+1)) o3;simp only[thH,thT,F.and_self,R8,e]at this;exact this
   ·have e:decide (1-t*u=0)=C:=decide_eq_true d;have:=c 64 o3;simp only[thH,thT,F.and_self,R8,e,R7]at this;exact this
def rZ:Ctr
 | [.x C [.v (.bool h),.r t a],.x C [.v (.bool g),.r u b]]=>G fun K=>((a+b<=400000000))/\(∀n,n<=2*a+2*b+400->K (.x C [.v (.bool (thH h t g u)),.r (thT h t g u) n]))
 | _=>I
theorem QUc:QH 128 rZ:=by
 refine okL func128 fun l T a K h=> ?_
 unfold rZ at a;split at a<;>cases a
 obtain⟨b,h⟩:=h;exact spL (QP zW Qq Qb) QK func128 (Qas _ _ _ _ _ _ b K h)
def L84:LC:=(128,rZ)::L83
theorem Qd1:QF L84:= .cons QUc zW
def D4(a:F)(b:A)(c:F)(d:A):=↑(1:J)+Xu a b*Xu c d
def D8:=Zi (Zj (ByteArray.mk (Array.mk [])))
theorem Qfj (h:F)(t:A)(a:B)(d:(a<=500000000))(K:AV->Prop)(b: ∀n,n<=4*a+400->K (rA (Xy h t) n)):QM (QN (mkT L84 M79 X4) (oF f134) noL f134 [.x C [.v (.bool h),.r t a]] K):=by
 refine HV (a<=1000000000/\∀(v:B),v<=a+64->bif h then D0 (-1) (-1:J)/\Dv K [H ↑(-1:J) 64]else Dn (v+v) (D0 1 (1:J)/\Dn (64+(v+v)+1) (D0 1 (1:J)/\Dn (64+(v+v)+1) (Dn (Dw 64 (v+v) v v) ((D4 h t h t≠Du->Dv K [H (D1 h t h t/D4 h t h t) (Dw 64 (v+v) v v)])/\(D4 h t h t=Du->Dv K [Dq D,D8,D8])))))) ?_
 delta Dq Dn Dv Du D0 Dw D1 D4 D8
 try simp only[O,R0,R1,P,N,R4,R2,R3]
 refine⟨o3,fun n e=> ?_⟩;cases h with
 | true=>exact⟨o3,b 64 o3⟩
 | false=>exact⟨o3,o3,o3,o3,o3,o3,fun _=>b _ o3,fun c=>absurd c (sq1 t)⟩
def nP:Ctr
 | [.x C [.v (.bool h),.r t a]]=>G fun K=>((a<=500000000))/\(∀n,n<=4*a+400->K (rA (Xy h t) n))
 | _=>I
theorem Qat:QH 134 nP:=by
 refine okL func134 fun l T a K h=> ?_
 unfold nP at a;split at a<;>cases a
 obtain⟨b,h⟩:=h;exact spL (QP Qd1 Qq Qb) QK func134 (Qfj _ _ _ b K h)
def L85:LC:=(134,nP)::L84
theorem u6:QF L85:= .cons Qat Qd1
theorem Qfk (h:F)(t:A)(a:B)(d:(a<=500000000))(K:AV->Prop)(c: ∀n,n<=4*a+400->K (rA (Q3 h t) n)):QM (QN (mkT L85 M79 X4) (oF f135) noL f135 [.x C [.v (.bool h),.r t a]] K):=by
 refine HV (a<=1000000000/\∀(v:B),v<=a+64->Dn (v+v+1) (D0 1 (1:J)/\Dn (v+v) (Dn (64+(v+v)+1) (Dn (Dw v v v v) ((D4 h t h t≠Du->Dv K [H ((Xu h t+Xu h t)/D4 h t h t) (Dw v v v v)])/\(D4 h t h t=Du->Dv K [Dq D,D8,D8])))))) ?_
 delta Dq Dn Dv Du D0 Dw D4 D8
 try simp only[O,R0,R1,P,N,R4,R2,R3]
 refine⟨o3,fun n f=>⟨o3,o3,o3,o3,o3,fun b=> ?_,fun b=>absurd b (sq1 _)⟩⟩;have e:(Xu h t+Xu h t)/(((1:J):A)+Xu h t*Xu h t)=Q3 h t:=by
  cases h with
  | true=>show((0:A)+0)/_=0;rw[A.add_zero,A.div_def,A.zero_mul]
  | false=>rfl
 rw[e];exact c _ o3
def rW:Ctr
 | [.x C [.v (.bool h),.r t a]]=>G fun K=>((a<=500000000))/\(∀n,n<=4*a+400->K (rA (Q3 h t) n))
 | _=>I
theorem Qau:QH 135 rW:=by
 refine okL func135 fun l T a K h=> ?_
 unfold rW at a;split at a<;>cases a
 obtain⟨b,h⟩:=h;exact spL (QP u6 Qq Qb) QK func135 (Qfk _ _ _ b K h)
def L86:LC:=(135,rW)::L85
theorem Qd3:QF L86:= .cons Qau u6
theorem Qfl (p:A)(a:B)(e:A)(b:B)(q:A)(c:B)(f:A)(d:B)(g:(a+c<=4294967290)/\(b+d<=4294967290))(K:AV->Prop)(h:K (.x C [.r (p+q) (a+c+1),.r (e+f) (b+d+1)])):QM (QN (mkT L86 M79 X4) (oF f22) noL f22 [.x C [.r p a,.r e b],.x C [.r q c,.r f d]] K):=by
 refine HV (Dn (a+c+1) (Dn (b+d+1) (Dv K [H (p+q) (a+c+1),H (e+f) (b+d+1)]))) ?_
 delta Dn Dv
 try simp only[O,R0,R1,P,N,R4,R2,R3]
 exact⟨o3,o3,h⟩
def eh:Ctr
 | [.x C [.r p a,.r e b],.x C [.r q c,.r f d]]=>G fun K=>((a+c<=4294967290)/\(b+d<=4294967290))/\(K (.x C [.r (p+q) (a+c+1),.r (e+f) (b+d+1)]))
 | _=>I
theorem QOH:QH 22 eh:=by
 refine okL func22 fun l T a K h=> ?_
 unfold eh at a;split at a<;>cases a
 obtain⟨b,h⟩:=h;exact spL (QP Qd3 Qq Qb) QK func22 (Qfl _ _ _ _ _ _ _ _ b K h)
def L87:LC:=(22,eh)::L86
theorem Qd4:QF L87:= .cons QOH Qd3
theorem Qfm (p:A)(a:B)(e:A)(b:B)(q:A)(c:B)(f:A)(d:B)(g:(a+b+c+d<=4294967290))(K:AV->Prop)(h:K (rA (p*q+e*f) (a+c+(b+d)+1))):QM (QN (mkT L87 M79 X4) (oF f152) noL f152 [.x C [.r p a,.r e b],.x C [.r q c,.r f d]] K):=by
 refine HV (Dn (a+c) (Dn (b+d) (Dn (a+c+(b+d)+1) (Dv K [H (p*q+e*f) (a+c+(b+d)+1)])))) ?_
 delta Dn Dv
 try simp only[O,R0,R1,P,N,R4,R2,R3]
 exact⟨o3,o3,o3,h⟩
def qO:Ctr
 | [.x C [.r p a,.r e b],.x C [.r q c,.r f d]]=>G fun K=>((a+b+c+d<=4294967290))/\(K (rA (p*q+e*f) (a+c+(b+d)+1)))
 | _=>I
theorem Qav:QH 152 qO:=by
 refine okL func152 fun l T a K h=> ?_
 unfold qO at a;split at a<;>cases a
 obtain⟨b,h⟩:=h;exact spL (QP Qd4 Qq Qb) QK func152 (Qfm _ _ _ _ _ _ _ _ b K h)
def L88:LC:=(152,qO)::L87
theorem QjN:QF L88:= .cons Qav Qd4
def L89:LC:=L88
theorem uy:QF L89:=QjN
abbrev QOI (p:A)(a:B)(d:A)(b:B)(h:F)(t:A)(c:B)(K:AV->Prop):Prop:=((a+b+c<=400000000))/\(∀n m,n<=a+b+8*c+1000->m<=a+b+8*c+1000->K (.x C [.r (p*Xy h t-d*Q3 h t) n,.r (p*Q3 h t+d*Xy h t) m]))
theorem Qaw (p:A)(a:B)(d:A)(b:B)(h:F)(t:A)(c:B)(K:AV->Prop)(e:QOI p a d b h t c K):QM (QN (mkT L89 M79 X4) (oF f94) noL f94 [.x C [.r p a,.r d b],.x C [.v (.bool h),.r t c]] K):=by
 obtain⟨f,e⟩:=e;refine HV (c<=500000000/\∀(v:B),v<=4*c+400->c<=500000000/\∀(u:B),u<=4*c+400->Dn (a+v) (Dn (b+u) (Dn (a+v+(b+u)+1) (Dn (a+u) (Dn (b+v) (Dn (a+u+(b+v)+1) (Dv K [H (p*Xy h t-d*Q3 h t) (a+v+(b+u)+1),H (p*Q3 h t+d*Xy h t) (a+u+(b+v)+1)]))))))) ?_
 delta Dn Dv
 try simp only[O,R0,R1,P,N,R4,R2,R3]
 exact⟨o3,fun n i=>⟨o3,fun m g=>⟨o3,o3,o3,o3,o3,o3,e _ _ o3 o3⟩⟩⟩
def gb:Ctr
 | [.x C [.r p a,.r d b],.x C [.v (.bool h),.r t c]]=>G fun K=>QOI p a d b h t c K
 | _=>I
theorem QUd:QH 94 gb:=by
 refine okL func94 fun l T h K a=> ?_
 unfold gb at h;split at h<;>cases h
 exact spL (QP uy Qq Qb) QK func94 (Qaw _ _ _ _ _ _ _ K a)
def L90:LC:=(94,gb)::L89
theorem xD:QF L90:= .cons QUd uy
abbrev QUe (x:A)(i:B)(y:A)(j:B)(h:F)(t:A)(k:B)(p:A)(a:B)(c:A)(b:B)(K:AV->Prop):Prop:=((i+j+k+a+b<=400000000))/\(∀n m,n<=i+a+b+8*k+1100->m<=j+a+b+8*k+1100->K (.x C [.r (Vu ⟨x,y,h,t⟩ p c) n,.r (Vv ⟨x,y,h,t⟩ p c) m]))
theorem Qfn (x:A)(i:B)(y:A)(j:B)(h:F)(t:A)(k:B)(p:A)(a:B)(c:A)(b:B)(K:AV->Prop)(d:QUe x i y j h t k p a c b K):QM (QN (mkT L90 M79 X4) (oF f51) noL f51 [.x C [.r x i,.r y j,.v (.bool h),.r t k],.x C [.r p a,.r c b]] K):=by
 obtain⟨e,d⟩:=d;refine HV (a+b+k<=400000000/\∀(n m:B),n<=a+b+8*k+1000->m<=a+b+8*k+1000->(i+n<=4294967290/\j+m<=4294967290)/\Dv K [H (x+(p*Xy h t-c*Q3 h t)) (i+n+1),H (y+(p*Q3 h t+c*Xy h t)) (j+m+1)]) ?_
 delta Dv
 try simp only[O,R0,R1,P,N,R4,R2,R3]
 exact⟨o3,fun n m g f=>⟨o3,d _ _ o3 o3⟩⟩
def ke:Ctr
 | [.x C [.r x i,.r y j,.v (.bool h),.r t k],.x C [.r p a,.r c b]]=>G fun K=>QUe x i y j h t k p a c b K
 | _=>I
theorem Qax:QH 51 ke:=by
 refine okL func51 fun l T h K a=> ?_
 unfold ke at h;split at h<;>cases h
 exact spL (QP xD Qq Qb) QK func51 (Qfn _ _ _ _ _ _ _ _ _ _ _ K a)
def L91:LC:=(51,ke)::L90
theorem Qd7:QF L91:= .cons Qax xD
abbrev QOJ (x:A)(i:B)(y:A)(j:B)(h:F)(t:A)(k:B)(p:A)(a:B)(c:A)(b:B)(g:F)(u:A)(l:B)(K:AV->Prop):Prop:=((i+j+k+a+b+l<=400000000))/\(∀f n m o,f=Y0 ⟨x,y,h,t⟩ ⟨p,c,g,u⟩->n<=i+a+b+8*k+1100->m<=j+a+b+8*k+1100->o<=2*k+2*l+400->K (.x C [.r f.x n,.r f.y m,.v (.bool f.h),.r f.t o]))
theorem Qay (x:A)(i:B)(y:A)(j:B)(h:F)(t:A)(k:B)(p:A)(a:B)(c:A)(b:B)(g:F)(u:A)(l:B)(K:AV->Prop)(d:QOJ x i y j h t k p a c b g u l K):QM (QN (mkT L91 M79 X4) (oF f91) noL f91 [.x C [.r x i,.r y j,.v (.bool h),.r t k],.x C [.r p a,.r c b,.v (.bool g),.r u l]] K):=by
 obtain⟨e,d⟩:=d;refine HV (i+j+k+a+b<=400000000/\∀(n m:B),n<=i+a+b+8*k+1100->m<=j+a+b+8*k+1100->k+l<=400000000/\∀(v:B),v<=2*k+2*l+400->Dv K [H (Vu (FrV.mk x y h t) p c) n,H (Vv (FrV.mk x y h t) p c) m,Dq (thH h t g u),H (thT h t g u) v]) ?_
 delta Dq Dv
 try simp only[O,R0,R1,P,N,R4,R2,R3]
 exact⟨o3,fun n m q f=>⟨o3,fun o r=>d _ _ _ _ rfl o3 o3 o3⟩⟩
def sN:Ctr
 | [.x C [.r x i,.r y j,.v (.bool h),.r t k],.x C [.r p a,.r c b,.v (.bool g),.r u l]]=>G fun K=>QOJ x i y j h t k p a c b g u l K
 | _=>I
theorem QUf:QH 91 sN:=by
 refine okL func91 fun l T h K a=> ?_
 unfold sN at h;split at h<;>cases h
 exact spL (QP Qd7 Qq Qb) QK func91 (Qay _ _ _ _ _ _ _ _ _ _ _ _ _ _ K a)
def L92:LC:=(91,sN)::L91
noncomputable def T92:Qd:=mkT L92 M79 X4
theorem xS:QF L92:= .cons QUf Qd7
theorem QjO:Qr T92:=QP xS Qq Qb
def XH:FrV->E QV->E A->E FrV
 | b,a::l,q::c=>Y0 b ⟨0,0,D,q⟩::XH (Y0 (Y0 b ⟨0,0,D,q⟩) ⟨a.len,0,D,0⟩) l c
 | b,_,_=>[b]
def Xs (a:ArmV):FrV:=⟨a.x,a.y,a.half,a.t⟩
def zm:B->B
 | 0=>63
 | i+1=>81*zm i+12279
def frN (n:B)(f:FrV):E Ch:=[.r f.x n,.r f.y n,.v (.bool f.h),.r f.t n]
abbrev WN (f:FrV):E Ch:=[.r f.x 12800000,.r f.y 12800000,.v (.bool f.h),.r f.t 12800000]
theorem tS {xs:E (E Ch)}{a b:E Ch}(f:QC xs xs)(h:MC (fun _=>I) a b/\Qm b=[]):QC (xs++[a]) (xs++[b]):=by
 refine⟨o6,fun i x y c d=> ?_⟩;by_cases e:i<xs.length
 ·rw[Zl e]at c d;exact f.2 i x y c d
 ·rw[Zk o3]at c d;have:i-M xs=0:=by
   have:=(E.getElem?_eq_some_iff.1 c).1;simp at this;omega
  rw[this]at c d;cases c;cases d;exact h
theorem zK {n m o N:B}{f:FrV}(h1:n<=N)(h:m<=N)(a:o<=N):MC (fun _=>I) [.r f.x n,.r f.y m,.v (.bool f.h),.r f.t o] (frN N f)/\Qm (frN N f)=[]:=⟨.r h1 (.r h (.v (.r a .nil))),rfl⟩
theorem Qfo {n:B}(h:n<=3):zm n<=120000000:=by
 have:n=0\/n=1\/n=2\/n=3:=o3
 rcases this with e | e | e | e<;>rw[e]<;>decide
theorem Qfp (a:E FrV):QC (a.map WN) (a.map WN):=by
 refine⟨rfl,fun i x y h c=> ?_⟩;rw[h]at c;cases c
 rw[E.getElem?_map]at h;cases b:a[i]? with
 | none=>rw[b]at h;cases h
 | some f=>rw[b]at h;cases h;exact zK (N _) (N _) (N _)
theorem Qfq {a:E FrV}{f:FrV}{m i:B}{g:FrV}(c:m<=120000000)(h:(a++[f])[i]? =G g): ∃n,n<=120000000/\(a.map WN++[frN m f])[i]? =G (frN n g):=by
 by_cases b:i<a.length
 ·rw[Zl b]at h;exact⟨12800000,o3,by rw[Zl ((j9 b)),E.getElem?_map,h];rfl⟩
 ·rw[Zk o3]at h;have:i-M a=0:=by
   have:=(E.getElem?_eq_some_iff.1 h).1;simp at this;omega
  rw[this]at h;cases h
  exact⟨m,c,by rw[Zk o9,Zn,this];rfl⟩
structure FmX where
 fs:E FrV
 b:FrV
 i:B
structure FmI (a:ArmV)(qs:E A)(x:FmX):Prop where
 n:x.fs.length=x.i
 le:x.i<=a.za.length
 eq:x.fs++XH x.b (a.za.drop x.i) (qs.drop x.i)=XH (Xs a) a.za qs
def QMB (a:ArmV)(b:B)(q:E A):LI:=fun _=> .inv ⟨FmX,fun x=>⟨[(1,sR b q),(2,.x D [.p 2 0]),(7,.x D [.p 7 0]),(8,.x D [.p 8 0]),(9,.x D [.p 9 0]),(10,.x D [.w 500 0 x.fs.length]),(29,.x D [.s 16 (a.za.map QA)]),(30,iA .i64 a.za.length),(31,iA .i64 x.i)],
 [(2,.box 34 (Qp a)),(7,.box 31 (frN (zm x.i) x.b)),(8,.box 27 [.r ((0:J):A) 64,.r ((0:J):A) 64]),(9,.box 29 [.v (.bool D),.r ((0:J):A) 64]),(500,.row 31 10 (x.fs.map WN))]⟩,FmI a q,fun x=>M a.za-x.i,fun _=>0⟩
abbrev QFH (a:ArmV)(b:B)(q:E A)(K:AV->Prop):Prop:=((QJ a)/\(b<=400/\q.length=M a.za))/\(∀(c:E FrV) (f:FrV),c++[f]=XH (Xs a) a.za q->M c=M a.za->K (.t [(D,[.s 10 (c.map WN++[frN (zm a.za.length) f])]),(D,[.v (.int .i64 0)])]))
def Dx(a:ArmV):=a.za.length
def Ds(a:ArmV):=Zc QA a.za
def Dp(a:FmX):=zm a.i
def Dz:=(D2:A)
def Dt(a:FmX):=a.fs.length
def D5(a:FmX):=Zc WN a.fs
def D6(a b c d e f:ArmV):E Ch:=[Zi (Zj a.name),H b.x 63,H c.y 63,Dq d.half,H e.t 63,Ch.s 16 (Ds f)]
def EA:=OfNat.ofNat 0=0
def EC(a:Prop):=27=27/\Dz=Dz/\64<=64/\Dz=Dz/\64<=64/\29=29/\D=D/\a
def EB:=Value.slice I 0 0
theorem QQx (a:ArmV)(b:B)(h:E A)(K:AV->Prop)(J:QFH a b h K):QM (QN T92 (oF f48) (QMB a b h) f48 [JV a,sR b h] K):=by
 obtain⟨hc,J⟩:=J;refine HV (∃(d:ArmV),D6 a a a a a a=D6 d d d d d d/\(QJ d/\L (lR b h).length=L (Dx d))/\D3/\D3/\D3/\64<=1000000000/\(∃(x:FmX),(FmI a h x/\EA)/\3=3/\lR b h=lR b h/\0=0/\0=0/\0=0/\0=0/\EB=EB/\0=0/\Dt x=0/\16=16/\Ds a=Ds a/\L (Ds a).length=L (Dx a)/\0=L x.i/\34=34/\a.name=a.name/\a.x=a.x/\63<=63/\a.y=a.y/\63<=63/\a.half=a.half/\a.t=a.t/\63<=63/\16=16/\Ds a=Ds a/\31=31/\a.x=x.b.x/\63<=Dp x/\a.y=x.b.y/\63<=Dp x/\a.half=x.b.h/\a.t=x.b.t/\63<=Dp x/\EC (Dz=Dz/\64<=64/\D5 x=[]/\True))/\∀(x:FmX),FmI a h x->EA->bif decide (L x.i<L (Dx a))then(0<=L x.i/\L x.i<L (Ds a).length)/\∃(q:A)(n:B)(T:A)(P:B)(U:A)(Q:B)(V:A)(R:B)(W:A)(S:B)(ys:E (E Ch)),ldE (Ds a) (L x.i).toNat 0 16=G [H q n,H T P,H U Q,H V R,H W S,Ch.s 6 ys]/\(0<=L x.i/\L x.i<L (lR b h).length)/\∃(t:A)(s:B),ldE (lR b h) (L x.i).toNat 0 3=G [H t s]/\s<=1000000000/\Dp x+Dp x+Dp x+64+64+s<=400000000/\∀(v:FrV)(u z w:B),v=Y0 (FrV.mk x.b.x x.b.y x.b.h x.b.t) (FrV.mk D2 D2 D t)->u<=Dp x+64+64+8*Dp x+1100->z<=Dp x+64+64+8*Dp x+1100->w<=2*Dp x+2*s+400->((Dt x+1)*128<=140737488355328/\Dt x+1<=9223372036854775807)/\D3/\u+z+w+n+64+64<=400000000/\∀(r:FrV)(p l k:B),r=Y0 (FrV.mk v.x v.y v.h v.t) (FrV.mk q D2 D D2)->p<=u+n+64+8*w+1100->l<=z+n+64+8*w+1100->k<=2*w+128+400->∃(i:FmX),(FmI a h i/\EA/\Dx a-i.i<Dx a-x.i)/\3=3/\lR b h=lR b h/\0=0/\0=0/\0=0/\0=0/\0=0/\Dt x+1=Dt i/\16=16/\Ds a=Ds a/\L (Dx a)=L (Dx a)/\IntKind.i64.wrap (L x.i+1)=L i.i/\34=34/\a.name=a.name/\a.x=a.x/\63<=63/\a.y=a.y/\63<=63/\a.half=a.half/\a.t=a.t/\63<=63/\16=16/\Ds a=Ds a/\31=31/\r.x=i.b.x/\p<=Dp i/\r.y=i.b.y/\l<=Dp i/\r.h=i.b.h/\r.t=i.b.t/\k<=Dp i/\EC (Dz=Dz/\64<=64/\31=31/\10=10/\(Zo (Dt x) (D5 x)++[[H v.x u,H v.y z,Dq v.h,H v.t w]]=D5 i\/QC (Zo (Dt x) (D5 x)++[[H v.x u,H v.y z,Dq v.h,H v.t w]]) (D5 i))/\True)else((Dt x+1)*128<=140737488355328/\Dt x+1<=9223372036854775807)/\K (AV.t [(D,[Ch.s 10 (Zo (Dt x+1) (E.drop 0 (Zo (Dt x) (D5 x)++[[H x.b.x (zm x.i),H x.b.y (zm x.i),Dq x.b.h,H x.b.t (zm x.i)]])))]),(D,[Zi (Value.int IntKind.i64 0)])])) ?_
 delta Dq Dx D2 Ds Dp D0 Dz Dt D3 D5 D6 EA EC EB
 try simp only[O,R0,R1,N,R4]
 obtain⟨X,hb,hq⟩:=hc;have hn:=X.n;refine⟨a,rfl,⟨X,by rw[Qw,hq]⟩,o3,o3,o3,o3,⟨⟨[],Xs a,0⟩,⟨rfl,o6,rfl⟩,rfl,o6,rfl,rfl,N _,rfl,N _,rfl,rfl,N _,rfl⟩,fun x ⟨Z,h2,F⟩=>QE (fun j=> ?_) (fun j=> ?_)⟩
 ·have j:x.i<M a.za:=(j7 j)
  obtain⟨c,hL⟩: ∃c,a.za[x.i]? =G c:=⟨_,Zh j⟩
  obtain⟨q,hqi⟩: ∃q,h[x.i]? =G q:=⟨_,Zh o3⟩
  have At:zm x.i<=1420221:=by
   have:x.i=0\/x.i=1\/x.i=2:=o3
   rcases this with e | e | e<;>rw[e]<;>decide
  refine⟨by rw[Zn];omega,_,_,_,_,_,_,_,_,_,_,_,JW ((j9 hL)),by rw[Qw];omega,q,b,Xd ((j9 hqi)),o3,o3,fun f n m o hf hZ hm ho=> ?_⟩;subst hf;have Y:x.fs.map WN=Zo x.fs.length (x.fs.map WN):=by rw[Zm o6]
  rw[<-Y];refine⟨⟨o3,o3⟩,o3,o3,fun g n' m' o' hg be Lm ja=> ?_⟩;subst hg;have y:zm (x.i+1)=81*zm x.i+12279:=rfl;refine⟨⟨x.fs++[Y0 x.b ⟨0,0,D,q⟩],Y0 (Y0 x.b ⟨0,0,D,q⟩) ⟨c.len,0,D,0⟩,x.i+1⟩,⟨⟨by simp[Z],j,?_⟩,o5⟩,o6,by rw[w64 o3];simp,rfl,by simp only[y];omega,rfl,by simp only[y];omega,rfl,rfl,by simp only[y];omega,.inr ?_⟩
  ·simp only;rw[E.append_assoc,<-F];congr 1;rw[E.drop_eq_getElem_cons j,E.drop_eq_getElem_cons (by omega:x.i<M h)];rw[Zh j]at hL;rw[Zh o3]at hqi;rw[Option.some.inj hL,Option.some.inj hqi];rfl
  ·rw[E.map_append];exact tS (Qfp _) (zK o3 o3 o3)
 ·have j:x.i=M a.za:=(j8 j)
  refine⟨o3,?_⟩;have e:a.za.drop x.i=[]:=by rw[j,E.drop_length]
  rw[e,show XH x.b [] (h.drop x.i)=[x.b]by cases h.drop x.i<;>rfl]at F;have:=J x.fs x.b F o3;rw[Zm o6,E.drop_zero,Zm o6,j];exact this
def sG:Ctr
 | [.x C x,.x D [.s 3 y]]=>G fun K=> ∃(a:ArmV) (b:B) (q:E A),x=Qp a/\y=lR b q/\QFH a b q K
 | _=>I
theorem QMC:QH 48 sG:=by
 refine okL func48 fun l T c K h=> ?_
 unfold sG at c;split at c<;>cases c
 obtain⟨a,b,q,rfl,rfl,h⟩:=h;exact spL QjO QK func48 (QQx _ _ _ K h)
def L93:LC:=(48,sG)::L92
theorem QeA:QF L93:= .cons QMC xS
def Dy(a:A)(b:ArmV):=H a (zm (Dx b))
def D9(a:E FrV)(b:FrV)(c:ArmV)(d:FrV)(e:ArmV)(f g:FrV)(h:ArmV):=IntKind.i64.wrap (L (Zc WN a++[[Dy b.x c,Dy d.y e,Dq f.h,Dy g.t h]]).length-1)
theorem Qfr (a:ArmV)(b:B)(o:E A)(x:(QJ a)/\(b<=400/\o.length=M a.za))(K:AV->Prop)(v: ∀n f,n<=120000000->(XH (Xs a) a.za o)[M a.za]? =G f->K (.t [(C,frN n f),(D,[.v (.int .i64 0)])])):QM (QN (mkT L93 M79 X4) (oF f17) noL f17 [JV a,sR b o] K):=by
 refine HV (∃(c:ArmV)(h:B)(g:E A),D6 a a a a a a=D6 c c c c c c/\lR b o=lR h g/\(QJ c/\h<=400/\g.length=Dx c)/\∀(d:E FrV)(f:FrV),d++[f]=XH (Xs c) c.za g->M d=Dx c->(0<=D9 d f c f c f f c/\D9 d f c f c f f c<L (Zc WN d++[[Dy f.x c,Dy f.y c,Dq f.h,Dy f.t c]]).length)/\∃(q:A)(n:B)(l:A)(j:B)(b:F)(m:A)(k:B),ldE (Zc WN d++[[Dy f.x c,Dy f.y c,Dq f.h,Dy f.t c]]) (D9 d f c f c f f c).toNat 0 10=G [H q n,H l j,Dq b,H m k]/\K (AV.t [(C,[H q n,H l j,Dq b,H m k]),(D,[Zi (Value.int IntKind.i64 0)])])) ?_
 delta Dq Dx Ds Dy D6 D9
 try simp only[O]
 obtain⟨t,w,P⟩:=x;have N:=t.n;refine⟨a,b,o,rfl,rfl,⟨t,w,P⟩,fun d f y z=> ?_⟩;have p:zm a.za.length<=120000000:=Qfo N.2;simp only[E.length_append,Zn,E.length_cons,E.length_nil];rw[w64 o3];have e:((((M d+(0+1):B):J)-1).toNat)=M a.za:=o3
 rw[e];have u:(d++[f])[M a.za]? =G f:=by rw[<-z];simp
 obtain⟨n,s,r⟩:=Qfq p u;have:=v n f s (by rw[<-y];exact u);refine⟨o3,f.x,n,f.y,n,f.h,f.t,n,?_,this⟩;have i:(Zc WN d++[[H f.x (zm a.za.length),H f.y (zm a.za.length),Zi (Za f.h),H f.t (zm a.za.length)]])[M a.za]? =G (frN n f):=r
 simp only[ldE,i];rfl
def dP:Ctr
 | [.x C x,.x D [.s 3 y]]=>G fun K=> ∃(a:ArmV) (b:B) (q:E A),x=Qp a/\y=lR b q/\((QJ a)/\(b<=400/\q.length=M a.za))/\(∀n f,n<=120000000->(XH (Xs a) a.za q)[M a.za]? =G f->K (.t [(C,frN n f),(D,[.v (.int .i64 0)])]))
 | _=>I
theorem zD:QH 17 dP:=by
 refine okL func17 fun l T c K h=> ?_
 unfold dP at c;split at c<;>cases c
 obtain⟨a,b,q,rfl,rfl,d,h⟩:=h;exact spL (QP QeA Qq Qb) QK func17 (Qfr _ _ _ d K h)
def L94:LC:=(17,dP)::L93
noncomputable def T94:Qd:=mkT L94 M79 X4
theorem QjP:QF L94:= .cons zD QeA
end Go.Proofs
namespace Go.Proofs
open Go Go.Eng
def L95:LC:=L94
noncomputable def T95:Qd:=mkT L95 M79 X4
theorem QeB:QF L95:=QjP
theorem QjQ (b:FrV):Vu b 0 0=b.x:=by unfold Vu;grind
theorem QjR (b:FrV):Vv b 0 0=b.y:=by unfold Vv;grind
theorem cs1 (h:F)(t:A):Xy h t*Xy h t+Q3 h t*Q3 h t=1:=by
 unfold Xy Q3;cases h with
 | true=>simp only[R7];grind
 | false=>
  simp only[R8];have:=sq1 t;grind
end Go.Proofs
