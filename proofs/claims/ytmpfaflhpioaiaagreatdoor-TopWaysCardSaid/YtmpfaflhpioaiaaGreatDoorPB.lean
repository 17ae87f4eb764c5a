/- rat.whole, nat.Int, rat.Floor. -/
import Derived.Test.YtmpfaflhpioaiaaGreatDoorPA
open _root_ renaming Nat → A, Rat → B, Int → D, decide_eq_false → F, List → G, decide_eq_true → I
open Bool renaming true → C, false → E
open Option renaming some → H, none → J
open Go.Eng.Ch renaming r → L, v → Zo
open Int renaming ofNat → M, ofNat_eq_natCast → O, neg_mul → Zn, mul_comm → Zm
open Nat renaming le_refl → N, zero_add → P
open List renaming drop → Q, tail_cons → Zk
open Go.IntKind renaming i64 → Zf
open Go.Value renaming bool → Zl, int → Zi
open ByteArray renaming mk → Zb
open Array renaming mk → Zg
set_option maxHeartbeats 1000000
set_option maxRecDepth 100000
namespace Go.Proofs
open Go Go.Eng Tryz
theorem Qa7 {a d q:D}(h:0<d)(h1:q*d<=a)(b:a<(q+1)*d):a/d=q:=
 D.le_antisymm (D.le_of_lt_add_one (D.ediv_lt_of_lt_mul h b)) (D.le_ediv_of_mul_le h h1)
theorem uh (n:D):mkRat n 1=(n:B):=by rw[B.mkRat_one]
theorem QJe (p:B):p.floor=p.num/(p.den:D):=B.floor_def p
theorem QU2 {p:B}(h: ¬p.num<0):XT (decide (p.num<0)) (p.num.natAbs/p.den) 1=((p.floor:D):B):=by
 unfold XT;rw[F h,R8,uh,QJe];congr 1;rw[D.natCast_ediv];congr 1;omega
theorem QQ9 {p:B}(h:p.num<0):XT (decide (p.num<0)) (p.num.natAbs/p.den+(if p.num.natAbs % p.den=0 then 0 else 1)) 1=((p.floor:D):B):=by
 unfold XT;rw[I h,R7,uh,QJe];congr 1;have a:0<p.den:=A.pos_of_ne_zero p.den_nz;have e:=A.div_add_mod p.num.natAbs p.den;have f:=A.mod_lt p.num.natAbs a;have b:p.num= -(p.num.natAbs:D):=o3
 symm;generalize p.num.natAbs=k at*;generalize p.den=d at*;rw[b];generalize k/d=q at*;generalize k % d=r at*;have c:(d:D)*q+r=k:=by exact_mod_cast e
 refine Qa7 o3 ?_ ?_
 ·split
  ·have: -((q+0:A):D)*(d:D)= -((d:D)*q):=by rw[A.add_zero,Zn,Zm]
   rw[this];omega
  ·have: -((q+1:A):D)*(d:D)= -((d:D)*q)-d:=by rw[Zn,D.natCast_add,D.add_mul,Zm (q:D)];omega
   rw[this];omega
 ·split
  ·have:(-((q+0:A):D)+1)*(d:D)= -((d:D)*q)+d:=by rw[A.add_zero,D.add_mul,Zn,Zm (q:D)];omega
   rw[this];omega
  ·have:(-((q+1:A):D)+1)*(d:D)= -((d:D)*q):=by
    have: -((q+1:A):D)+1= -(q:D):=o3
    rw[this,Zn,Zm]
   rw[this];omega
theorem QU3 (p:B)(a:A)(f:(a<=2000000000))(K:AV->Prop)(c: ∀m,m<=a+16->K (rA ((p.floor:D):B) m)):QM (QN T49 (oF f100) noL f100 [rA p a] K):=by
 refine HV (((a<=549755813888/\a<=549755813888)/\bif decide (p.num<0)then bif !decide (QB (bif decide (p.den=0)then 0 else p.num.natAbs%p.den)=(Zb #[]).data.toList)then(a<=549755813888/\8<=549755813888)/\((max a 8+1<=4294967296/\8<=4294967296)/\1≠0)/\K (AV.x C [L (XT (decide (p.num<0)) (p.num.natAbs/p.den+1) 1) (max (max a 8+1) 8)])else((a<=4294967296/\8<=4294967296)/\1≠0)/\K (AV.x C [L (XT (decide (p.num<0)) (p.num.natAbs/p.den) 1) (max a 8)])else((a<=4294967296/\8<=4294967296)/\1≠0)/\K (AV.x C [L (XT (decide (p.num<0)) (p.num.natAbs/p.den) 1) (max a 8)]))) ?_
 try simp only[]
 have d:p.den≠0:=p.den_nz;rw[F d,R8];refine⟨o3,QE (fun h=> ?_) (fun h=> ?_)⟩
 ·have h:=R5 h;have e:=QQ9 h;refine QE (fun b=>⟨o3,o3,?_⟩) (fun b=>⟨o3,?_⟩)
  ·have b: ¬QB (p.num.natAbs % p.den)=[]:=(j9 b)
   rw[if_neg (fun e=>b (Qo.2 e))]at e;rw[e];exact c _ o3
  ·have b:QB (p.num.natAbs % p.den)=[]:=(j9 b)
   rw[if_pos (Qo.1 b),A.add_zero]at e;rw[e];exact c _ o3
 ·refine⟨o3,?_⟩;rw[QU2 (R6 h)];exact c _ o3
def UW:Ctr
 | [.x C [.r p a]]=>H fun K=>((a<=2000000000))/\(∀m,m<=a+16->K (rA ((p.floor:D):B) m))
 | _=>J
theorem qY:QH 100 UW:=by
 refine okL func100 fun l T a K h=> ?_
 unfold UW at a;split at a<;>cases a
 obtain⟨b,h⟩:=h;exact spL xJ QK func100 (QU3 _ _ b K h)
def nu:LC:=(100,UW)::L49
theorem QU4:QF nu:= .cons qY dH
def Ei(a:AV->Prop)(b c:D):=a (AV.t [(E,[Zo (Zi Zf b)]),(E,[Zo (Zi Zf c)])])
theorem QgM (m:A)(n:A)(b:(m<9223372036854775808))(K:AV->Prop)(a:K (.t [(E,[.v (.int .i64 m)]),(E,[.v (.int .i64 0)])])):QM (QN (mkT nu M48 X4) (oF f101) noL f101 [bA m n] K):=by
 refine HV (bif decide (M (QB m).length>8)then Ei K 0 2 else m<18446744073709551616/\bif decide (M m>9223372036854775807)then Ei K 0 2 else m<18446744073709551616/\Ei K (Zf.wrap (M m)) 0) ?_
 delta Ei
 try simp only[O]
 exact QE (fun h=>by have:=R5 h;have:(QB m).length<=8:=Qh.2 o3;omega) (fun _=>⟨o3,QE (fun h=>(j7 h)) (fun _=>⟨o3,by rw[w64 o3];exact a⟩)⟩)
def cM:Ctr
 | [.x E [.b m _n]]=>H fun K=>((m<9223372036854775808))/\(K (.t [(E,[.v (.int .i64 m)]),(E,[.v (.int .i64 0)])]))
 | _=>J
theorem vQ:QH 101 cM:=by
 refine okL func101 fun l T a K h=> ?_
 unfold cM at a;split at a<;>cases a
 obtain⟨b,h⟩:=h;exact spL (QP QU4 UR Qb) QK func101 (QgM _ _ b K h)
def fh:LC:=(101,cM)::nu
theorem QgO:QF fh:= .cons vQ QU4
def Ea:=(0:D)
def Er(a:B):=B.num ↑(B.floor a)
def En(a:B):=D.natAbs (Er a)
def El:=(4294967296:A)
theorem QU5 (p:B)(a:A)(d:(a<=2000000000)/\(-9223372036854775808<p.floor/\p.floor<9223372036854775808))(K:AV->Prop)(b:K (.t [(E,[.v (.int .i64 p.floor)]),(E,[.v (.int .i64 0)])])):QM (QN (mkT fh M48 X4) (oF f60) noL f60 [rA p a] K):=by
 refine HV (a<=El/\a<=(2000000000:A)/\∀(v:A),v<=a+(16:A)->En p<(9223372036854775808:A)/\bif decide (Er p<Ea)then Ei K (IntKind.wrap Zf (Ea-M (En p))) Ea else Ei K (M (En p)) Ea) ?_
 delta Ea Er Ei En El
 try simp only[O]
 obtain⟨c,f,g⟩:=d;simp only[B.num_intCast];refine⟨o3,c,fun m i=>⟨o3,QE (fun h=> ?_) (fun h=> ?_)⟩⟩
 ·have h:=R5 h;have e:Zf.wrap (0-(p.floor.natAbs:D))=p.floor:=by rw[w64 o3];omega
  rw[e];exact b
 ·have h:=R6 h;have e:((p.floor.natAbs:A):D)=p.floor:=o3
  rw[e];exact b
def UX:Ctr
 | [.x C [.r p a]]=>H fun K=>((a<=2000000000)/\(-9223372036854775808<p.floor/\p.floor<9223372036854775808))/\(K (.t [(E,[.v (.int .i64 p.floor)]),(E,[.v (.int .i64 0)])]))
 | _=>J
theorem QFQ:QH 60 UX:=by
 refine okL func60 fun l T a K h=> ?_
 unfold UX at a;split at a<;>cases a
 obtain⟨b,h⟩:=h;exact spL (QP QgO UR Qb) QK func60 (QU5 _ _ b K h)
def Qk4:LC:=(60,UX)::fh
noncomputable def Qlc:Qd:=mkT Qk4 M48 X4
theorem QMH {w:World}{O:A->Prop}{ρ:Env}{m n:A}{v:Value}(h:ConcV w O ρ (.x C [.v (.bool E),.b m n,.v (.string ⟨⟨[1]⟩⟩)]) v):ConcV w O ρ (.x C [.r (m:B) (n+1)]) v:=by
 obtain⟨f,a,g⟩:=h;cases a with
 | v _ a=>cases a with
  | b i a=>cases a with
   | v _ a=>
    cases a
    refine⟨_,?_,g⟩;have d:((m:A):B).num=m:=rfl;have c:((m:A):B).den=1:=rfl;have e:[Zl E,Ja (QB m),Value.string ⟨⟨[1]⟩⟩]=[TP (m:B),numV (m:B),Tm (m:B)]:=by
     unfold TP numV Tm;rw[d,c];have:decide ((m:D)<0)=E:=F o3;rw[this];rfl
    rw[e];refine .r ⟨?_,?_⟩ .nil
    ·rw[d];have:2^n<=2^(n+1):=A.pow_le_pow_right o8 o3;show(m:D).natAbs<_;rw[D.natAbs_natCast];omega
    ·rw[c];exact A.one_lt_two_pow o3
def mo:Ctr:=fun b=>match b with
 | [.x C [.r p a],.x C [.v (.bool E),.b m n,.v (.string ⟨⟨[1]⟩⟩)]]=>H fun K=>a+n+1<=4294967296/\K (rA (p*(m:B)) (a+n+1))
 | b=>cg b
theorem QU6:QH 46 mo:=by
 refine⟨ok_rMul.enter,fun l T h K c=> ?_⟩;unfold mo at h;split at h
 ·rename_i p a m n;cases h
  refine Eng.Spec.args (ok_rMul.sound [.x C [.r p a],.x C [.r (m:B) (n+1)]] _ rfl K c) fun w O v f=> ?_
  cases f with
  | cons d b=>cases b with
   | cons b e=>exact .cons d (.cons (QMH b) e)
 ·exact ok_rMul.sound _ T h K c
def xQ:LC:=(46,mo)::L95
theorem QgP:QF xQ:= .cons QU6 QeB
def qf:LC:=(100,UW)::xQ
theorem QU7:QF qf:= .cons qY QgP
abbrev ud (p:B)(a:A)(d:D)(K:AV->Prop):Prop:=((a<=1000000000)/\(1<=d/\d<9223372036854775808))/\(∀m,m<=a+200->K (rA (Vp p d.toNat) m))
def Eb:=(1:D)
def Eh:=(63:A)
def Eg(a b c d:D):=bif C then if Eb>a then Eb else b else if Eb<c then Eb else d
theorem Qa8 (p:B)(a:A)(d:D)(K:AV->Prop)(b:ud p a d K):QM (QN (mkT qf M79 X4) (oF f189) noL f189 [rA p a,iA .i64 d] K):=by
 obtain⟨g,b⟩:=b;refine HV (Eg d d d d<(9223372036854775808:D)/\a+Eh+(1:A)<=El/\a+Eh+(1:A)<=(2000000000:A)/\∀(v:A),v<=a+Eh+(1:A)+(16:A)->((v<=El/\Eh<=El)/\D.toNat (Eg d d d d)≠(0:A))/\K (AV.x C [L (XT (decide (Er (p*↑(D.toNat (Eg d d d d)))<Ea)) (En (p*↑(D.toNat (Eg d d d d)))) (D.toNat (Eg d d d d))) (max v Eh)])) ?_
 delta Eb Ea Er Eh Eg En El
 try simp only[O,R0,R1,P,N,R4,R2,R3]
 have e:(bif C then if 1>d then 1 else d else if 1<d then 1 else d)=d:=by
  show(if 1>d then 1 else d)=d
  rw[if_neg o3]
 rw[e];refine⟨o3,o3,o3,fun m i=>⟨o3,?_⟩⟩;have c: ∀f:D,XT (decide (((f:D):B).num<0)) ((f:D):B).num.natAbs d.toNat=mkRat f d.toNat:=fun f=>by
  rw[B.num_intCast];unfold XT;by_cases h:f<0
  ·rw[I h,R7];congr 1;omega
  ·rw[F h,R8];congr 1;omega
 rw[c];exact b _ o3
def pn:Ctr
 | [.x C [.r p a],.x E [.v (.int .i64 d)]]=>H fun K=>ud p a d K
 | _=>J
theorem QU8:QH 189 pn:=by
 refine okL func189 fun l T h K a=> ?_
 unfold pn at h;split at h<;>cases h
 exact spL (QP QU7 Qq Qb) QK func189 (Qa8 _ _ _ K a)
def pR:LC:=(189,pn)::qf
theorem tU:QF pR:= .cons QU8 QU7
abbrev QeF (p:B)(a:A)(d:D)(K:AV->Prop):Prop:=((a<=1000000000)/\(1<=d/\d<9223372036854775808))/\(∀m,m<=a+200->K (rA (upR p d.toNat) m))
def Ek(a b c:D):=a<=b/\c<9223372036854775808
def Ej(a:A)(b:Prop):=a<=1000000000/\b
theorem Qjj (p:B)(a:A)(d:D)(K:AV->Prop)(h:QeF p a d K):QM (QN (mkT pR M79 X4) (oF f190) noL f190 [rA p a,iA .i64 d] K):=by
 obtain⟨c,h⟩:=h;refine HV (a<=4294967296/\Ej a (Ek 1 d d)/\∀(v:A),v<=a+200->v<=4294967296/\K (AV.x C [L (-Vp (-p) d.toNat) v])) ?_
 delta Ek Ej
 try simp only[O,R0,R1,P,N,R4,R2,R3]
 exact⟨o3,o3,fun m b=>⟨o3,h m b⟩⟩
def kM:Ctr
 | [.x C [.r p a],.x E [.v (.int .i64 d)]]=>H fun K=>QeF p a d K
 | _=>J
theorem QgS:QH 190 kM:=by
 refine okL func190 fun l T h K a=> ?_
 unfold kM at h;split at h<;>cases h
 exact spL (QP tU Qq Qb) QK func190 (Qjj _ _ _ K a)
def sk:LC:=(190,kM)::pR
theorem vp:QF sk:= .cons QgS tU
def EY(a b:A)(c:Prop):=a+b<=4294967296/\c
theorem Qa9 (l:B)(a:A)(h:B)(b:A)(c:(a+b<=4294967296)/\(l<=h))(K:AV->Prop)(d:K (.x E [.v (.bool C)])):QM (QN (mkT sk M79 X4) (oF f174) noL f174 [.x C [.r l a,.r h b]] K):=by
 refine HV (a<=4294967296/\b<=4294967296/\EY a b (K (AV.x E [Zo (Zl (decide (YY l h<=0)))]))) ?_
 delta EY
 try simp only[O,R0,R1,P,N,R4,R2,R3]
 rw[I ((Jh l h).2 c.2)];exact⟨o3,o3,c.1,d⟩
def mH:Ctr
 | [.x C [.r l a,.r h b]]=>H fun K=>((a+b<=4294967296)/\(l<=h))/\(K (.x E [.v (.bool C)]))
 | _=>J
theorem QVC:QH 174 mH:=by
 refine okL func174 fun l T a K h=> ?_
 unfold mH at a;split at a<;>cases a
 obtain⟨b,h⟩:=h;exact spL (QP vp Qq Qb) QK func174 (Qa9 _ _ _ _ b K h)
def r7:LC:=(174,mH)::sk
theorem QVD:QF r7:= .cons QVC vp
def Ee(a:AV->Prop)(b:B)(c:A)(d:B)(e:A):=a (AV.x C [L b c,L d e])
theorem QgV (l:B)(a:A)(h:B)(b:A)(d:(a+b<=4294967296)/\(l<=h))(K:AV->Prop)(c:K (.x C [.r l a,.r h b])):QM (QN (mkT r7 M79 X4) (oF f148) noL f148 [.x C [.r l a,.r h b]] K):=by
 refine HV (EY a b (l<=h)/\Ee K l a h b) ?_
 delta EY Ee
 try simp only[O,R0,R1,P,N,R4,R2,R3]
 exact⟨d,c⟩
def ij:Ctr
 | [.x C [.r l a,.r h b]]=>H fun K=>((a+b<=4294967296)/\(l<=h))/\(K (.x C [.r l a,.r h b]))
 | _=>J
theorem QbA:QH 148 ij:=by
 refine okL func148 fun l T a K h=> ?_
 unfold ij at a;split at a<;>cases a
 obtain⟨b,h⟩:=h;exact spL (QP QVD Qq Qb) QK func148 (QgV _ _ _ _ b K h)
def mq:LC:=(148,ij)::r7
theorem xc:QF mq:= .cons QbA QVD
theorem Qjk (p:B)(a:A)(b:(a<=2000000000))(K:AV->Prop)(h:K (.x C [.r p a,.r p a])):QM (QN (mkT mq M79 X4) (oF f141) noL f141 [rA p a] K):=by
 refine HV (EY a a (Ee K (Qx p p) (max a a) (Qx p p) (max a a))) ?_
 delta EY Ee
 try simp only[O,R0,R1,P,N,R4,R2,R3]
 rw[YR,A.max_self];exact⟨o3,h⟩
def ga:Ctr
 | [.x C [.r p a]]=>H fun K=>((a<=2000000000))/\(K (.x C [.r p a,.r p a]))
 | _=>J
theorem QgX:QH 141 ga:=by
 refine okL func141 fun l T a K h=> ?_
 unfold ga at a;split at a<;>cases a
 obtain⟨b,h⟩:=h;exact spL (QP xc Qq Qb) QK func141 (Qjk _ _ b K h)
def nH:LC:=(141,ga)::mq
theorem QVG:QF nH:= .cons QgX xc
theorem QgZ (l:B)(a:A)(h:B)(b:A)(m:B)(c:A)(k:B)(d:A)(i:(a+b+c+d<=4294967290)/\(l<=h/\m<=k))(K:AV->Prop)(g:K (.x C [.r (l+m) (a+c+1),.r (h+k) (b+d+1)])):QM (QN (mkT nH M79 X4) (oF f147) noL f147 [.x C [.r l a,.r h b],.x C [.r m c,.r k d]] K):=by
 refine HV (EY a b (l<=h)/\EY c d (m<=k)/\EY (a+c) 1 (EY (b+d) 1 (K (AV.x C [L (l+m) (a+c+1),L (h+k) (b+d+1)])))) ?_
 delta EY
 try simp only[O,R0,R1,P,N,R4,R2,R3]
 obtain⟨j,e,f⟩:=i;exact⟨⟨o3,e⟩,⟨o3,f⟩,o3,o3,g⟩
def qm:Ctr
 | [.x C [.r l a,.r h b],.x C [.r m c,.r k d]]=>H fun K=>((a+b+c+d<=4294967290)/\(l<=h/\m<=k))/\(K (.x C [.r (l+m) (a+c+1),.r (h+k) (b+d+1)]))
 | _=>J
theorem QbB:QH 147 qm:=by
 refine okL func147 fun l T a K h=> ?_
 unfold qm at a;split at a<;>cases a
 obtain⟨b,h⟩:=h;exact spL (QP QVG Qq Qb) QK func147 (QgZ _ _ _ _ _ _ _ _ b K h)
def sH:LC:=(147,qm)::nH
theorem uD:QF sH:= .cons QbB QVG
theorem Qgb (l:B)(a:A)(h:B)(b:A)(m:B)(c:A)(k:B)(d:A)(i:(a+b+c+d<=4294967290)/\(l<=h/\m<=k))(K:AV->Prop)(g:K (.x C [.r (l-k) (a+d+1),.r (h-m) (b+c+1)])):QM (QN (mkT sH M79 X4) (oF f145) noL f145 [.x C [.r l a,.r h b],.x C [.r m c,.r k d]] K):=by
 refine HV (EY a b (l<=h)/\EY c d (m<=k)/\EY (a+d) 1 (EY (b+c) 1 (K (AV.x C [L (l-k) (a+d+1),L (h-m) (b+c+1)])))) ?_
 delta EY
 try simp only[O,R0,R1,P,N,R4,R2,R3]
 obtain⟨j,e,f⟩:=i;exact⟨⟨o3,e⟩,⟨o3,f⟩,o3,o3,g⟩
def lj:Ctr
 | [.x C [.r l a,.r h b],.x C [.r m c,.r k d]]=>H fun K=>((a+b+c+d<=4294967290)/\(l<=h/\m<=k))/\(K (.x C [.r (l-k) (a+d+1),.r (h-m) (b+c+1)]))
 | _=>J
theorem QbC:QH 145 lj:=by
 refine okL func145 fun l T a K h=> ?_
 unfold lj at a;split at a<;>cases a
 obtain⟨b,h⟩:=h;exact spL (QP uD Qq Qb) QK func145 (Qgb _ _ _ _ _ _ _ _ b K h)
def pV:LC:=(145,lj)::sH
theorem QVI:QF pV:= .cons QbC uD
structure AdX where
 lo:B
 hi:B
 i:A
def JQ (f:B->B->B)(ps:G (B×A))(q:B):B:=(ps.map (·.1)).foldl f q
def hdR (l:G (B×A)):B:=match l with
 | []=>0
 | p::_=>p.1
def QJf (l:G (B×A))(N:A):LI:=fun _=> .inv ⟨AdX,fun x=>⟨[(2,.x E [.p 2 0]),(3,.x E [.p 3 0]),(11,.x E [.s 3 (lRb l.tail)]),(12,iA .i64 l.tail.length),(13,iA .i64 x.i)],[(2,.box 113 (Xm++Xm)),(3,.box 113 [.r x.lo N,.r x.hi N])]⟩,
 fun x=>JQ Qx (l.tail.drop x.i) x.lo=JQ Qx l.tail (hdR l)/\JQ Q6 (l.tail.drop x.i) x.hi=JQ Q6 l.tail (hdR l)/\x.i<=l.tail.length,fun x=>l.tail.length-x.i,fun _=>0⟩
abbrev QFR (l:G (B×A))(N:A)(K:AV->Prop):Prop:=((l≠[]/\l.length<=100/\N<=2000000000)/\(∀p∈l,p.2<=N))/\(K (.x C [.r (JQ Qx l.tail (hdR l)) N,.r (JQ Q6 l.tail (hdR l)) N]))
def Et:=Zb (Zg [])
def EZ(a:B->B->B)(b c:G (B×A)):=JQ a b.tail (hdR c)
def Ec(a:G (B×A)):=a.tail.length
def Ed:=Et=Et
def Ef(a:G (B×A)):=M (lRb a).length
def Eo:=E=E
def Es:=OfNat.ofNat 0=0
theorem QRA (l:G (B×A))(N:A)(K:AV->Prop)(i:QFR l N K):QM (QN (mkT pV M79 X4) (oF f173) (QJf l N) f173 [.x E [.s 3 (lRb l)]] K):=by
 obtain⟨s,i⟩:=i;refine HV ((Ea<=0/\0<Ef l)/\∃(q:B)(n:A),ldE (lRb l) 0 0 3=H [L q n]/\n<=2000000000/\(Ea<=1/\1<=Ef l/\Ef l<=Ef l)/\(∃(x:AdX),((JQ Qx (Q x.i l.tail) x.lo=EZ Qx l l/\JQ Q6 (Q x.i l.tail) x.hi=EZ Q6 l l/\x.i<=Ec l)/\Es)/\0=0/\0=0/\3=3/\G.take ((Ef l).toNat-1) (Q 1 (lRb l))=lRb l.tail/\M (G.take ((Ef l).toNat-1) (Q 1 (lRb l))).length=M (Ec l)/\0=M x.i/\113=113/\Eo/\Ed/\Ed/\Eo/\Ed/\Ed/\113=113/\q=x.lo/\n<=N/\q=x.hi/\n<=N/\True)/\∀(x:AdX),JQ Qx (Q x.i l.tail) x.lo=EZ Qx l l/\JQ Q6 (Q x.i l.tail) x.hi=EZ Q6 l l/\x.i<=Ec l->Es->bif decide (M x.i<M (Ec l))then(0<=M x.i/\M x.i<Ef l.tail)/\∃(q:B)(n:A),ldE (lRb l.tail) (M x.i).toNat 0 3=H [L q n]/\EY N n (EY N n (∃(c:AdX),((JQ Qx (Q c.i l.tail) c.lo=EZ Qx l l/\JQ Q6 (Q c.i l.tail) c.hi=EZ Q6 l l/\c.i<=Ec l)/\Es/\Ec l-c.i<Ec l-x.i)/\0=0/\0=0/\3=3/\lRb l.tail=lRb l.tail/\M (Ec l)=M (Ec l)/\Zf.wrap (M x.i+1)=M c.i/\113=113/\Eo/\Ed/\Ed/\Eo/\Ed/\Ed/\113=113/\Qx x.lo q=c.lo/\max N n<=N/\Q6 x.hi q=c.hi/\max N n<=N/\True))else Ee K x.lo N x.hi N) ?_
 delta EY Et Ea EZ Ec Ee Ed Ef Eo Es
 try simp only[O,R0,R1,R4]
 obtain⟨⟨o,u,y⟩,m⟩:=s;obtain⟨d,a,rfl⟩: ∃p a,l=p::a:=by
  cases l with
  | nil=>exact absurd rfl o
  | cons p a=>exact⟨p,a,rfl⟩
 have f:=m d o6;have v:a.length+1<=100:=u;have w:(lRb (d::a)).length=a.length+1:=by simp[lRb]
 rw[w];have k:G.take ((((a.length+1:A):D)).toNat-1) (Q 1 (lRb (d::a)))=lRb a:=by
  rw[D.toNat_natCast,A.add_sub_cancel];exact G.take_of_length_le (by simp[lRb])
 have z:(lRb a).length=a.length:=by simp[lRb]
 refine⟨o3,d.1,d.2,rfl,o3,o3,⟨⟨d.1,d.1,0⟩,⟨rfl,rfl,o6⟩,k,by rw[k,z];rfl,rfl,rfl,f,rfl,f⟩,fun x j=>QE (fun h=> ?_) (fun h=> ?_)⟩
 ·have h:x.i<a.length:=by have:=R5 h;simp only[Zk]at this;omega
  obtain⟨p,hpp⟩: ∃p,a[x.i]? =H p:=⟨_,G.getElem?_eq_getElem h⟩
  obtain⟨e,b,g⟩:=j;simp only[Zk]at e b g⊢;have t:a.drop x.i=p::a.drop (x.i+1):=by
   rw[G.drop_eq_getElem_cons h];rw[G.getElem?_eq_getElem h]at hpp;rw[Option.some.inj hpp]
  rw[t]at e b;have r:=m p (by simp[G.mem_of_getElem? hpp]);exact⟨by rw[z];omega,p.1,p.2,by simp only[ldE,lRb,G.getElem?_map,D.toNat_natCast,hpp];rfl,o3,o3,⟨_,_,x.i+1⟩,⟨⟨e,b,h⟩,o5⟩,by rw[w64 o3];simp,rfl,o3,rfl,o3⟩
 ·have h:x.i=a.length:=by have:=R6 h;have:=j.2.2;simp only[Zk]at*;omega
  obtain⟨e,b,g⟩:=j;simp only[Zk]at e b i;rw[h,G.drop_length]at e b;have e:x.lo=_:=e;have b:x.hi=_:=b;rw[e,b];exact i
def fZ:Ctr
 | [.x E [.s 3 x]]=>H fun K=> ∃(l:G (B×A)) (N:A),x=lRb l/\QFR l N K
 | _=>J
theorem QML:QH 173 fZ:=by
 refine okL func173 fun l T a K h=> ?_
 unfold fZ at a;split at a<;>cases a
 obtain⟨l,N,rfl,h⟩:=h;exact spL (QP QVI Qq Qb) QK func173 (QRA _ _ K h)
def gJ:LC:=(173,fZ)::pV
theorem QVJ:QF gJ:= .cons QML QVI
abbrev QVK (l:B)(a:A)(h:B)(b:A)(m:B)(c:A)(k:B)(d:A)(K:AV->Prop):Prop:=((a+b+c+d<=2000000000)/\(l<=h/\m<=k))/\(∀(s:Sp) n,s=JH ⟨l,h⟩ ⟨m,k⟩->n<=max a b+max c d->K (.x C [.r s.lo n,.r s.hi n]))
theorem Qge (l:B)(a:A)(h:B)(b:A)(m:B)(c:A)(k:B)(d:A)(K:AV->Prop)(g:QVK l a h b m c k d K):QM (QN (mkT gJ M79 X4) (oF f146) noL f146 [.x C [.r l a,.r h b],.x C [.r m c,.r k d]] K):=by
 obtain⟨o,g⟩:=g;refine HV (EY a b (l<=h)/\EY c d (m<=k)/\EY a c (EY a d (EY b c (EY b d (∃(f:G (B×A))(e:A),[[L (l*m) (a+c)],[L (l*k) (a+d)],[L (h*m) (b+c)],[L (h*k) (b+d)]]=lRb f/\((f≠[]/\f.length<=100/\e<=2000000000)/\∀(v:B×A),v∈f->v.2<=e)/\Ee K (EZ Qx f f) e (EZ Q6 f f) e))))) ?_
 delta EY EZ Ee
 try simp only[O,R0,R1,P,N,R4,R2,R3]
 obtain⟨q,j,n⟩:=o;refine⟨⟨o3,j⟩,⟨o3,n⟩,o3,o3,o3,o3,[(l*m,a+c),(l*k,a+d),(h*m,b+c),(h*k,b+d)],max a b+max c d,rfl,⟨⟨o6,o6,o3⟩,fun p i=> ?_⟩,g _ _ rfl (N _)⟩;simp only[G.mem_cons,G.not_mem_nil,or_false]at i;rcases i with rfl | rfl | rfl | rfl<;>simp only<;>omega
def mu:Ctr
 | [.x C [.r l a,.r h b],.x C [.r m c,.r k d]]=>H fun K=>QVK l a h b m c k d K
 | _=>J
theorem QbD:QH 146 mu:=by
 refine okL func146 fun l T h K a=> ?_
 unfold mu at h;split at h<;>cases h
 exact spL (QP QVJ Qq Qb) QK func146 (Qge _ _ _ _ _ _ _ _ K a)
def qa:LC:=(146,mu)::gJ
theorem QVL:QF qa:= .cons QbD QVJ
theorem QbE (l:B)(a:A)(h:B)(b:A)(m:B)(c:A)(k:B)(d:A)(i:(a+b+c+d<=4294967290)/\(l<=h/\m<=k))(K:AV->Prop)(g:K (.x C [.r (Qx l m) (max a c),.r (Q6 h k) (max b d)])):QM (QN (mkT qa M79 X4) (oF f107) noL f107 [.x C [.r l a,.r h b],.x C [.r m c,.r k d]] K):=by
 refine HV (EY a b (l<=h)/\EY c d (m<=k)/\EY a c (EY b d (Ee K (Qx l m) (max a c) (Q6 h k) (max b d)))) ?_
 delta EY Ee
 try simp only[O,R0,R1,P,N,R4,R2,R3]
 obtain⟨j,e,f⟩:=i;exact⟨⟨o3,e⟩,⟨o3,f⟩,o3,o3,g⟩
def nB:Ctr
 | [.x C [.r l a,.r h b],.x C [.r m c,.r k d]]=>H fun K=>((a+b+c+d<=4294967290)/\(l<=h/\m<=k))/\(K (.x C [.r (Qx l m) (max a c),.r (Q6 h k) (max b d)]))
 | _=>J
theorem QVM:QH 107 nB:=by
 refine okL func107 fun l T a K h=> ?_
 unfold nB at a;split at a<;>cases a
 obtain⟨b,h⟩:=h;exact spL (QP QVL Qq Qb) QK func107 (QbE _ _ _ _ _ _ _ _ b K h)
def gY:LC:=(107,nB)::qa
theorem QVN:QF gY:= .cons QVM QVL
theorem Qgh (l:B)(a:A)(h:B)(b:A)(q:B)(c:A)(g:(a+b+c<=4294967290)/\(l<=h))(K:AV->Prop)(f:K (.x E [.v (.bool (WD ⟨l,h⟩ q))])):QM (QN (mkT gY M79 X4) (oF f170) noL f170 [.x C [.r l a,.r h b],rA q c] K):=by
 refine HV (EY a b (l<=h)/\EY a c (bif decide (YY l q<=0)then EY c b (K (AV.x E [Zo (Zl (decide (YY q h<=0)))]))else K (AV.x E [Zo (Zl E)]))) ?_
 delta EY
 try simp only[O,R0,R1,P,N,R4,R2,R3]
 refine⟨⟨o3,g.2⟩,o3,?_⟩;unfold WD at f;refine QE (fun d=>⟨o3,?_⟩) (fun d=> ?_)
 ·have d:=(Jh _ _).1 (R5 d);rw[I d,Bool.true_and]at f;have e:decide (YY q h<=0)=decide (q<=h):=by
   by_cases e:q<=h
   ·rw[I e,I ((Jh _ _).2 e)]
   ·rw[F e,F (fun h=>e ((Jh _ _).1 h))]
  rw[e];exact f
 ·have d: ¬l<=q:=fun e=>R6 d ((Jh _ _).2 e);rw[F d,Bool.false_and]at f;exact f
def iF:Ctr
 | [.x C [.r l a,.r h b],.x C [.r q c]]=>H fun K=>((a+b+c<=4294967290)/\(l<=h))/\(K (.x E [.v (.bool (WD ⟨l,h⟩ q))]))
 | _=>J
theorem QbF:QH 170 iF:=by
 refine okL func170 fun l T a K h=> ?_
 unfold iF at a;split at a<;>cases a
 obtain⟨b,h⟩:=h;exact spL (QP QVN Qq Qb) QK func170 (Qgh _ _ _ _ _ _ b K h)
def iS:LC:=(170,iF)::gY
theorem wD:QF iS:= .cons QbF QVN
abbrev QeG (l:B)(a:A)(h:B)(b:A)(K:AV->Prop):Prop:=((a+b<=1000000000)/\(l<=h))/\(∀(s:Sp) n m,s=S9 ⟨l,h⟩->n<=2*(a+b)+64->m<=2*(a+b)->K (.x C [.r s.lo n,.r s.hi m]))
def Ep(a b:D):=Ek (-9223372036854775808:D) a b
theorem Qjl (l:B)(a:A)(h:B)(b:A)(K:AV->Prop)(e:QeG l a h b K):QM (QN (mkT iS M79 X4) (oF f168) noL f168 [.x C [.r l a,.r h b]] K):=by
 obtain⟨j,e⟩:=e;refine HV (EY a b (l<=h)/\EY a a (EY b b (∃(d:G (B×A))(c:A),[[L (l*l) (a+a)],[L (h*h) (b+b)]]=lRb d/\((d≠[]/\d.length<=100/\c<=2000000000)/\∀(v:B×A),v∈d->v.2<=c)/\Ep 0 Ea/\(a+b+64<=4294967290/\l<=h)/\bif WD (Sp.mk l h) ↑Ea then Ep 0 Ea/\Ee K ↑Ea 64 (EZ Q6 d d) c else Ee K (EZ Qx d d) c (EZ Q6 d d) c))) ?_
 delta EY Ea EZ Ee Ek Ep
 try simp only[O,R0,R1,P,N,R4,R2,R3]
 obtain⟨k,g⟩:=j;refine⟨⟨o3,g⟩,o3,o3,[(l*l,a+a),(h*h,b+b)],2*(a+b),rfl,⟨⟨o6,o6,o3⟩,fun p i=> ?_⟩,o3,⟨o3,g⟩,QE (fun h=>⟨o3,?_⟩) (fun h=> ?_)⟩
 ·simp only[G.mem_cons,G.not_mem_nil,or_false]at i;rcases i with rfl | rfl<;>simp only<;>omega
 ·have:=e _ 64 (2*(a+b)) rfl o3 o3;have f:WD ⟨l,_⟩ 0=C:=h;simp only[S9,f,R7]at this;exact this
 ·have:=e _ (2*(a+b)) (2*(a+b)) rfl o3 o3;have f:WD ⟨l,_⟩ 0=E:=h;simp only[S9,f,R8]at this;exact this
def gO:Ctr
 | [.x C [.r l a,.r h b]]=>H fun K=>QeG l a h b K
 | _=>J
theorem Qgj:QH 168 gO:=by
 refine okL func168 fun l T h K a=> ?_
 unfold gO at h;split at h<;>cases h
 exact spL (QP wD Qq Qb) QK func168 (Qjl _ _ _ _ K a)
def n9:LC:=(168,gO)::iS
theorem QVQ:QF n9:= .cons Qgj wD
abbrev QVR (l:B)(a:A)(h:B)(b:A)(d:D)(K:AV->Prop):Prop:=((a<=1000000000/\b<=1000000000)/\(l<=h)/\(1<=d/\d<9223372036854775808))/\(∀n m,n<=a+200->m<=b+200->K (.x C [.r (Vp l d.toNat) n,.r (upR h d.toNat) m]))
theorem Qgl (l:B)(a:A)(h:B)(b:A)(d:D)(K:AV->Prop)(c:QVR l a h b d K):QM (QN (mkT n9 M79 X4) (oF f171) noL f171 [.x C [.r l a,.r h b],iA .i64 d] K):=by
 obtain⟨g,c⟩:=c;refine HV (EY a b (l<=h)/\Ej a (Ek 1 d d)/\∀(v:A),v<=a+200->Ej b (Ek 1 d d)/\∀(u:A),u<=b+200->Ee K (Vp l d.toNat) v (upR h d.toNat) u) ?_
 delta EY Ee Ek Ej
 try simp only[O,R0,R1,P,N,R4,R2,R3]
 obtain⟨k,f,e⟩:=g;exact⟨⟨o3,f⟩,⟨o3,e⟩,fun n j=>⟨⟨o3,e⟩,fun m i=>c n m j i⟩⟩
def mD:Ctr
 | [.x C [.r l a,.r h b],.x E [.v (.int .i64 d)]]=>H fun K=>QVR l a h b d K
 | _=>J
theorem QbG:QH 171 mD:=by
 refine okL func171 fun l T h K a=> ?_
 unfold mD at h;split at h<;>cases h
 exact spL (QP QVQ Qq Qb) QK func171 (Qgl _ _ _ _ _ K a)
def qZ:LC:=(171,mD)::n9
theorem we:QF qZ:= .cons QbG QVQ
def Em:B:=OfNat.ofNat 0
def Eu:=Zo (Value.string Et)
theorem QbH (p:B)(a:A)(c:(a<=1000000000)/\(0<=p))(K:AV->Prop)(b:K (rA (Sw p) (64+a+1+(64+a+1)))):QM (QN (mkT qZ M79 X4) (oF f169) noL f169 [rA p a] K):=by
 refine HV (Ep 1 Eb/\EY (64+a) 1 (Ep 1 Eb/\EY (64+a) 1 (EY (64+a+1) (64+a+1) ((↑Eb+p≠Em->K (AV.x C [L ((↑Eb-p)/(↑Eb+p)) (64+a+1+(64+a+1))]))/\(↑Eb+p=Em->K (AV.x C [Zo (Zl E),Eu,Eu])))))) ?_
 delta EY Eb Et Ek Ep Em Eu
 try simp only[O,R0,R1,P,N,R4,R2,R3]
 exact⟨o3,o3,o3,o3,o3,fun _=>b,fun h=>by
  have h:(1:B)+p=0:=h;have:=c.2;exfalso
  grind⟩
def kY:Ctr
 | [.x C [.r p a]]=>H fun K=>((a<=1000000000)/\(0<=p))/\(K (rA (Sw p) (64+a+1+(64+a+1))))
 | _=>J
theorem QVT:QH 169 kY:=by
 refine okL func169 fun l T a K h=> ?_
 unfold kY at a;split at a<;>cases a
 obtain⟨b,h⟩:=h;exact spL (QP we Qq Qb) QK func169 (QbH _ _ b K h)
def lr:LC:=(169,kY)::qZ
theorem tF:QF lr:= .cons QVT we
abbrev QDP (l:B)(a:A)(h:B)(b:A)(K:AV->Prop):Prop:=((a+b<=200000000)/\(l<=h))/\(∀(s:Sp) n m,s=Tt ⟨l,h⟩->n<=4*(a+b)+400->m<=4*(a+b)+400->K (.x C [.r s.lo n,.r s.hi m]))
theorem QMP (l:B)(a:A)(h:B)(b:A)(K:AV->Prop)(c:QDP l a h b K):QM (QN (mkT lr M79 X4) (oF f142) noL f142 [.x C [.r l a,.r h b]] K):=by
 obtain⟨e,c⟩:=c;refine HV ((a+b<=1000000000/\l<=h)/\∀(s:Sp)(n m:A),s=S9 (Sp.mk l h)->n<=2*(a+b)+64->m<=2*(a+b)->Ej m (Em<=s.hi)/\Ej n (Em<=s.lo)/\K (AV.x C [L (Sw s.hi) (64+m+1+(64+m+1)),L (Sw s.lo) (64+n+1+(64+n+1))])) ?_
 delta Ej Em
 try simp only[O,R0,R1,P,N,R4,R2,R3]
 refine⟨⟨o3,e.2⟩,fun s n m g j i=> ?_⟩;subst g;have d:=eD ⟨l,h⟩;have f:=(VH (s:=⟨l,h⟩) (x:=l) ⟨B.le_refl,e.2⟩).ok;exact⟨⟨o3,B.le_trans d f⟩,⟨o3,d⟩,c (Tt ⟨l,h⟩) _ _ rfl o3 o3⟩
def Hj:Ctr
 | [.x C [.r l a,.r h b]]=>H fun K=>QDP l a h b K
 | _=>J
theorem QJg:QH 142 Hj:=by
 refine okL func142 fun l T h K a=> ?_
 unfold Hj at h;split at h<;>cases h
 exact spL (QP tF Qq Qb) QK func142 (QMP _ _ _ _ K a)
def pE:LC:=(142,Hj)::lr
noncomputable def Qjm:Qd:=mkT pE M79 X4
theorem xf:QF pE:= .cons QJg tF
theorem Qgp:Qr Qjm:=QP xf Qq Qb
end Go.Proofs
