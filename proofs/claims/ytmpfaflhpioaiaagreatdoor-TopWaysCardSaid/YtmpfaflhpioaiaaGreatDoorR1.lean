/- Rationals, first part: constants as numbers; a rational out of its parts. -/
import Derived.Test.YtmpfaflhpioaiaaGreatDoorN3
open Bool renaming false → A, true → C
open _root_ renaming Nat → B, List → D, Rat → E, Int → F, UInt8 → I, if_pos → N, Bool → R, if_neg → S, OfNat → T, True → Z, decide_false → X, decide_eq_false_iff_not → K, mkRat → a
open Option renaming some → G, none → L
open Int renaming ofNat → H, ofNat_eq_natCast → Zl, toNat_natCast → Zs
open Go.IntKind renaming i64 → J, u8 → y
open Go.Eng.Ch renaming v → M, b → j, r → k
open Go.Eng.AV renaming x → Q
open ByteArray renaming mk → U
open Go.Value renaming bool → Y, int → u, string → Zr
open List renaming length → c, map → b, getElem?_reverse → Zm, length_reverse → Zq
open Nat renaming gcd → e, le_max_left → Zo, le_max_right → Zn, div_le_self → Zp, div_one → Zu, mul_ne_zero → Zt
open Array renaming mk → o
set_option maxHeartbeats 1000000
set_option maxRecDepth 100000
namespace Go.Proofs
open Go Go.Eng Tryz
def pI (a:AV):AV:=match a with
  | .x A [.v (.string ⟨⟨l⟩⟩)]=>match l with
    | []=> .x A [.b 0 0]
    | [x]=>bif B.beq x.toNat 0 then a else .x A [.b x.toNat 8]
    | _=>a
  | _=>a
variable{ρ:Env}{O:B->Prop}{v:Value}{w:World}
theorem QLd{a:AV}(h:ConcV w O ρ a v):ConcV w O ρ (pI a) v:=by
 unfold pI;split
 ·split
  ·exact Vc (m:=0) (n:=0) (by rw[XA];exact h) o8
  ·rename_i x;cases b:B.beq x.toNat 0 with
   | true=>exact h
   | false=>
    have c:x.toNat≠0:=fun e=>by rw[e]at b;cases b
    have i:=x.toNat_lt;refine Vc (m:=x.toNat) ?_ ((j9 i))
    have e:QB x.toNat=[x]:=by
     rw[YJ _ c,(o3:x.toNat/256=0),XA];simp
    rw[e];exact h
  ·exact h
 ·exact h
def lY:D AV->D AV
 | []=>[]
 | a::l=>pI a::lY l
variable{l:D AV}
theorem QLe{vs:D Value}(h:Qu w O ρ l vs):Qu w O ρ (lY l) vs:=by
 induction h with
 | nil=>exact .nil
 | cons h _ i=>exact .cons (QLd h) i
def nrm (c:Ctr):Ctr:=fun l=>c (lY l)
variable{zb:D Value}{f g:B}{P:Program}
theorem _root_.Go.Eng.CtrOK.nrm{c:Ctr}(h:CtrOK P g zb f c):CtrOK P g zb f (Proofs.nrm c):=
 ⟨h.enter,fun _ T b K a=>Spec.args (h.sound _ T b K a) fun _ _ _ e=>QLe e⟩
def RatIs (q:E)(n:B)(av:AV):Prop:= ∃s x a,av= .x C [.v (.bool s),x,a]/\s=decide (q.num<0)/\NatIs q.num.natAbs n (.x A [x])/\NatIs q.den n (.x A [a])
variable{av:AV}{n:B}{q:E}
theorem RatIs.conc(h:RatIs q n av)(T:ConcV w O ρ av v):ConcV w O ρ (.x C [.r q n]) v:=by
 obtain⟨s,x,a,rfl,rfl,E,F⟩:=h;obtain⟨K,t,S⟩:=T;cases t with
 | v _ t=>
  obtain⟨r,I,rfl,_,W,X⟩:=t.cons;obtain⟨vs,z,rfl,_,Z,k4⟩:=X.cons;cases k4
  have p: ∀{m:B} {c:Ch} {r:D Value},NatIs m n (.x A [c])->CC w O ρ [c] r->r=[Ja (QB m)]:=by
   intro m c r V i;obtain⟨_,⟨n',e⟩ | ⟨l,e,rfl⟩⟩:=V
   ·cases e;cases i with | b _ h=>cases h;rfl
   ·cases e;cases i with | v _ h=>cases h;rfl
  have N:=p E W;have R:=p F Z;subst N R;exact⟨_,.r ⟨E.1,F.1⟩ .nil,S⟩
theorem QJF{K:AV->Prop}(h:Eng.Spec P g zb f l (RatIs q n))(hk:K (.x C [.r q n])):Eng.Spec P g zb f l K:=
 Eng.Spec.res h fun _ _ _ _ b a=>⟨_,hk,b.conc a⟩
theorem QNz{a:D Value}(h:Qu w O ρ (.x C [.r q n]::l) a):Bd n q:=by
 cases h with
 | cons h _=>obtain⟨e,b,_⟩:=h;cases b with | r c _=>exact c
theorem Bd.num(h:Bd n q):q.num.natAbs<2^n:=h.1
theorem Bd.den(h:Bd n q):q.den<2^n:=h.2
def L18:LC:=(118,nrm cx)::(84,nrm eX)::(126,nrm cO)::(86,nrm af)::(119,nrm dM)::(99,nrm cP)::L17
noncomputable def T18:Qd:=mkT L18 M15 X4
theorem QdY:QF L18:= .cons ok_Gcd.nrm (.cons ok_Add.nrm (.cons ok_Sub.nrm (.cons ok_Mul.nrm (.cons ok_Div.nrm (.cons ok_Cmp.nrm Qi5)))))
theorem w9:Qr T18:=QP QdY Tj Qb
def QE6 (K:AV->Prop):Prop:=QN T18 (oF f117) noL f117 [] K
theorem QGe (K:AV->Prop):QE6 K=(K (Q C [M (Y A),M (Zr (U (o []))),M (Zr (U (o [T.ofNat 1])))])):=o4
theorem qW:QB 1=[1]:=rfl
variable{m:B}
theorem wQ:QB m=[1]↔m=1:=⟨fun h=>VS (by rw[h];rfl),fun h=>by rw[h];rfl⟩
theorem QfF (q:E)(n:B)(K:AV->Prop)(N:n<=4294967296)(x:K (.x A [.v (.bool C)])):QM (QN T18 (oF f125) noL f125 [.x C [.r q n]] K):=by
 refine HV ((bif decide (QB q.den=[])then K (Q A [M (Y A)])else ∃(b:I),((0:F)<=0/\(QB q.den)[0]?=G b)/\bif H b.toNat==0 then K (Q A [M (Y A)])else bif decide (QB q.num.natAbs=[])then bif decide (q.num<0)then K (Q A [M (Y A)])else bif !decide (QB q.den=(U #[1]).data.toList)then K (Q A [M (Y A)])else bif !decide (QB q.num.natAbs=(U #[]).data.toList)then ∃(b:I),((0:F)<=0/\(QB q.num.natAbs)[0]?=G b)/\bif H b.toNat==0 then K (Q A [M (Y A)])else bif decide (QB q.den=[T.ofNat 1])then K (Q A [M (Y C)])else(n<=4294967296/\n<=4294967296)/\K (Q A [M (Y (decide (QB (q.num.natAbs.gcd q.den)=(U #[1]).data.toList)))])else bif decide (QB q.den=[T.ofNat 1])then K (Q A [M (Y C)])else(n<=4294967296/\n<=4294967296)/\K (Q A [M (Y (decide (QB (q.num.natAbs.gcd q.den)=(U #[1]).data.toList)))])else bif !decide (QB q.num.natAbs=(U #[]).data.toList)then ∃(b:I),((0:F)<=0/\(QB q.num.natAbs)[0]?=G b)/\bif H b.toNat==0 then K (Q A [M (Y A)])else bif decide (QB q.den=[T.ofNat 1])then K (Q A [M (Y C)])else(n<=4294967296/\n<=4294967296)/\K (Q A [M (Y (decide (QB (q.num.natAbs.gcd q.den)=(U #[1]).data.toList)))])else bif decide (QB q.den=[T.ofNat 1])then K (Q A [M (Y C)])else(n<=4294967296/\n<=4294967296)/\K (Q A [M (Y (decide (QB (q.num.natAbs.gcd q.den)=(U #[1]).data.toList)))]))) ?_
 have z:=q.den_nz;obtain⟨b,W,Z⟩:=Kx z;have i:((b.toNat:F)==0)=A:=o9
 have r:e q.num.natAbs q.den=1:=q.reduced;have e1:((U #[(1:I)]).data.toList)=[1]:=rfl;have e2:((U #[]).data.toList)=([]:D I):=rfl;have t:bif decide (QB q.den=[1])then K (.x A [.v (.bool C)])else(n<=4294967296/\n<=4294967296)/\K (.x A [.v (.bool (decide (QB (e q.num.natAbs q.den)=[1])))]):=by
  refine QE (fun _=>x) (fun _=>⟨⟨N,N⟩,?_⟩);rw[r,qW];exact x
 simp only[];refine QE (fun h=>absurd (Qo.1 (R5 h)) z) (fun _=>⟨b,⟨o3,W⟩,?_⟩);simp only[Zl,i,R8];refine QE (fun h=> ?_) (fun h=> ?_)
 ·have h:=Qo.1 (R5 h);have S: ¬q.num<0:=o3
  have s:q.den=1:=by rw[h,B.gcd_zero_left]at r;exact r
  have V:QB q.num.natAbs=[]:=Qo.2 h;simp only[S,X,R8,s,V,qW,decide_true,R.not_true];rw[s,qW]at t;exact t
 ·have h:=R6 h;have hz:q.num.natAbs≠0:=fun a=>h (Qo.2 a);obtain⟨c,hc,At⟩:=Kx hz;have p:((c.toNat:F)==0)=A:=o9
  simp only[h,X,R7,R.not_false];refine⟨c,⟨o3,hc⟩,?_⟩;simp only[p,R8];exact t
theorem QfG:QM (QE6 (RatIs 0 1)):=by
 refine⟨?_⟩;rw[QGe];exact⟨_,_,_,rfl,rfl,⟨o8,.inr ⟨[],rfl,rfl⟩⟩,⟨o8,.inr ⟨[1],rfl,rfl⟩⟩⟩
def rO:Ctr
 | [.x C [.r _ n]]=>G fun K=>n<=4294967296/\K (.x A [.v (.bool C)])
 | _=>L
def qX:Ctr
 | []=>G fun K=>K (.x C [.r 0 1])
 | _=>L
theorem QaO:QH 125 rO:=by
 refine okL func125 fun l T h K a=> ?_
 unfold rO at h;split at h<;>cases h
 exact spL w9 QK func125 (QfF _ _ K a.1 a.2)
theorem QaP:QH 117 qX:=by
 refine⟨Qf func117 o4,fun l T h K a=> ?_⟩;unfold qX at h;split at h
 ·cases h
  exact QJF (Qk w9 QK func117 o4 o4 j6 QfG) a
 ·cases h
def L19:LC:=(125,rO)::(117,qX)::L18
noncomputable def T19:Qd:=mkT L19 M15 X4
theorem Qda:QF L19:= .cons QaO (.cons QaP QdY)
theorem kW:Qr T19:=QP Qda Tj Qb
def xq (s:R)(n a d b:B)(K:AV->Prop):Prop:=QN T19 (oF f82) noL f82 [.x A [.v (.bool s)],bA n a,bA d b] K
theorem QGf (s:R)(n:B)(a:B)(d:B)(b:B)(K:AV->Prop):xq s n a d b K=(bif decide (QB n=[])then K (Q C [k (T.ofNat 0) 1])else bif !decide (QB d=(U #[1]).data.toList)then(a<=4294967296/\b<=4294967296)/\bif !decide (QB (n.gcd d)=(U #[1]).data.toList)then(a<=549755813888/\a+b<=549755813888)/\(b<=549755813888/\a+b<=549755813888)/\K (Q C [M (Y s),j (n/n.gcd d) a,j (d/n.gcd d) b])else K (Q C [M (Y s),j n a,j d b])else K (Q C [M (Y s),j n a,j d b])):=o4
def QA4 (s:R)(m a:B)(t:R)(n b:B)(K:AV->Prop):Prop:=QN T19 (oF f88) noL f88 [.x A [.v (.bool s)],bA m a,.x A [.v (.bool t)],bA n b] K
theorem QC4 (s:R)(m:B)(a:B)(t:R)(n:B)(b:B)(K:AV->Prop):QA4 s m a t n b K=(Z/\bif s==t then(a<=(549755813888:B)/\b<=(549755813888:B))/\K (AV.t [(A,[M (Y s)]),(A,[j (m+n) (max a b+(1:B))])])else(a<=(549755813888:B)/\b<=(549755813888:B))/\bif(bif decide (m<n)then(1:F)else(0:F))==(0:F)then K (AV.t [(A,[M (Y s)]),(A,[j (bif decide (m<n)then(0:B)else m-n) a])])else(b<=(549755813888:B)/\a<=(549755813888:B))/\K (AV.t [(A,[M (Y t)]),(A,[j (bif decide (n<m)then(0:B)else n-m) b])])):=o4
def RatR (q:E)(n:B)(av:AV):Prop:=RatIs q n av\/ ∃m,m<=n/\av= .x C [.r q m]
theorem RatR.conc(h:RatR q n av)(a:ConcV w O ρ av v):ConcV w O ρ (.x C [.r q n]) v:=by
 rcases h with h | ⟨m,i,rfl⟩
 ·exact h.conc a
 ·obtain⟨p,b,c⟩:=a;cases b with
  | r e h=>exact⟨_,.r (e.mono i) h,c⟩
theorem Jr{K:AV->Prop}(h:Eng.Spec P g zb f l (RatR q n))(hk:K (.x C [.r q n])):Eng.Spec P g zb f l K:=
 Eng.Spec.res h fun _ _ _ _ b a=>⟨_,hk,b.conc a⟩
theorem RatR.of(h:m<=n):RatR q n (.x C [.r q m]):= .inr ⟨m,h,rfl⟩
def CI(a:B):=a<=4294967296
theorem Qi6 (q:E)(n:B)(K:AV->Prop)(a:n<=4294967296)(h:K (.x C [.r q n])):QM (QN T19 (oF f85) noL f85 [.x C [.r q n]] K):=by
 refine HV (CI n/\K (Q C [k q n])) ?_
 delta CI
 exact⟨a,h⟩
variable{d:B}
theorem QTm {s:R}{a b:B}(h:d≠0)(c:n≠0)(t:n<2^a)(i:d<2^b):RatIs (XT s n d) (max a b) (.x C [.v (.bool s),.b (n/e n d) a,.b (d/e n d) b]):=by
 have p:=V9 (Zo a b);have r:=V9 (Zn a b);refine⟨_,_,_,rfl,(QQH s n d h c).symm,?_,?_⟩
 ·rw[QGJ s n d h];have:=Zp n (e n d);exact .b o3
 ·rw[vL s n d h];have:=Zp d (e n d);exact .b o3
theorem QfH (s:R)(n a d b:B)(z:a<=4294967296)(D:b<=4294967296)(K:n<2^a)(p:d<2^b)(F:d≠0):QM (xq s n a d b (RatR (XT s n d) (max a b))):=by
 refine⟨?_⟩;rw[QGf];have E:1<=b:=by
  rcases B.eq_zero_or_pos b with h | h
  ·subst h;rw[B.pow_zero]at p;omega
  ·exact h
 have N:((U #[(1:I)]).data.toList)=[1]:=rfl;simp only[];refine QE (fun h=> ?_) (fun h=> ?_)
 ·have h:=Qo.1 (R5 h);subst h;rw[zF];exact .of o3
 ·have x:n≠0:=fun c=>R6 h (Qo.2 c);have i:=QTm (s:=s) F x K p;refine QE (fun r=>⟨⟨z,D⟩,QE (fun t=> ?_) (fun t=> ?_)⟩) (fun r=> ?_)
  ·exact⟨o3,o3,.inl i⟩
  ·have t:e n d=1:=wQ.1 ((j9 t));rw[t,Zu,Zu]at i;exact .inl i
  ·have r:d=1:=wQ.1 ((j9 r));subst r;rw[B.gcd_one_right,Zu,Zu]at i;exact .inl i
def SgnR (r:R×B)(c:B)(av:AV):Prop:= ∃x,av= .t [(A,[.v (.bool r.1)]),(A,[x])]/\NatIs r.2 c (.x A [x])
theorem SgnR.conc{r:R×B}{c:B}(h:SgnR r c av)(p:ConcV w O ρ av v):ConcV w O ρ (.t [(A,[.v (.bool r.1)]),(A,[.b r.2 c])]) v:=by
 obtain⟨x,rfl,s⟩:=h;obtain⟨t,a,e⟩:=p;cases a with
 | cons a b=>cases b with
  | cons b i=>exact⟨_,.cons a (.cons (s.conc (av:= .x A [x]) b) i),e⟩
theorem QTn (s:R)(m a:B)(t:R)(n b:B)(c:a<=549755813888)(e:b<=549755813888)(F:m<2^a)(I:n<2^b):QM (QA4 s m a t n b (SgnR (Jd s m t n) (max a b+1))):=by
 refine⟨?_⟩;rw[QC4];have z:=V9 (Zo a b);have D:=V9 (Zn a b);have E:2^(max a b+1)=2*2^max a b:=B.pow_succ';unfold Jd;refine⟨trivial,QE (fun h=> ?_) (fun h=> ?_)⟩
 ·rw[h,R7];exact⟨⟨c,e⟩,_,rfl,.b o5⟩
 ·rw[h,R8];by_cases x:m<n
  ·have i:decide (n<=m)=A:=o9
   have r:decide (n<m)=A:=o9
   have p:decide (m<n)=C:=o9
   simp only[i,r,p,R7,R8];exact⟨⟨c,e⟩,⟨e,c⟩,_,rfl,.b o5⟩
  ·have i:decide (n<=m)=C:=o9
   have p:decide (m<n)=A:=o9
   simp only[i,p,R7,R8];exact⟨⟨c,e⟩,_,rfl,.b o5⟩
def lI:Ctr
 | [.x C [.r q n]]=>G fun K=>n<=4294967296/\K (.x C [.r q n])
 | _=>L
def nV:Ctr
 | [.x A [.v (.bool s)],.x A [.b n a],.x A [.b d b]]=>G fun K=>((a<=4294967296/\b<=4294967296)/\d≠0)/\K (.x C [.r (XT s n d) (max a b)])
 | _=>L
def rN:Ctr
 | [.x A [.v (.bool s)],.x A [.b m a],.x A [.v (.bool t)],.x A [.b n b]]=>G fun K=>(a<=549755813888/\b<=549755813888)/\K (.t [(A,[.v (.bool (Jd s m t n).1)]),(A,[.b (Jd s m t n).2 (max a b+1)])])
 | _=>L
theorem QfI:QH 85 lI:=by
 refine okL func85 fun l T h K a=> ?_
 unfold lI at h;split at h<;>cases h
 exact spL kW QK func85 (Qi6 _ _ K a.1 a.2)
theorem u5{a c:AV}{b:D Value}(h:Qu w O ρ (c::a:: .x A [.b m n]::l) b):m<2^n:=by
 cases h with
 | cons _ h=>exact WA h
theorem ok_made:QH 82 nV:=by
 refine⟨Qf func82 o4,fun l T c K h=> ?_⟩;unfold nV at c;split at c
 ·rename_i s n a d b;cases c
  exact Y5 fun w O ρ i e=>Jr (Qk kW QK func82 o4 o4 j6 (QfH s n a d b h.1.1.1 h.1.1.2 (WA e) (u5 e) h.1.2)) h.2
 ·cases c
theorem QQi:QH 88 rN:=by
 refine⟨Qf func88 o4,fun l T c K i=> ?_⟩;unfold rN at c;split at c
 ·rename_i s m a t n b;cases c
  refine Y5 fun w O ρ p e=>Eng.Spec.res (Qk kW QK func88 o4 o4 j6 (QTn s m a t n b i.1.1 i.1.2 (WA e) ?_)) fun _ _ _ _ r e=>⟨_,i.2,r.conc e⟩;cases e with
  | cons _ h=>exact u5 h
 ·cases c
def L20:LC:=(85,lI)::(82,nrm nV)::(88,rN)::L19
noncomputable def T20:Qd:=mkT L20 M15 X4
theorem zE:QF L20:= .cons QfI (.cons ok_made.nrm (.cons QQi Qda))
theorem GD:Qr T20:=QP zE Tj Qb
def rA (q:E)(n:B):AV:= .x C [.r q n]
def zC (n:F)(K:AV->Prop):Prop:=QN T20 (oF f42) noL f42 [iA .i64 n] K
theorem QJI (n:F)(K:AV->Prop):zC n K=(bif decide (n>=0)then n<9223372036854775808/\((63<=4294967296/\8<=4294967296)/\1≠0)/\K (Q C [k (XT A n.toNat 1) 63])else J.wrap (0-J.wrap (n+1))<9223372036854775808/\(63<=549755813888/\8<=549755813888)/\((64<=4294967296/\8<=4294967296)/\1≠0)/\K (Q C [k (XT C ((J.wrap (0-J.wrap (n+1))).toNat+1) 1) 64])):=o4
def wc (p:E)(a:B)(q:E)(b:B)(K:AV->Prop):Prop:=QN T20 (oF f45) noL f45 [rA p a,rA q b] K
theorem QGg (p:E)(a:B)(q:E)(b:B)(K:AV->Prop):wc p a q b K=(a<=4294967296/\b<=4294967296/\bif decide (p.den=q.den)then(a<=549755813888/\b<=549755813888)/\((max a b+1<=4294967296/\a<=4294967296)/\p.den≠0)/\K (Q C [k (XT (Jd (decide (p.num<0)) p.num.natAbs (decide (q.num<0)) q.num.natAbs).1 (Jd (decide (p.num<0)) p.num.natAbs (decide (q.num<0)) q.num.natAbs).2 p.den) (max (max a b+1) a)])else(a<=274877906944/\b<=274877906944)/\(b<=274877906944/\a<=274877906944)/\(a+b<=549755813888/\b+a<=549755813888)/\(a<=274877906944/\b<=274877906944)/\((max (a+b) (b+a)+1<=4294967296/\a+b<=4294967296)/\p.den*q.den≠0)/\K (Q C [k (XT (Jd (decide (p.num<0)) (p.num.natAbs*q.den) (decide (q.num<0)) (q.num.natAbs*p.den)).1 (Jd (decide (p.num<0)) (p.num.natAbs*q.den) (decide (q.num<0)) (q.num.natAbs*p.den)).2 (p.den*q.den)) (max (max (a+b) (b+a)+1) (a+b))])):=o4
def QE9 (p:E)(a:B)(q:E)(b:B)(K:AV->Prop):Prop:=QN T20 (oF f46) noL f46 [rA p a,rA q b] K
theorem QGh (p:E)(a:B)(q:E)(b:B)(K:AV->Prop):QE9 p a q b K=(a<=4294967296/\b<=4294967296/\Z/\(a<=274877906944/\b<=274877906944)/\(a<=274877906944/\b<=274877906944)/\((a+b<=4294967296/\a+b<=4294967296)/\p.den*q.den≠0)/\K (Q C [k (XT (!decide (p.num<0)==decide (q.num<0)) (p.num.natAbs*q.num.natAbs) (p.den*q.den)) (max (a+b) (a+b))])):=o4
def lV (p:E)(a:B)(q:E)(b:B)(K:AV->Prop):Prop:=QN T20 (oF f43) noL f43 [rA p a,rA q b] K
theorem GF (p:E)(a:B)(q:E)(b:B)(K:AV->Prop):lV p a q b K=(a<=4294967296/\b<=4294967296/\bif decide (QB q.num.natAbs=[])then K (AV.t [(C,[M (Y A),M (Zr (U (o []))),M (Zr (U (o [])))]),(A,[M (u J 12)])])else Z/\(a<=274877906944/\b<=274877906944)/\(a<=274877906944/\b<=274877906944)/\((a+b<=4294967296/\a+b<=4294967296)/\p.den*q.num.natAbs≠0)/\K (AV.t [(C,[k (XT (!decide (p.num<0)==decide (q.num<0)) (p.num.natAbs*q.den) (p.den*q.num.natAbs)) (max (a+b) (a+b))]),(A,[M (u J 0)])])):=o4
def wL (p:E)(a:B)(K:AV->Prop):Prop:=QN T20 (oF f87) noL f87 [rA p a] K
theorem QGi (p:E)(a:B)(K:AV->Prop):wL p a K=(a<=4294967296/\bif !decide (p.num<0)then K (Q C [M (Y !decide (QB p.num.natAbs=(U #[]).data.toList)),j p.num.natAbs a,j p.den a])else K (Q C [M (Y A),j p.num.natAbs a,j p.den a])):=o4
def QFB (p:E)(a:B)(K:AV->Prop):Prop:=QN T20 (oF f75) noL f75 [rA p a] K
theorem QGj (p:E)(a:B)(K:AV->Prop):QFB p a K=(a<=4294967296/\K (Q C [M (Y A),j p.num.natAbs a,j p.den a])):=o4
def XY (q:E):F:=if q.num=0 then 0 else if q.num<0 then-1 else 1
theorem Qi7 (n:F)(h0: -9223372036854775808<=n)(h1:n<9223372036854775808):QM (zC n (RatR (n:E) 64)):=by
 refine⟨?_⟩;rw[QJI];have b: ∀m:F,a m 1=(m:E):=fun m=>by
  rw[E.mkRat_one]
 refine QE (fun h=> ?_) (fun h=> ?_)
 ·have h:=R5 h;have e:XT A n.toNat 1=(n:E):=by
   unfold XT;rw[R8,b];congr 1;omega
  rw[e];exact⟨h1,o3,.of o3⟩
 ·have h:=R6 h;rw[w64 (n:=n+1) o3,w64 o3];have e:XT C ((0-(n+1)).toNat+1) 1=(n:E):=by
   unfold XT;rw[R7,b];congr 1;omega
  rw[e];exact⟨o3,o3,o3,.of o3⟩
theorem QfJ (p:E)(a:B)(q:E)(b:B)(h:a+b+1<=4294967296):QM (wc p a q b (RatR (p+q) (a+b+1))):=by
 refine⟨?_⟩;rw[QGg];have e:=p.den_nz;have i:=q.den_nz;refine⟨o3,o3,QE (fun c=> ?_) (fun c=> ?_)⟩
 ·have c:=R5 c;rw[QCl p q c];exact⟨o3,o3,.of o3⟩
 ·rw[QQK];exact⟨o3,o3,o3,o3,⟨o3,Zt e i⟩,.of o3⟩
theorem QfK (p:E)(a:B)(q:E)(b:B)(h:a+b<=4294967296):QM (QE9 p a q b (RatR (p*q) (a+b))):=by
 refine⟨?_⟩;rw[QGh];refine⟨o3,o3,trivial,o3,o3,⟨o3,Zt p.den_nz q.den_nz⟩,?_⟩;have e:=QQI p q;rw[show(!(decide (p.num<0)==decide (q.num<0)))=(decide (p.num<0) !=decide (q.num<0))from rfl,e];exact .of o3
def RatE (q:E)(n:B)(e:F)(av:AV):Prop:= ∃b c,av= .t [(b,c),(A,[.v (.int .i64 e)])]/\RatR q n (.x b c)
theorem RatE.conc{e:F}(h:RatE q n e av)(s:ConcV w O ρ av v):ConcV w O ρ (.t [(C,[.r q n]),(A,[.v (.int .i64 e)])]) v:=by
 obtain⟨b,i,rfl,t⟩:=h;obtain⟨x,a,p⟩:=s;cases a with
 | cons a c=>cases c with
  | cons c r=>exact⟨_,.cons (t.conc (av:= .x b i) a) (.cons c r),p⟩
theorem QfL (p:E)(a:B)(q:E)(b:B)(h:a+b<=4294967296)(r:q≠0):QM (lV p a q b (RatE (p/q) (a+b) 0)):=by
 refine⟨?_⟩;rw[GF];have i:q.num≠0:=fun e=>r (E.num_eq_zero.1 e);refine⟨o3,o3,QE (fun c=> ?_) (fun _=>⟨trivial,o3,o3,⟨o3,Zt p.den_nz o3⟩,?_⟩)⟩
 ·have:=Qo.1 (R5 c);omega
 ·rw[show(!(decide (p.num<0)==decide (q.num<0)))=(decide (p.num<0) !=decide (q.num<0))from rfl,QQJ p q i];exact⟨_,_,rfl,.of o3⟩
theorem QaQ (p:E)(a b:B)(h:a+b<=4294967296)(K:AV->Prop)(e:K (.t [(C,[.v (.bool A),.v (.string ⟨⟨[]⟩⟩),.v (.string ⟨⟨[]⟩⟩)]),(A,[.v (.int .i64 12)])])):QM (lV p a 0 b K):=by
 refine⟨?_⟩;rw[GF];refine⟨o3,o3,QE (fun _=>e) (fun c=> ?_)⟩;exact absurd (Qo.2 j6) (R6 c)
theorem QfM (p:E)(a:B)(h:a<=4294967296)(c:Bd a p):QM (wL p a (RatR (-p) a)):=by
 refine⟨?_⟩;rw[QGi];have e:(-p).num= -p.num:=rfl;have i:(-p).den=p.den:=rfl;have t:((U #[]).data.toList)=([]:D I):=rfl;have mk: ∀s:R,s=decide ((-p).num<0)->RatR (-p) a (.x C [.v (.bool s),.b p.num.natAbs a,.b p.den a]):=fun s r=>
  .inl ⟨s,_,_,rfl,r,by rw[e,F.natAbs_neg];exact .b c.1,by rw[i];exact .b c.2⟩
 refine⟨h,QE (fun b=>mk _ ?_) (fun b=>mk _ ?_)⟩
 ·have b: ¬p.num<0:=(j9 b)
  show(!decide (QB p.num.natAbs=[]))=decide (-p.num<0)
  rw[R.eq_iff_iff,decide_eq_true_eq,R.not_eq_true',K,Qo];omega
 ·have b:p.num<0:=(j9 b)
  rw[e,eq_comm,K];omega
def Xr (p:E):E:=if p.num<0 then-p else p
theorem QfN (p:E)(a:B)(h:a<=4294967296)(b:Bd a p):QM (QFB p a (RatR (Xr p) a)):=by
 refine⟨?_⟩;rw[QGj];have i:(Xr p).num.natAbs=p.num.natAbs:=by
  unfold Xr;split
  ·exact F.natAbs_neg _
  ·rfl
 have e:(Xr p).den=p.den:=by
  unfold Xr;split
  ·rfl
  ·rfl
 have c: ¬(Xr p).num<0:=by
  unfold Xr;split
  ·show ¬ -p.num<0;omega
  ·assumption
 exact⟨h,.inl ⟨_,_,_,rfl,by simp[c],by rw[i];exact .b b.1,by rw[e];exact .b b.2⟩⟩
def CG(a:AV->Prop)(b:F):=a (Q A [M (u J b)])
def CL(a:E):=decide (a.num<0)
def CK(a:E):=a.num.natAbs
theorem QaR (p:E)(a:B)(h:a<=4294967296)(K:AV->Prop)(c:K (iA .i64 (XY p))):QM (QN T20 (oF f73) noL f73 [rA p a] K):=by
 refine HV (CI a/\bif decide (QB (CK p)=[])then CG K 0 else bif CL p then CG K (-1)else CG K 1) ?_
 delta CG CI CL CK
 unfold XY at c;refine⟨h,QE (fun b=> ?_) (fun b=>QE (fun i=> ?_) (fun i=> ?_))⟩
 ·have b:=Qo.1 (R5 b);rw[N o3]at c;exact c
 ·have b: ¬p.num.natAbs=0:=fun e=>R6 b (Qo.2 e);rw[S o3,N (R5 i)]at c;exact c
 ·have b: ¬p.num.natAbs=0:=fun e=>R6 b (Qo.2 e);rw[S o3,S (R6 i)]at c;exact c
theorem QTp (m n:B): -1<=Je m n/\Je m n<=1:=by unfold Je;split<;>(try split)<;>omega
def CN(a:B):=a<=274877906944
theorem QfO (p:E)(a:B)(q:E)(b:B)(h:a+b<=4294967296)(K:AV->Prop)(e:K (iA .i64 (YY p q))):QM (QN T20 (oF f57) noL f57 [rA p a,rA q b] K):=by
 refine HV (CI a/\CI b/\Z/\bif !CL p ==CL q then bif CL p then CG K (-1)else CG K 1 else(CN a/\CN b)/\(CN b/\CN a)/\bif CL p then CG K (J.wrap (0-Je (CK p*q.den) (CK q*p.den)))else CG K (Je (CK p*q.den) (CK q*p.den))) ?_
 delta CG CI CL CK CN
 refine⟨o3,o3,trivial,QE (fun r=> ?_) (fun r=>⟨o3,o3,?_⟩)⟩
 ·refine QE (fun c=> ?_) (fun c=> ?_)
  ·have c:=R5 c;have i: ¬q.num<0:=fun i=>by simp[c,i]at r
   rw[QZc c i]at e;exact e
  ·have c:=R6 c;have i:q.num<0:=by
    apply Classical.byContradiction;intro i;simp[c,i]at r
   rw[QZd c i]at e;exact e
 ·have r:decide (p.num<0)=decide (q.num<0):=(j9 r)
  rw[QQM p q r]at e;have s:=QTp (p.num.natAbs*q.den) (q.num.natAbs*p.den);refine QE (fun c=> ?_) (fun c=> ?_)
  ·rw[c,R7]at e;rw[w64 o3,F.zero_sub];exact e
  ·rw[c,R8]at e;exact e
def q7:Ctr
 | [.x A [.v (.int .i64 n)]]=>G fun K=>(-9223372036854775808<=n/\n<9223372036854775808)/\K (rA (n:E) 64)
 | _=>L
def gG:Ctr
 | [.x C [.r p a],.x C [.r q b]]=>G fun K=>a+b+1<=4294967296/\K (rA (p+q) (a+b+1))
 | _=>L
def cg:Ctr
 | [.x C [.r p a],.x C [.r q b]]=>G fun K=>a+b<=4294967296/\K (rA (p*q) (a+b))
 | _=>L
def lO:Ctr
 | [.x C [.r p a],.x C [.r q b]]=>G fun K=>a+b<=4294967296/\(q≠0->K (.t [(C,[.r (p/q) (a+b)]),(A,[.v (.int .i64 0)])]))/\(q=0->K (.t [(C,[.v (.bool A),.v (.string ⟨⟨[]⟩⟩),.v (.string ⟨⟨[]⟩⟩)]),(A,[.v (.int .i64 12)])]))
 | _=>L
def nR:Ctr
 | [.x C [.r p a]]=>G fun K=>a<=4294967296/\K (rA (-p) a)
 | _=>L
def pW:Ctr
 | [.x C [.r p a]]=>G fun K=>a<=4294967296/\K (rA (Xr p) a)
 | _=>L
def fW:Ctr
 | [.x C [.r p a]]=>G fun K=>a<=4294967296/\K (iA .i64 (XY p))
 | _=>L
def nU:Ctr
 | [.x C [.r p a],.x C [.r q b]]=>G fun K=>a+b<=4294967296/\K (iA .i64 (YY p q))
 | _=>L
theorem ok_rOf:QH 42 q7:=by
 refine⟨Qf func42 o4,fun l T h K a=> ?_⟩;unfold q7 at h;split at h
 ·cases h
  exact Jr (Qk GD QK func42 o4 o4 j6 (Qi7 _ a.1.1 a.1.2)) a.2
 ·cases h
theorem ok_rAdd:QH 45 gG:=by
 refine⟨Qf func45 o4,fun l T h K a=> ?_⟩;unfold gG at h;split at h
 ·cases h
  exact Jr (Qk GD QK func45 o4 o4 j6 (QfJ _ _ _ _ a.1)) a.2
 ·cases h
theorem ok_rMul:QH 46 cg:=by
 refine⟨Qf func46 o4,fun l T h K a=> ?_⟩;unfold cg at h;split at h
 ·cases h
  exact Jr (Qk GD QK func46 o4 o4 j6 (QfK _ _ _ _ a.1)) a.2
 ·cases h
theorem ok_rDiv:QH 43 lO:=by
 refine⟨Qf func43 o4,fun l T c K h=> ?_⟩;unfold lO at c;split at c
 ·rename_i p a q b;cases c
  by_cases e:q=0
  ·subst e;exact Qk GD QK func43 o4 o4 j6 (QaQ p a b h.1 K (h.2.2 rfl))
  ·exact Eng.Spec.res (Qk GD QK func43 o4 o4 j6 (QfL p a q b h.1 e)) fun _ _ _ _ r i=>⟨_,h.2.1 e,r.conc i⟩
 ·cases c
theorem ok_rNeg:QH 87 nR:=by
 refine⟨Qf func87 o4,fun l T h K a=> ?_⟩;unfold nR at h;split at h
 ·cases h
  exact Y5 fun w O ρ b c=>Jr (Qk GD QK func87 o4 o4 j6 (QfM _ _ a.1 (QNz c))) a.2
 ·cases h
theorem ok_rAbs:QH 75 pW:=by
 refine⟨Qf func75 o4,fun l T h K a=> ?_⟩;unfold pW at h;split at h
 ·cases h
  exact Y5 fun w O ρ b c=>Jr (Qk GD QK func75 o4 o4 j6 (QfN _ _ a.1 (QNz c))) a.2
 ·cases h
theorem QTr:QH 73 fW:=by
 refine okL func73 fun l T h K a=> ?_
 unfold fW at h;split at h<;>cases h
 exact spL GD QK func73 (QaR _ _ a.1 K a.2)
theorem QaS:QH 57 nU:=by
 refine okL func57 fun l T h K a=> ?_
 unfold nU at h;split at h<;>cases h
 exact spL GD QK func57 (QfO _ _ _ _ a.1 K a.2)
def L21:LC:=(42,q7)::(45,gG)::(46,cg)::(43,lO)::(87,nR)::(75,pW)::(73,fW)::(57,nU)::L20
noncomputable def T21:Qd:=mkT L21 M15 X4
theorem tK:QF L21:= .cons ok_rOf (.cons ok_rAdd (.cons ok_rMul (.cons ok_rDiv (.cons ok_rNeg (.cons ok_rAbs (.cons QTr (.cons QaS zE)))))))
theorem cJ:Qr T21:=QP tK Tj Qb
def vH (p:E)(a:B)(q:E)(b:B)(K:AV->Prop):Prop:=QN T21 (oF f103) noL f103 [rA p a,rA q b] K
theorem QGm (p:E)(a:B)(q:E)(b:B)(K:AV->Prop):vH p a q b K=(a+b<=4294967296/\bif decide (YY p q<=0)then a<=4294967296/\K (Q C [k p a])else b<=4294967296/\K (Q C [k q b])):=o4
def zQ (p:E)(a:B)(q:E)(b:B)(K:AV->Prop):Prop:=QN T21 (oF f104) noL f104 [rA p a,rA q b] K
theorem QGn (p:E)(a:B)(q:E)(b:B)(K:AV->Prop):zQ p a q b K=(a+b<=4294967296/\bif decide (YY p q>=0)then a<=4294967296/\K (Q C [k p a])else b<=4294967296/\K (Q C [k q b])):=o4
theorem Jh (p q:E):YY p q<=0↔p<=q:=by
 unfold YY;split
 ·rename_i h;exact⟨fun _=>E.le_of_lt h,fun _=>o8⟩
 ·rename_i h;split
  ·rename_i a;subst a;exact⟨fun _=>E.le_refl,fun _=>o8⟩
  ·rename_i a;constructor
   ·intro b;exact absurd b o8
   ·intro b;exfalso;rcases E.le_iff_lt_or_eq.1 b with c | c
    ·exact h c
    ·exact a c
theorem aw (p q:E):YY p q>=0↔q<=p:=by
 unfold YY;split
 ·rename_i h;constructor
  ·intro a;exact absurd a o8
  ·intro a;exact absurd h (E.not_lt.2 a)
 ·rename_i h;exact⟨fun _=>E.not_lt.1 h,fun _=>by split<;>decide⟩
theorem QfP (p:E)(a:B)(q:E)(b:B)(h:a+b+1<=4294967296)(K:AV->Prop)(c:K (rA (p-q) (a+b+1))):QM (QN T21 (oF f44) noL f44 [rA p a,rA q b] K):=by
 refine HV (CI b/\CI (a+b+1)/\K (Q C [k (p+ -q) (a+b+1)])) ?_
 delta CI
 rw[E.sub_eq_add_neg]at c;exact⟨o3,o3,c⟩
theorem QfQ (p:E)(a:B)(q:E)(b:B)(h:a+b<=4294967296):QM (vH p a q b (RatR (Qx p q) (max a b))):=by
 refine⟨?_⟩;rw[QGm];unfold Qx;refine⟨o3,QE (fun c=> ?_) (fun c=> ?_)⟩
 ·rw[N ((Jh p q).1 (R5 c))];exact⟨o3,.of (Zo _ _)⟩
 ·rw[S (fun e=>R6 c ((Jh p q).2 e))];exact⟨o3,.of (Zn _ _)⟩
def Q6 (a b:E):E:=if b<=a then a else b
theorem QfR (p:E)(a:B)(q:E)(b:B)(h:a+b<=4294967296):QM (zQ p a q b (RatR (Q6 p q) (max a b))):=by
 refine⟨?_⟩;rw[QGn];unfold Q6;refine⟨o3,QE (fun c=> ?_) (fun c=> ?_)⟩
 ·rw[N ((aw p q).1 (R5 c))];exact⟨o3,.of (Zo _ _)⟩
 ·rw[S (fun e=>R6 c ((aw p q).2 e))];exact⟨o3,.of (Zn _ _)⟩
theorem QaT (x n:F)(p:0<n/\n<9223372036854775808)(K:AV->Prop)(i:K (iA .i64 (x % n))):QM (QN T21 (oF f14) noL f14 [iA .i64 x,iA .i64 n] K):=by
 refine HV (n≠0/\bif decide (x.tmod n<0)then CG K (J.wrap (x.tmod n+n))else CG K (x.tmod n)) ?_
 delta CG
 have r:=F.emod_nonneg x (by omega:n≠0);have s:=F.emod_lt_of_pos x p.1;have B:F.tmod x n<n:=by
  have:=F.tmod_lt_of_pos x p.1;exact this
 refine⟨o3,QE (fun h=> ?_) (fun h=> ?_)⟩
 ·have h:=R5 h;have e:F.tmod x n+n=x % n:=by
   rw[F.emod_eq_tmod];rw[S]
   ·omega
   ·intro c;rcases c with c | c
    ·have:=F.tmod_nonneg n c;omega
    ·rw[F.tmod_eq_zero_of_dvd c]at h;omega
  rw[e,w64 o3];exact i
 ·have h:=R6 h;have e:F.tmod x n=x % n:=by
   rw[F.tmod_eq_emod];split
   ·omega
   ·rename_i c;exfalso;have t:x<0:=o3
    have z: ¬n∣x:=o3
    have:=F.tmod_eq_emod (a:=x) (b:=n);rw[S c]at this;omega
  rw[e];exact i
def kv:Ctr
 | [.x C [.r p a],.x C [.r q b]]=>G fun K=>a+b+1<=4294967296/\K (rA (p-q) (a+b+1))
 | _=>L
def pA:Ctr
 | [.x C [.r p a],.x C [.r q b]]=>G fun K=>a+b<=4294967296/\K (rA (Qx p q) (max a b))
 | _=>L
def pF:Ctr
 | [.x C [.r p a],.x C [.r q b]]=>G fun K=>a+b<=4294967296/\K (rA (Q6 p q) (max a b))
 | _=>L
def kG:Ctr
 | [.x A [.v (.int .i64 x)],.x A [.v (.int .i64 n)]]=>G fun K=>(0<n/\n<9223372036854775808)/\K (iA .i64 (x % n))
 | _=>L
theorem ok_rSub:QH 44 kv:=by
 refine okL func44 fun l T h K a=> ?_
 unfold kv at h;split at h<;>cases h
 exact spL cJ QK func44 (QfP _ _ _ _ a.1 K a.2)
theorem ok_rMin:QH 103 pA:=by
 refine⟨Qf func103 o4,fun l T h K a=> ?_⟩;unfold pA at h;split at h
 ·cases h
  exact Jr (Qk cJ QK func103 o4 o4 j6 (QfQ _ _ _ _ a.1)) a.2
 ·cases h
theorem ok_rMax:QH 104 pF:=by
 refine⟨Qf func104 o4,fun l T h K a=> ?_⟩;unfold pF at h;split at h
 ·cases h
  exact Jr (Qk cJ QK func104 o4 o4 j6 (QfR _ _ _ _ a.1)) a.2
 ·cases h
theorem QTs:QH 14 kG:=by
 refine okL func14 fun l T h K a=> ?_
 unfold kG at h;split at h<;>cases h
 exact spL cJ QK func14 (QaT _ _ a.1 K a.2)
def L22:LC:=(44,kv)::(103,pA)::(104,pF)::(14,kG)::L21
theorem qi:QF L22:= .cons ok_rSub (.cons ok_rMin (.cons ok_rMax (.cons QTs tK)))
structure TX (α:Type)where
 xs:D α
 i:B
structure TA {α:Type}(l:D α)(x:TX α):Prop where
  len:x.xs.length=l.length
  hi:2*x.i<=c l+1
  get: ∀p,x.xs[p]? =if p<x.i\/l.length-x.i<=p then l.reverse[p]? else l[p]?
def QTu (l:D I):LI:=fun _=> .inv ⟨TX I,fun x=>⟨[(0,.x A [.w 1000 0 l.length]),(2,iA .i64 x.i),(3,iA .i64 ((c l:F)-1-x.i))],[(1000,TF x.xs)]⟩,TA l,fun x=>c l-x.i,fun _=>0⟩
def YU (n:B)(a:D E):Blk:= .row 25 3 (a.map fun q=>[k q n])
theorem TA.step {r:Type}{l:D r}{x:TX r}(h:TA l x)(F:x.i<c l-1-x.i){a b:r}(B:x.xs[c l-1-x.i]? =G a)(E:x.xs[x.i]? =G b):TA l ⟨(x.xs.set x.i a).set (c l-1-x.i) b,x.i+1⟩:=by
 obtain⟨i,_,e⟩:=h;refine⟨(j9 i),o5,fun p=> ?_⟩;simp only;by_cases t:p=c l-1-x.i
 ·subst t;rw[D.getElem?_set,N rfl,N (by rw[D.length_set];omega),N o3,Zm o3,<-E,e,S o3];congr 1;omega
 ·rw[D.getElem?_set_ne o3];by_cases z:p=x.i
  ·subst z;rw[D.getElem?_set,N rfl,N o3,N o3,Zm o3,<-B,e,S o3]
  ·rw[D.getElem?_set_ne o3,e];by_cases s:p<x.i\/l.length-x.i<=p
   ·rw[N s,N o3]
   ·rw[S s,S o3]
theorem TA.done {b:Type}{l:D b}{x:TX b}(h:TA l x)(t: ¬(x.i:F)<(c l:F)-1-x.i):x.xs=l.reverse:=by
 obtain⟨i,r,a⟩:=h;apply D.ext_getElem?
 intro p;rw[a];split
 ·rfl
 ·rename_i s;have e:p<c l:=o3
  rw[Zm e];congr 1;omega
theorem TA.start {a:Type}(l:D a):TA l ⟨l,0⟩:=⟨rfl,o6,fun p=>by
 simp only;split
 ·rename_i h;rw[D.getElem?_eq_none o3,D.getElem?_eq_none (by rw[Zq];omega)]
 ·rfl⟩
def CJ(a:D I):=H a.length
def CE(a:TX I):=b QW a.xs
def CF(a:D I)(b:TX I):=CJ a-1-H b.i
def CH(a:F):=0+a.toNat
def CO:B:=T.ofNat 0
theorem QfS (l:D I)(S:l.length<=1099511627776):QM (Xp (X:=Unit) (mkT L22 M15 X4) (oF f127) (QTu l) f127 [.x A [.w 1000 0 l.length]] [(1000,TF l)] (fun _=>Z) (fun _=>⟨[],[(1000,TF l.reverse)]⟩)):=by
 refine HV ((∃(x:TX I),(TA l x/\CO=0)/\0=0/\l.length=c l/\0=H x.i/\J.wrap (CJ l-1)=CF l x/\5=5/\1=1/\(b QW l=CE x\/QC (b QW l) (CE x))/\Z)/\∀(x:TX I),TA l x->CO=0->bif decide (H x.i<CF l x)then(0<=CF l x/\CF l x<CJ l)/\∃(d:F),ldE (CE x) (CH (CF l x)) 0 1=G [M (u y d)]/\(0<=H x.i/\H x.i<CJ l)/\∃(r:F),ldE (CE x) (CH (H x.i)) 0 1=G [M (u y r)]/\(0<=H x.i/\H x.i<CJ l)/\CH (H x.i)<(CE x).length/\(0<=CF l x/\CF l x<CJ l)/\CH (CF l x)<((CE x).set (CH (H x.i)) [M (u y d)]).length/\∃(t:TX I),(TA l t/\CO=0/\l.length-t.i<c l-x.i)/\0=0/\l.length=c l/\J.wrap (H x.i+1)=H t.i/\J.wrap (CF l x-1)=CF l t/\5=5/\1=1/\(((CE x).set (CH (H x.i)) [M (u y d)]).set (CH (CF l x)) [M (u y r)]=CE t\/QC (((CE x).set (CH (H x.i)) [M (u y d)]).set (CH (CF l x)) [M (u y r)]) (CE t))/\Z else∃(_x_1:Unit),Z/\5=5/\1=1/\(CE x=b QW l.reverse\/QC (CE x) (b QW l.reverse))/\Z) ?_
 delta CJ CE CF CH CO
 simp only[Zl,R0,R1,B.zero_add,R4];refine⟨⟨⟨l,0⟩,.start l,rfl,by rw[w64 o3];simp,.inl rfl⟩,fun x z=>QE (fun s=> ?_) (fun s=> ?_)⟩
 ·have s:=R5 s;have N:=z.len;have R:=z.hi;obtain⟨a,ha⟩: ∃a,x.xs[c l-1-x.i]? =G a:=⟨_,D.getElem?_eq_getElem o3⟩
  obtain⟨e,hb⟩: ∃e,x.xs[x.i]? =G e:=⟨_,D.getElem?_eq_getElem o3⟩
  have K:((c l:F)-1-x.i).toNat=c l-1-x.i:=o3
  have E: ∀{p:B} {i:I},x.xs[p]? =G i->ldE (x.xs.map QW) p 0 1=G [.v (.int .u8 (i.toNat:F))]:=fun h=>by
   simp only[ldE,D.getElem?_map,h];rfl
  simp only[K,Zs];refine⟨o3,_,E ha,o3,_,E hb,o3,by rw[D.length_map];omega,o3,by rw[D.length_set,D.length_map];omega,_,⟨z.step o3 ha hb,o5⟩,?_,?_,.inl ?_⟩
  ·rw[w64 o3];simp
  ·rw[w64 o3];simp only;omega
  ·rw[mK _ _ _ _ rfl,mK _ _ _ _ rfl]
 ·have s:=R6 s;rw[z.done s];exact⟨(),.inl rfl⟩
def q9:XS:=fun h a _=>match h with
 | [.x A [.w b 0 n]]=>match a b with
  | some (.row t 1 x)=>bif t.beq 5 then
    G fun K=> ∃e:D I,x=e.map QW/\n=c e/\e.length<=1099511627776/\K (.t []) (XW [(1000,b)] (QO [(1000,TF e.reverse)]) a)
    else L
  | _=>L
 | _=>L
theorem QaU:Xg 127 q9:=by
 refine⟨Qf func127 o4,fun l a d T e K D=> ?_⟩;unfold q9 at e;split at e
 ·rename_i c n;split at e
  ·rename_i t S E;cases i:t.beq 5 with
   | false=>rw[i]at e;cases e
   | true=>
    rw[i]at e;cases e
    have I:=B.eq_of_beq_eq_true i;subst I;obtain⟨s,rfl,rfl,F,D⟩:=D;refine Xc (R:=[(1000,c)]) (N:=[]) (Hl:=[(1000,TF s)]) (QP qi Tj Qb) QK func127 o4 o4 j6
     (as0:=[.x A [.w 1000 0 s.length]]) ?_ (Kk E rfl rfl) rfl o6 o6 (fun _ h=>by cases h) (fun x=>⟨fun p r=> ?_,fun p r b i=> ?_⟩) (QfS s F) (fun _ _=> ?_)
    ·simp[X7,X2,XZ,lkB]
    ·simp at r;subst r;exact fun h=>by have z:G (TF _)=L:=h;cases z
    ·simp at r;subst r;have z:G (TF _)=G b:=i;cases z;rfl
    ·exact⟨_,rfl,D⟩
  ·cases e
 ·cases e
def M23:D (B×XS):=(127,q9)::M15
theorem aZ:XK M23:= .cons QaU Tj
structure ep where
 m:B
 bs:D I
def QLt (n:B):LI:=fun _=> .inv ⟨ep,fun x=>⟨[(0,iA .i64 x.m),(3,.x A [.w 500 0 x.bs.length])],[(500,TF x.bs)]⟩,fun x=>QB n=QB x.m++x.bs.reverse/\x.m<=n,fun x=>x.m,fun _=>0⟩
def wS (n:B)(K:AV->Prop):Prop:=QN (mkT L22 M23 X4) (oF f89) (QLt n) f89 [iA .i64 n] K
theorem QC8 (n:B)(K:AV->Prop):wS n K=((∃(x:ep),((QB n=QB x.m++x.bs.reverse/\x.m<=n)/\T.ofNat 0=0)/\H n=H x.m/\Value.slice L 0 0=Value.slice L 0 0/\0=0/\x.bs.length=0/\b QW x.bs=[]/\Z)/\∀(x:ep),QB n=QB x.m++x.bs.reverse/\x.m<=n->T.ofNat 0=0->bif decide (H x.m>0)then(256:F)≠0/\((c x.bs+1)*1<=140737488355328/\x.bs.length+1<=9223372036854775807)/\(256:F)≠0/\∃(e:ep),((QB n=QB e.m++e.bs.reverse/\e.m<=n)/\T.ofNat 0=0/\e.m<x.m)/\J.wrap ((H x.m).tdiv 256)=H e.m/\0=0/\x.bs.length+1=c e.bs/\5=5/\1=1/\(D.take x.bs.length (b QW x.bs)++[[M (u y (y.wrap ((H x.m).tmod 256)))]]=b QW e.bs\/QC (D.take x.bs.length (b QW x.bs)++[[M (u y (y.wrap ((H x.m).tmod 256)))]]) (b QW e.bs))/\Z else ∃(h:D I),b QW x.bs=b QW h/\x.bs.length=c h/\h.length<=1099511627776/\∃(a:D I),D.take x.bs.length (D.drop 0 (b QW h.reverse))=b QW a/\K (Q A [M (Zr (U (o a)))])):=o4
theorem QTv (n:B)(p:n<9223372036854775808):QM (wS n (NatIs n 63)):=by
 refine⟨?_⟩;rw[QC8];simp only[Zl,R0,R1,R4];have i:(QB n).length<=63:=Xe (show n<2^63 from p);refine⟨⟨⟨n,[]⟩,⟨o6,B.le_refl _⟩,rfl,rfl,rfl⟩,fun x r=>QE (fun a=> ?_) (fun a=> ?_)⟩
 ·obtain⟨m,b⟩:=x;obtain⟨h,c⟩:=r;simp only at h c a|-;have a:=R5 a;have e:=congrArg D.length h;rw[D.length_append,Zq]at e;have s:(m:F).tdiv 256=((m/256:B):F):=by rw[te o3];omega
  have t:y.wrap ((m:F).tmod 256)=((I.ofNat (m % 256)).toNat:F):=by
   rw[tm o3,I.toNat_ofNat',wu8 o3];omega
  rw[s,t,w64 o3];refine⟨o3,o3,o3,⟨m/256,b++[I.ofNat (m % 256)]⟩,⟨⟨?_,o5⟩,o5⟩,rfl,o6,.inl ?_⟩
  ·simp only;rw[h,YJ m o3];simp
  ·simp only;rw[D.take_of_length_le o6,D.map_append];rfl
 ·obtain⟨m,b⟩:=x;obtain⟨h,c⟩:=r;simp only at h c a|-;have a:=R6 a;have z:m=0:=o3
  subst z;have e:=congrArg D.length h;rw[D.length_append,Zq]at e;rw[XA,D.nil_append]at h;refine⟨b,rfl,rfl,o3,b.reverse,?_,p,.inr ⟨_,rfl,h.symm⟩⟩;rw[D.drop_zero,D.take_of_length_le o6]
def pK:Ctr
 | [.x A [.v (.int .i64 n)]]=>G fun K=>(0<=n/\n<9223372036854775808)/\K (bA n.toNat 63)
 | _=>L
theorem QQj:QH 89 pK:=by
 refine⟨Qf func89 o4,fun l T h K a=> ?_⟩;unfold pK at h;split at h
 ·cases h
  obtain⟨⟨b,c⟩,a⟩:=a;rename_i n;obtain⟨n,rfl⟩:=F.eq_ofNat_of_zero_le b;exact KN (Qk (QP qi aZ Qb) QK func89 o4 o4 j6 (QTv n o3)) a
 ·cases h
def L24:LC:=(89,pK)::L22
theorem Qdd:QF L24:= .cons QQj qi
structure OfX where
 a:B
 b:B
def Xm:D Ch:=[.v (.bool A),.v (.string ⟨⟨[]⟩⟩),.v (.string ⟨⟨[]⟩⟩)]
def QaW (b a:F):LI:=fun _=> .inv ⟨OfX,fun x=>⟨[(0,iA .i64 b),(1,iA .i64 a),(4,.x A [.p 4 0]),(5,iA .i64 x.a),(6,iA .i64 x.b)],[(4,.box 25 Xm)]⟩,fun x=>e x.a x.b=e b.natAbs a.natAbs/\x.a<9223372036854775808/\x.b<9223372036854775808,fun x=>x.b,fun _=>0⟩
def uq (b a:F)(K:AV->Prop):Prop:=QN (mkT L24 M23 X4) (oF f47) (QaW b a) f47 [iA .i64 b,iA .i64 a] K
theorem QJK (a:F)(b:F)(K:AV->Prop):uq a b K=((∃(x:OfX),((x.a.gcd x.b=a.natAbs.gcd b.natAbs/\x.a<9223372036854775808/\x.b<9223372036854775808)/\T.ofNat 0=0)/\a=a/\b=b/\0=0/\(bif C then if J.wrap (0-a)>a then J.wrap (0-a)else a else if J.wrap (0-a)<a then J.wrap (0-a)else a)=H x.a/\b=H x.b/\25=25/\A=A/\U (o [])=U (o [])/\U (o [])=U (o [])/\Z)/\∀(x:OfX),x.a.gcd x.b=a.natAbs.gcd b.natAbs/\x.a<9223372036854775808/\x.b<9223372036854775808->T.ofNat 0=0->bif decide (H x.b>0)then H x.b≠0/\∃(c:OfX),((c.a.gcd c.b=a.natAbs.gcd b.natAbs/\c.a<9223372036854775808/\c.b<9223372036854775808)/\T.ofNat 0=0/\c.b<x.b)/\a=a/\b=b/\0=0/\H x.b=H c.a/\(H x.a).tmod (H x.b)=H c.b/\25=25/\A=A/\U (o [])=U (o [])/\U (o [])=U (o [])/\Z else H x.a≠0/\H x.a≠0/\((0<=bif C then if J.wrap (0-J.wrap (a.tdiv (H x.a)))>J.wrap (a.tdiv (H x.a))then J.wrap (0-J.wrap (a.tdiv (H x.a)))else J.wrap (a.tdiv (H x.a))else if J.wrap (0-J.wrap (a.tdiv (H x.a)))<J.wrap (a.tdiv (H x.a))then J.wrap (0-J.wrap (a.tdiv (H x.a)))else J.wrap (a.tdiv (H x.a)))/\(bif C then if J.wrap (0-J.wrap (a.tdiv (H x.a)))>J.wrap (a.tdiv (H x.a))then J.wrap (0-J.wrap (a.tdiv (H x.a)))else J.wrap (a.tdiv (H x.a))else if J.wrap (0-J.wrap (a.tdiv (H x.a)))<J.wrap (a.tdiv (H x.a))then J.wrap (0-J.wrap (a.tdiv (H x.a)))else J.wrap (a.tdiv (H x.a)))<9223372036854775808)/\(0<=J.wrap (b.tdiv (H x.a))/\J.wrap (b.tdiv (H x.a))<9223372036854775808)/\K (Q C [M (Y (decide (J.wrap (a.tdiv (H x.a))<0))),j (bif C then if J.wrap (0-J.wrap (a.tdiv (H x.a)))>J.wrap (a.tdiv (H x.a))then J.wrap (0-J.wrap (a.tdiv (H x.a)))else J.wrap (a.tdiv (H x.a))else if J.wrap (0-J.wrap (a.tdiv (H x.a)))<J.wrap (a.tdiv (H x.a))then J.wrap (0-J.wrap (a.tdiv (H x.a)))else J.wrap (a.tdiv (H x.a))).toNat 63,j (J.wrap (b.tdiv (H x.a))).toNat 63])):=o4
theorem vY {n:F}(h0: -9223372036854775808<n)(h1:n<9223372036854775808):(bif C then if J.wrap (0-n)>n then J.wrap (0-n)else n else if J.wrap (0-n)<n then J.wrap (0-n)else n)=(n.natAbs:F):=by
 simp only[R7];rw[w64 o3];split<;>omega
theorem QJL (b:F)(d:B):a b d=XT (decide (b<0)) b.natAbs d:=by
 unfold XT;congr 1;by_cases h:b<0
 ·simp only[h,decide_true,R7];omega
 ·simp only[h,X,R8];omega
theorem ka (c:F)(d:B)(i:d≠0):(a c d).num=c.tdiv (e c.natAbs d:B):=by
 rw[QJL,nr _ _ _ i];by_cases h:c<0
 ·simp only[h,decide_true,R7];have b:c= -(c.natAbs:F):=o3
  conv=>rhs;rw[b,F.neg_tdiv]
  simp
 ·simp only[h,X,R8];have b:c=(c.natAbs:F):=o3
  conv=>rhs;rw[b]
  rw[te o3];simp
theorem th (b:F)(d:B)(h:d≠0):(a b d).den=d/e b.natAbs d:=by
 rw[QJL,vL _ _ _ h]
theorem Qi8 (c:F)(b:B)(h0: -9223372036854775808<c/\c<9223372036854775808)(h1:0<b/\b<9223372036854775808):QM (uq c b (RatIs (a c b) 63)):=by
 refine⟨?_⟩;rw[QJK];rw[vY h0.1 h0.2];simp only[Zl,R0,R1,R4];refine⟨⟨⟨c.natAbs,b⟩,⟨o6,o5,o5⟩,rfl,rfl⟩,fun x N=>QE (fun i=> ?_) (fun i=> ?_)⟩
 ·obtain⟨p,S,E⟩:=N;have i:=R5 i;have T:=B.mod_lt x.a (by omega:0<x.b);refine⟨o3,⟨x.b,x.a % x.b⟩,⟨⟨?_,E,o5⟩,T⟩,rfl,by rw[tm o3];simp⟩;rw[<-p,B.gcd_comm x.b,<-B.gcd_rec,B.gcd_comm]
 ·obtain⟨p,S,E⟩:=N;have i:=R6 i;have s:x.b=0:=o3
  rw[s,B.gcd_zero_right,F.natAbs_natCast]at p;have I:b≠0:=o3
  have K:0<e c.natAbs b:=B.gcd_pos_of_pos_right _ o3;rw[p];have r:=ka c b I;have D:=th c b I;have R:(b:F).tdiv (e c.natAbs b:B)=((b/e c.natAbs b:B):F):=by rw[te o3];simp
  have z:b/e c.natAbs b<=b:=Zp _ _;have h:(c.tdiv (e c.natAbs b:B)).natAbs<=c.natAbs:=by
   rw[F.natAbs_tdiv,F.natAbs_natCast];exact Zp _ _
  rw[R];generalize c.tdiv (e c.natAbs b:B)=t at r h|-;generalize b/e c.natAbs b=d at D z|-;rw[w64 (n:=t) o3,w64 (n:=(d:F)) o3,vY o3 o3,Zs,Zs];refine⟨o3,o3,o3,o3,_,_,_,rfl,by rw[r],?_,?_⟩
  ·rw[r];exact .b (by show _<9223372036854775808;omega)
  ·rw[D];exact .b (by show _<9223372036854775808;omega)
def a9:Ctr
 | [.x A [.v (.int .i64 n)],.x A [.v (.int .i64 d)]]=>G fun K=>((-9223372036854775808<n/\n<9223372036854775808)/\0<d/\d<9223372036854775808)/\K (rA (a n d.toNat) 63)
 | _=>L
theorem QfT:QH 47 a9:=by
 refine⟨Qf func47 o4,fun l T h K a=> ?_⟩;unfold a9 at h;split at h
 ·cases h
  obtain⟨⟨b,c,e⟩,a⟩:=a;rename_i n d;obtain⟨d,rfl⟩:=F.eq_ofNat_of_zero_le (by omega:0<=d);exact QJF (Qk (QP Qdd aZ Qb) QK func47 o4 o4 j6 (Qi8 n d b o3)) a
 ·cases h
def L25:LC:=(47,a9)::L24
theorem qN:QF L25:= .cons QfT Qdd
def L26:LC:=L25
noncomputable def T26:Qd:=mkT L26 M23 X4
theorem qL:QF L26:=qN
theorem Qde:Qr T26:=QP qL aZ Qb
def lR (n:B)(a:D E):D (D Ch):=a.map fun q=>[k q n]
def sR (n:B)(a:D E):AV:= .x A [.s 3 (lR n a)]
theorem QTz {n:F}(h:0<=n):0<=a n d:=E.num_nonneg.1 (by
 by_cases b:d=0
 ·subst b;simp
 ·rw[ka _ _ b];exact F.tdiv_nonneg h (F.natCast_nonneg _))
theorem YQ {n:F}(h:0<n)(b:d≠0):0<a n d:=by
 refine E.lt_iff_le_and_ne.2 ⟨QTz o3,fun e=> ?_⟩;have:=(E.mkRat_eq_zero b).1 e.symm;omega
theorem Qw (n:B)(a:D E):(lR n a).length=c a:=by simp[lR]
theorem Xd{a:D E}{i:B}(h:a[i]? =G q):ldE (lR n a) i 0 3=G [.r q n]:=by
 simp only[ldE,lR,D.getElem?_map,h];rfl
end Go.Proofs
