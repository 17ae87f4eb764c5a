/- Rationals, first part: constants as numbers; a rational out of its parts. -/
import Derived.Test.YtfhfenokfkenoaaGreatDoorN3
open Int renaming ofNat → Za, ofNat_eq_natCast → Zl, toNat_natCast → Zs
open Go.IntKind renaming i64 → Zb, u8 → Zh
open ByteArray renaming mk → Zc
open Go.Value renaming bool → Zd, int → Zf, string → Zr
open List renaming map → Ze, getElem?_reverse → Zm, length_reverse → Zq
open Go.Eng.Ch renaming v → Zg, b → Zv, r → Zw
open Nat renaming gcd → Zi, le_max_right → Zn, le_max_left → Zo, div_le_self → Zp, mul_ne_zero → Zt, div_one → Zu
open Go.Eng.AV renaming x → Zj
open Array renaming mk → Zk
namespace Go.Proofs
open Go Go.Eng
def QNa (a:AV):AV:=match a with
  | .x false [.v (.string ⟨⟨l⟩⟩)]=>match l with
    | []=> .x false [.b 0 0]
    | [x]=>bif Nat.beq x.toNat 0 then a else .x false [.b x.toNat 8]
    | _=>a
  | _=>a
theorem QHY {w:World}{O:Nat->Prop}{ρ:Env}{a:AV}{v:Value}(h:ConcV w O ρ a v):ConcV w O ρ (QNa a) v:=by
 unfold QNa;split
 ·split
  ·exact Kf (m:=0) (n:=0) (by rw[Q1];exact h) (by decide)
  ·rename_i x;cases hb:Nat.beq x.toNat 0 with
   | true=>exact h
   | false=>
    have h0:x.toNat≠0:=fun e=>by rw[e]at hb;cases hb
    have hx:=x.toNat_lt;refine Kf (m:=x.toNat) ?_ (by simpa using hx)
    have e:QA x.toNat=[x]:=by
     rw[Xy _ h0,show x.toNat/256=0 by omega,Q1];simp
    rw[e];exact h
  ·exact h
 ·exact h
def QNb:List AV->List AV
 | []=>[]
 | a::l=>QNa a::QNb l
theorem QHZ {w:World}{O:Nat->Prop}{ρ:Env}{l:List AV}{vs:List Value}(h:Qr w O ρ l vs):Qr w O ρ (QNb l) vs:=by
 induction h with
 | nil=>exact .nil
 | cons h _ ih=>exact .cons (QHY h) ih
def nrm (c:Ctr):Ctr:=fun l=>c (QNb l)
theorem _root_.Go.Eng.CtrOK.nrm {P:Program}{g:Nat}{tab:List Value}{f:Nat}{c:Ctr}(h:CtrOK P g tab f c):CtrOK P g tab f (Proofs.nrm c):=
 ⟨h.enter,fun _ T hT K hK=>Spec.args (h.sound _ T hT K hK) fun _ _ _ hc=>QHZ hc⟩
def RatIs (q:Rat)(n:Nat)(av:AV):Prop:= ∃s x y,av= .x true [.v (.bool s),x,y]/\s=decide (q.num<0)/\NatIs q.num.natAbs n (.x false [x])/\NatIs q.den n (.x false [y])
theorem RatIs.conc {w:World}{O:Nat->Prop}{ρ:Env}{q:Rat}{n:Nat}{av:AV}{v:Value}(h:RatIs q n av)(hc:ConcV w O ρ av v):ConcV w O ρ (.x true [.r q n]) v:=by
 obtain⟨s,x,y,rfl,rfl,hx,hy⟩:=h;obtain⟨vals,h1,h2⟩:=hc;cases h1 with
 | v _ h1=>
  obtain⟨us,rest,rfl,_,k1,k2⟩:=h1.cons;obtain⟨vs,rest2,rfl,_,k3,k4⟩:=k2.cons;cases k4
  have one: ∀{m:Nat} {c:Ch} {us:List Value},NatIs m n (.x false [c])->CC w O ρ [c] us->us=[JF (QA m)]:=by
   intro m c us hn hcc;obtain⟨_,⟨n',e⟩ | ⟨l,e,rfl⟩⟩:=hn
   ·cases e;cases hcc with | b _ h=>cases h;rfl
   ·cases e;cases hcc with | v _ h=>cases h;rfl
  have e1:=one hx k1;have e2:=one hy k3;subst e1 e2;exact⟨_,.r ⟨hx.1,hy.1⟩ .nil,h2⟩
theorem QFd {P:Program}{g:Nat}{tab:List Value}{f:Nat}{l:List AV}{q:Rat}{n:Nat}{K:AV->Prop}(h:Eng.Spec P g tab f l (RatIs q n))(hk:K (.x true [.r q n])):Eng.Spec P g tab f l K:=
 Eng.Spec.res h fun _ _ _ _ hn hc=>⟨_,hk,hn.conc hc⟩
theorem QJD {w:World}{O:Nat->Prop}{ρ:Env}{q:Rat}{n:Nat}{l:List AV}{vals:List Value}(h:Qr w O ρ (.x true [.r q n]::l) vals):Bd n q:=by
 cases h with
 | cons h _=>obtain⟨vs,h1,_⟩:=h;cases h1 with | r hb _=>exact hb
theorem Bd.num {n:Nat}{q:Rat}(h:Bd n q):q.num.natAbs<2^n:=h.1
theorem Bd.den {n:Nat}{q:Rat}(h:Bd n q):q.den<2^n:=h.2
def L18:LC:=(138,nrm QJC)::(126,nrm QI4)::(137,nrm QI5)::(75,nrm QFL)::(139,nrm QJA)::(74,nrm QI3)::L17
noncomputable def T18:Qb:=mkT L18 M15 X4
theorem QUQ:QF L18:= .cons ok_Gcd.nrm (.cons ok_Add.nrm (.cons ok_Sub.nrm (.cons ok_Mul.nrm (.cons ok_Div.nrm (.cons ok_Cmp.nrm QY4)))))
theorem QUR:XI T18:=QS QUQ GC Qm
def QCN (K:AV->Prop):Prop:=QP T18 (oF Tryz.f130) noL Tryz.f130 [] K
theorem QDX (K:AV->Prop):QCN K=(K (Zj true [Zg (Zd false),Zg (Zr (Zc (Zk []))),Zg (Zr (Zc (Zk [OfNat.ofNat 1])))])):=by kernel_rfl
theorem QHa:QA 1=[1]:=rfl
theorem QJE {m:Nat}:QA m=[1]↔m=1:=⟨fun h=>KS (by rw[h];rfl),fun h=>by rw[h];rfl⟩
set_option maxHeartbeats 1000000 in
theorem QV0 (q:Rat)(n:Nat)(K:AV->Prop)(hn:n<=4294967296)(hK:K (.x false [.v (.bool true)])):QK (QP T18 (oF Tryz.f129) noL Tryz.f129 [.x true [.r q n]] K):=by
 refine HV ((bif decide (QA q.den=[])then K (Zj false [Zg (Zd false)])else ∃(b:UInt8),((0:Int)<=0/\(QA q.den)[0]?=some b)/\bif Za b.toNat==0 then K (Zj false [Zg (Zd false)])else bif decide (QA q.num.natAbs=[])then bif decide (q.num<0)then K (Zj false [Zg (Zd false)])else bif !decide (QA q.den=(Zc #[1]).data.toList)then K (Zj false [Zg (Zd false)])else bif !decide (QA q.num.natAbs=(Zc #[]).data.toList)then ∃(b:UInt8),((0:Int)<=0/\(QA q.num.natAbs)[0]?=some b)/\bif Za b.toNat==0 then K (Zj false [Zg (Zd false)])else bif decide (QA q.den=[OfNat.ofNat 1])then K (Zj false [Zg (Zd true)])else(n<=4294967296/\n<=4294967296)/\K (Zj false [Zg (Zd (decide (QA (q.num.natAbs.gcd q.den)=(Zc #[1]).data.toList)))])else bif decide (QA q.den=[OfNat.ofNat 1])then K (Zj false [Zg (Zd true)])else(n<=4294967296/\n<=4294967296)/\K (Zj false [Zg (Zd (decide (QA (q.num.natAbs.gcd q.den)=(Zc #[1]).data.toList)))])else bif !decide (QA q.num.natAbs=(Zc #[]).data.toList)then ∃(b:UInt8),((0:Int)<=0/\(QA q.num.natAbs)[0]?=some b)/\bif Za b.toNat==0 then K (Zj false [Zg (Zd false)])else bif decide (QA q.den=[OfNat.ofNat 1])then K (Zj false [Zg (Zd true)])else(n<=4294967296/\n<=4294967296)/\K (Zj false [Zg (Zd (decide (QA (q.num.natAbs.gcd q.den)=(Zc #[1]).data.toList)))])else bif decide (QA q.den=[OfNat.ofNat 1])then K (Zj false [Zg (Zd true)])else(n<=4294967296/\n<=4294967296)/\K (Zj false [Zg (Zd (decide (QA (q.num.natAbs.gcd q.den)=(Zc #[1]).data.toList)))]))) ?_
 have hd:=q.den_nz;obtain⟨b,hb,hb0⟩:=W3 hd;have hbb:((b.toNat:Int)==0)=false:=by simp;omega
 have hg:Zi q.num.natAbs q.den=1:=q.reduced;have e1:((Zc #[(1:UInt8)]).data.toList)=[1]:=rfl;have e2:((Zc #[]).data.toList)=([]:List UInt8):=rfl;have tail:bif decide (QA q.den=[1])then K (.x false [.v (.bool true)])else(n<=4294967296/\n<=4294967296)/\K (.x false [.v (.bool (decide (QA (Zi q.num.natAbs q.den)=[1])))]):=by
  refine QC (fun _=>hK) (fun _=>⟨⟨hn,hn⟩,?_⟩);rw[hg,QHa];exact hK
 simp only[];refine QC (fun h=>absurd (Qk.1 (R5 h)) hd) (fun _=>⟨b,⟨by omega,hb⟩,?_⟩);simp only[Zl,hbb,R8];refine QC (fun h=> ?_) (fun h=> ?_)
 ·have h:=Qk.1 (R5 h);have h0: ¬q.num<0:=by omega
  have h1:q.den=1:=by rw[h,Nat.gcd_zero_left]at hg;exact hg
  have h2:QA q.num.natAbs=[]:=Qk.2 h;simp only[h0,decide_false,R8,h1,h2,QHa,decide_true,Bool.not_true];rw[h1,QHa]at tail;exact tail
 ·have h:=R6 h;have hz:q.num.natAbs≠0:=fun e=>h (Qk.2 e);obtain⟨c,hc,hc0⟩:=W3 hz;have hcc:((c.toNat:Int)==0)=false:=by simp;omega
  simp only[h,decide_false,R7,Bool.not_false];refine⟨c,⟨by omega,hc⟩,?_⟩;simp only[hcc,R8];exact tail
theorem QV1:QK (QCN (RatIs 0 1)):=by
 refine⟨?_⟩;rw[QDX];exact⟨_,_,_,rfl,rfl,⟨by decide,.inr ⟨[],rfl,rfl⟩⟩,⟨by decide,.inr ⟨[1],rfl,rfl⟩⟩⟩
def QHb:Ctr
 | [.x true [.r _ n]]=>some fun K=>n<=4294967296/\K (.x false [.v (.bool true)])
 | _=>none
def QHc:Ctr
 | []=>some fun K=>K (.x true [.r 0 1])
 | _=>none
theorem QR8:QI 129 QHb:=by
 refine okL Tryz.func129 fun l T hT K hK=> ?_
 unfold QHb at hT;split at hT<;>cases hT
 exact spL QUR QM Tryz.func129 (QV0 _ _ K hK.1 hK.2)
theorem QR9:QI 130 QHc:=by
 refine⟨Qg Tryz.func130 (by kernel_rfl),fun l T hT K hK=> ?_⟩;unfold QHc at hT;split at hT
 ·cases hT
  exact QFd (Qn QUR QM Tryz.func130 (by kernel_rfl) (by kernel_rfl) (by rfl) QV1) hK
 ·cases hT
def L19:LC:=(129,QHb)::(130,QHc)::L18
noncomputable def T19:Qb:=mkT L19 M15 X4
theorem QUS:QF L19:= .cons QR8 (.cons QR9 QUQ)
theorem QNc:XI T19:=QS QUS GC Qm
def QCO (s:Bool)(n a d b:Nat)(K:AV->Prop):Prop:=QP T19 (oF Tryz.f77) noL Tryz.f77 [.x false [.v (.bool s)],bA n a,bA d b] K
theorem QDY (s:Bool)(n:Nat)(a:Nat)(d:Nat)(b:Nat)(K:AV->Prop):QCO s n a d b K=(bif decide (QA n=[])then K (Zj true [Zw (OfNat.ofNat 0) 1])else bif !decide (QA d=(Zc #[1]).data.toList)then(a<=4294967296/\b<=4294967296)/\bif !decide (QA (n.gcd d)=(Zc #[1]).data.toList)then(a<=549755813888/\a+b<=549755813888)/\(b<=549755813888/\a+b<=549755813888)/\K (Zj true [Zg (Zd s),Zv (n/n.gcd d) a,Zv (d/n.gcd d) b])else K (Zj true [Zg (Zd s),Zv n a,Zv d b])else K (Zj true [Zg (Zd s),Zv n a,Zv d b])):=by kernel_rfl
def GF (s:Bool)(m a:Nat)(t:Bool)(n b:Nat)(K:AV->Prop):Prop:=QP T19 (oF Tryz.f76) noL Tryz.f76 [.x false [.v (.bool s)],bA m a,.x false [.v (.bool t)],bA n b] K
theorem QAv (s:Bool)(m:Nat)(a:Nat)(t:Bool)(n:Nat)(b:Nat)(K:AV->Prop):GF s m a t n b K=(True/\bif s==t then(a<=(549755813888:Nat)/\b<=(549755813888:Nat))/\K (AV.t [(false,[Zg (Zd s)]),(false,[Zv (m+n) (max a b+(1:Nat))])])else(a<=(549755813888:Nat)/\b<=(549755813888:Nat))/\bif(bif decide (m<n)then(1:Int)else(0:Int))==(0:Int)then K (AV.t [(false,[Zg (Zd s)]),(false,[Zv (bif decide (m<n)then(0:Nat)else m-n) a])])else(b<=(549755813888:Nat)/\a<=(549755813888:Nat))/\K (AV.t [(false,[Zg (Zd t)]),(false,[Zv (bif decide (n<m)then(0:Nat)else n-m) b])])):=by kernel_rfl
def RatR (q:Rat)(n:Nat)(av:AV):Prop:=RatIs q n av∨ ∃m,m<=n/\av= .x true [.r q m]
theorem RatR.conc {w:World}{O:Nat->Prop}{ρ:Env}{q:Rat}{n:Nat}{av:AV}{v:Value}(h:RatR q n av)(hc:ConcV w O ρ av v):ConcV w O ρ (.x true [.r q n]) v:=by
 rcases h with h | ⟨m,hm,rfl⟩
 ·exact h.conc hc
 ·obtain⟨vs,h1,h2⟩:=hc;cases h1 with
  | r hb h=>exact⟨_,.r (hb.mono hm) h,h2⟩
theorem JY {P:Program}{g:Nat}{tab:List Value}{f:Nat}{l:List AV}{q:Rat}{n:Nat}{K:AV->Prop}(h:Eng.Spec P g tab f l (RatR q n))(hk:K (.x true [.r q n])):Eng.Spec P g tab f l K:=
 Eng.Spec.res h fun _ _ _ _ hn hc=>⟨_,hk,hn.conc hc⟩
theorem RatR.of {q:Rat}{n m:Nat}(h:m<=n):RatR q n (.x true [.r q m]):= .inr ⟨m,h,rfl⟩
theorem QY5 (q:Rat)(n:Nat)(K:AV->Prop)(hn:n<=4294967296)(hK:K (.x true [.r q n])):QK (QP T19 (oF Tryz.f73) noL Tryz.f73 [.x true [.r q n]] K):=by
 refine HV ((n<=4294967296/\K (Zj true [Zw q n]))) ?_
 exact⟨hn,hK⟩
theorem QNd {s:Bool}{n d a b:Nat}(hd:d≠0)(hn0:n≠0)(hn:n<2^a)(hdb:d<2^b):RatIs (XN s n d) (max a b) (.x true [.v (.bool s),.b (n/Zi n d) a,.b (d/Zi n d) b]):=by
 have h1:=VG (Zo a b);have h2:=VG (Zn a b);refine⟨_,_,_,rfl,(QKv s n d hd hn0).symm,?_,?_⟩
 ·rw[QDD s n d hd];have:=Zp n (Zi n d);exact .b (by omega)
 ·rw[QCE s n d hd];have:=Zp d (Zi n d);exact .b (by omega)
theorem QV2 (s:Bool)(n a d b:Nat)(ha:a<=4294967296)(hb:b<=4294967296)(hn:n<2^a)(hdb:d<2^b)(hd:d≠0):QK (QCO s n a d b (RatR (XN s n d) (max a b))):=by
 refine⟨?_⟩;rw[QDY];have hb1:1<=b:=by
  rcases Nat.eq_zero_or_pos b with h | h
  ·subst h;rw[Nat.pow_zero]at hdb;omega
  ·exact h
 have e1:((Zc #[(1:UInt8)]).data.toList)=[1]:=rfl;simp only[];refine QC (fun h=> ?_) (fun h=> ?_)
 ·have h:=Qk.1 (R5 h);subst h;rw[QG7];exact .of (by omega)
 ·have hn0:n≠0:=fun e=>R6 h (Qk.2 e);have main:=QNd (s:=s) hd hn0 hn hdb;refine QC (fun h1=>⟨⟨ha,hb⟩,QC (fun h2=> ?_) (fun h2=> ?_)⟩) (fun h1=> ?_)
  ·exact⟨by omega,by omega,.inl main⟩
  ·have h2:Zi n d=1:=QJE.1 (by simpa using h2);rw[h2,Zu,Zu]at main;exact .inl main
  ·have h1:d=1:=QJE.1 (by simpa using h1);subst h1;rw[Nat.gcd_one_right,Zu,Zu]at main;exact .inl main
def SgnR (r:Bool×Nat)(c:Nat)(av:AV):Prop:= ∃x,av= .t [(false,[.v (.bool r.1)]),(false,[x])]/\NatIs r.2 c (.x false [x])
theorem SgnR.conc {w:World}{O:Nat->Prop}{ρ:Env}{r:Bool×Nat}{c:Nat}{av:AV}{v:Value}(h:SgnR r c av)(hc:ConcV w O ρ av v):ConcV w O ρ (.t [(false,[.v (.bool r.1)]),(false,[.b r.2 c])]) v:=by
 obtain⟨x,rfl,hx⟩:=h;obtain⟨vs,h1,h2⟩:=hc;cases h1 with
 | cons h1 h3=>cases h3 with
  | cons h3 h4=>exact⟨_,.cons h1 (.cons (hx.conc (av:= .x false [x]) h3) h4),h2⟩
theorem QNe (s:Bool)(m a:Nat)(t:Bool)(n b:Nat)(ha:a<=549755813888)(hb:b<=549755813888)(hm:m<2^a)(hn:n<2^b):QK (GF s m a t n b (SgnR (JH s m t n) (max a b+1))):=by
 refine⟨?_⟩;rw[QAv];have h1:=VG (Zo a b);have h2:=VG (Zn a b);have h3:2^(max a b+1)=2*2^max a b:=Nat.pow_succ';unfold JH;refine⟨trivial,QC (fun h=> ?_) (fun h=> ?_)⟩
 ·rw[h,R7];exact⟨⟨ha,hb⟩,_,rfl,.b (by simp only;omega)⟩
 ·rw[h,R8];by_cases hlt:m<n
  ·have e1:decide (n<=m)=false:=by simp;omega
   have e2:decide (n<m)=false:=by simp;omega
   have e3:decide (m<n)=true:=by simp;omega
   simp only[e1,e2,e3,R7,R8];exact⟨⟨ha,hb⟩,⟨hb,ha⟩,_,rfl,.b (by simp only;omega)⟩
  ·have e1:decide (n<=m)=true:=by simp;omega
   have e3:decide (m<n)=false:=by simp;omega
   simp only[e1,e3,R7,R8];exact⟨⟨ha,hb⟩,_,rfl,.b (by simp only;omega)⟩
def QNf:Ctr
 | [.x true [.r q n]]=>some fun K=>n<=4294967296/\K (.x true [.r q n])
 | _=>none
def QHd:Ctr
 | [.x false [.v (.bool s)],.x false [.b n a],.x false [.b d b]]=>some fun K=>((a<=4294967296/\b<=4294967296)/\d≠0)/\K (.x true [.r (XN s n d) (max a b)])
 | _=>none
def QAw:Ctr
 | [.x false [.v (.bool s)],.x false [.b m a],.x false [.v (.bool t)],.x false [.b n b]]=>some fun K=>(a<=549755813888/\b<=549755813888)/\K (.t [(false,[.v (.bool (JH s m t n).1)]),(false,[.b (JH s m t n).2 (max a b+1)])])
 | _=>none
theorem QV3:QI 73 QNf:=by
 refine okL Tryz.func73 fun l T hT K hK=> ?_
 unfold QNf at hT;split at hT<;>cases hT
 exact spL QNc QM Tryz.func73 (QY5 _ _ K hK.1 hK.2)
theorem QFe {w:World}{O:Nat->Prop}{ρ:Env}{a c:AV}{m n:Nat}{l:List AV}{vals:List Value}(h:Qr w O ρ (c::a:: .x false [.b m n]::l) vals):m<2^n:=by
 cases h with
 | cons _ h=>exact Jl h
theorem ok_made:QI 77 QHd:=by
 refine⟨Qg Tryz.func77 (by kernel_rfl),fun l T hT K hK=> ?_⟩;unfold QHd at hT;split at hT
 ·rename_i s n a d b;cases hT
  exact JR fun w O ρ vals hc=>JY (Qn QNc QM Tryz.func77 (by kernel_rfl) (by kernel_rfl) (by rfl) (QV2 s n a d b hK.1.1.1 hK.1.1.2 (Jl hc) (QFe hc) hK.1.2)) hK.2
 ·cases hT
theorem QLL:QI 76 QAw:=by
 refine⟨Qg Tryz.func76 (by kernel_rfl),fun l T hT K hK=> ?_⟩;unfold QAw at hT;split at hT
 ·rename_i s m a t n b;cases hT
  refine JR fun w O ρ vals hc=>Eng.Spec.res (Qn QNc QM Tryz.func76 (by kernel_rfl) (by kernel_rfl) (by rfl) (QNe s m a t n b hK.1.1 hK.1.2 (Jl hc) ?_)) fun _ _ _ _ hn hc=>⟨_,hK.2,hn.conc hc⟩;cases hc with
  | cons _ h=>exact QFe h
 ·cases hT
def L20:LC:=(73,QNf)::(77,nrm QHd)::(76,QAw)::L19
noncomputable def T20:Qb:=mkT L20 M15 X4
theorem QUT:QF L20:= .cons QV3 (.cons ok_made.nrm (.cons QLL QUS))
theorem Ul:XI T20:=QS QUT GC Qm
end Go.Proofs
namespace Go.Proofs
open Go Go.Eng
def rA (q:Rat)(n:Nat):AV:= .x true [.r q n]
def QFf (n:Int)(K:AV->Prop):Prop:=QP T20 (oF Tryz.f68) noL Tryz.f68 [iA .i64 n] K
theorem QFg (n:Int)(K:AV->Prop):QFf n K=(bif decide (n≥0)then n<9223372036854775808/\((63<=4294967296/\8<=4294967296)/\1≠0)/\K (Zj true [Zw (XN false n.toNat 1) 63])else Zb.wrap (0-Zb.wrap (n+1))<9223372036854775808/\(63<=549755813888/\8<=549755813888)/\((64<=4294967296/\8<=4294967296)/\1≠0)/\K (Zj true [Zw (XN true ((Zb.wrap (0-Zb.wrap (n+1))).toNat+1) 1) 64])):=by kernel_rfl
def QCP (p:Rat)(a:Nat)(q:Rat)(b:Nat)(K:AV->Prop):Prop:=QP T20 (oF Tryz.f23) noL Tryz.f23 [rA p a,rA q b] K
theorem QDZ (p:Rat)(a:Nat)(q:Rat)(b:Nat)(K:AV->Prop):QCP p a q b K=(a<=4294967296/\b<=4294967296/\bif decide (p.den=q.den)then(a<=549755813888/\b<=549755813888)/\((max a b+1<=4294967296/\a<=4294967296)/\p.den≠0)/\K (Zj true [Zw (XN (JH (decide (p.num<0)) p.num.natAbs (decide (q.num<0)) q.num.natAbs).fst (JH (decide (p.num<0)) p.num.natAbs (decide (q.num<0)) q.num.natAbs).snd p.den) (max (max a b+1) a)])else(a<=274877906944/\b<=274877906944)/\(b<=274877906944/\a<=274877906944)/\(a+b<=549755813888/\b+a<=549755813888)/\(a<=274877906944/\b<=274877906944)/\((max (a+b) (b+a)+1<=4294967296/\a+b<=4294967296)/\p.den*q.den≠0)/\K (Zj true [Zw (XN (JH (decide (p.num<0)) (p.num.natAbs*q.den) (decide (q.num<0)) (q.num.natAbs*p.den)).fst (JH (decide (p.num<0)) (p.num.natAbs*q.den) (decide (q.num<0)) (q.num.natAbs*p.den)).snd (p.den*q.den)) (max (max (a+b) (b+a)+1) (a+b))])):=by kernel_rfl
def QCQ (p:Rat)(a:Nat)(q:Rat)(b:Nat)(K:AV->Prop):Prop:=QP T20 (oF Tryz.f88) noL Tryz.f88 [rA p a,rA q b] K
theorem QDa (p:Rat)(a:Nat)(q:Rat)(b:Nat)(K:AV->Prop):QCQ p a q b K=(a<=4294967296/\b<=4294967296/\True/\(a<=274877906944/\b<=274877906944)/\(a<=274877906944/\b<=274877906944)/\((a+b<=4294967296/\a+b<=4294967296)/\p.den*q.den≠0)/\K (Zj true [Zw (XN (!decide (p.num<0)==decide (q.num<0)) (p.num.natAbs*q.num.natAbs) (p.den*q.den)) (max (a+b) (a+b))])):=by kernel_rfl
def Hn (p:Rat)(a:Nat)(q:Rat)(b:Nat)(K:AV->Prop):Prop:=QP T20 (oF Tryz.f87) noL Tryz.f87 [rA p a,rA q b] K
theorem Um (p:Rat)(a:Nat)(q:Rat)(b:Nat)(K:AV->Prop):Hn p a q b K=(a<=4294967296/\b<=4294967296/\bif decide (QA q.num.natAbs=[])then K (AV.t [(true,[Zg (Zd false),Zg (Zr (Zc (Zk []))),Zg (Zr (Zc (Zk [])))]),(false,[Zg (Zf Zb 12)])])else True/\(a<=274877906944/\b<=274877906944)/\(a<=274877906944/\b<=274877906944)/\((a+b<=4294967296/\a+b<=4294967296)/\p.den*q.num.natAbs≠0)/\K (AV.t [(true,[Zw (XN (!decide (p.num<0)==decide (q.num<0)) (p.num.natAbs*q.den) (p.den*q.num.natAbs)) (max (a+b) (a+b))]),(false,[Zg (Zf Zb 0)])])):=by kernel_rfl
def QCR (p:Rat)(a:Nat)(K:AV->Prop):Prop:=QP T20 (oF Tryz.f127) noL Tryz.f127 [rA p a] K
theorem QDb (p:Rat)(a:Nat)(K:AV->Prop):QCR p a K=(a<=4294967296/\bif !decide (p.num<0)then K (Zj true [Zg (Zd !decide (QA p.num.natAbs=(Zc #[]).data.toList)),Zv p.num.natAbs a,Zv p.den a])else K (Zj true [Zg (Zd false),Zv p.num.natAbs a,Zv p.den a])):=by kernel_rfl
def QCS (p:Rat)(a:Nat)(K:AV->Prop):Prop:=QP T20 (oF Tryz.f22) noL Tryz.f22 [rA p a] K
theorem QDc (p:Rat)(a:Nat)(K:AV->Prop):QCS p a K=(a<=4294967296/\K (Zj true [Zg (Zd false),Zv p.num.natAbs a,Zv p.den a])):=by kernel_rfl
def Qa (q:Rat):Int:=if q.num=0 then 0 else if q.num<0 then-1 else 1
theorem QY6 (n:Int)(h0: -9223372036854775808<=n)(h1:n<9223372036854775808):QK (QFf n (RatR (n:Rat) 64)):=by
 refine⟨?_⟩;rw[QFg];have key: ∀m:Int,mkRat m 1=(m:Rat):=fun m=>by
  rw[Rat.mkRat_one]
 refine QC (fun h=> ?_) (fun h=> ?_)
 ·have h:=R5 h;have e:XN false n.toNat 1=(n:Rat):=by
   unfold XN;rw[R8,key];congr 1;omega
  rw[e];exact⟨h1,by omega,.of (by omega)⟩
 ·have h:=R6 h;rw[w64 (n:=n+1) (by omega),w64 (by omega)];have e:XN true ((0-(n+1)).toNat+1) 1=(n:Rat):=by
   unfold XN;rw[R7,key];congr 1;omega
  rw[e];exact⟨by omega,by omega,by omega,.of (by omega)⟩
theorem QV4 (p:Rat)(a:Nat)(q:Rat)(b:Nat)(h:a+b+1<=4294967296):QK (QCP p a q b (RatR (p+q) (a+b+1))):=by
 refine⟨?_⟩;rw[QDZ];have hp:=p.den_nz;have hq:=q.den_nz;refine⟨by omega,by omega,QC (fun hd=> ?_) (fun hd=> ?_)⟩
 ·have hd:=R5 hd;rw[QAc p q hd];exact⟨by omega,by omega,.of (by omega)⟩
 ·rw[QKy];exact⟨by omega,by omega,by omega,by omega,⟨by omega,Zt hp hq⟩,.of (by omega)⟩
theorem QV5 (p:Rat)(a:Nat)(q:Rat)(b:Nat)(h:a+b<=4294967296):QK (QCQ p a q b (RatR (p*q) (a+b))):=by
 refine⟨?_⟩;rw[QDa];refine⟨by omega,by omega,trivial,by omega,by omega,⟨by omega,Zt p.den_nz q.den_nz⟩,?_⟩;have e:=QKw p q;rw[show(!(decide (p.num<0)==decide (q.num<0)))=(decide (p.num<0) !=decide (q.num<0))from rfl,e];exact .of (by omega)
def RatE (q:Rat)(n:Nat)(e:Int)(av:AV):Prop:= ∃b cs,av= .t [(b,cs),(false,[.v (.int .i64 e)])]/\RatR q n (.x b cs)
theorem RatE.conc {w:World}{O:Nat->Prop}{ρ:Env}{q:Rat}{n:Nat}{e:Int}{av:AV}{v:Value}(h:RatE q n e av)(hc:ConcV w O ρ av v):ConcV w O ρ (.t [(true,[.r q n]),(false,[.v (.int .i64 e)])]) v:=by
 obtain⟨b,cs,rfl,hx⟩:=h;obtain⟨vs,h1,h2⟩:=hc;cases h1 with
 | cons h1 h3=>cases h3 with
  | cons h3 h4=>exact⟨_,.cons (hx.conc (av:= .x b cs) h1) (.cons h3 h4),h2⟩
theorem QV6 (p:Rat)(a:Nat)(q:Rat)(b:Nat)(h:a+b<=4294967296)(hq:q≠0):QK (Hn p a q b (RatE (p/q) (a+b) 0)):=by
 refine⟨?_⟩;rw[Um];have hn:q.num≠0:=fun e=>hq (Rat.num_eq_zero.1 e);refine⟨by omega,by omega,QC (fun h0=> ?_) (fun _=>⟨trivial,by omega,by omega,⟨by omega,Zt p.den_nz (by omega)⟩,?_⟩)⟩
 ·have:=Qk.1 (R5 h0);omega
 ·rw[show(!(decide (p.num<0)==decide (q.num<0)))=(decide (p.num<0) !=decide (q.num<0))from rfl,QKx p q hn];exact⟨_,_,rfl,.of (by omega)⟩
theorem QSA (p:Rat)(a b:Nat)(h:a+b<=4294967296)(K:AV->Prop)(hK:K (.t [(true,[.v (.bool false),.v (.string ⟨⟨[]⟩⟩),.v (.string ⟨⟨[]⟩⟩)]),(false,[.v (.int .i64 12)])])):QK (Hn p a 0 b K):=by
 refine⟨?_⟩;rw[Um];refine⟨by omega,by omega,QC (fun _=>hK) (fun h0=> ?_)⟩;exact absurd (Qk.2 (by rfl)) (R6 h0)
theorem QV7 (p:Rat)(a:Nat)(h:a<=4294967296)(hb:Bd a p):QK (QCR p a (RatR (-p) a)):=by
 refine⟨?_⟩;rw[QDb];have hn:(-p).num= -p.num:=rfl;have hd:(-p).den=p.den:=rfl;have e2:((Zc #[]).data.toList)=([]:List UInt8):=rfl;have mk: ∀s:Bool,s=decide ((-p).num<0)->RatR (-p) a (.x true [.v (.bool s),.b p.num.natAbs a,.b p.den a]):=fun s hs=>
  .inl ⟨s,_,_,rfl,hs,by rw[hn,Int.natAbs_neg];exact .b hb.1,by rw[hd];exact .b hb.2⟩
 refine⟨h,QC (fun h1=>mk _ ?_) (fun h1=>mk _ ?_)⟩
 ·have h1: ¬p.num<0:=by simpa using h1
  show(!decide (QA p.num.natAbs=[]))=decide (-p.num<0)
  rw[Bool.eq_iff_iff,decide_eq_true_eq,Bool.not_eq_true',decide_eq_false_iff_not,Qk];omega
 ·have h1:p.num<0:=by simpa using h1
  rw[hn,eq_comm,decide_eq_false_iff_not];omega
def QW (p:Rat):Rat:=if p.num<0 then-p else p
theorem QV8 (p:Rat)(a:Nat)(h:a<=4294967296)(hb:Bd a p):QK (QCS p a (RatR (QW p) a)):=by
 refine⟨?_⟩;rw[QDc];have hn:(QW p).num.natAbs=p.num.natAbs:=by
  unfold QW;split
  ·exact Int.natAbs_neg _
  ·rfl
 have hd:(QW p).den=p.den:=by
  unfold QW;split
  ·rfl
  ·rfl
 have h0: ¬(QW p).num<0:=by
  unfold QW;split
  ·show ¬ -p.num<0;omega
  ·assumption
 exact⟨h,.inl ⟨_,_,_,rfl,by simp[h0],by rw[hn];exact .b hb.1,by rw[hd];exact .b hb.2⟩⟩
theorem QSB (p:Rat)(a:Nat)(h:a<=4294967296)(K:AV->Prop)(hK:K (iA .i64 (Qa p))):QK (QP T20 (oF Tryz.f32) noL Tryz.f32 [rA p a] K):=by
 refine HV ((a<=4294967296/\bif decide (QA p.num.natAbs=[])then K (Zj false [Zg (Zf Zb 0)])else bif decide (p.num<0)then K (Zj false [Zg (Zf Zb (-1))])else K (Zj false [Zg (Zf Zb 1)]))) ?_
 unfold Qa at hK;refine⟨h,QC (fun h1=> ?_) (fun h1=>QC (fun h2=> ?_) (fun h2=> ?_))⟩
 ·have h1:=Qk.1 (R5 h1);rw[if_pos (by omega)]at hK;exact hK
 ·have h1: ¬p.num.natAbs=0:=fun e=>R6 h1 (Qk.2 e);rw[if_neg (by omega),if_pos (R5 h2)]at hK;exact hK
 ·have h1: ¬p.num.natAbs=0:=fun e=>R6 h1 (Qk.2 e);rw[if_neg (by omega),if_neg (R6 h2)]at hK;exact hK
theorem QNg (m n:Nat): -1<=JI m n/\JI m n<=1:=by unfold JI;split<;>(try split)<;>omega
theorem QV9 (p:Rat)(a:Nat)(q:Rat)(b:Nat)(h:a+b<=4294967296)(K:AV->Prop)(hK:K (iA .i64 (Jp p q))):QK (QP T20 (oF Tryz.f21) noL Tryz.f21 [rA p a,rA q b] K):=by
 refine HV ((a<=4294967296/\b<=4294967296/\True/\bif !decide (p.num<0)==decide (q.num<0)then bif decide (p.num<0)then K (Zj false [Zg (Zf Zb (-1))])else K (Zj false [Zg (Zf Zb 1)])else(a<=274877906944/\b<=274877906944)/\(b<=274877906944/\a<=274877906944)/\bif decide (p.num<0)then K (Zj false [Zg (Zf Zb (Zb.wrap (0-JI (p.num.natAbs*q.den) (q.num.natAbs*p.den))))])else K (Zj false [Zg (Zf Zb (JI (p.num.natAbs*q.den) (q.num.natAbs*p.den)))]))) ?_
 refine⟨by omega,by omega,trivial,QC (fun h1=> ?_) (fun h1=>⟨by omega,by omega,?_⟩)⟩
 ·refine QC (fun h2=> ?_) (fun h2=> ?_)
  ·have h2:=R5 h2;have h3: ¬q.num<0:=fun h3=>by simp[h2,h3]at h1
   rw[QRM h2 h3]at hK;exact hK
  ·have h2:=R6 h2;have h3:q.num<0:=by
    apply Classical.byContradiction;intro h3;simp[h2,h3]at h1
   rw[QRN h2 h3]at hK;exact hK
 ·have h1:decide (p.num<0)=decide (q.num<0):=by simpa using h1
  rw[QK0 p q h1]at hK;have hl:=QNg (p.num.natAbs*q.den) (q.num.natAbs*p.den);refine QC (fun h2=> ?_) (fun h2=> ?_)
  ·rw[h2,R7]at hK;rw[w64 (by omega),Int.zero_sub];exact hK
  ·rw[h2,R8]at hK;exact hK
def QNh:Ctr
 | [.x false [.v (.int .i64 n)]]=>some fun K=>(-9223372036854775808<=n/\n<9223372036854775808)/\K (rA (n:Rat) 64)
 | _=>none
def QHe:Ctr
 | [.x true [.r p a],.x true [.r q b]]=>some fun K=>a+b+1<=4294967296/\K (rA (p+q) (a+b+1))
 | _=>none
def QDd:Ctr
 | [.x true [.r p a],.x true [.r q b]]=>some fun K=>a+b<=4294967296/\K (rA (p*q) (a+b))
 | _=>none
def QHf:Ctr
 | [.x true [.r p a],.x true [.r q b]]=>some fun K=>a+b<=4294967296/\(q≠0->K (.t [(true,[.r (p/q) (a+b)]),(false,[.v (.int .i64 0)])]))/\(q=0->K (.t [(true,[.v (.bool false),.v (.string ⟨⟨[]⟩⟩),.v (.string ⟨⟨[]⟩⟩)]),(false,[.v (.int .i64 12)])]))
 | _=>none
def QHg:Ctr
 | [.x true [.r p a]]=>some fun K=>a<=4294967296/\K (rA (-p) a)
 | _=>none
def QHh:Ctr
 | [.x true [.r p a]]=>some fun K=>a<=4294967296/\K (rA (QW p) a)
 | _=>none
def QDe:Ctr
 | [.x true [.r p a]]=>some fun K=>a<=4294967296/\K (iA .i64 (Qa p))
 | _=>none
def QHi:Ctr
 | [.x true [.r p a],.x true [.r q b]]=>some fun K=>a+b<=4294967296/\K (iA .i64 (Jp p q))
 | _=>none
theorem ok_rOf:QI 68 QNh:=by
 refine⟨Qg Tryz.func68 (by kernel_rfl),fun l T hT K hK=> ?_⟩;unfold QNh at hT;split at hT
 ·cases hT
  exact JY (Qn Ul QM Tryz.func68 (by kernel_rfl) (by kernel_rfl) (by rfl) (QY6 _ hK.1.1 hK.1.2)) hK.2
 ·cases hT
theorem ok_rAdd:QI 23 QHe:=by
 refine⟨Qg Tryz.func23 (by kernel_rfl),fun l T hT K hK=> ?_⟩;unfold QHe at hT;split at hT
 ·cases hT
  exact JY (Qn Ul QM Tryz.func23 (by kernel_rfl) (by kernel_rfl) (by rfl) (QV4 _ _ _ _ hK.1)) hK.2
 ·cases hT
theorem ok_rMul:QI 88 QDd:=by
 refine⟨Qg Tryz.func88 (by kernel_rfl),fun l T hT K hK=> ?_⟩;unfold QDd at hT;split at hT
 ·cases hT
  exact JY (Qn Ul QM Tryz.func88 (by kernel_rfl) (by kernel_rfl) (by rfl) (QV5 _ _ _ _ hK.1)) hK.2
 ·cases hT
theorem ok_rDiv:QI 87 QHf:=by
 refine⟨Qg Tryz.func87 (by kernel_rfl),fun l T hT K hK=> ?_⟩;unfold QHf at hT;split at hT
 ·rename_i p a q b;cases hT
  by_cases hq:q=0
  ·subst hq;exact Qn Ul QM Tryz.func87 (by kernel_rfl) (by kernel_rfl) (by rfl) (QSA p a b hK.1 K (hK.2.2 rfl))
  ·exact Eng.Spec.res (Qn Ul QM Tryz.func87 (by kernel_rfl) (by kernel_rfl) (by rfl) (QV6 p a q b hK.1 hq)) fun _ _ _ _ hn hc=>⟨_,hK.2.1 hq,hn.conc hc⟩
 ·cases hT
theorem ok_rNeg:QI 127 QHg:=by
 refine⟨Qg Tryz.func127 (by kernel_rfl),fun l T hT K hK=> ?_⟩;unfold QHg at hT;split at hT
 ·cases hT
  exact JR fun w O ρ vals hc=>JY (Qn Ul QM Tryz.func127 (by kernel_rfl) (by kernel_rfl) (by rfl) (QV7 _ _ hK.1 (QJD hc))) hK.2
 ·cases hT
theorem ok_rAbs:QI 22 QHh:=by
 refine⟨Qg Tryz.func22 (by kernel_rfl),fun l T hT K hK=> ?_⟩;unfold QHh at hT;split at hT
 ·cases hT
  exact JR fun w O ρ vals hc=>JY (Qn Ul QM Tryz.func22 (by kernel_rfl) (by kernel_rfl) (by rfl) (QV8 _ _ hK.1 (QJD hc))) hK.2
 ·cases hT
theorem QNi:QI 32 QDe:=by
 refine okL Tryz.func32 fun l T hT K hK=> ?_
 unfold QDe at hT;split at hT<;>cases hT
 exact spL Ul QM Tryz.func32 (QSB _ _ hK.1 K hK.2)
theorem QSC:QI 21 QHi:=by
 refine okL Tryz.func21 fun l T hT K hK=> ?_
 unfold QHi at hT;split at hT<;>cases hT
 exact spL Ul QM Tryz.func21 (QV9 _ _ _ _ hK.1 K hK.2)
def L21:LC:=(68,QNh)::(23,QHe)::(88,QDd)::(87,QHf)::(127,QHg)::(22,QHh)::(32,QDe)::(21,QHi)::L20
noncomputable def T21:Qb:=mkT L21 M15 X4
theorem QUU:QF L21:= .cons ok_rOf (.cons ok_rAdd (.cons ok_rMul (.cons ok_rDiv (.cons ok_rNeg (.cons ok_rAbs (.cons QNi (.cons QSC QUT)))))))
theorem QJF:XI T21:=QS QUU GC Qm
end Go.Proofs
namespace Go.Proofs
open Go Go.Eng
def QCT (p:Rat)(a:Nat)(q:Rat)(b:Nat)(K:AV->Prop):Prop:=QP T21 (oF Tryz.f172) noL Tryz.f172 [rA p a,rA q b] K
theorem QDf (p:Rat)(a:Nat)(q:Rat)(b:Nat)(K:AV->Prop):QCT p a q b K=(a+b<=4294967296/\bif decide (Jp p q<=0)then a<=4294967296/\K (Zj true [Zw p a])else b<=4294967296/\K (Zj true [Zw q b])):=by kernel_rfl
def QCU (p:Rat)(a:Nat)(q:Rat)(b:Nat)(K:AV->Prop):Prop:=QP T21 (oF Tryz.f173) noL Tryz.f173 [rA p a,rA q b] K
theorem QDg (p:Rat)(a:Nat)(q:Rat)(b:Nat)(K:AV->Prop):QCU p a q b K=(a+b<=4294967296/\bif decide (Jp p q≥0)then a<=4294967296/\K (Zj true [Zw p a])else b<=4294967296/\K (Zj true [Zw q b])):=by kernel_rfl
theorem Ki (p q:Rat):Jp p q<=0↔p<=q:=by
 unfold Jp;split
 ·rename_i h;exact⟨fun _=>Rat.le_of_lt h,fun _=>by decide⟩
 ·rename_i h;split
  ·rename_i h2;subst h2;exact⟨fun _=>Rat.le_refl,fun _=>by decide⟩
  ·rename_i h2;constructor
   ·intro h3;exact absurd h3 (by decide)
   ·intro h3;exfalso;rcases Rat.le_iff_lt_or_eq.1 h3 with h4 | h4
    ·exact h h4
    ·exact h2 h4
theorem QAx (p q:Rat):Jp p q≥0↔q<=p:=by
 unfold Jp;split
 ·rename_i h;constructor
  ·intro h3;exact absurd h3 (by decide)
  ·intro h3;exact absurd h (Rat.not_lt.2 h3)
 ·rename_i h;exact⟨fun _=>Rat.not_lt.1 h,fun _=>by split<;>decide⟩
theorem QWA (p:Rat)(a:Nat)(q:Rat)(b:Nat)(h:a+b+1<=4294967296)(K:AV->Prop)(hK:K (rA (p-q) (a+b+1))):QK (QP T21 (oF Tryz.f69) noL Tryz.f69 [rA p a,rA q b] K):=by
 refine HV ((b<=4294967296/\a+b+1<=4294967296/\K (Zj true [Zw (p+ -q) (a+b+1)]))) ?_
 rw[Rat.sub_eq_add_neg]at hK;exact⟨by omega,by omega,hK⟩
theorem QWB (p:Rat)(a:Nat)(q:Rat)(b:Nat)(h:a+b<=4294967296):QK (QCT p a q b (RatR (Xl p q) (max a b))):=by
 refine⟨?_⟩;rw[QDf];unfold Xl;refine⟨by omega,QC (fun h1=> ?_) (fun h1=> ?_)⟩
 ·rw[if_pos ((Ki p q).1 (R5 h1))];exact⟨by omega,.of (Zo _ _)⟩
 ·rw[if_neg (fun h2=>R6 h1 ((Ki p q).2 h2))];exact⟨by omega,.of (Zn _ _)⟩
def JL (a b:Rat):Rat:=if b<=a then a else b
theorem QWC (p:Rat)(a:Nat)(q:Rat)(b:Nat)(h:a+b<=4294967296):QK (QCU p a q b (RatR (JL p q) (max a b))):=by
 refine⟨?_⟩;rw[QDg];unfold JL;refine⟨by omega,QC (fun h1=> ?_) (fun h1=> ?_)⟩
 ·rw[if_pos ((QAx p q).1 (R5 h1))];exact⟨by omega,.of (Zo _ _)⟩
 ·rw[if_neg (fun h2=>R6 h1 ((QAx p q).2 h2))];exact⟨by omega,.of (Zn _ _)⟩
theorem QSD (x n:Int)(hn:0<n/\n<9223372036854775808)(K:AV->Prop)(hK:K (iA .i64 (x % n))):QK (QP T21 (oF Tryz.f49) noL Tryz.f49 [iA .i64 x,iA .i64 n] K):=by
 refine HV ((n≠0/\bif decide (x.tmod n<0)then K (Zj false [Zg (Zf Zb (Zb.wrap (x.tmod n+n)))])else K (Zj false [Zg (Zf Zb (x.tmod n))]))) ?_
 have h1:=Int.emod_nonneg x (by omega:n≠0);have h2:=Int.emod_lt_of_pos x hn.1;have hb:Int.tmod x n<n:=by
  have:=Int.tmod_lt_of_pos x hn.1;exact this
 refine⟨by omega,QC (fun h=> ?_) (fun h=> ?_)⟩
 ·have h:=R5 h;have e:Int.tmod x n+n=x % n:=by
   rw[Int.emod_eq_tmod];rw[if_neg]
   ·omega
   ·intro h';rcases h' with h' | h'
    ·have:=Int.tmod_nonneg n h';omega
    ·rw[Int.tmod_eq_zero_of_dvd h']at h;omega
  rw[e,w64 (by omega)];exact hK
 ·have h:=R6 h;have e:Int.tmod x n=x % n:=by
   rw[Int.tmod_eq_emod];split
   ·omega
   ·rename_i h';exfalso;have h3:x<0:=by omega
    have h4: ¬n∣x:=by omega
    have:=Int.tmod_eq_emod (a:=x) (b:=n);rw[if_neg h']at this;omega
  rw[e];exact hK
def QHj:Ctr
 | [.x true [.r p a],.x true [.r q b]]=>some fun K=>a+b+1<=4294967296/\K (rA (p-q) (a+b+1))
 | _=>none
def QHk:Ctr
 | [.x true [.r p a],.x true [.r q b]]=>some fun K=>a+b<=4294967296/\K (rA (Xl p q) (max a b))
 | _=>none
def QHl:Ctr
 | [.x true [.r p a],.x true [.r q b]]=>some fun K=>a+b<=4294967296/\K (rA (JL p q) (max a b))
 | _=>none
def QDh:Ctr
 | [.x false [.v (.int .i64 x)],.x false [.v (.int .i64 n)]]=>some fun K=>(0<n/\n<9223372036854775808)/\K (iA .i64 (x % n))
 | _=>none
theorem ok_rSub:QI 69 QHj:=by
 refine okL Tryz.func69 fun l T hT K hK=> ?_
 unfold QHj at hT;split at hT<;>cases hT
 exact spL QJF QM Tryz.func69 (QWA _ _ _ _ hK.1 K hK.2)
theorem ok_rMin:QI 172 QHk:=by
 refine⟨Qg Tryz.func172 (by kernel_rfl),fun l T hT K hK=> ?_⟩;unfold QHk at hT;split at hT
 ·cases hT
  exact JY (Qn QJF QM Tryz.func172 (by kernel_rfl) (by kernel_rfl) (by rfl) (QWB _ _ _ _ hK.1)) hK.2
 ·cases hT
theorem ok_rMax:QI 173 QHl:=by
 refine⟨Qg Tryz.func173 (by kernel_rfl),fun l T hT K hK=> ?_⟩;unfold QHl at hT;split at hT
 ·cases hT
  exact JY (Qn QJF QM Tryz.func173 (by kernel_rfl) (by kernel_rfl) (by rfl) (QWC _ _ _ _ hK.1)) hK.2
 ·cases hT
theorem QNj:QI 49 QDh:=by
 refine okL Tryz.func49 fun l T hT K hK=> ?_
 unfold QDh at hT;split at hT<;>cases hT
 exact spL QJF QM Tryz.func49 (QSD _ _ hK.1 K hK.2)
def L22:LC:=(69,QHj)::(172,QHk)::(173,QHl)::(49,QDh)::L21
theorem QNk:QF L22:= .cons ok_rSub (.cons ok_rMin (.cons ok_rMax (.cons QNj QUU)))
end Go.Proofs
namespace Go.Proofs
open Go Go.Eng
structure QHm (α:Type)where
 xs:List α
 i:Nat
structure QAy {α:Type}(l:List α)(x:QHm α):Prop where
  len:x.xs.length=l.length
  hi:2*x.i<=l.length+1
  get: ∀p,x.xs[p]? =if p<x.i∨l.length-x.i<=p then l.reverse[p]? else l[p]?
def QNl (l:List UInt8):LI:=fun _=> .inv ⟨QHm UInt8,fun x=>⟨[(0,.x false [.w 1000 0 l.length]),(2,iA .i64 x.i),(3,iA .i64 ((l.length:Int)-1-x.i))],[(1000,QBr x.xs)]⟩,QAy l,fun x=>l.length-x.i,fun _=>0⟩
def Y9 (n:Nat)(qs:List Rat):Blk:= .row 25 3 (qs.map fun q=>[Zw q n])
theorem QAy.step {α:Type}{l:List α}{x:QHm α}(h:QAy l x)(hi:x.i<l.length-1-x.i){a b:α}(ha:x.xs[l.length-1-x.i]? =some a)(hb:x.xs[x.i]? =some b):QAy l ⟨(x.xs.set x.i a).set (l.length-1-x.i) b,x.i+1⟩:=by
 obtain⟨len,_,get⟩:=h;refine⟨by simpa using len,by simp only;omega,fun p=> ?_⟩;simp only;by_cases h1:p=l.length-1-x.i
 ·subst h1;rw[List.getElem?_set,if_pos rfl,if_pos (by rw[List.length_set];omega),if_pos (by omega),Zm (by omega),<-hb,get,if_neg (by omega)];congr 1;omega
 ·rw[List.getElem?_set_ne (by omega)];by_cases h2:p=x.i
  ·subst h2;rw[List.getElem?_set,if_pos rfl,if_pos (by omega),if_pos (by omega),Zm (by omega),<-ha,get,if_neg (by omega)]
  ·rw[List.getElem?_set_ne (by omega),get];by_cases h3:p<x.i∨l.length-x.i<=p
   ·rw[if_pos h3,if_pos (by omega)]
   ·rw[if_neg h3,if_neg (by omega)]
theorem QAy.done {α:Type}{l:List α}{x:QHm α}(h:QAy l x)(hi: ¬(x.i:Int)<(l.length:Int)-1-x.i):x.xs=l.reverse:=by
 obtain⟨len,h1,get⟩:=h;apply List.ext_getElem?
 intro p;rw[get];split
 ·rfl
 ·rename_i h3;have hp:p<l.length:=by omega
  rw[Zm hp];congr 1;omega
theorem QAy.start {α:Type}(l:List α):QAy l ⟨l,0⟩:=⟨rfl,by simp,fun p=>by
 simp only;split
 ·rename_i h;rw[List.getElem?_eq_none (by omega),List.getElem?_eq_none (by rw[Zq];omega)]
 ·rfl⟩
set_option maxHeartbeats 1000000 in
theorem QWD (l:List UInt8)(hl:l.length<=1099511627776):QK (YW (X:=Unit) (mkT L22 M15 X4) (oF Tryz.f179) (QNl l) Tryz.f179 [.x false [.w 1000 0 l.length]] [(1000,QBr l)] (fun _=>True) (fun _=>⟨[],[(1000,QBr l.reverse)]⟩)):=by
 refine HV (((∃(x:QHm UInt8),(QAy l x/\OfNat.ofNat 0=0)/\0=0/\l.length=l.length/\0=Za x.i/\Zb.wrap (Za l.length-1)=Za l.length-1-Za x.i/\5=5/\1=1/\(Ze QN l=Ze QN x.xs∨QE (Ze QN l) (Ze QN x.xs))/\True)/\∀(x:QHm UInt8),QAy l x->OfNat.ofNat 0=0->bif decide (Za x.i<Za l.length-1-Za x.i)then(0<=Za l.length-1-Za x.i/\Za l.length-1-Za x.i<Za l.length)/\∃(d:Int),ldE (Ze QN x.xs) (0+(Za l.length-1-Za x.i).toNat) 0 1=some [Zg (Zf Zh d)]/\(0<=Za x.i/\Za x.i<Za l.length)/\∃(d_1:Int),ldE (Ze QN x.xs) (0+(Za x.i).toNat) 0 1=some [Zg (Zf Zh d_1)]/\(0<=Za x.i/\Za x.i<Za l.length)/\0+(Za x.i).toNat<(Ze QN x.xs).length/\(0<=Za l.length-1-Za x.i/\Za l.length-1-Za x.i<Za l.length)/\0+(Za l.length-1-Za x.i).toNat<((Ze QN x.xs).set (0+(Za x.i).toNat) [Zg (Zf Zh d)]).length/\∃(x':QHm UInt8),(QAy l x'/\OfNat.ofNat 0=0/\l.length-x'.i<l.length-x.i)/\0=0/\l.length=l.length/\Zb.wrap (Za x.i+1)=Za x'.i/\Zb.wrap (Za l.length-1-Za x.i-1)=Za l.length-1-Za x'.i/\5=5/\1=1/\(((Ze QN x.xs).set (0+(Za x.i).toNat) [Zg (Zf Zh d)]).set (0+(Za l.length-1-Za x.i).toNat) [Zg (Zf Zh d_1)]=Ze QN x'.xs∨QE (((Ze QN x.xs).set (0+(Za x.i).toNat) [Zg (Zf Zh d)]).set (0+(Za l.length-1-Za x.i).toNat) [Zg (Zf Zh d_1)]) (Ze QN x'.xs))/\True else ∃(_x_1:Unit),True/\5=5/\1=1/\(Ze QN x.xs=Ze QN l.reverse∨QE (Ze QN x.xs) (Ze QN l.reverse))/\True)) ?_
 simp only[Zl,R0,R1,Nat.zero_add,R4];refine⟨⟨⟨l,0⟩,.start l,rfl,by rw[w64 (by omega)];simp,.inl rfl⟩,fun x hx=>QC (fun hp=> ?_) (fun hp=> ?_)⟩
 ·have hp:=R5 hp;have len:=hx.len;have hi:=hx.hi;obtain⟨a,ha⟩: ∃a,x.xs[l.length-1-x.i]? =some a:=⟨_,List.getElem?_eq_getElem (by omega)⟩
  obtain⟨b,hb⟩: ∃b,x.xs[x.i]? =some b:=⟨_,List.getElem?_eq_getElem (by omega)⟩
  have e1:((l.length:Int)-1-x.i).toNat=l.length-1-x.i:=by omega
  have ld: ∀{j:Nat} {c:UInt8},x.xs[j]? =some c->ldE (x.xs.map QN) j 0 1=some [.v (.int .u8 (c.toNat:Int))]:=fun h=>by
   simp only[ldE,List.getElem?_map,h];rfl
  simp only[e1,Zs];refine⟨by omega,_,ld ha,by omega,_,ld hb,by omega,by rw[List.length_map];omega,by omega,by rw[List.length_set,List.length_map];omega,_,⟨hx.step (by omega) ha hb,by simp only;omega⟩,?_,?_,.inl ?_⟩
  ·rw[w64 (by omega)];simp
  ·rw[w64 (by omega)];simp only;omega
  ·rw[QAt _ _ _ _ rfl,QAt _ _ _ _ rfl]
 ·have hp:=R6 hp;rw[hx.done hp];exact⟨(),.inl rfl⟩
def QHn:Xt:=fun as0 H _=>match as0 with
 | [.x false [.w k 0 n]]=>match H k with
  | some (.row t 1 xs)=>bif t.beq 5 then
    some fun K=> ∃bs:List UInt8,xs=bs.map QN/\n=bs.length/\bs.length<=1099511627776/\K (.t []) (XO [(1000,k)] (QR [(1000,QBr bs.reverse)]) H)
    else none
  | _=>none
 | _=>none
theorem QSE:Y8 179 QHn:=by
 refine⟨Qg Tryz.func179 (by kernel_rfl),fun l H d T hT K hK=> ?_⟩;unfold QHn at hT;split at hT
 ·rename_i k n;split at hT
  ·rename_i t xs e1;cases hb:t.beq 5 with
   | false=>rw[hb]at hT;cases hT
   | true=>
    rw[hb]at hT;cases hT
    have ht:=Nat.eq_of_beq_eq_true hb;subst ht;obtain⟨bs,rfl,rfl,hl,hK⟩:=hK;refine XZ (R:=[(1000,k)]) (N:=[]) (Hl:=[(1000,QBr bs)]) (QS QNk GC Qm) QM Tryz.func179 (by kernel_rfl) (by kernel_rfl) (by rfl)
     (as0:=[.x false [.w 1000 0 bs.length]]) ?_ (V6 e1 rfl rfl) rfl (by simp) (by simp) (fun _ h=>by cases h) (fun x=>⟨fun p hp=> ?_,fun p hp b hb=> ?_⟩) (QWD bs hl) (fun _ _=> ?_)
    ·simp[JX,JW,JP,lkB]
    ·simp at hp;subst hp;exact fun h=>by have h':some (QBr _)=none:=h;cases h'
    ·simp at hp;subst hp;have h':some (QBr _)=some b:=hb;cases h';rfl
    ·exact⟨_,rfl,hK⟩
  ·cases hT
 ·cases hT
def M23:List (Nat×Xt):=(179,QHn)::M15
theorem QCV:Xm M23:= .cons QSE GC
structure QSF where
 m:Nat
 bs:List UInt8
def QHo (n:Nat):LI:=fun _=> .inv ⟨QSF,fun x=>⟨[(0,iA .i64 x.m),(3,.x false [.w 500 0 x.bs.length])],[(500,QBr x.bs)]⟩,fun x=>QA n=QA x.m++x.bs.reverse/\x.m<=n,fun x=>x.m,fun _=>0⟩
def GG (n:Nat)(K:AV->Prop):Prop:=QP (mkT L22 M23 X4) (oF Tryz.f128) (QHo n) Tryz.f128 [iA .i64 n] K
theorem QAz (n:Nat)(K:AV->Prop):GG n K=((∃(x:QSF),((QA n=QA x.m++x.bs.reverse/\x.m<=n)/\OfNat.ofNat 0=0)/\Za n=Za x.m/\Value.slice none 0 0=Value.slice none 0 0/\0=0/\x.bs.length=0/\Ze QN x.bs=[]/\True)/\∀(x:QSF),QA n=QA x.m++x.bs.reverse/\x.m<=n->OfNat.ofNat 0=0->bif decide (Za x.m>0)then(256:Int)≠0/\((x.bs.length+1)*1<=140737488355328/\x.bs.length+1<=9223372036854775807)/\(256:Int)≠0/\∃(x':QSF),((QA n=QA x'.m++x'.bs.reverse/\x'.m<=n)/\OfNat.ofNat 0=0/\x'.m<x.m)/\Zb.wrap ((Za x.m).tdiv 256)=Za x'.m/\0=0/\x.bs.length+1=x'.bs.length/\5=5/\1=1/\(List.take x.bs.length (Ze QN x.bs)++[[Zg (Zf Zh (Zh.wrap ((Za x.m).tmod 256)))]]=Ze QN x'.bs∨QE (List.take x.bs.length (Ze QN x.bs)++[[Zg (Zf Zh (Zh.wrap ((Za x.m).tmod 256)))]]) (Ze QN x'.bs))/\True else ∃(bs:List UInt8),Ze QN x.bs=Ze QN bs/\x.bs.length=bs.length/\bs.length<=1099511627776/\∃(bs_1:List UInt8),List.take x.bs.length (List.drop 0 (Ze QN bs.reverse))=Ze QN bs_1/\K (Zj false [Zg (Zr (Zc (Zk bs_1)))])):=by kernel_rfl
theorem QNm (n:Nat)(hn:n<9223372036854775808):QK (GG n (NatIs n 63)):=by
 refine⟨?_⟩;rw[QAz];simp only[Zl,R0,R1,R4];have hlen:(QA n).length<=63:=XK (show n<2^63 from hn);refine⟨⟨⟨n,[]⟩,⟨by simp,Nat.le_refl _⟩,rfl,rfl,rfl⟩,fun x hx=>QC (fun hp=> ?_) (fun hp=> ?_)⟩
 ·obtain⟨m,bs⟩:=x;obtain⟨h1,h2⟩:=hx;simp only at h1 h2 hp⊢;have hp:=R5 hp;have hl:=congrArg List.length h1;rw[List.length_append,Zq]at hl;have e1:(m:Int).tdiv 256=((m/256:Nat):Int):=by rw[te (by omega)];omega
  have e2:Zh.wrap ((m:Int).tmod 256)=((UInt8.ofNat (m % 256)).toNat:Int):=by
   rw[tm (by omega),UInt8.toNat_ofNat',wu8 (by omega)];omega
  rw[e1,e2,w64 (by omega)];refine⟨by omega,by omega,by omega,⟨m/256,bs++[UInt8.ofNat (m % 256)]⟩,⟨⟨?_,by simp only;omega⟩,by simp only;omega⟩,rfl,by simp,.inl ?_⟩
  ·simp only;rw[h1,Xy m (by omega)];simp
  ·simp only;rw[List.take_of_length_le (by simp),List.map_append];rfl
 ·obtain⟨m,bs⟩:=x;obtain⟨h1,h2⟩:=hx;simp only at h1 h2 hp⊢;have hp:=R6 hp;have hm:m=0:=by omega
  subst hm;have hl:=congrArg List.length h1;rw[List.length_append,Zq]at hl;rw[Q1,List.nil_append]at h1;refine⟨bs,rfl,rfl,by omega,bs.reverse,?_,hn,.inr ⟨_,rfl,h1.symm⟩⟩;rw[List.drop_zero,List.take_of_length_le (by simp)]
def QA0:Ctr
 | [.x false [.v (.int .i64 n)]]=>some fun K=>(0<=n/\n<9223372036854775808)/\K (bA n.toNat 63)
 | _=>none
theorem QLM:QI 128 QA0:=by
 refine⟨Qg Tryz.func128 (by kernel_rfl),fun l T hT K hK=> ?_⟩;unfold QA0 at hT;split at hT
 ·cases hT
  obtain⟨⟨h0,h1⟩,hK⟩:=hK;rename_i n;obtain⟨n,rfl⟩:=Int.eq_ofNat_of_zero_le h0;exact Wg (Qn (QS QNk QCV Qm) QM Tryz.func128 (by kernel_rfl) (by kernel_rfl) (by rfl) (QNm n (by omega))) hK
 ·cases hT
def L24:LC:=(128,QA0)::L22
theorem QUV:QF L24:= .cons QLM QNk
structure OfX where
 a:Nat
 b:Nat
def VX:List Ch:=[.v (.bool false),.v (.string ⟨⟨[]⟩⟩),.v (.string ⟨⟨[]⟩⟩)]
def QSG (num den:Int):LI:=fun _=> .inv ⟨OfX,fun x=>⟨[(0,iA .i64 num),(1,iA .i64 den),(4,.x false [.p 4 0]),(5,iA .i64 x.a),(6,iA .i64 x.b)],[(4,.box 25 VX)]⟩,fun x=>Zi x.a x.b=Zi num.natAbs den.natAbs/\x.a<9223372036854775808/\x.b<9223372036854775808,fun x=>x.b,fun _=>0⟩
def QFh (num den:Int)(K:AV->Prop):Prop:=QP (mkT L24 M23 X4) (oF Tryz.f70) (QSG num den) Tryz.f70 [iA .i64 num,iA .i64 den] K
theorem QFi (num:Int)(den:Int)(K:AV->Prop):QFh num den K=((∃(x:OfX),((x.a.gcd x.b=num.natAbs.gcd den.natAbs/\x.a<9223372036854775808/\x.b<9223372036854775808)/\OfNat.ofNat 0=0)/\num=num/\den=den/\0=0/\(bif true then if Zb.wrap (0-num)>num then Zb.wrap (0-num)else num else if Zb.wrap (0-num)<num then Zb.wrap (0-num)else num)=Za x.a/\den=Za x.b/\25=25/\false=false/\Zc (Zk [])=Zc (Zk [])/\Zc (Zk [])=Zc (Zk [])/\True)/\∀(x:OfX),x.a.gcd x.b=num.natAbs.gcd den.natAbs/\x.a<9223372036854775808/\x.b<9223372036854775808->OfNat.ofNat 0=0->bif decide (Za x.b>0)then Za x.b≠0/\∃(x':OfX),((x'.a.gcd x'.b=num.natAbs.gcd den.natAbs/\x'.a<9223372036854775808/\x'.b<9223372036854775808)/\OfNat.ofNat 0=0/\x'.b<x.b)/\num=num/\den=den/\0=0/\Za x.b=Za x'.a/\(Za x.a).tmod (Za x.b)=Za x'.b/\25=25/\false=false/\Zc (Zk [])=Zc (Zk [])/\Zc (Zk [])=Zc (Zk [])/\True else Za x.a≠0/\Za x.a≠0/\((0<=bif true then if Zb.wrap (0-Zb.wrap (num.tdiv (Za x.a)))>Zb.wrap (num.tdiv (Za x.a))then Zb.wrap (0-Zb.wrap (num.tdiv (Za x.a)))else Zb.wrap (num.tdiv (Za x.a))else if Zb.wrap (0-Zb.wrap (num.tdiv (Za x.a)))<Zb.wrap (num.tdiv (Za x.a))then Zb.wrap (0-Zb.wrap (num.tdiv (Za x.a)))else Zb.wrap (num.tdiv (Za x.a)))/\(bif true then if Zb.wrap (0-Zb.wrap (num.tdiv (Za x.a)))>Zb.wrap (num.tdiv (Za x.a))then Zb.wrap (0-Zb.wrap (num.tdiv (Za x.a)))else Zb.wrap (num.tdiv (Za x.a))else if Zb.wrap (0-Zb.wrap (num.tdiv (Za x.a)))<Zb.wrap (num.tdiv (Za x.a))then Zb.wrap (0-Zb.wrap (num.tdiv (Za x.a)))else Zb.wrap (num.tdiv (Za x.a)))<9223372036854775808)/\(0<=Zb.wrap (den.tdiv (Za x.a))/\Zb.wrap (den.tdiv (Za x.a))<9223372036854775808)/\K (Zj true [Zg (Zd (decide (Zb.wrap (num.tdiv (Za x.a))<0))),Zv (bif true then if Zb.wrap (0-Zb.wrap (num.tdiv (Za x.a)))>Zb.wrap (num.tdiv (Za x.a))then Zb.wrap (0-Zb.wrap (num.tdiv (Za x.a)))else Zb.wrap (num.tdiv (Za x.a))else if Zb.wrap (0-Zb.wrap (num.tdiv (Za x.a)))<Zb.wrap (num.tdiv (Za x.a))then Zb.wrap (0-Zb.wrap (num.tdiv (Za x.a)))else Zb.wrap (num.tdiv (Za x.a))).toNat 63,Zv (Zb.wrap (den.tdiv (Za x.a))).toNat 63])):=by kernel_rfl
theorem QJG {n:Int}(h0: -9223372036854775808<n)(h1:n<9223372036854775808):(bif true then if Zb.wrap (0-n)>n then Zb.wrap (0-n)else n else if Zb.wrap (0-n)<n then Zb.wrap (0-n)else n)=(n.natAbs:Int):=by
 simp only[R7];rw[w64 (by omega)];split<;>omega
theorem QFj (num:Int)(d:Nat):mkRat num d=XN (decide (num<0)) num.natAbs d:=by
 unfold XN;congr 1;by_cases h:num<0
 ·simp only[h,decide_true,R7];omega
 ·simp only[h,decide_false,R8];omega
theorem QHp (num:Int)(d:Nat)(hd:d≠0):(mkRat num d).num=num.tdiv (Zi num.natAbs d:Nat):=by
 rw[QFj,Hh _ _ _ hd];by_cases h:num<0
 ·simp only[h,decide_true,R7];have e:num= -(num.natAbs:Int):=by omega
  conv=>rhs;rw[e,Int.neg_tdiv]
  simp
 ·simp only[h,decide_false,R8];have e:num=(num.natAbs:Int):=by omega
  conv=>rhs;rw[e]
  rw[te (by omega)];simp
theorem QNn (num:Int)(d:Nat)(hd:d≠0):(mkRat num d).den=d/Zi num.natAbs d:=by
 rw[QFj,QCE _ _ _ hd]
theorem QY7 (num:Int)(den:Nat)(h0: -9223372036854775808<num/\num<9223372036854775808)(h1:0<den/\den<9223372036854775808):QK (QFh num den (RatIs (mkRat num den) 63)):=by
 refine⟨?_⟩;rw[QFi];rw[QJG h0.1 h0.2];simp only[Zl,R0,R1,R4];refine⟨⟨⟨num.natAbs,den⟩,⟨by simp,by simp only;omega,by simp only;omega⟩,rfl,rfl⟩,fun x hx=>QC (fun hp=> ?_) (fun hp=> ?_)⟩
 ·obtain⟨hg,ha,hb⟩:=hx;have hp:=R5 hp;have hm:=Nat.mod_lt x.a (by omega:0<x.b);refine⟨by omega,⟨x.b,x.a % x.b⟩,⟨⟨?_,hb,by simp only;omega⟩,hm⟩,rfl,by rw[tm (by omega)];simp⟩;rw[<-hg,Nat.gcd_comm x.b,<-Nat.gcd_rec,Nat.gcd_comm]
 ·obtain⟨hg,ha,hb⟩:=hx;have hp:=R6 hp;have hb0:x.b=0:=by omega
  rw[hb0,Nat.gcd_zero_right,Int.natAbs_natCast]at hg;have hd:den≠0:=by omega
  have hpos:0<Zi num.natAbs den:=Nat.gcd_pos_of_pos_right _ (by omega);rw[hg];have en:=QHp num den hd;have ed:=QNn num den hd;have e1:(den:Int).tdiv (Zi num.natAbs den:Nat)=((den/Zi num.natAbs den:Nat):Int):=by rw[te (by omega)];simp
  have hle:den/Zi num.natAbs den<=den:=Zp _ _;have hle2:(num.tdiv (Zi num.natAbs den:Nat)).natAbs<=num.natAbs:=by
   rw[Int.natAbs_tdiv,Int.natAbs_natCast];exact Zp _ _
  rw[e1];generalize num.tdiv (Zi num.natAbs den:Nat)=t at en hle2⊢;generalize den/Zi num.natAbs den=d at ed hle⊢;rw[w64 (n:=t) (by omega),w64 (n:=(d:Int)) (by omega),QJG (by omega) (by omega),Zs,Zs];refine⟨by omega,by omega,by omega,by omega,_,_,_,rfl,by rw[en],?_,?_⟩
  ·rw[en];exact .b (by show _<9223372036854775808;omega)
  ·rw[ed];exact .b (by show _<9223372036854775808;omega)
def QFk:Ctr
 | [.x false [.v (.int .i64 n)],.x false [.v (.int .i64 d)]]=>some fun K=>((-9223372036854775808<n/\n<9223372036854775808)/\0<d/\d<9223372036854775808)/\K (rA (mkRat n d.toNat) 63)
 | _=>none
theorem QWE:QI 70 QFk:=by
 refine⟨Qg Tryz.func70 (by kernel_rfl),fun l T hT K hK=> ?_⟩;unfold QFk at hT;split at hT
 ·cases hT
  obtain⟨⟨h0,h1,h2⟩,hK⟩:=hK;rename_i n d;obtain⟨d,rfl⟩:=Int.eq_ofNat_of_zero_le (by omega:0<=d);exact QFd (Qn (QS QUV QCV Qm) QM Tryz.func70 (by kernel_rfl) (by kernel_rfl) (by rfl) (QY7 n d h0 (by omega))) hK
 ·cases hT
def L25:LC:=(70,QFk)::L24
theorem QNo:QF L25:= .cons QWE QUV
def L26:LC:=L25
theorem QNp:QF L26:=QNo
end Go.Proofs
namespace Go.Proofs
open Go Go.Eng
def lR (n:Nat)(qs:List Rat):List (List Ch):=qs.map fun q=>[Zw q n]
def sR (n:Nat)(qs:List Rat):AV:= .x false [.s 3 (lR n qs)]
theorem QNq {n:Int}{d:Nat}(h:0<=n):0<=mkRat n d:=Rat.num_nonneg.1 (by
 by_cases hd:d=0
 ·subst hd;simp
 ·rw[QHp _ _ hd];exact Int.tdiv_nonneg h (Int.natCast_nonneg _))
theorem YA {n:Int}{d:Nat}(h:0<n)(hd:d≠0):0<mkRat n d:=by
 refine Rat.lt_iff_le_and_ne.2 ⟨QNq (by omega),fun e=> ?_⟩;have:=(Rat.mkRat_eq_zero hd).1 e.symm;omega
theorem XH (n:Nat)(qs:List Rat):(lR n qs).length=qs.length:=by simp[lR]
theorem Xk {n:Nat}{qs:List Rat}{i:Nat}{q:Rat}(h:qs[i]? =some q):ldE (lR n qs) i 0 3=some [.r q n]:=by
 simp only[ldE,lR,List.getElem?_map,h];rfl
end Go.Proofs
