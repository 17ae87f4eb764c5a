/- Rationals, first part: constants as numbers; a rational out of its parts. -/
import Derived.Test.YtjdhppdpbkoihaaGreatDoorN3
open Int renaming ofNat → Za, ofNat_eq_natCast → Zl, toNat_natCast → Zs
open Go.IntKind renaming i64 → Zb, u8 → Zh
open ByteArray renaming mk → Zc
open Go.Value renaming bool → Zd, int → Zf, string → Zr
open List renaming map → Ze, getElem?_reverse → Zm, length_reverse → Zq
open Go.Eng.Ch renaming v → Zg, b → Zv, r → Zw
open Nat renaming gcd → Zi, le_max_right → Zn, le_max_left → Zo, div_le_self → Zp, mul_ne_zero → Zt, div_one → Zu
open Go.Eng.AV renaming x → Zj
open Array renaming mk → Zk
namespace Go.Proofs
open Go Go.Eng
def QN0 (a:AV):AV:=match a with
  | .x false [.v (.string ⟨⟨l⟩⟩)]=>match l with
    | []=> .x false [.b 0 0]
    | [x]=>bif Nat.beq x.toNat 0 then a else .x false [.b x.toNat 8]
    | _=>a
  | _=>a
theorem QH2 {w:World}{O:Nat->Prop}{ρ:Env}{a:AV}{v:Value}(h:ConcV w O ρ a v):ConcV w O ρ (QN0 a) v:=by
 unfold QN0;split
 ·split
  ·exact Kx (m:=0) (n:=0) (by rw[Q6];exact h) (by decide)
  ·rename_i x;cases hb:Nat.beq x.toNat 0 with
   | true=>exact h
   | false=>
    have h0:x.toNat≠0:=fun e=>by rw[e]at hb;cases hb
    have hx:=x.toNat_lt;refine Kx (m:=x.toNat) ?_ (by simpa using hx)
    have e:QA x.toNat=[x]:=by
     rw[X2 _ h0,show x.toNat/256=0 by omega,Q6];simp
    rw[e];exact h
  ·exact h
 ·exact h
def QN1:List AV->List AV
 | []=>[]
 | a::l=>QN0 a::QN1 l
theorem QH3 {w:World}{O:Nat->Prop}{ρ:Env}{l:List AV}{vs:List Value}(h:Qs w O ρ l vs):Qs w O ρ (QN1 l) vs:=by
 induction h with
 | nil=>exact .nil
 | cons h _ ih=>exact .cons (QH2 h) ih
def nrm (c:Ctr):Ctr:=fun l=>c (QN1 l)
theorem _root_.Go.Eng.CtrOK.nrm {P:Program}{g:Nat}{tab:List Value}{f:Nat}{c:Ctr}(h:CtrOK P g tab f c):CtrOK P g tab f (Proofs.nrm c):=
 ⟨h.enter,fun _ T hT K hK=>Spec.args (h.sound _ T hT K hK) fun _ _ _ hc=>QH3 hc⟩
def RatIs (q:Rat)(n:Nat)(av:AV):Prop:= ∃s x y,av= .x true [.v (.bool s),x,y]/\s=decide (q.num<0)/\NatIs q.num.natAbs n (.x false [x])/\NatIs q.den n (.x false [y])
theorem RatIs.conc {w:World}{O:Nat->Prop}{ρ:Env}{q:Rat}{n:Nat}{av:AV}{v:Value}(h:RatIs q n av)(hc:ConcV w O ρ av v):ConcV w O ρ (.x true [.r q n]) v:=by
 obtain⟨s,x,y,rfl,rfl,hx,hy⟩:=h;obtain⟨vals,h1,h2⟩:=hc;cases h1 with
 | v _ h1=>
  obtain⟨us,rest,rfl,_,k1,k2⟩:=h1.cons;obtain⟨vs,rest2,rfl,_,k3,k4⟩:=k2.cons;cases k4
  have one: ∀{m:Nat} {c:Ch} {us:List Value},NatIs m n (.x false [c])->CC w O ρ [c] us->us=[JI (QA m)]:=by
   intro m c us hn hcc;obtain⟨_,⟨n',e⟩ | ⟨l,e,rfl⟩⟩:=hn
   ·cases e;cases hcc with | b _ h=>cases h;rfl
   ·cases e;cases hcc with | v _ h=>cases h;rfl
  have e1:=one hx k1;have e2:=one hy k3;subst e1 e2;exact⟨_,.r ⟨hx.1,hy.1⟩ .nil,h2⟩
theorem QF0 {P:Program}{g:Nat}{tab:List Value}{f:Nat}{l:List AV}{q:Rat}{n:Nat}{K:AV->Prop}(h:Eng.Spec P g tab f l (RatIs q n))(hk:K (.x true [.r q n])):Eng.Spec P g tab f l K:=
 Eng.Spec.res h fun _ _ _ _ hn hc=>⟨_,hk,hn.conc hc⟩
theorem QJo {w:World}{O:Nat->Prop}{ρ:Env}{q:Rat}{n:Nat}{l:List AV}{vals:List Value}(h:Qs w O ρ (.x true [.r q n]::l) vals):Bd n q:=by
 cases h with
 | cons h _=>obtain⟨vs,h1,_⟩:=h;cases h1 with | r hb _=>exact hb
theorem Bd.num {n:Nat}{q:Rat}(h:Bd n q):q.num.natAbs<2^n:=h.1
theorem Bd.den {n:Nat}{q:Rat}(h:Bd n q):q.den<2^n:=h.2
def L18:LC:=(68,nrm QJn)::(35,nrm QJf)::(127,nrm QJg)::(94,nrm QFi)::(69,nrm QJl)::(93,nrm QJe)::L17
noncomputable def T18:Qc:=mkT L18 M15 X4
theorem QUL:QG L18:= .cons ok_Gcd.nrm (.cons ok_Add.nrm (.cons ok_Sub.nrm (.cons ok_Mul.nrm (.cons ok_Div.nrm (.cons ok_Cmp.nrm QYb)))))
theorem QUM:XP T18:=QV QUL Gh Qo
def QCu (K:AV->Prop):Prop:=QU T18 (oF Tryz.f67) noL Tryz.f67 [] K
theorem QDy (K:AV->Prop):QCu K=(K (Zj true [Zg (Zd false),Zg (Zr (Zc (Zk []))),Zg (Zr (Zc (Zk [OfNat.ofNat 1])))])):=by kernel_rfl
theorem QH4:QA 1=[1]:=rfl
theorem QJp {m:Nat}:QA m=[1]↔m=1:=⟨fun h=>Km (by rw[h];rfl),fun h=>by rw[h];rfl⟩
set_option maxHeartbeats 1000000 in
theorem QVt (q:Rat)(n:Nat)(K:AV->Prop)(hn:n<=4294967296)(hK:K (.x false [.v (.bool true)])):QM (QU T18 (oF Tryz.f106) noL Tryz.f106 [.x true [.r q n]] K):=by
 refine HV ((bif decide (QA q.den=[])then K (Zj false [Zg (Zd false)])else ∃(b:UInt8),((0:Int)<=0/\(QA q.den)[0]?=some b)/\bif Za b.toNat==0 then K (Zj false [Zg (Zd false)])else bif decide (QA q.num.natAbs=[])then bif decide (q.num<0)then K (Zj false [Zg (Zd false)])else bif !decide (QA q.den=(Zc #[1]).data.toList)then K (Zj false [Zg (Zd false)])else bif !decide (QA q.num.natAbs=(Zc #[]).data.toList)then ∃(b:UInt8),((0:Int)<=0/\(QA q.num.natAbs)[0]?=some b)/\bif Za b.toNat==0 then K (Zj false [Zg (Zd false)])else bif decide (QA q.den=[OfNat.ofNat 1])then K (Zj false [Zg (Zd true)])else(n<=4294967296/\n<=4294967296)/\K (Zj false [Zg (Zd (decide (QA (q.num.natAbs.gcd q.den)=(Zc #[1]).data.toList)))])else bif decide (QA q.den=[OfNat.ofNat 1])then K (Zj false [Zg (Zd true)])else(n<=4294967296/\n<=4294967296)/\K (Zj false [Zg (Zd (decide (QA (q.num.natAbs.gcd q.den)=(Zc #[1]).data.toList)))])else bif !decide (QA q.num.natAbs=(Zc #[]).data.toList)then ∃(b:UInt8),((0:Int)<=0/\(QA q.num.natAbs)[0]?=some b)/\bif Za b.toNat==0 then K (Zj false [Zg (Zd false)])else bif decide (QA q.den=[OfNat.ofNat 1])then K (Zj false [Zg (Zd true)])else(n<=4294967296/\n<=4294967296)/\K (Zj false [Zg (Zd (decide (QA (q.num.natAbs.gcd q.den)=(Zc #[1]).data.toList)))])else bif decide (QA q.den=[OfNat.ofNat 1])then K (Zj false [Zg (Zd true)])else(n<=4294967296/\n<=4294967296)/\K (Zj false [Zg (Zd (decide (QA (q.num.natAbs.gcd q.den)=(Zc #[1]).data.toList)))]))) ?_
 have hd:=q.den_nz;obtain⟨b,hb,hb0⟩:=KJ hd;have hbb:((b.toNat:Int)==0)=false:=by simp;omega
 have hg:Zi q.num.natAbs q.den=1:=q.reduced;have e1:((Zc #[(1:UInt8)]).data.toList)=[1]:=rfl;have e2:((Zc #[]).data.toList)=([]:List UInt8):=rfl;have tail:bif decide (QA q.den=[1])then K (.x false [.v (.bool true)])else(n<=4294967296/\n<=4294967296)/\K (.x false [.v (.bool (decide (QA (Zi q.num.natAbs q.den)=[1])))]):=by
  refine QF (fun _=>hK) (fun _=>⟨⟨hn,hn⟩,?_⟩);rw[hg,QH4];exact hK
 simp only[];refine QF (fun h=>absurd (Qq.1 (R5 h)) hd) (fun _=>⟨b,⟨by omega,hb⟩,?_⟩);simp only[Zl,hbb,R8];refine QF (fun h=> ?_) (fun h=> ?_)
 ·have h:=Qq.1 (R5 h);have h0: ¬q.num<0:=by omega
  have h1:q.den=1:=by rw[h,Nat.gcd_zero_left]at hg;exact hg
  have h2:QA q.num.natAbs=[]:=Qq.2 h;simp only[h0,decide_false,R8,h1,h2,QH4,decide_true,Bool.not_true];rw[h1,QH4]at tail;exact tail
 ·have h:=R6 h;have hz:q.num.natAbs≠0:=fun e=>h (Qq.2 e);obtain⟨c,hc,hc0⟩:=KJ hz;have hcc:((c.toNat:Int)==0)=false:=by simp;omega
  simp only[h,decide_false,R7,Bool.not_false];refine⟨c,⟨by omega,hc⟩,?_⟩;simp only[hcc,R8];exact tail
theorem QVu:QM (QCu (RatIs 0 1)):=by
 refine⟨?_⟩;rw[QDy];exact⟨_,_,_,rfl,rfl,⟨by decide,.inr ⟨[],rfl,rfl⟩⟩,⟨by decide,.inr ⟨[1],rfl,rfl⟩⟩⟩
def QH5:Ctr
 | [.x true [.r _ n]]=>some fun K=>n<=4294967296/\K (.x false [.v (.bool true)])
 | _=>none
def QH6:Ctr
 | []=>some fun K=>K (.x true [.r 0 1])
 | _=>none
theorem QSG:QI 106 QH5:=by
 refine okL Tryz.func106 fun l T hT K hK=> ?_
 unfold QH5 at hT;split at hT<;>cases hT
 exact spL QUM QN Tryz.func106 (QVt _ _ K hK.1 hK.2)
theorem QSH:QI 67 QH6:=by
 refine⟨Qf Tryz.func67 (by kernel_rfl),fun l T hT K hK=> ?_⟩;unfold QH6 at hT;split at hT
 ·cases hT
  exact QF0 (Ql QUM QN Tryz.func67 (by kernel_rfl) (by kernel_rfl) (by rfl) QVu) hK
 ·cases hT
def L19:LC:=(106,QH5)::(67,QH6)::L18
noncomputable def T19:Qc:=mkT L19 M15 X4
theorem QUN:QG L19:= .cons QSG (.cons QSH QUL)
theorem QN2:XP T19:=QV QUN Gh Qo
def QCv (s:Bool)(n a d b:Nat)(K:AV->Prop):Prop:=QU T19 (oF Tryz.f33) noL Tryz.f33 [.x false [.v (.bool s)],bA n a,bA d b] K
theorem QDz (s:Bool)(n:Nat)(a:Nat)(d:Nat)(b:Nat)(K:AV->Prop):QCv s n a d b K=(bif decide (QA n=[])then K (Zj true [Zw (OfNat.ofNat 0) 1])else bif !decide (QA d=(Zc #[1]).data.toList)then(a<=4294967296/\b<=4294967296)/\bif !decide (QA (n.gcd d)=(Zc #[1]).data.toList)then(a<=549755813888/\a+b<=549755813888)/\(b<=549755813888/\a+b<=549755813888)/\K (Zj true [Zg (Zd s),Zv (n/n.gcd d) a,Zv (d/n.gcd d) b])else K (Zj true [Zg (Zd s),Zv n a,Zv d b])else K (Zj true [Zg (Zd s),Zv n a,Zv d b])):=by kernel_rfl
def Gj (s:Bool)(m a:Nat)(t:Bool)(n b:Nat)(K:AV->Prop):Prop:=QU T19 (oF Tryz.f96) noL Tryz.f96 [.x false [.v (.bool s)],bA m a,.x false [.v (.bool t)],bA n b] K
theorem QBQ (s:Bool)(m:Nat)(a:Nat)(t:Bool)(n:Nat)(b:Nat)(K:AV->Prop):Gj s m a t n b K=(True/\bif s==t then(a<=(549755813888:Nat)/\b<=(549755813888:Nat))/\K (AV.t [(false,[Zg (Zd s)]),(false,[Zv (m+n) (max a b+(1:Nat))])])else(a<=(549755813888:Nat)/\b<=(549755813888:Nat))/\bif(bif decide (m<n)then(1:Int)else(0:Int))==(0:Int)then K (AV.t [(false,[Zg (Zd s)]),(false,[Zv (bif decide (m<n)then(0:Nat)else m-n) a])])else(b<=(549755813888:Nat)/\a<=(549755813888:Nat))/\K (AV.t [(false,[Zg (Zd t)]),(false,[Zv (bif decide (n<m)then(0:Nat)else n-m) b])])):=by kernel_rfl
def RatR (q:Rat)(n:Nat)(av:AV):Prop:=RatIs q n av∨ ∃m,m<=n/\av= .x true [.r q m]
theorem RatR.conc {w:World}{O:Nat->Prop}{ρ:Env}{q:Rat}{n:Nat}{av:AV}{v:Value}(h:RatR q n av)(hc:ConcV w O ρ av v):ConcV w O ρ (.x true [.r q n]) v:=by
 rcases h with h | ⟨m,hm,rfl⟩
 ·exact h.conc hc
 ·obtain⟨vs,h1,h2⟩:=hc;cases h1 with
  | r hb h=>exact⟨_,.r (hb.mono hm) h,h2⟩
theorem Jb {P:Program}{g:Nat}{tab:List Value}{f:Nat}{l:List AV}{q:Rat}{n:Nat}{K:AV->Prop}(h:Eng.Spec P g tab f l (RatR q n))(hk:K (.x true [.r q n])):Eng.Spec P g tab f l K:=
 Eng.Spec.res h fun _ _ _ _ hn hc=>⟨_,hk,hn.conc hc⟩
theorem RatR.of {q:Rat}{n m:Nat}(h:m<=n):RatR q n (.x true [.r q m]):= .inr ⟨m,h,rfl⟩
theorem QYc (q:Rat)(n:Nat)(K:AV->Prop)(hn:n<=4294967296)(hK:K (.x true [.r q n])):QM (QU T19 (oF Tryz.f65) noL Tryz.f65 [.x true [.r q n]] K):=by
 refine HV ((n<=4294967296/\K (Zj true [Zw q n]))) ?_
 exact⟨hn,hK⟩
theorem QN3 {s:Bool}{n d a b:Nat}(hd:d≠0)(hn0:n≠0)(hn:n<2^a)(hdb:d<2^b):RatIs (Xh s n d) (max a b) (.x true [.v (.bool s),.b (n/Zi n d) a,.b (d/Zi n d) b]):=by
 have h1:=VW (Zo a b);have h2:=VW (Zn a b);refine⟨_,_,_,rfl,(QLU s n d hd hn0).symm,?_,?_⟩
 ·rw[QDe s n d hd];have:=Zp n (Zi n d);exact .b (by omega)
 ·rw[QCl s n d hd];have:=Zp d (Zi n d);exact .b (by omega)
theorem QVv (s:Bool)(n a d b:Nat)(ha:a<=4294967296)(hb:b<=4294967296)(hn:n<2^a)(hdb:d<2^b)(hd:d≠0):QM (QCv s n a d b (RatR (Xh s n d) (max a b))):=by
 refine⟨?_⟩;rw[QDz];have hb1:1<=b:=by
  rcases Nat.eq_zero_or_pos b with h | h
  ·subst h;rw[Nat.pow_zero]at hdb;omega
  ·exact h
 have e1:((Zc #[(1:UInt8)]).data.toList)=[1]:=rfl;simp only[];refine QF (fun h=> ?_) (fun h=> ?_)
 ·have h:=Qq.1 (R5 h);subst h;rw[QHb];exact .of (by omega)
 ·have hn0:n≠0:=fun e=>R6 h (Qq.2 e);have main:=QN3 (s:=s) hd hn0 hn hdb;refine QF (fun h1=>⟨⟨ha,hb⟩,QF (fun h2=> ?_) (fun h2=> ?_)⟩) (fun h1=> ?_)
  ·exact⟨by omega,by omega,.inl main⟩
  ·have h2:Zi n d=1:=QJp.1 (by simpa using h2);rw[h2,Zu,Zu]at main;exact .inl main
  ·have h1:d=1:=QJp.1 (by simpa using h1);subst h1;rw[Nat.gcd_one_right,Zu,Zu]at main;exact .inl main
def SgnR (r:Bool×Nat)(c:Nat)(av:AV):Prop:= ∃x,av= .t [(false,[.v (.bool r.1)]),(false,[x])]/\NatIs r.2 c (.x false [x])
theorem SgnR.conc {w:World}{O:Nat->Prop}{ρ:Env}{r:Bool×Nat}{c:Nat}{av:AV}{v:Value}(h:SgnR r c av)(hc:ConcV w O ρ av v):ConcV w O ρ (.t [(false,[.v (.bool r.1)]),(false,[.b r.2 c])]) v:=by
 obtain⟨x,rfl,hx⟩:=h;obtain⟨vs,h1,h2⟩:=hc;cases h1 with
 | cons h1 h3=>cases h3 with
  | cons h3 h4=>exact⟨_,.cons h1 (.cons (hx.conc (av:= .x false [x]) h3) h4),h2⟩
theorem QN4 (s:Bool)(m a:Nat)(t:Bool)(n b:Nat)(ha:a<=549755813888)(hb:b<=549755813888)(hm:m<2^a)(hn:n<2^b):QM (Gj s m a t n b (SgnR (JM s m t n) (max a b+1))):=by
 refine⟨?_⟩;rw[QBQ];have h1:=VW (Zo a b);have h2:=VW (Zn a b);have h3:2^(max a b+1)=2*2^max a b:=Nat.pow_succ';unfold JM;refine⟨trivial,QF (fun h=> ?_) (fun h=> ?_)⟩
 ·rw[h,R7];exact⟨⟨ha,hb⟩,_,rfl,.b (by simp only;omega)⟩
 ·rw[h,R8];by_cases hlt:m<n
  ·have e1:decide (n<=m)=false:=by simp;omega
   have e2:decide (n<m)=false:=by simp;omega
   have e3:decide (m<n)=true:=by simp;omega
   simp only[e1,e2,e3,R7,R8];exact⟨⟨ha,hb⟩,⟨hb,ha⟩,_,rfl,.b (by simp only;omega)⟩
  ·have e1:decide (n<=m)=true:=by simp;omega
   have e3:decide (m<n)=false:=by simp;omega
   simp only[e1,e3,R7,R8];exact⟨⟨ha,hb⟩,_,rfl,.b (by simp only;omega)⟩
def QN5:Ctr
 | [.x true [.r q n]]=>some fun K=>n<=4294967296/\K (.x true [.r q n])
 | _=>none
def QH7:Ctr
 | [.x false [.v (.bool s)],.x false [.b n a],.x false [.b d b]]=>some fun K=>((a<=4294967296/\b<=4294967296)/\d≠0)/\K (.x true [.r (Xh s n d) (max a b)])
 | _=>none
def QBR:Ctr
 | [.x false [.v (.bool s)],.x false [.b m a],.x false [.v (.bool t)],.x false [.b n b]]=>some fun K=>(a<=549755813888/\b<=549755813888)/\K (.t [(false,[.v (.bool (JM s m t n).1)]),(false,[.b (JM s m t n).2 (max a b+1)])])
 | _=>none
theorem QVw:QI 65 QN5:=by
 refine okL Tryz.func65 fun l T hT K hK=> ?_
 unfold QN5 at hT;split at hT<;>cases hT
 exact spL QN2 QN Tryz.func65 (QYc _ _ K hK.1 hK.2)
theorem QF1 {w:World}{O:Nat->Prop}{ρ:Env}{a c:AV}{m n:Nat}{l:List AV}{vals:List Value}(h:Qs w O ρ (c::a:: .x false [.b m n]::l) vals):m<2^n:=by
 cases h with
 | cons _ h=>exact Jq h
theorem ok_made:QI 33 QH7:=by
 refine⟨Qf Tryz.func33 (by kernel_rfl),fun l T hT K hK=> ?_⟩;unfold QH7 at hT;split at hT
 ·rename_i s n a d b;cases hT
  exact JT fun w O ρ vals hc=>Jb (Ql QN2 QN Tryz.func33 (by kernel_rfl) (by kernel_rfl) (by rfl) (QVv s n a d b hK.1.1.1 hK.1.1.2 (Jq hc) (QF1 hc) hK.1.2)) hK.2
 ·cases hT
theorem QLu:QI 96 QBR:=by
 refine⟨Qf Tryz.func96 (by kernel_rfl),fun l T hT K hK=> ?_⟩;unfold QBR at hT;split at hT
 ·rename_i s m a t n b;cases hT
  refine JT fun w O ρ vals hc=>Eng.Spec.res (Ql QN2 QN Tryz.func96 (by kernel_rfl) (by kernel_rfl) (by rfl) (QN4 s m a t n b hK.1.1 hK.1.2 (Jq hc) ?_)) fun _ _ _ _ hn hc=>⟨_,hK.2,hn.conc hc⟩;cases hc with
  | cons _ h=>exact QF1 h
 ·cases hT
def L20:LC:=(65,QN5)::(33,nrm QH7)::(96,QBR)::L19
noncomputable def T20:Qc:=mkT L20 M15 X4
theorem QUO:QG L20:= .cons QVw (.cons ok_made.nrm (.cons QLu QUN))
theorem U9:XP T20:=QV QUO Gh Qo
end Go.Proofs
namespace Go.Proofs
open Go Go.Eng
def rA (q:Rat)(n:Nat):AV:= .x true [.r q n]
def QF2 (n:Int)(K:AV->Prop):Prop:=QU T20 (oF Tryz.f8) noL Tryz.f8 [iA .i64 n] K
theorem QF3 (n:Int)(K:AV->Prop):QF2 n K=(bif decide (n≥0)then n<9223372036854775808/\((63<=4294967296/\8<=4294967296)/\1≠0)/\K (Zj true [Zw (Xh false n.toNat 1) 63])else Zb.wrap (0-Zb.wrap (n+1))<9223372036854775808/\(63<=549755813888/\8<=549755813888)/\((64<=4294967296/\8<=4294967296)/\1≠0)/\K (Zj true [Zw (Xh true ((Zb.wrap (0-Zb.wrap (n+1))).toNat+1) 1) 64])):=by kernel_rfl
def QCw (p:Rat)(a:Nat)(q:Rat)(b:Nat)(K:AV->Prop):Prop:=QU T20 (oF Tryz.f54) noL Tryz.f54 [rA p a,rA q b] K
theorem QD0 (p:Rat)(a:Nat)(q:Rat)(b:Nat)(K:AV->Prop):QCw p a q b K=(a<=4294967296/\b<=4294967296/\bif decide (p.den=q.den)then(a<=549755813888/\b<=549755813888)/\((max a b+1<=4294967296/\a<=4294967296)/\p.den≠0)/\K (Zj true [Zw (Xh (JM (decide (p.num<0)) p.num.natAbs (decide (q.num<0)) q.num.natAbs).fst (JM (decide (p.num<0)) p.num.natAbs (decide (q.num<0)) q.num.natAbs).snd p.den) (max (max a b+1) a)])else(a<=274877906944/\b<=274877906944)/\(b<=274877906944/\a<=274877906944)/\(a+b<=549755813888/\b+a<=549755813888)/\(a<=274877906944/\b<=274877906944)/\((max (a+b) (b+a)+1<=4294967296/\a+b<=4294967296)/\p.den*q.den≠0)/\K (Zj true [Zw (Xh (JM (decide (p.num<0)) (p.num.natAbs*q.den) (decide (q.num<0)) (q.num.natAbs*p.den)).fst (JM (decide (p.num<0)) (p.num.natAbs*q.den) (decide (q.num<0)) (q.num.natAbs*p.den)).snd (p.den*q.den)) (max (max (a+b) (b+a)+1) (a+b))])):=by kernel_rfl
def QCx (p:Rat)(a:Nat)(q:Rat)(b:Nat)(K:AV->Prop):Prop:=QU T20 (oF Tryz.f53) noL Tryz.f53 [rA p a,rA q b] K
theorem QD1 (p:Rat)(a:Nat)(q:Rat)(b:Nat)(K:AV->Prop):QCx p a q b K=(a<=4294967296/\b<=4294967296/\True/\(a<=274877906944/\b<=274877906944)/\(a<=274877906944/\b<=274877906944)/\((a+b<=4294967296/\a+b<=4294967296)/\p.den*q.den≠0)/\K (Zj true [Zw (Xh (!decide (p.num<0)==decide (q.num<0)) (p.num.natAbs*q.num.natAbs) (p.den*q.den)) (max (a+b) (a+b))])):=by kernel_rfl
def H7 (p:Rat)(a:Nat)(q:Rat)(b:Nat)(K:AV->Prop):Prop:=QU T20 (oF Tryz.f77) noL Tryz.f77 [rA p a,rA q b] K
theorem HA (p:Rat)(a:Nat)(q:Rat)(b:Nat)(K:AV->Prop):H7 p a q b K=(a<=4294967296/\b<=4294967296/\bif decide (QA q.num.natAbs=[])then K (AV.t [(true,[Zg (Zd false),Zg (Zr (Zc (Zk []))),Zg (Zr (Zc (Zk [])))]),(false,[Zg (Zf Zb 12)])])else True/\(a<=274877906944/\b<=274877906944)/\(a<=274877906944/\b<=274877906944)/\((a+b<=4294967296/\a+b<=4294967296)/\p.den*q.num.natAbs≠0)/\K (AV.t [(true,[Zw (Xh (!decide (p.num<0)==decide (q.num<0)) (p.num.natAbs*q.den) (p.den*q.num.natAbs)) (max (a+b) (a+b))]),(false,[Zg (Zf Zb 0)])])):=by kernel_rfl
def QCy (p:Rat)(a:Nat)(K:AV->Prop):Prop:=QU T20 (oF Tryz.f55) noL Tryz.f55 [rA p a] K
theorem QD2 (p:Rat)(a:Nat)(K:AV->Prop):QCy p a K=(a<=4294967296/\bif !decide (p.num<0)then K (Zj true [Zg (Zd !decide (QA p.num.natAbs=(Zc #[]).data.toList)),Zv p.num.natAbs a,Zv p.den a])else K (Zj true [Zg (Zd false),Zv p.num.natAbs a,Zv p.den a])):=by kernel_rfl
def QCz (p:Rat)(a:Nat)(K:AV->Prop):Prop:=QU T20 (oF Tryz.f58) noL Tryz.f58 [rA p a] K
theorem QD3 (p:Rat)(a:Nat)(K:AV->Prop):QCz p a K=(a<=4294967296/\K (Zj true [Zg (Zd false),Zv p.num.natAbs a,Zv p.den a])):=by kernel_rfl
def Qa (q:Rat):Int:=if q.num=0 then 0 else if q.num<0 then-1 else 1
theorem QYd (n:Int)(h0: -9223372036854775808<=n)(h1:n<9223372036854775808):QM (QF2 n (RatR (n:Rat) 64)):=by
 refine⟨?_⟩;rw[QF3];have key: ∀m:Int,mkRat m 1=(m:Rat):=fun m=>by
  rw[Rat.mkRat_one]
 refine QF (fun h=> ?_) (fun h=> ?_)
 ·have h:=R5 h;have e:Xh false n.toNat 1=(n:Rat):=by
   unfold Xh;rw[R8,key];congr 1;omega
  rw[e];exact⟨h1,by omega,.of (by omega)⟩
 ·have h:=R6 h;rw[w64 (n:=n+1) (by omega),w64 (by omega)];have e:Xh true ((0-(n+1)).toNat+1) 1=(n:Rat):=by
   unfold Xh;rw[R7,key];congr 1;omega
  rw[e];exact⟨by omega,by omega,by omega,.of (by omega)⟩
theorem QVx (p:Rat)(a:Nat)(q:Rat)(b:Nat)(h:a+b+1<=4294967296):QM (QCw p a q b (RatR (p+q) (a+b+1))):=by
 refine⟨?_⟩;rw[QD0];have hp:=p.den_nz;have hq:=q.den_nz;refine⟨by omega,by omega,QF (fun hd=> ?_) (fun hd=> ?_)⟩
 ·have hd:=R5 hd;rw[QA7 p q hd];exact⟨by omega,by omega,.of (by omega)⟩
 ·rw[QLX];exact⟨by omega,by omega,by omega,by omega,⟨by omega,Zt hp hq⟩,.of (by omega)⟩
theorem QVy (p:Rat)(a:Nat)(q:Rat)(b:Nat)(h:a+b<=4294967296):QM (QCx p a q b (RatR (p*q) (a+b))):=by
 refine⟨?_⟩;rw[QD1];refine⟨by omega,by omega,trivial,by omega,by omega,⟨by omega,Zt p.den_nz q.den_nz⟩,?_⟩;have e:=QLV p q;rw[show(!(decide (p.num<0)==decide (q.num<0)))=(decide (p.num<0) !=decide (q.num<0))from rfl,e];exact .of (by omega)
def RatE (q:Rat)(n:Nat)(e:Int)(av:AV):Prop:= ∃b cs,av= .t [(b,cs),(false,[.v (.int .i64 e)])]/\RatR q n (.x b cs)
theorem RatE.conc {w:World}{O:Nat->Prop}{ρ:Env}{q:Rat}{n:Nat}{e:Int}{av:AV}{v:Value}(h:RatE q n e av)(hc:ConcV w O ρ av v):ConcV w O ρ (.t [(true,[.r q n]),(false,[.v (.int .i64 e)])]) v:=by
 obtain⟨b,cs,rfl,hx⟩:=h;obtain⟨vs,h1,h2⟩:=hc;cases h1 with
 | cons h1 h3=>cases h3 with
  | cons h3 h4=>exact⟨_,.cons (hx.conc (av:= .x b cs) h1) (.cons h3 h4),h2⟩
theorem QVz (p:Rat)(a:Nat)(q:Rat)(b:Nat)(h:a+b<=4294967296)(hq:q≠0):QM (H7 p a q b (RatE (p/q) (a+b) 0)):=by
 refine⟨?_⟩;rw[HA];have hn:q.num≠0:=fun e=>hq (Rat.num_eq_zero.1 e);refine⟨by omega,by omega,QF (fun h0=> ?_) (fun _=>⟨trivial,by omega,by omega,⟨by omega,Zt p.den_nz (by omega)⟩,?_⟩)⟩
 ·have:=Qq.1 (R5 h0);omega
 ·rw[show(!(decide (p.num<0)==decide (q.num<0)))=(decide (p.num<0) !=decide (q.num<0))from rfl,QLW p q hn];exact⟨_,_,rfl,.of (by omega)⟩
theorem QSI (p:Rat)(a b:Nat)(h:a+b<=4294967296)(K:AV->Prop)(hK:K (.t [(true,[.v (.bool false),.v (.string ⟨⟨[]⟩⟩),.v (.string ⟨⟨[]⟩⟩)]),(false,[.v (.int .i64 12)])])):QM (H7 p a 0 b K):=by
 refine⟨?_⟩;rw[HA];refine⟨by omega,by omega,QF (fun _=>hK) (fun h0=> ?_)⟩;exact absurd (Qq.2 (by rfl)) (R6 h0)
theorem QV0 (p:Rat)(a:Nat)(h:a<=4294967296)(hb:Bd a p):QM (QCy p a (RatR (-p) a)):=by
 refine⟨?_⟩;rw[QD2];have hn:(-p).num= -p.num:=rfl;have hd:(-p).den=p.den:=rfl;have e2:((Zc #[]).data.toList)=([]:List UInt8):=rfl;have mk: ∀s:Bool,s=decide ((-p).num<0)->RatR (-p) a (.x true [.v (.bool s),.b p.num.natAbs a,.b p.den a]):=fun s hs=>
  .inl ⟨s,_,_,rfl,hs,by rw[hn,Int.natAbs_neg];exact .b hb.1,by rw[hd];exact .b hb.2⟩
 refine⟨h,QF (fun h1=>mk _ ?_) (fun h1=>mk _ ?_)⟩
 ·have h1: ¬p.num<0:=by simpa using h1
  show(!decide (QA p.num.natAbs=[]))=decide (-p.num<0)
  rw[Bool.eq_iff_iff,decide_eq_true_eq,Bool.not_eq_true',decide_eq_false_iff_not,Qq];omega
 ·have h1:p.num<0:=by simpa using h1
  rw[hn,eq_comm,decide_eq_false_iff_not];omega
def QX (p:Rat):Rat:=if p.num<0 then-p else p
theorem QV1 (p:Rat)(a:Nat)(h:a<=4294967296)(hb:Bd a p):QM (QCz p a (RatR (QX p) a)):=by
 refine⟨?_⟩;rw[QD3];have hn:(QX p).num.natAbs=p.num.natAbs:=by
  unfold QX;split
  ·exact Int.natAbs_neg _
  ·rfl
 have hd:(QX p).den=p.den:=by
  unfold QX;split
  ·rfl
  ·rfl
 have h0: ¬(QX p).num<0:=by
  unfold QX;split
  ·show ¬ -p.num<0;omega
  ·assumption
 exact⟨h,.inl ⟨_,_,_,rfl,by simp[h0],by rw[hn];exact .b hb.1,by rw[hd];exact .b hb.2⟩⟩
theorem QSJ (p:Rat)(a:Nat)(h:a<=4294967296)(K:AV->Prop)(hK:K (iA .i64 (Qa p))):QM (QU T20 (oF Tryz.f113) noL Tryz.f113 [rA p a] K):=by
 refine HV ((a<=4294967296/\bif decide (QA p.num.natAbs=[])then K (Zj false [Zg (Zf Zb 0)])else bif decide (p.num<0)then K (Zj false [Zg (Zf Zb (-1))])else K (Zj false [Zg (Zf Zb 1)]))) ?_
 unfold Qa at hK;refine⟨h,QF (fun h1=> ?_) (fun h1=>QF (fun h2=> ?_) (fun h2=> ?_))⟩
 ·have h1:=Qq.1 (R5 h1);rw[if_pos (by omega)]at hK;exact hK
 ·have h1: ¬p.num.natAbs=0:=fun e=>R6 h1 (Qq.2 e);rw[if_neg (by omega),if_pos (R5 h2)]at hK;exact hK
 ·have h1: ¬p.num.natAbs=0:=fun e=>R6 h1 (Qq.2 e);rw[if_neg (by omega),if_neg (R6 h2)]at hK;exact hK
theorem QN6 (m n:Nat): -1<=JN m n/\JN m n<=1:=by unfold JN;split<;>(try split)<;>omega
theorem QV2 (p:Rat)(a:Nat)(q:Rat)(b:Nat)(h:a+b<=4294967296)(K:AV->Prop)(hK:K (iA .i64 (Xk p q))):QM (QU T20 (oF Tryz.f50) noL Tryz.f50 [rA p a,rA q b] K):=by
 refine HV ((a<=4294967296/\b<=4294967296/\True/\bif !decide (p.num<0)==decide (q.num<0)then bif decide (p.num<0)then K (Zj false [Zg (Zf Zb (-1))])else K (Zj false [Zg (Zf Zb 1)])else(a<=274877906944/\b<=274877906944)/\(b<=274877906944/\a<=274877906944)/\bif decide (p.num<0)then K (Zj false [Zg (Zf Zb (Zb.wrap (0-JN (p.num.natAbs*q.den) (q.num.natAbs*p.den))))])else K (Zj false [Zg (Zf Zb (JN (p.num.natAbs*q.den) (q.num.natAbs*p.den)))]))) ?_
 refine⟨by omega,by omega,trivial,QF (fun h1=> ?_) (fun h1=>⟨by omega,by omega,?_⟩)⟩
 ·refine QF (fun h2=> ?_) (fun h2=> ?_)
  ·have h2:=R5 h2;have h3: ¬q.num<0:=fun h3=>by simp[h2,h3]at h1
   rw[QRU h2 h3]at hK;exact hK
  ·have h2:=R6 h2;have h3:q.num<0:=by
    apply Classical.byContradiction;intro h3;simp[h2,h3]at h1
   rw[QRV h2 h3]at hK;exact hK
 ·have h1:decide (p.num<0)=decide (q.num<0):=by simpa using h1
  rw[QLZ p q h1]at hK;have hl:=QN6 (p.num.natAbs*q.den) (q.num.natAbs*p.den);refine QF (fun h2=> ?_) (fun h2=> ?_)
  ·rw[h2,R7]at hK;rw[w64 (by omega),Int.zero_sub];exact hK
  ·rw[h2,R8]at hK;exact hK
def QF4:Ctr
 | [.x false [.v (.int .i64 n)]]=>some fun K=>(-9223372036854775808<=n/\n<9223372036854775808)/\K (rA (n:Rat) 64)
 | _=>none
def QH8:Ctr
 | [.x true [.r p a],.x true [.r q b]]=>some fun K=>a+b+1<=4294967296/\K (rA (p+q) (a+b+1))
 | _=>none
def QD4:Ctr
 | [.x true [.r p a],.x true [.r q b]]=>some fun K=>a+b<=4294967296/\K (rA (p*q) (a+b))
 | _=>none
def QH9:Ctr
 | [.x true [.r p a],.x true [.r q b]]=>some fun K=>a+b<=4294967296/\(q≠0->K (.t [(true,[.r (p/q) (a+b)]),(false,[.v (.int .i64 0)])]))/\(q=0->K (.t [(true,[.v (.bool false),.v (.string ⟨⟨[]⟩⟩),.v (.string ⟨⟨[]⟩⟩)]),(false,[.v (.int .i64 12)])]))
 | _=>none
def QIA:Ctr
 | [.x true [.r p a]]=>some fun K=>a<=4294967296/\K (rA (-p) a)
 | _=>none
def QIB:Ctr
 | [.x true [.r p a]]=>some fun K=>a<=4294967296/\K (rA (QX p) a)
 | _=>none
def QD5:Ctr
 | [.x true [.r p a]]=>some fun K=>a<=4294967296/\K (iA .i64 (Qa p))
 | _=>none
def QIC:Ctr
 | [.x true [.r p a],.x true [.r q b]]=>some fun K=>a+b<=4294967296/\K (iA .i64 (Xk p q))
 | _=>none
theorem ok_rOf:QI 8 QF4:=by
 refine⟨Qf Tryz.func8 (by kernel_rfl),fun l T hT K hK=> ?_⟩;unfold QF4 at hT;split at hT
 ·cases hT
  exact Jb (Ql U9 QN Tryz.func8 (by kernel_rfl) (by kernel_rfl) (by rfl) (QYd _ hK.1.1 hK.1.2)) hK.2
 ·cases hT
theorem ok_rAdd:QI 54 QH8:=by
 refine⟨Qf Tryz.func54 (by kernel_rfl),fun l T hT K hK=> ?_⟩;unfold QH8 at hT;split at hT
 ·cases hT
  exact Jb (Ql U9 QN Tryz.func54 (by kernel_rfl) (by kernel_rfl) (by rfl) (QVx _ _ _ _ hK.1)) hK.2
 ·cases hT
theorem ok_rMul:QI 53 QD4:=by
 refine⟨Qf Tryz.func53 (by kernel_rfl),fun l T hT K hK=> ?_⟩;unfold QD4 at hT;split at hT
 ·cases hT
  exact Jb (Ql U9 QN Tryz.func53 (by kernel_rfl) (by kernel_rfl) (by rfl) (QVy _ _ _ _ hK.1)) hK.2
 ·cases hT
theorem ok_rDiv:QI 77 QH9:=by
 refine⟨Qf Tryz.func77 (by kernel_rfl),fun l T hT K hK=> ?_⟩;unfold QH9 at hT;split at hT
 ·rename_i p a q b;cases hT
  by_cases hq:q=0
  ·subst hq;exact Ql U9 QN Tryz.func77 (by kernel_rfl) (by kernel_rfl) (by rfl) (QSI p a b hK.1 K (hK.2.2 rfl))
  ·exact Eng.Spec.res (Ql U9 QN Tryz.func77 (by kernel_rfl) (by kernel_rfl) (by rfl) (QVz p a q b hK.1 hq)) fun _ _ _ _ hn hc=>⟨_,hK.2.1 hq,hn.conc hc⟩
 ·cases hT
theorem ok_rNeg:QI 55 QIA:=by
 refine⟨Qf Tryz.func55 (by kernel_rfl),fun l T hT K hK=> ?_⟩;unfold QIA at hT;split at hT
 ·cases hT
  exact JT fun w O ρ vals hc=>Jb (Ql U9 QN Tryz.func55 (by kernel_rfl) (by kernel_rfl) (by rfl) (QV0 _ _ hK.1 (QJo hc))) hK.2
 ·cases hT
theorem ok_rAbs:QI 58 QIB:=by
 refine⟨Qf Tryz.func58 (by kernel_rfl),fun l T hT K hK=> ?_⟩;unfold QIB at hT;split at hT
 ·cases hT
  exact JT fun w O ρ vals hc=>Jb (Ql U9 QN Tryz.func58 (by kernel_rfl) (by kernel_rfl) (by rfl) (QV1 _ _ hK.1 (QJo hc))) hK.2
 ·cases hT
theorem QN7:QI 113 QD5:=by
 refine okL Tryz.func113 fun l T hT K hK=> ?_
 unfold QD5 at hT;split at hT<;>cases hT
 exact spL U9 QN Tryz.func113 (QSJ _ _ hK.1 K hK.2)
theorem QSK:QI 50 QIC:=by
 refine okL Tryz.func50 fun l T hT K hK=> ?_
 unfold QIC at hT;split at hT<;>cases hT
 exact spL U9 QN Tryz.func50 (QV2 _ _ _ _ hK.1 K hK.2)
def L21:LC:=(8,QF4)::(54,QH8)::(53,QD4)::(77,QH9)::(55,QIA)::(58,QIB)::(113,QD5)::(50,QIC)::L20
noncomputable def T21:Qc:=mkT L21 M15 X4
theorem QUP:QG L21:= .cons ok_rOf (.cons ok_rAdd (.cons ok_rMul (.cons ok_rDiv (.cons ok_rNeg (.cons ok_rAbs (.cons QN7 (.cons QSK QUO)))))))
theorem QJq:XP T21:=QV QUP Gh Qo
end Go.Proofs
namespace Go.Proofs
open Go Go.Eng
def QC0 (p:Rat)(a:Nat)(q:Rat)(b:Nat)(K:AV->Prop):Prop:=QU T21 (oF Tryz.f31) noL Tryz.f31 [rA p a,rA q b] K
theorem QD6 (p:Rat)(a:Nat)(q:Rat)(b:Nat)(K:AV->Prop):QC0 p a q b K=(a+b<=4294967296/\bif decide (Xk p q<=0)then a<=4294967296/\K (Zj true [Zw p a])else b<=4294967296/\K (Zj true [Zw q b])):=by kernel_rfl
def QC1 (p:Rat)(a:Nat)(q:Rat)(b:Nat)(K:AV->Prop):Prop:=QU T21 (oF Tryz.f62) noL Tryz.f62 [rA p a,rA q b] K
theorem QD7 (p:Rat)(a:Nat)(q:Rat)(b:Nat)(K:AV->Prop):QC1 p a q b K=(a+b<=4294967296/\bif decide (Xk p q≥0)then a<=4294967296/\K (Zj true [Zw p a])else b<=4294967296/\K (Zj true [Zw q b])):=by kernel_rfl
theorem J2 (p q:Rat):Xk p q<=0↔p<=q:=by
 unfold Xk;split
 ·rename_i h;exact⟨fun _=>Rat.le_of_lt h,fun _=>by decide⟩
 ·rename_i h;split
  ·rename_i h2;subst h2;exact⟨fun _=>Rat.le_refl,fun _=>by decide⟩
  ·rename_i h2;constructor
   ·intro h3;exact absurd h3 (by decide)
   ·intro h3;exfalso;rcases Rat.le_iff_lt_or_eq.1 h3 with h4 | h4
    ·exact h h4
    ·exact h2 h4
theorem QBS (p q:Rat):Xk p q≥0↔q<=p:=by
 unfold Xk;split
 ·rename_i h;constructor
  ·intro h3;exact absurd h3 (by decide)
  ·intro h3;exact absurd h (Rat.not_lt.2 h3)
 ·rename_i h;exact⟨fun _=>Rat.not_lt.1 h,fun _=>by split<;>decide⟩
theorem QV3 (p:Rat)(a:Nat)(q:Rat)(b:Nat)(h:a+b+1<=4294967296)(K:AV->Prop)(hK:K (rA (p-q) (a+b+1))):QM (QU T21 (oF Tryz.f78) noL Tryz.f78 [rA p a,rA q b] K):=by
 refine HV ((b<=4294967296/\a+b+1<=4294967296/\K (Zj true [Zw (p+ -q) (a+b+1)]))) ?_
 rw[Rat.sub_eq_add_neg]at hK;exact⟨by omega,by omega,hK⟩
theorem QV4 (p:Rat)(a:Nat)(q:Rat)(b:Nat)(h:a+b<=4294967296):QM (QC0 p a q b (RatR (Q9 p q) (max a b))):=by
 refine⟨?_⟩;rw[QD6];unfold Q9;refine⟨by omega,QF (fun h1=> ?_) (fun h1=> ?_)⟩
 ·rw[if_pos ((J2 p q).1 (R5 h1))];exact⟨by omega,.of (Zo _ _)⟩
 ·rw[if_neg (fun h2=>R6 h1 ((J2 p q).2 h2))];exact⟨by omega,.of (Zn _ _)⟩
def XL (a b:Rat):Rat:=if b<=a then a else b
theorem QV5 (p:Rat)(a:Nat)(q:Rat)(b:Nat)(h:a+b<=4294967296):QM (QC1 p a q b (RatR (XL p q) (max a b))):=by
 refine⟨?_⟩;rw[QD7];unfold XL;refine⟨by omega,QF (fun h1=> ?_) (fun h1=> ?_)⟩
 ·rw[if_pos ((QBS p q).1 (R5 h1))];exact⟨by omega,.of (Zo _ _)⟩
 ·rw[if_neg (fun h2=>R6 h1 ((QBS p q).2 h2))];exact⟨by omega,.of (Zn _ _)⟩
theorem QSL (x n:Int)(hn:0<n/\n<9223372036854775808)(K:AV->Prop)(hK:K (iA .i64 (x % n))):QM (QU T21 (oF Tryz.f9) noL Tryz.f9 [iA .i64 x,iA .i64 n] K):=by
 refine HV ((n≠0/\bif decide (x.tmod n<0)then K (Zj false [Zg (Zf Zb (Zb.wrap (x.tmod n+n)))])else K (Zj false [Zg (Zf Zb (x.tmod n))]))) ?_
 have h1:=Int.emod_nonneg x (by omega:n≠0);have h2:=Int.emod_lt_of_pos x hn.1;have hb:Int.tmod x n<n:=by
  have:=Int.tmod_lt_of_pos x hn.1;exact this
 refine⟨by omega,QF (fun h=> ?_) (fun h=> ?_)⟩
 ·have h:=R5 h;have e:Int.tmod x n+n=x % n:=by
   rw[Int.emod_eq_tmod];rw[if_neg]
   ·omega
   ·intro h';rcases h' with h' | h'
    ·have:=Int.tmod_nonneg n h';omega
    ·rw[Int.tmod_eq_zero_of_dvd h']at h;omega
  rw[e,w64 (by omega)];exact hK
 ·have h:=R6 h;have e:Int.tmod x n=x % n:=by
   rw[Int.tmod_eq_emod];split
   ·omega
   ·rename_i h';exfalso;have h3:x<0:=by omega
    have h4: ¬n∣x:=by omega
    have:=Int.tmod_eq_emod (a:=x) (b:=n);rw[if_neg h']at this;omega
  rw[e];exact hK
def QD8:Ctr
 | [.x true [.r p a],.x true [.r q b]]=>some fun K=>a+b+1<=4294967296/\K (rA (p-q) (a+b+1))
 | _=>none
def QID:Ctr
 | [.x true [.r p a],.x true [.r q b]]=>some fun K=>a+b<=4294967296/\K (rA (Q9 p q) (max a b))
 | _=>none
def QIE:Ctr
 | [.x true [.r p a],.x true [.r q b]]=>some fun K=>a+b<=4294967296/\K (rA (XL p q) (max a b))
 | _=>none
def QD9:Ctr
 | [.x false [.v (.int .i64 x)],.x false [.v (.int .i64 n)]]=>some fun K=>(0<n/\n<9223372036854775808)/\K (iA .i64 (x % n))
 | _=>none
theorem ok_rSub:QI 78 QD8:=by
 refine okL Tryz.func78 fun l T hT K hK=> ?_
 unfold QD8 at hT;split at hT<;>cases hT
 exact spL QJq QN Tryz.func78 (QV3 _ _ _ _ hK.1 K hK.2)
theorem ok_rMin:QI 31 QID:=by
 refine⟨Qf Tryz.func31 (by kernel_rfl),fun l T hT K hK=> ?_⟩;unfold QID at hT;split at hT
 ·cases hT
  exact Jb (Ql QJq QN Tryz.func31 (by kernel_rfl) (by kernel_rfl) (by rfl) (QV4 _ _ _ _ hK.1)) hK.2
 ·cases hT
theorem ok_rMax:QI 62 QIE:=by
 refine⟨Qf Tryz.func62 (by kernel_rfl),fun l T hT K hK=> ?_⟩;unfold QIE at hT;split at hT
 ·cases hT
  exact Jb (Ql QJq QN Tryz.func62 (by kernel_rfl) (by kernel_rfl) (by rfl) (QV5 _ _ _ _ hK.1)) hK.2
 ·cases hT
theorem QN8:QI 9 QD9:=by
 refine okL Tryz.func9 fun l T hT K hK=> ?_
 unfold QD9 at hT;split at hT<;>cases hT
 exact spL QJq QN Tryz.func9 (QSL _ _ hK.1 K hK.2)
def L22:LC:=(78,QD8)::(31,QID)::(62,QIE)::(9,QD9)::L21
theorem QN9:QG L22:= .cons ok_rSub (.cons ok_rMin (.cons ok_rMax (.cons QN8 QUP)))
end Go.Proofs
namespace Go.Proofs
open Go Go.Eng
structure QIF (α:Type)where
 xs:List α
 i:Nat
structure QBT {α:Type}(l:List α)(x:QIF α):Prop where
  len:x.xs.length=l.length
  hi:2*x.i<=l.length+1
  get: ∀p,x.xs[p]? =if p<x.i∨l.length-x.i<=p then l.reverse[p]? else l[p]?
def QOA (l:List UInt8):LI:=fun _=> .inv ⟨QIF UInt8,fun x=>⟨[(0,.x false [.w 1000 0 l.length]),(2,iA .i64 x.i),(3,iA .i64 ((l.length:Int)-1-x.i))],[(1000,QCP x.xs)]⟩,QBT l,fun x=>l.length-x.i,fun _=>0⟩
def JY (n:Nat)(qs:List Rat):Blk:= .row 26 3 (qs.map fun q=>[Zw q n])
theorem QBT.step {α:Type}{l:List α}{x:QIF α}(h:QBT l x)(hi:x.i<l.length-1-x.i){a b:α}(ha:x.xs[l.length-1-x.i]? =some a)(hb:x.xs[x.i]? =some b):QBT l ⟨(x.xs.set x.i a).set (l.length-1-x.i) b,x.i+1⟩:=by
 obtain⟨len,_,get⟩:=h;refine⟨by simpa using len,by simp only;omega,fun p=> ?_⟩;simp only;by_cases h1:p=l.length-1-x.i
 ·subst h1;rw[List.getElem?_set,if_pos rfl,if_pos (by rw[List.length_set];omega),if_pos (by omega),Zm (by omega),<-hb,get,if_neg (by omega)];congr 1;omega
 ·rw[List.getElem?_set_ne (by omega)];by_cases h2:p=x.i
  ·subst h2;rw[List.getElem?_set,if_pos rfl,if_pos (by omega),if_pos (by omega),Zm (by omega),<-ha,get,if_neg (by omega)]
  ·rw[List.getElem?_set_ne (by omega),get];by_cases h3:p<x.i∨l.length-x.i<=p
   ·rw[if_pos h3,if_pos (by omega)]
   ·rw[if_neg h3,if_neg (by omega)]
theorem QBT.done {α:Type}{l:List α}{x:QIF α}(h:QBT l x)(hi: ¬(x.i:Int)<(l.length:Int)-1-x.i):x.xs=l.reverse:=by
 obtain⟨len,h1,get⟩:=h;apply List.ext_getElem?
 intro p;rw[get];split
 ·rfl
 ·rename_i h3;have hp:p<l.length:=by omega
  rw[Zm hp];congr 1;omega
theorem QBT.start {α:Type}(l:List α):QBT l ⟨l,0⟩:=⟨rfl,by simp,fun p=>by
 simp only;split
 ·rename_i h;rw[List.getElem?_eq_none (by omega),List.getElem?_eq_none (by rw[Zq];omega)]
 ·rfl⟩
set_option maxHeartbeats 1000000 in
theorem QV6 (l:List UInt8)(hl:l.length<=1099511627776):QM (Xy (X:=Unit) (mkT L22 M15 X4) (oF Tryz.f107) (QOA l) Tryz.f107 [.x false [.w 1000 0 l.length]] [(1000,QCP l)] (fun _=>True) (fun _=>⟨[],[(1000,QCP l.reverse)]⟩)):=by
 refine HV (((∃(x:QIF UInt8),(QBT l x/\OfNat.ofNat 0=0)/\0=0/\l.length=l.length/\0=Za x.i/\Zb.wrap (Za l.length-1)=Za l.length-1-Za x.i/\5=5/\1=1/\(Ze QR l=Ze QR x.xs∨QC (Ze QR l) (Ze QR x.xs))/\True)/\∀(x:QIF UInt8),QBT l x->OfNat.ofNat 0=0->bif decide (Za x.i<Za l.length-1-Za x.i)then(0<=Za l.length-1-Za x.i/\Za l.length-1-Za x.i<Za l.length)/\∃(d:Int),ldE (Ze QR x.xs) (0+(Za l.length-1-Za x.i).toNat) 0 1=some [Zg (Zf Zh d)]/\(0<=Za x.i/\Za x.i<Za l.length)/\∃(d_1:Int),ldE (Ze QR x.xs) (0+(Za x.i).toNat) 0 1=some [Zg (Zf Zh d_1)]/\(0<=Za x.i/\Za x.i<Za l.length)/\0+(Za x.i).toNat<(Ze QR x.xs).length/\(0<=Za l.length-1-Za x.i/\Za l.length-1-Za x.i<Za l.length)/\0+(Za l.length-1-Za x.i).toNat<((Ze QR x.xs).set (0+(Za x.i).toNat) [Zg (Zf Zh d)]).length/\∃(x':QIF UInt8),(QBT l x'/\OfNat.ofNat 0=0/\l.length-x'.i<l.length-x.i)/\0=0/\l.length=l.length/\Zb.wrap (Za x.i+1)=Za x'.i/\Zb.wrap (Za l.length-1-Za x.i-1)=Za l.length-1-Za x'.i/\5=5/\1=1/\(((Ze QR x.xs).set (0+(Za x.i).toNat) [Zg (Zf Zh d)]).set (0+(Za l.length-1-Za x.i).toNat) [Zg (Zf Zh d_1)]=Ze QR x'.xs∨QC (((Ze QR x.xs).set (0+(Za x.i).toNat) [Zg (Zf Zh d)]).set (0+(Za l.length-1-Za x.i).toNat) [Zg (Zf Zh d_1)]) (Ze QR x'.xs))/\True else ∃(_x_1:Unit),True/\5=5/\1=1/\(Ze QR x.xs=Ze QR l.reverse∨QC (Ze QR x.xs) (Ze QR l.reverse))/\True)) ?_
 simp only[Zl,R0,R1,Nat.zero_add,R4];refine⟨⟨⟨l,0⟩,.start l,rfl,by rw[w64 (by omega)];simp,.inl rfl⟩,fun x hx=>QF (fun hp=> ?_) (fun hp=> ?_)⟩
 ·have hp:=R5 hp;have len:=hx.len;have hi:=hx.hi;obtain⟨a,ha⟩: ∃a,x.xs[l.length-1-x.i]? =some a:=⟨_,List.getElem?_eq_getElem (by omega)⟩
  obtain⟨b,hb⟩: ∃b,x.xs[x.i]? =some b:=⟨_,List.getElem?_eq_getElem (by omega)⟩
  have e1:((l.length:Int)-1-x.i).toNat=l.length-1-x.i:=by omega
  have ld: ∀{j:Nat} {c:UInt8},x.xs[j]? =some c->ldE (x.xs.map QR) j 0 1=some [.v (.int .u8 (c.toNat:Int))]:=fun h=>by
   simp only[ldE,List.getElem?_map,h];rfl
  simp only[e1,Zs];refine⟨by omega,_,ld ha,by omega,_,ld hb,by omega,by rw[List.length_map];omega,by omega,by rw[List.length_set,List.length_map];omega,_,⟨hx.step (by omega) ha hb,by simp only;omega⟩,?_,?_,.inl ?_⟩
  ·rw[w64 (by omega)];simp
  ·rw[w64 (by omega)];simp only;omega
  ·rw[QBO _ _ _ _ rfl,QBO _ _ _ _ rfl]
 ·have hp:=R6 hp;rw[hx.done hp];exact⟨(),.inl rfl⟩
def QIG:Xl:=fun as0 H _=>match as0 with
 | [.x false [.w k 0 n]]=>match H k with
  | some (.row t 1 xs)=>bif t.beq 5 then
    some fun K=> ∃bs:List UInt8,xs=bs.map QR/\n=bs.length/\bs.length<=1099511627776/\K (.t []) (XS [(1000,k)] (QP [(1000,QCP bs.reverse)]) H)
    else none
  | _=>none
 | _=>none
theorem QSM:Xz 107 QIG:=by
 refine⟨Qf Tryz.func107 (by kernel_rfl),fun l H d T hT K hK=> ?_⟩;unfold QIG at hT;split at hT
 ·rename_i k n;split at hT
  ·rename_i t xs e1;cases hb:t.beq 5 with
   | false=>rw[hb]at hT;cases hT
   | true=>
    rw[hb]at hT;cases hT
    have ht:=Nat.eq_of_beq_eq_true hb;subst ht;obtain⟨bs,rfl,rfl,hl,hK⟩:=hK;refine Xe (R:=[(1000,k)]) (N:=[]) (Hl:=[(1000,QCP bs)]) (QV QN9 Gh Qo) QN Tryz.func107 (by kernel_rfl) (by kernel_rfl) (by rfl)
     (as0:=[.x false [.w 1000 0 bs.length]]) ?_ (UT e1 rfl rfl) rfl (by simp) (by simp) (fun _ h=>by cases h) (fun x=>⟨fun p hp=> ?_,fun p hp b hb=> ?_⟩) (QV6 bs hl) (fun _ _=> ?_)
    ·simp[YZ,YO,X6,lkB]
    ·simp at hp;subst hp;exact fun h=>by have h':some (QCP _)=none:=h;cases h'
    ·simp at hp;subst hp;have h':some (QCP _)=some b:=hb;cases h';rfl
    ·exact⟨_,rfl,hK⟩
  ·cases hT
 ·cases hT
def M23:List (Nat×Xl):=(107,QIG)::M15
theorem QF5:XU M23:= .cons QSM Gh
structure QSN where
 m:Nat
 bs:List UInt8
def QIH (n:Nat):LI:=fun _=> .inv ⟨QSN,fun x=>⟨[(0,iA .i64 x.m),(3,.x false [.w 500 0 x.bs.length])],[(500,QCP x.bs)]⟩,fun x=>QA n=QA x.m++x.bs.reverse/\x.m<=n,fun x=>x.m,fun _=>0⟩
def Gk (n:Nat)(K:AV->Prop):Prop:=QU (mkT L22 M23 X4) (oF Tryz.f66) (QIH n) Tryz.f66 [iA .i64 n] K
theorem QBU (n:Nat)(K:AV->Prop):Gk n K=((∃(x:QSN),((QA n=QA x.m++x.bs.reverse/\x.m<=n)/\OfNat.ofNat 0=0)/\Za n=Za x.m/\Value.slice none 0 0=Value.slice none 0 0/\0=0/\x.bs.length=0/\Ze QR x.bs=[]/\True)/\∀(x:QSN),QA n=QA x.m++x.bs.reverse/\x.m<=n->OfNat.ofNat 0=0->bif decide (Za x.m>0)then(256:Int)≠0/\((x.bs.length+1)*1<=140737488355328/\x.bs.length+1<=9223372036854775807)/\(256:Int)≠0/\∃(x':QSN),((QA n=QA x'.m++x'.bs.reverse/\x'.m<=n)/\OfNat.ofNat 0=0/\x'.m<x.m)/\Zb.wrap ((Za x.m).tdiv 256)=Za x'.m/\0=0/\x.bs.length+1=x'.bs.length/\5=5/\1=1/\(List.take x.bs.length (Ze QR x.bs)++[[Zg (Zf Zh (Zh.wrap ((Za x.m).tmod 256)))]]=Ze QR x'.bs∨QC (List.take x.bs.length (Ze QR x.bs)++[[Zg (Zf Zh (Zh.wrap ((Za x.m).tmod 256)))]]) (Ze QR x'.bs))/\True else ∃(bs:List UInt8),Ze QR x.bs=Ze QR bs/\x.bs.length=bs.length/\bs.length<=1099511627776/\∃(bs_1:List UInt8),List.take x.bs.length (List.drop 0 (Ze QR bs.reverse))=Ze QR bs_1/\K (Zj false [Zg (Zr (Zc (Zk bs_1)))])):=by kernel_rfl
theorem QOB (n:Nat)(hn:n<9223372036854775808):QM (Gk n (NatIs n 63)):=by
 refine⟨?_⟩;rw[QBU];simp only[Zl,R0,R1,R4];have hlen:(QA n).length<=63:=XN (show n<2^63 from hn);refine⟨⟨⟨n,[]⟩,⟨by simp,Nat.le_refl _⟩,rfl,rfl,rfl⟩,fun x hx=>QF (fun hp=> ?_) (fun hp=> ?_)⟩
 ·obtain⟨m,bs⟩:=x;obtain⟨h1,h2⟩:=hx;simp only at h1 h2 hp⊢;have hp:=R5 hp;have hl:=congrArg List.length h1;rw[List.length_append,Zq]at hl;have e1:(m:Int).tdiv 256=((m/256:Nat):Int):=by rw[te (by omega)];omega
  have e2:Zh.wrap ((m:Int).tmod 256)=((UInt8.ofNat (m % 256)).toNat:Int):=by
   rw[tm (by omega),UInt8.toNat_ofNat',wu8 (by omega)];omega
  rw[e1,e2,w64 (by omega)];refine⟨by omega,by omega,by omega,⟨m/256,bs++[UInt8.ofNat (m % 256)]⟩,⟨⟨?_,by simp only;omega⟩,by simp only;omega⟩,rfl,by simp,.inl ?_⟩
  ·simp only;rw[h1,X2 m (by omega)];simp
  ·simp only;rw[List.take_of_length_le (by simp),List.map_append];rfl
 ·obtain⟨m,bs⟩:=x;obtain⟨h1,h2⟩:=hx;simp only at h1 h2 hp⊢;have hp:=R6 hp;have hm:m=0:=by omega
  subst hm;have hl:=congrArg List.length h1;rw[List.length_append,Zq]at hl;rw[Q6,List.nil_append]at h1;refine⟨bs,rfl,rfl,by omega,bs.reverse,?_,hn,.inr ⟨_,rfl,h1.symm⟩⟩;rw[List.drop_zero,List.take_of_length_le (by simp)]
def QBV:Ctr
 | [.x false [.v (.int .i64 n)]]=>some fun K=>(0<=n/\n<9223372036854775808)/\K (bA n.toNat 63)
 | _=>none
theorem QLv:QI 66 QBV:=by
 refine⟨Qf Tryz.func66 (by kernel_rfl),fun l T hT K hK=> ?_⟩;unfold QBV at hT;split at hT
 ·cases hT
  obtain⟨⟨h0,h1⟩,hK⟩:=hK;rename_i n;obtain⟨n,rfl⟩:=Int.eq_ofNat_of_zero_le h0;exact Wo (Ql (QV QN9 QF5 Qo) QN Tryz.func66 (by kernel_rfl) (by kernel_rfl) (by rfl) (QOB n (by omega))) hK
 ·cases hT
def L24:LC:=(66,QBV)::L22
theorem QUQ:QG L24:= .cons QLv QN9
structure OfX where
 a:Nat
 b:Nat
def Wq:List Ch:=[.v (.bool false),.v (.string ⟨⟨[]⟩⟩),.v (.string ⟨⟨[]⟩⟩)]
def QSO (num den:Int):LI:=fun _=> .inv ⟨OfX,fun x=>⟨[(0,iA .i64 num),(1,iA .i64 den),(4,.x false [.p 4 0]),(5,iA .i64 x.a),(6,iA .i64 x.b)],[(4,.box 26 Wq)]⟩,fun x=>Zi x.a x.b=Zi num.natAbs den.natAbs/\x.a<9223372036854775808/\x.b<9223372036854775808,fun x=>x.b,fun _=>0⟩
def QF6 (num den:Int)(K:AV->Prop):Prop:=QU (mkT L24 M23 X4) (oF Tryz.f32) (QSO num den) Tryz.f32 [iA .i64 num,iA .i64 den] K
theorem QF7 (num:Int)(den:Int)(K:AV->Prop):QF6 num den K=((∃(x:OfX),((x.a.gcd x.b=num.natAbs.gcd den.natAbs/\x.a<9223372036854775808/\x.b<9223372036854775808)/\OfNat.ofNat 0=0)/\num=num/\den=den/\0=0/\(bif true then if Zb.wrap (0-num)>num then Zb.wrap (0-num)else num else if Zb.wrap (0-num)<num then Zb.wrap (0-num)else num)=Za x.a/\den=Za x.b/\26=26/\false=false/\Zc (Zk [])=Zc (Zk [])/\Zc (Zk [])=Zc (Zk [])/\True)/\∀(x:OfX),x.a.gcd x.b=num.natAbs.gcd den.natAbs/\x.a<9223372036854775808/\x.b<9223372036854775808->OfNat.ofNat 0=0->bif decide (Za x.b>0)then Za x.b≠0/\∃(x':OfX),((x'.a.gcd x'.b=num.natAbs.gcd den.natAbs/\x'.a<9223372036854775808/\x'.b<9223372036854775808)/\OfNat.ofNat 0=0/\x'.b<x.b)/\num=num/\den=den/\0=0/\Za x.b=Za x'.a/\(Za x.a).tmod (Za x.b)=Za x'.b/\26=26/\false=false/\Zc (Zk [])=Zc (Zk [])/\Zc (Zk [])=Zc (Zk [])/\True else Za x.a≠0/\Za x.a≠0/\((0<=bif true then if Zb.wrap (0-Zb.wrap (num.tdiv (Za x.a)))>Zb.wrap (num.tdiv (Za x.a))then Zb.wrap (0-Zb.wrap (num.tdiv (Za x.a)))else Zb.wrap (num.tdiv (Za x.a))else if Zb.wrap (0-Zb.wrap (num.tdiv (Za x.a)))<Zb.wrap (num.tdiv (Za x.a))then Zb.wrap (0-Zb.wrap (num.tdiv (Za x.a)))else Zb.wrap (num.tdiv (Za x.a)))/\(bif true then if Zb.wrap (0-Zb.wrap (num.tdiv (Za x.a)))>Zb.wrap (num.tdiv (Za x.a))then Zb.wrap (0-Zb.wrap (num.tdiv (Za x.a)))else Zb.wrap (num.tdiv (Za x.a))else if Zb.wrap (0-Zb.wrap (num.tdiv (Za x.a)))<Zb.wrap (num.tdiv (Za x.a))then Zb.wrap (0-Zb.wrap (num.tdiv (Za x.a)))else Zb.wrap (num.tdiv (Za x.a)))<9223372036854775808)/\(0<=Zb.wrap (den.tdiv (Za x.a))/\Zb.wrap (den.tdiv (Za x.a))<9223372036854775808)/\K (Zj true [Zg (Zd (decide (Zb.wrap (num.tdiv (Za x.a))<0))),Zv (bif true then if Zb.wrap (0-Zb.wrap (num.tdiv (Za x.a)))>Zb.wrap (num.tdiv (Za x.a))then Zb.wrap (0-Zb.wrap (num.tdiv (Za x.a)))else Zb.wrap (num.tdiv (Za x.a))else if Zb.wrap (0-Zb.wrap (num.tdiv (Za x.a)))<Zb.wrap (num.tdiv (Za x.a))then Zb.wrap (0-Zb.wrap (num.tdiv (Za x.a)))else Zb.wrap (num.tdiv (Za x.a))).toNat 63,Zv (Zb.wrap (den.tdiv (Za x.a))).toNat 63])):=by kernel_rfl
theorem QJr {n:Int}(h0: -9223372036854775808<n)(h1:n<9223372036854775808):(bif true then if Zb.wrap (0-n)>n then Zb.wrap (0-n)else n else if Zb.wrap (0-n)<n then Zb.wrap (0-n)else n)=(n.natAbs:Int):=by
 simp only[R7];rw[w64 (by omega)];split<;>omega
theorem QF8 (num:Int)(d:Nat):mkRat num d=Xh (decide (num<0)) num.natAbs d:=by
 unfold Xh;congr 1;by_cases h:num<0
 ·simp only[h,decide_true,R7];omega
 ·simp only[h,decide_false,R8];omega
theorem QII (num:Int)(d:Nat)(hd:d≠0):(mkRat num d).num=num.tdiv (Zi num.natAbs d:Nat):=by
 rw[QF8,Hz _ _ _ hd];by_cases h:num<0
 ·simp only[h,decide_true,R7];have e:num= -(num.natAbs:Int):=by omega
  conv=>rhs;rw[e,Int.neg_tdiv]
  simp
 ·simp only[h,decide_false,R8];have e:num=(num.natAbs:Int):=by omega
  conv=>rhs;rw[e]
  rw[te (by omega)];simp
theorem QOC (num:Int)(d:Nat)(hd:d≠0):(mkRat num d).den=d/Zi num.natAbs d:=by
 rw[QF8,QCl _ _ _ hd]
theorem QYe (num:Int)(den:Nat)(h0: -9223372036854775808<num/\num<9223372036854775808)(h1:0<den/\den<9223372036854775808):QM (QF6 num den (RatIs (mkRat num den) 63)):=by
 refine⟨?_⟩;rw[QF7];rw[QJr h0.1 h0.2];simp only[Zl,R0,R1,R4];refine⟨⟨⟨num.natAbs,den⟩,⟨by simp,by simp only;omega,by simp only;omega⟩,rfl,rfl⟩,fun x hx=>QF (fun hp=> ?_) (fun hp=> ?_)⟩
 ·obtain⟨hg,ha,hb⟩:=hx;have hp:=R5 hp;have hm:=Nat.mod_lt x.a (by omega:0<x.b);refine⟨by omega,⟨x.b,x.a % x.b⟩,⟨⟨?_,hb,by simp only;omega⟩,hm⟩,rfl,by rw[tm (by omega)];simp⟩;rw[<-hg,Nat.gcd_comm x.b,<-Nat.gcd_rec,Nat.gcd_comm]
 ·obtain⟨hg,ha,hb⟩:=hx;have hp:=R6 hp;have hb0:x.b=0:=by omega
  rw[hb0,Nat.gcd_zero_right,Int.natAbs_natCast]at hg;have hd:den≠0:=by omega
  have hpos:0<Zi num.natAbs den:=Nat.gcd_pos_of_pos_right _ (by omega);rw[hg];have en:=QII num den hd;have ed:=QOC num den hd;have e1:(den:Int).tdiv (Zi num.natAbs den:Nat)=((den/Zi num.natAbs den:Nat):Int):=by rw[te (by omega)];simp
  have hle:den/Zi num.natAbs den<=den:=Zp _ _;have hle2:(num.tdiv (Zi num.natAbs den:Nat)).natAbs<=num.natAbs:=by
   rw[Int.natAbs_tdiv,Int.natAbs_natCast];exact Zp _ _
  rw[e1];generalize num.tdiv (Zi num.natAbs den:Nat)=t at en hle2⊢;generalize den/Zi num.natAbs den=d at ed hle⊢;rw[w64 (n:=t) (by omega),w64 (n:=(d:Int)) (by omega),QJr (by omega) (by omega),Zs,Zs];refine⟨by omega,by omega,by omega,by omega,_,_,_,rfl,by rw[en],?_,?_⟩
  ·rw[en];exact .b (by show _<9223372036854775808;omega)
  ·rw[ed];exact .b (by show _<9223372036854775808;omega)
def QF9:Ctr
 | [.x false [.v (.int .i64 n)],.x false [.v (.int .i64 d)]]=>some fun K=>((-9223372036854775808<n/\n<9223372036854775808)/\0<d/\d<9223372036854775808)/\K (rA (mkRat n d.toNat) 63)
 | _=>none
theorem QV7:QI 32 QF9:=by
 refine⟨Qf Tryz.func32 (by kernel_rfl),fun l T hT K hK=> ?_⟩;unfold QF9 at hT;split at hT
 ·cases hT
  obtain⟨⟨h0,h1,h2⟩,hK⟩:=hK;rename_i n d;obtain⟨d,rfl⟩:=Int.eq_ofNat_of_zero_le (by omega:0<=d);exact QF0 (Ql (QV QUQ QF5 Qo) QN Tryz.func32 (by kernel_rfl) (by kernel_rfl) (by rfl) (QYe n d h0 (by omega))) hK
 ·cases hT
def L25:LC:=(32,QF9)::L24
theorem QUR:QG L25:= .cons QV7 QUQ
def QGA (num den:Int)(K:AV->Prop):Prop:=QU (mkT L25 M23 X4) (oF Tryz.f18) noL Tryz.f18 [iA .i64 num,iA .i64 den] K
theorem QGB (num:Int)(den:Int)(K:AV->Prop):QGA num den K=(((-9223372036854775808<num/\num<9223372036854775808)/\0<den/\den<9223372036854775808)/\K (Zj true [Zw (mkRat num den.toNat) 63])):=by kernel_rfl
def QJs:Ctr:=QF9
theorem QOD:QI 18 QJs:=by
 refine⟨Qf Tryz.func18 (by kernel_rfl),fun l T hT K hK=> ?_⟩;unfold QJs QF9 at hT;split at hT
 ·cases hT
  exact Ql (QV QUR QF5 Qo) QN Tryz.func18 (by kernel_rfl) (by kernel_rfl) (by rfl) (show QM (QGA _ _ K)from⟨by rw[QGB];exact hK⟩)
 ·cases hT
def L26:LC:=(18,QJs)::L25
theorem QOE:QG L26:= .cons QOD QUR
end Go.Proofs
namespace Go.Proofs
open Go Go.Eng
def lR (n:Nat)(qs:List Rat):List (List Ch):=qs.map fun q=>[Zw q n]
def sR (n:Nat)(qs:List Rat):AV:= .x false [.s 3 (lR n qs)]
theorem QOF {n:Int}{d:Nat}(h:0<=n):0<=mkRat n d:=Rat.num_nonneg.1 (by
 by_cases hd:d=0
 ·subst hd;simp
 ·rw[QII _ _ hd];exact Int.tdiv_nonneg h (Int.natCast_nonneg _))
theorem YE {n:Int}{d:Nat}(h:0<n)(hd:d≠0):0<mkRat n d:=by
 refine Rat.lt_iff_le_and_ne.2 ⟨QOF (by omega),fun e=> ?_⟩;have:=(Rat.mkRat_eq_zero hd).1 e.symm;omega
theorem X5 (n:Nat)(qs:List Rat):(lR n qs).length=qs.length:=by simp[lR]
theorem JJ {n:Nat}{qs:List Rat}{i:Nat}{q:Rat}(h:qs[i]? =some q):ldE (lR n qs) i 0 3=some [.r q n]:=by
 simp only[ldE,lR,List.getElem?_map,h];rfl
end Go.Proofs
