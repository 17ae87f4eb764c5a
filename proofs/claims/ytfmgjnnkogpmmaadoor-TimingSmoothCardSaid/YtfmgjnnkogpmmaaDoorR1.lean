/- Rationals, first part: constants as numbers; a rational out of its parts. -/
import Derived.Test.YtfmgjnnkogpmmaaDoorN3
open Int renaming ofNat → Za, ofNat_eq_natCast → Zk, toNat_natCast → Zp
open Go.IntKind renaming i64 → Zb, u8 → Zh
open ByteArray renaming mk → Zc
open Go.Value renaming bool → Zd, int → Zf, string → Zt
open List renaming map → Ze, getElem?_eq_getElem → Zl, take_of_length_le → Zm, take → Zo, getElem?_reverse → Zq, length_reverse → Zs
open Go.Eng.Ch renaming v → Zg, b → Zy, r → Zz
open Go.Eng.AV renaming x → Zi
open Nat renaming gcd → Zj, div_le_self → Zr, le_max_right → Zu, mul_ne_zero → Zv, le_max_left → Zw, div_one → Zx
open Array renaming mk → Zn
namespace Go.Proofs
open Go Go.Eng
def QJv (a:AV):AV:=match a with
  | .x false [.v (.string ⟨⟨l⟩⟩)]=>match l with
    | []=> .x false [.b 0 0]
    | [x]=>bif Nat.beq x.toNat 0 then a else .x false [.b x.toNat 8]
    | _=>a
  | _=>a
theorem QE8 {w:World}{O:Nat->Prop}{ρ:Env}{a:AV}{v:Value}(h:ConcV w O ρ a v):ConcV w O ρ (QJv a) v:=by
 unfold QJv;split
 ·split
  ·exact Wt (m:=0) (n:=0) (by rw[Qy];exact h) (by decide)
  ·rename_i x;cases hb:Nat.beq x.toNat 0 with
   | true=>exact h
   | false=>
    have h0:x.toNat≠0:=fun e=>by rw[e]at hb;cases hb
    have hx:=x.toNat_lt;refine Wt (m:=x.toNat) ?_ (by simpa using hx)
    have e:QA x.toNat=[x]:=by
     rw[Xf _ h0,show x.toNat/256=0 by omega,Qy];simp
    rw[e];exact h
  ·exact h
 ·exact h
def QJw:List AV->List AV
 | []=>[]
 | a::l=>QJv a::QJw l
theorem QE9 {w:World}{O:Nat->Prop}{ρ:Env}{l:List AV}{vs:List Value}(h:Qo w O ρ l vs):Qo w O ρ (QJw l) vs:=by
 induction h with
 | nil=>exact .nil
 | cons h _ ih=>exact .cons (QE8 h) ih
def nrm (c:Ctr):Ctr:=fun l=>c (QJw l)
theorem _root_.Go.Eng.CtrOK.nrm {P:Program}{g:Nat}{tab:List Value}{f:Nat}{c:Ctr}(h:CtrOK P g tab f c):CtrOK P g tab f (Proofs.nrm c):=
 ⟨h.enter,fun _ T hT K hK=>Spec.args (h.sound _ T hT K hK) fun _ _ _ hc=>QE9 hc⟩
def RatIs (q:Rat)(n:Nat)(av:AV):Prop:= ∃s x y,av= .x true [.v (.bool s),x,y]/\s=decide (q.num<0)/\NatIs q.num.natAbs n (.x false [x])/\NatIs q.den n (.x false [y])
theorem RatIs.conc {w:World}{O:Nat->Prop}{ρ:Env}{q:Rat}{n:Nat}{av:AV}{v:Value}(h:RatIs q n av)(hc:ConcV w O ρ av v):ConcV w O ρ (.x true [.r q n]) v:=by
 obtain⟨s,x,y,rfl,rfl,hx,hy⟩:=h;obtain⟨vals,h1,h2⟩:=hc;cases h1 with
 | v _ h1=>
  obtain⟨us,rest,rfl,_,k1,k2⟩:=h1.cons;obtain⟨vs,rest2,rfl,_,k3,k4⟩:=k2.cons;cases k4
  have one: ∀{m:Nat} {c:Ch} {us:List Value},NatIs m n (.x false [c])->CC w O ρ [c] us->us=[YV (QA m)]:=by
   intro m c us hn hcc;obtain⟨_,⟨n',e⟩ | ⟨l,e,rfl⟩⟩:=hn
   ·cases e;cases hcc with | b _ h=>cases h;rfl
   ·cases e;cases hcc with | v _ h=>cases h;rfl
  have e1:=one hx k1;have e2:=one hy k3;subst e1 e2;exact⟨_,.r ⟨hx.1,hy.1⟩ .nil,h2⟩
theorem QDJ {P:Program}{g:Nat}{tab:List Value}{f:Nat}{l:List AV}{q:Rat}{n:Nat}{K:AV->Prop}(h:Eng.Spec P g tab f l (RatIs q n))(hk:K (.x true [.r q n])):Eng.Spec P g tab f l K:=
 Eng.Spec.res h fun _ _ _ _ hn hc=>⟨_,hk,hn.conc hc⟩
theorem QGD {w:World}{O:Nat->Prop}{ρ:Env}{q:Rat}{n:Nat}{l:List AV}{vals:List Value}(h:Qo w O ρ (.x true [.r q n]::l) vals):Bd n q:=by
 cases h with
 | cons h _=>obtain⟨vs,h1,_⟩:=h;cases h1 with | r hb _=>exact hb
theorem Bd.num {n:Nat}{q:Rat}(h:Bd n q):q.num.natAbs<2^n:=h.1
theorem Bd.den {n:Nat}{q:Rat}(h:Bd n q):q.den<2^n:=h.2
def L18:LC:=(62,nrm QGC)::(51,nrm QF4)::(61,nrm QF5)::(36,nrm QC1)::(63,nrm QGA)::(35,nrm QF3)::L17
noncomputable def T18:Qh:=mkT L18 M15 X4
theorem QNz:QN L18:= .cons ok_Gcd.nrm (.cons ok_Add.nrm (.cons ok_Sub.nrm (.cons ok_Mul.nrm (.cons ok_Div.nrm (.cons ok_Cmp.nrm QQu)))))
theorem QN0:XO T18:=Qq QNz Un XP
def QAf (K:AV->Prop):Prop:=Qc T18 (oF Tryd.f54) noL Tryd.f54 [] K
theorem QBg (K:AV->Prop):QAf K=(K (Zi true [Zg (Zd false),Zg (Zt (Zc (Zn []))),Zg (Zt (Zc (Zn [OfNat.ofNat 1])))])):=by kernel_rfl
theorem QFA:QA 1=[1]:=rfl
theorem QGE {m:Nat}:QA m=[1]↔m=1:=⟨fun h=>Wk (by rw[h];rfl),fun h=>by rw[h];rfl⟩
set_option maxHeartbeats 1000000 in
theorem QPF (q:Rat)(n:Nat)(K:AV->Prop)(hn:n<=4294967296)(hK:K (.x false [.v (.bool true)])):QU (Qc T18 (oF Tryd.f53) noL Tryd.f53 [.x true [.r q n]] K):=by
 refine HV ((bif decide (QA q.den=[])then K (Zi false [Zg (Zd false)])else ∃(b:UInt8),((0:Int)<=0/\(QA q.den)[0]?=some b)/\bif Za b.toNat==0 then K (Zi false [Zg (Zd false)])else bif decide (QA q.num.natAbs=[])then bif decide (q.num<0)then K (Zi false [Zg (Zd false)])else bif !decide (QA q.den=(Zc #[1]).data.toList)then K (Zi false [Zg (Zd false)])else bif !decide (QA q.num.natAbs=(Zc #[]).data.toList)then ∃(b:UInt8),((0:Int)<=0/\(QA q.num.natAbs)[0]?=some b)/\bif Za b.toNat==0 then K (Zi false [Zg (Zd false)])else bif decide (QA q.den=[OfNat.ofNat 1])then K (Zi false [Zg (Zd true)])else(n<=4294967296/\n<=4294967296)/\K (Zi false [Zg (Zd (decide (QA (q.num.natAbs.gcd q.den)=(Zc #[1]).data.toList)))])else bif decide (QA q.den=[OfNat.ofNat 1])then K (Zi false [Zg (Zd true)])else(n<=4294967296/\n<=4294967296)/\K (Zi false [Zg (Zd (decide (QA (q.num.natAbs.gcd q.den)=(Zc #[1]).data.toList)))])else bif !decide (QA q.num.natAbs=(Zc #[]).data.toList)then ∃(b:UInt8),((0:Int)<=0/\(QA q.num.natAbs)[0]?=some b)/\bif Za b.toNat==0 then K (Zi false [Zg (Zd false)])else bif decide (QA q.den=[OfNat.ofNat 1])then K (Zi false [Zg (Zd true)])else(n<=4294967296/\n<=4294967296)/\K (Zi false [Zg (Zd (decide (QA (q.num.natAbs.gcd q.den)=(Zc #[1]).data.toList)))])else bif decide (QA q.den=[OfNat.ofNat 1])then K (Zi false [Zg (Zd true)])else(n<=4294967296/\n<=4294967296)/\K (Zi false [Zg (Zd (decide (QA (q.num.natAbs.gcd q.den)=(Zc #[1]).data.toList)))]))) ?_
 have hd:=q.den_nz;obtain⟨b,hb,hb0⟩:=WT hd;have hbb:((b.toNat:Int)==0)=false:=by simp;omega
 have hg:Zj q.num.natAbs q.den=1:=q.reduced;have e1:((Zc #[(1:UInt8)]).data.toList)=[1]:=rfl;have e2:((Zc #[]).data.toList)=([]:List UInt8):=rfl;have tail:bif decide (QA q.den=[1])then K (.x false [.v (.bool true)])else(n<=4294967296/\n<=4294967296)/\K (.x false [.v (.bool (decide (QA (Zj q.num.natAbs q.den)=[1])))]):=by
  refine QE (fun _=>hK) (fun _=>⟨⟨hn,hn⟩,?_⟩);rw[hg,QFA];exact hK
 simp only[];refine QE (fun h=>absurd (Qk.1 (R5 h)) hd) (fun _=>⟨b,⟨by omega,hb⟩,?_⟩);simp only[Zk,hbb,R8];refine QE (fun h=> ?_) (fun h=> ?_)
 ·have h:=Qk.1 (R5 h);have h0: ¬q.num<0:=by omega
  have h1:q.den=1:=by rw[h,Nat.gcd_zero_left]at hg;exact hg
  have h2:QA q.num.natAbs=[]:=Qk.2 h;simp only[h0,decide_false,R8,h1,h2,QFA,decide_true,Bool.not_true];rw[h1,QFA]at tail;exact tail
 ·have h:=R6 h;have hz:q.num.natAbs≠0:=fun e=>h (Qk.2 e);obtain⟨c,hc,hc0⟩:=WT hz;have hcc:((c.toNat:Int)==0)=false:=by simp;omega
  simp only[h,decide_false,R7,Bool.not_false];refine⟨c,⟨by omega,hc⟩,?_⟩;simp only[hcc,R8];exact tail
theorem QPG:QU (QAf (RatIs 0 1)):=by
 refine⟨?_⟩;rw[QBg];exact⟨_,_,_,rfl,rfl,⟨by decide,.inr ⟨[],rfl,rfl⟩⟩,⟨by decide,.inr ⟨[1],rfl,rfl⟩⟩⟩
def QFB:Ctr
 | [.x true [.r _ n]]=>some fun K=>n<=4294967296/\K (.x false [.v (.bool true)])
 | _=>none
def QFC:Ctr
 | []=>some fun K=>K (.x true [.r 0 1])
 | _=>none
theorem QMr:QT 53 QFB:=by
 refine okL Tryd.func53 fun l T hT K hK=> ?_
 unfold QFB at hT;split at hT<;>cases hT
 exact spL QN0 QW Tryd.func53 (QPF _ _ K hK.1 hK.2)
theorem QMs:QT 54 QFC:=by
 refine⟨Qm Tryd.func54 (by kernel_rfl),fun l T hT K hK=> ?_⟩;unfold QFC at hT;split at hT
 ·cases hT
  exact QDJ (Qn QN0 QW Tryd.func54 (by kernel_rfl) (by kernel_rfl) (by rfl) QPG) hK
 ·cases hT
def L19:LC:=(53,QFB)::(54,QFC)::L18
noncomputable def T19:Qh:=mkT L19 M15 X4
theorem QN1:QN L19:= .cons QMr (.cons QMs QNz)
theorem QJx:XO T19:=Qq QN1 Un XP
def QAg (s:Bool)(n a d b:Nat)(K:AV->Prop):Prop:=Qc T19 (oF Tryd.f39) noL Tryd.f39 [.x false [.v (.bool s)],bA n a,bA d b] K
theorem QBh (s:Bool)(n:Nat)(a:Nat)(d:Nat)(b:Nat)(K:AV->Prop):QAg s n a d b K=(bif decide (QA n=[])then K (Zi true [Zz (OfNat.ofNat 0) 1])else bif !decide (QA d=(Zc #[1]).data.toList)then(a<=4294967296/\b<=4294967296)/\bif !decide (QA (n.gcd d)=(Zc #[1]).data.toList)then(a<=549755813888/\a+b<=549755813888)/\(b<=549755813888/\a+b<=549755813888)/\K (Zi true [Zg (Zd s),Zy (n/n.gcd d) a,Zy (d/n.gcd d) b])else K (Zi true [Zg (Zd s),Zy n a,Zy d b])else K (Zi true [Zg (Zd s),Zy n a,Zy d b])):=by kernel_rfl
def Up (s:Bool)(m a:Nat)(t:Bool)(n b:Nat)(K:AV->Prop):Prop:=Qc T19 (oF Tryd.f38) noL Tryd.f38 [.x false [.v (.bool s)],bA m a,.x false [.v (.bool t)],bA n b] K
theorem GQ (s:Bool)(m:Nat)(a:Nat)(t:Bool)(n:Nat)(b:Nat)(K:AV->Prop):Up s m a t n b K=(True/\bif s==t then(a<=(549755813888:Nat)/\b<=(549755813888:Nat))/\K (AV.t [(false,[Zg (Zd s)]),(false,[Zy (m+n) (max a b+(1:Nat))])])else(a<=(549755813888:Nat)/\b<=(549755813888:Nat))/\bif(bif decide (m<n)then(1:Int)else(0:Int))==(0:Int)then K (AV.t [(false,[Zg (Zd s)]),(false,[Zy (bif decide (m<n)then(0:Nat)else m-n) a])])else(b<=(549755813888:Nat)/\a<=(549755813888:Nat))/\K (AV.t [(false,[Zg (Zd t)]),(false,[Zy (bif decide (n<m)then(0:Nat)else n-m) b])])):=by kernel_rfl
def RatR (q:Rat)(n:Nat)(av:AV):Prop:=RatIs q n av∨ ∃m,m<=n/\av= .x true [.r q m]
theorem RatR.conc {w:World}{O:Nat->Prop}{ρ:Env}{q:Rat}{n:Nat}{av:AV}{v:Value}(h:RatR q n av)(hc:ConcV w O ρ av v):ConcV w O ρ (.x true [.r q n]) v:=by
 rcases h with h | ⟨m,hm,rfl⟩
 ·exact h.conc hc
 ·obtain⟨vs,h1,h2⟩:=hc;cases h1 with
  | r hb h=>exact⟨_,.r (hb.mono hm) h,h2⟩
theorem JT {P:Program}{g:Nat}{tab:List Value}{f:Nat}{l:List AV}{q:Rat}{n:Nat}{K:AV->Prop}(h:Eng.Spec P g tab f l (RatR q n))(hk:K (.x true [.r q n])):Eng.Spec P g tab f l K:=
 Eng.Spec.res h fun _ _ _ _ hn hc=>⟨_,hk,hn.conc hc⟩
theorem RatR.of {q:Rat}{n m:Nat}(h:m<=n):RatR q n (.x true [.r q m]):= .inr ⟨m,h,rfl⟩
theorem QQv (q:Rat)(n:Nat)(K:AV->Prop)(hn:n<=4294967296)(hK:K (.x true [.r q n])):QU (Qc T19 (oF Tryd.f34) noL Tryd.f34 [.x true [.r q n]] K):=by
 refine HV ((n<=4294967296/\K (Zi true [Zz q n]))) ?_
 exact⟨hn,hK⟩
theorem QJy {s:Bool}{n d a b:Nat}(hd:d≠0)(hn0:n≠0)(hn:n<2^a)(hdb:d<2^b):RatIs (XF s n d) (max a b) (.x true [.v (.bool s),.b (n/Zj n d) a,.b (d/Zj n d) b]):=by
 have h1:=KL (Zw a b);have h2:=KL (Zu a b);refine⟨_,_,_,rfl,(QHS s n d hd hn0).symm,?_,?_⟩
 ·rw[QBK s n d hd];have:=Zr n (Zj n d);exact .b (by omega)
 ·rw[QAT s n d hd];have:=Zr d (Zj n d);exact .b (by omega)
theorem QPH (s:Bool)(n a d b:Nat)(ha:a<=4294967296)(hb:b<=4294967296)(hn:n<2^a)(hdb:d<2^b)(hd:d≠0):QU (QAg s n a d b (RatR (XF s n d) (max a b))):=by
 refine⟨?_⟩;rw[QBh];have hb1:1<=b:=by
  rcases Nat.eq_zero_or_pos b with h | h
  ·subst h;rw[Nat.pow_zero]at hdb;omega
  ·exact h
 have e1:((Zc #[(1:UInt8)]).data.toList)=[1]:=rfl;simp only[];refine QE (fun h=> ?_) (fun h=> ?_)
 ·have h:=Qk.1 (R5 h);subst h;rw[QEg];exact .of (by omega)
 ·have hn0:n≠0:=fun e=>R6 h (Qk.2 e);have main:=QJy (s:=s) hd hn0 hn hdb;refine QE (fun h1=>⟨⟨ha,hb⟩,QE (fun h2=> ?_) (fun h2=> ?_)⟩) (fun h1=> ?_)
  ·exact⟨by omega,by omega,.inl main⟩
  ·have h2:Zj n d=1:=QGE.1 (by simpa using h2);rw[h2,Zx,Zx]at main;exact .inl main
  ·have h1:d=1:=QGE.1 (by simpa using h1);subst h1;rw[Nat.gcd_one_right,Zx,Zx]at main;exact .inl main
def SgnR (r:Bool×Nat)(c:Nat)(av:AV):Prop:= ∃x,av= .t [(false,[.v (.bool r.1)]),(false,[x])]/\NatIs r.2 c (.x false [x])
theorem SgnR.conc {w:World}{O:Nat->Prop}{ρ:Env}{r:Bool×Nat}{c:Nat}{av:AV}{v:Value}(h:SgnR r c av)(hc:ConcV w O ρ av v):ConcV w O ρ (.t [(false,[.v (.bool r.1)]),(false,[.b r.2 c])]) v:=by
 obtain⟨x,rfl,hx⟩:=h;obtain⟨vs,h1,h2⟩:=hc;cases h1 with
 | cons h1 h3=>cases h3 with
  | cons h3 h4=>exact⟨_,.cons h1 (.cons (hx.conc (av:= .x false [x]) h3) h4),h2⟩
theorem QJz (s:Bool)(m a:Nat)(t:Bool)(n b:Nat)(ha:a<=549755813888)(hb:b<=549755813888)(hm:m<2^a)(hn:n<2^b):QU (Up s m a t n b (SgnR (YQ s m t n) (max a b+1))):=by
 refine⟨?_⟩;rw[GQ];have h1:=KL (Zw a b);have h2:=KL (Zu a b);have h3:2^(max a b+1)=2*2^max a b:=Nat.pow_succ';unfold YQ;refine⟨trivial,QE (fun h=> ?_) (fun h=> ?_)⟩
 ·rw[h,R7];exact⟨⟨ha,hb⟩,_,rfl,.b (by simp only;omega)⟩
 ·rw[h,R8];by_cases hlt:m<n
  ·have e1:decide (n<=m)=false:=by simp;omega
   have e2:decide (n<m)=false:=by simp;omega
   have e3:decide (m<n)=true:=by simp;omega
   simp only[e1,e2,e3,R7,R8];exact⟨⟨ha,hb⟩,⟨hb,ha⟩,_,rfl,.b (by simp only;omega)⟩
  ·have e1:decide (n<=m)=true:=by simp;omega
   have e3:decide (m<n)=false:=by simp;omega
   simp only[e1,e3,R7,R8];exact⟨⟨ha,hb⟩,_,rfl,.b (by simp only;omega)⟩
def QJ0:Ctr
 | [.x true [.r q n]]=>some fun K=>n<=4294967296/\K (.x true [.r q n])
 | _=>none
def QFD:Ctr
 | [.x false [.v (.bool s)],.x false [.b n a],.x false [.b d b]]=>some fun K=>((a<=4294967296/\b<=4294967296)/\d≠0)/\K (.x true [.r (XF s n d) (max a b)])
 | _=>none
def GR:Ctr
 | [.x false [.v (.bool s)],.x false [.b m a],.x false [.v (.bool t)],.x false [.b n b]]=>some fun K=>(a<=549755813888/\b<=549755813888)/\K (.t [(false,[.v (.bool (YQ s m t n).1)]),(false,[.b (YQ s m t n).2 (max a b+1)])])
 | _=>none
theorem QPI:QT 34 QJ0:=by
 refine okL Tryd.func34 fun l T hT K hK=> ?_
 unfold QJ0 at hT;split at hT<;>cases hT
 exact spL QJx QW Tryd.func34 (QQv _ _ K hK.1 hK.2)
theorem QDK {w:World}{O:Nat->Prop}{ρ:Env}{a c:AV}{m n:Nat}{l:List AV}{vals:List Value}(h:Qo w O ρ (c::a:: .x false [.b m n]::l) vals):m<2^n:=by
 cases h with
 | cons _ h=>exact JI h
theorem ok_made:QT 39 QFD:=by
 refine⟨Qm Tryd.func39 (by kernel_rfl),fun l T hT K hK=> ?_⟩;unfold QFD at hT;split at hT
 ·rename_i s n a d b;cases hT
  exact YZ fun w O ρ vals hc=>JT (Qn QJx QW Tryd.func39 (by kernel_rfl) (by kernel_rfl) (by rfl) (QPH s n a d b hK.1.1.1 hK.1.1.2 (JI hc) (QDK hc) hK.1.2)) hK.2
 ·cases hT
theorem QHu:QT 38 GR:=by
 refine⟨Qm Tryd.func38 (by kernel_rfl),fun l T hT K hK=> ?_⟩;unfold GR at hT;split at hT
 ·rename_i s m a t n b;cases hT
  refine YZ fun w O ρ vals hc=>Eng.Spec.res (Qn QJx QW Tryd.func38 (by kernel_rfl) (by kernel_rfl) (by rfl) (QJz s m a t n b hK.1.1 hK.1.2 (JI hc) ?_)) fun _ _ _ _ hn hc=>⟨_,hK.2,hn.conc hc⟩;cases hc with
  | cons _ h=>exact QDK h
 ·cases hT
def L20:LC:=(34,QJ0)::(39,nrm QFD)::(38,GR)::L19
noncomputable def T20:Qh:=mkT L20 M15 X4
theorem QN2:QN L20:= .cons QPI (.cons ok_made.nrm (.cons QHu QN1))
theorem Vj:XO T20:=Qq QN2 Un XP
end Go.Proofs
namespace Go.Proofs
open Go Go.Eng
def rA (q:Rat)(n:Nat):AV:= .x true [.r q n]
def QDL (n:Int)(K:AV->Prop):Prop:=Qc T20 (oF Tryd.f32) noL Tryd.f32 [iA .i64 n] K
theorem QDM (n:Int)(K:AV->Prop):QDL n K=(bif decide (n≥0)then n<9223372036854775808/\((63<=4294967296/\8<=4294967296)/\1≠0)/\K (Zi true [Zz (XF false n.toNat 1) 63])else Zb.wrap (0-Zb.wrap (n+1))<9223372036854775808/\(63<=549755813888/\8<=549755813888)/\((64<=4294967296/\8<=4294967296)/\1≠0)/\K (Zi true [Zz (XF true ((Zb.wrap (0-Zb.wrap (n+1))).toNat+1) 1) 64])):=by kernel_rfl
def QAh (p:Rat)(a:Nat)(q:Rat)(b:Nat)(K:AV->Prop):Prop:=Qc T20 (oF Tryd.f14) noL Tryd.f14 [rA p a,rA q b] K
theorem QBi (p:Rat)(a:Nat)(q:Rat)(b:Nat)(K:AV->Prop):QAh p a q b K=(a<=4294967296/\b<=4294967296/\bif decide (p.den=q.den)then(a<=549755813888/\b<=549755813888)/\((max a b+1<=4294967296/\a<=4294967296)/\p.den≠0)/\K (Zi true [Zz (XF (YQ (decide (p.num<0)) p.num.natAbs (decide (q.num<0)) q.num.natAbs).fst (YQ (decide (p.num<0)) p.num.natAbs (decide (q.num<0)) q.num.natAbs).snd p.den) (max (max a b+1) a)])else(a<=274877906944/\b<=274877906944)/\(b<=274877906944/\a<=274877906944)/\(a+b<=549755813888/\b+a<=549755813888)/\(a<=274877906944/\b<=274877906944)/\((max (a+b) (b+a)+1<=4294967296/\a+b<=4294967296)/\p.den*q.den≠0)/\K (Zi true [Zz (XF (YQ (decide (p.num<0)) (p.num.natAbs*q.den) (decide (q.num<0)) (q.num.natAbs*p.den)).fst (YQ (decide (p.num<0)) (p.num.natAbs*q.den) (decide (q.num<0)) (q.num.natAbs*p.den)).snd (p.den*q.den)) (max (max (a+b) (b+a)+1) (a+b))])):=by kernel_rfl
def QAi (p:Rat)(a:Nat)(q:Rat)(b:Nat)(K:AV->Prop):Prop:=Qc T20 (oF Tryd.f30) noL Tryd.f30 [rA p a,rA q b] K
theorem QBj (p:Rat)(a:Nat)(q:Rat)(b:Nat)(K:AV->Prop):QAi p a q b K=(a<=4294967296/\b<=4294967296/\True/\(a<=274877906944/\b<=274877906944)/\(a<=274877906944/\b<=274877906944)/\((a+b<=4294967296/\a+b<=4294967296)/\p.den*q.den≠0)/\K (Zi true [Zz (XF (!decide (p.num<0)==decide (q.num<0)) (p.num.natAbs*q.num.natAbs) (p.den*q.den)) (max (a+b) (a+b))])):=by kernel_rfl
def UT (p:Rat)(a:Nat)(q:Rat)(b:Nat)(K:AV->Prop):Prop:=Qc T20 (oF Tryd.f28) noL Tryd.f28 [rA p a,rA q b] K
theorem Vk (p:Rat)(a:Nat)(q:Rat)(b:Nat)(K:AV->Prop):UT p a q b K=(a<=4294967296/\b<=4294967296/\bif decide (QA q.num.natAbs=[])then K (AV.t [(true,[Zg (Zd false),Zg (Zt (Zc (Zn []))),Zg (Zt (Zc (Zn [])))]),(false,[Zg (Zf Zb 12)])])else True/\(a<=274877906944/\b<=274877906944)/\(a<=274877906944/\b<=274877906944)/\((a+b<=4294967296/\a+b<=4294967296)/\p.den*q.num.natAbs≠0)/\K (AV.t [(true,[Zz (XF (!decide (p.num<0)==decide (q.num<0)) (p.num.natAbs*q.den) (p.den*q.num.natAbs)) (max (a+b) (a+b))]),(false,[Zg (Zf Zb 0)])])):=by kernel_rfl
def QAj (p:Rat)(a:Nat)(K:AV->Prop):Prop:=Qc T20 (oF Tryd.f37) noL Tryd.f37 [rA p a] K
theorem QBk (p:Rat)(a:Nat)(K:AV->Prop):QAj p a K=(a<=4294967296/\bif !decide (p.num<0)then K (Zi true [Zg (Zd !decide (QA p.num.natAbs=(Zc #[]).data.toList)),Zy p.num.natAbs a,Zy p.den a])else K (Zi true [Zg (Zd false),Zy p.num.natAbs a,Zy p.den a])):=by kernel_rfl
def QAk (p:Rat)(a:Nat)(K:AV->Prop):Prop:=Qc T20 (oF Tryd.f12) noL Tryd.f12 [rA p a] K
theorem QBl (p:Rat)(a:Nat)(K:AV->Prop):QAk p a K=(a<=4294967296/\K (Zi true [Zg (Zd false),Zy p.num.natAbs a,Zy p.den a])):=by kernel_rfl
def WV (q:Rat):Int:=if q.num=0 then 0 else if q.num<0 then-1 else 1
theorem QQw (n:Int)(h0: -9223372036854775808<=n)(h1:n<9223372036854775808):QU (QDL n (RatR (n:Rat) 64)):=by
 refine⟨?_⟩;rw[QDM];have key: ∀m:Int,mkRat m 1=(m:Rat):=fun m=>by
  rw[Rat.mkRat_one]
 refine QE (fun h=> ?_) (fun h=> ?_)
 ·have h:=R5 h;have e:XF false n.toNat 1=(n:Rat):=by
   unfold XF;rw[R8,key];congr 1;omega
  rw[e];exact⟨h1,by omega,.of (by omega)⟩
 ·have h:=R6 h;rw[w64 (n:=n+1) (by omega),w64 (by omega)];have e:XF true ((0-(n+1)).toNat+1) 1=(n:Rat):=by
   unfold XF;rw[R7,key];congr 1;omega
  rw[e];exact⟨by omega,by omega,by omega,.of (by omega)⟩
theorem QPJ (p:Rat)(a:Nat)(q:Rat)(b:Nat)(h:a+b+1<=4294967296):QU (QAh p a q b (RatR (p+q) (a+b+1))):=by
 refine⟨?_⟩;rw[QBi];have hp:=p.den_nz;have hq:=q.den_nz;refine⟨by omega,by omega,QE (fun hd=> ?_) (fun hd=> ?_)⟩
 ·have hd:=R5 hd;rw[H3 p q hd];exact⟨by omega,by omega,.of (by omega)⟩
 ·rw[QHV];exact⟨by omega,by omega,by omega,by omega,⟨by omega,Zv hp hq⟩,.of (by omega)⟩
theorem QPK (p:Rat)(a:Nat)(q:Rat)(b:Nat)(h:a+b<=4294967296):QU (QAi p a q b (RatR (p*q) (a+b))):=by
 refine⟨?_⟩;rw[QBj];refine⟨by omega,by omega,trivial,by omega,by omega,⟨by omega,Zv p.den_nz q.den_nz⟩,?_⟩;have e:=QHT p q;rw[show(!(decide (p.num<0)==decide (q.num<0)))=(decide (p.num<0) !=decide (q.num<0))from rfl,e];exact .of (by omega)
def RatE (q:Rat)(n:Nat)(e:Int)(av:AV):Prop:= ∃b cs,av= .t [(b,cs),(false,[.v (.int .i64 e)])]/\RatR q n (.x b cs)
theorem RatE.conc {w:World}{O:Nat->Prop}{ρ:Env}{q:Rat}{n:Nat}{e:Int}{av:AV}{v:Value}(h:RatE q n e av)(hc:ConcV w O ρ av v):ConcV w O ρ (.t [(true,[.r q n]),(false,[.v (.int .i64 e)])]) v:=by
 obtain⟨b,cs,rfl,hx⟩:=h;obtain⟨vs,h1,h2⟩:=hc;cases h1 with
 | cons h1 h3=>cases h3 with
  | cons h3 h4=>exact⟨_,.cons (hx.conc (av:= .x b cs) h1) (.cons h3 h4),h2⟩
theorem QPL (p:Rat)(a:Nat)(q:Rat)(b:Nat)(h:a+b<=4294967296)(hq:q≠0):QU (UT p a q b (RatE (p/q) (a+b) 0)):=by
 refine⟨?_⟩;rw[Vk];have hn:q.num≠0:=fun e=>hq (Rat.num_eq_zero.1 e);refine⟨by omega,by omega,QE (fun h0=> ?_) (fun _=>⟨trivial,by omega,by omega,⟨by omega,Zv p.den_nz (by omega)⟩,?_⟩)⟩
 ·have:=Qk.1 (R5 h0);omega
 ·rw[show(!(decide (p.num<0)==decide (q.num<0)))=(decide (p.num<0) !=decide (q.num<0))from rfl,QHU p q hn];exact⟨_,_,rfl,.of (by omega)⟩
theorem QMt (p:Rat)(a b:Nat)(h:a+b<=4294967296)(K:AV->Prop)(hK:K (.t [(true,[.v (.bool false),.v (.string ⟨⟨[]⟩⟩),.v (.string ⟨⟨[]⟩⟩)]),(false,[.v (.int .i64 12)])])):QU (UT p a 0 b K):=by
 refine⟨?_⟩;rw[Vk];refine⟨by omega,by omega,QE (fun _=>hK) (fun h0=> ?_)⟩;exact absurd (Qk.2 (by rfl)) (R6 h0)
theorem QPM (p:Rat)(a:Nat)(h:a<=4294967296)(hb:Bd a p):QU (QAj p a (RatR (-p) a)):=by
 refine⟨?_⟩;rw[QBk];have hn:(-p).num= -p.num:=rfl;have hd:(-p).den=p.den:=rfl;have e2:((Zc #[]).data.toList)=([]:List UInt8):=rfl;have mk: ∀s:Bool,s=decide ((-p).num<0)->RatR (-p) a (.x true [.v (.bool s),.b p.num.natAbs a,.b p.den a]):=fun s hs=>
  .inl ⟨s,_,_,rfl,hs,by rw[hn,Int.natAbs_neg];exact .b hb.1,by rw[hd];exact .b hb.2⟩
 refine⟨h,QE (fun h1=>mk _ ?_) (fun h1=>mk _ ?_)⟩
 ·have h1: ¬p.num<0:=by simpa using h1
  show(!decide (QA p.num.natAbs=[]))=decide (-p.num<0)
  rw[Bool.eq_iff_iff,decide_eq_true_eq,Bool.not_eq_true',decide_eq_false_iff_not,Qk];omega
 ·have h1:p.num<0:=by simpa using h1
  rw[hn,eq_comm,decide_eq_false_iff_not];omega
def Qf (p:Rat):Rat:=if p.num<0 then-p else p
theorem QPN (p:Rat)(a:Nat)(h:a<=4294967296)(hb:Bd a p):QU (QAk p a (RatR (Qf p) a)):=by
 refine⟨?_⟩;rw[QBl];have hn:(Qf p).num.natAbs=p.num.natAbs:=by
  unfold Qf;split
  ·exact Int.natAbs_neg _
  ·rfl
 have hd:(Qf p).den=p.den:=by
  unfold Qf;split
  ·rfl
  ·rfl
 have h0: ¬(Qf p).num<0:=by
  unfold Qf;split
  ·show ¬ -p.num<0;omega
  ·assumption
 exact⟨h,.inl ⟨_,_,_,rfl,by simp[h0],by rw[hn];exact .b hb.1,by rw[hd];exact .b hb.2⟩⟩
theorem QMu (p:Rat)(a:Nat)(h:a<=4294967296)(K:AV->Prop)(hK:K (iA .i64 (WV p))):QU (Qc T20 (oF Tryd.f10) noL Tryd.f10 [rA p a] K):=by
 refine HV ((a<=4294967296/\bif decide (QA p.num.natAbs=[])then K (Zi false [Zg (Zf Zb 0)])else bif decide (p.num<0)then K (Zi false [Zg (Zf Zb (-1))])else K (Zi false [Zg (Zf Zb 1)]))) ?_
 unfold WV at hK;refine⟨h,QE (fun h1=> ?_) (fun h1=>QE (fun h2=> ?_) (fun h2=> ?_))⟩
 ·have h1:=Qk.1 (R5 h1);rw[if_pos (by omega)]at hK;exact hK
 ·have h1: ¬p.num.natAbs=0:=fun e=>R6 h1 (Qk.2 e);rw[if_neg (by omega),if_pos (R5 h2)]at hK;exact hK
 ·have h1: ¬p.num.natAbs=0:=fun e=>R6 h1 (Qk.2 e);rw[if_neg (by omega),if_neg (R6 h2)]at hK;exact hK
theorem QJ1 (m n:Nat): -1<=YR m n/\YR m n<=1:=by unfold YR;split<;>(try split)<;>omega
theorem QPO (p:Rat)(a:Nat)(q:Rat)(b:Nat)(h:a+b<=4294967296)(K:AV->Prop)(hK:K (iA .i64 (JS p q))):QU (Qc T20 (oF Tryd.f11) noL Tryd.f11 [rA p a,rA q b] K):=by
 refine HV ((a<=4294967296/\b<=4294967296/\True/\bif !decide (p.num<0)==decide (q.num<0)then bif decide (p.num<0)then K (Zi false [Zg (Zf Zb (-1))])else K (Zi false [Zg (Zf Zb 1)])else(a<=274877906944/\b<=274877906944)/\(b<=274877906944/\a<=274877906944)/\bif decide (p.num<0)then K (Zi false [Zg (Zf Zb (Zb.wrap (0-YR (p.num.natAbs*q.den) (q.num.natAbs*p.den))))])else K (Zi false [Zg (Zf Zb (YR (p.num.natAbs*q.den) (q.num.natAbs*p.den)))]))) ?_
 refine⟨by omega,by omega,trivial,QE (fun h1=> ?_) (fun h1=>⟨by omega,by omega,?_⟩)⟩
 ·refine QE (fun h2=> ?_) (fun h2=> ?_)
  ·have h2:=R5 h2;have h3: ¬q.num<0:=fun h3=>by simp[h2,h3]at h1
   rw[QL2 h2 h3]at hK;exact hK
  ·have h2:=R6 h2;have h3:q.num<0:=by
    apply Classical.byContradiction;intro h3;simp[h2,h3]at h1
   rw[QL3 h2 h3]at hK;exact hK
 ·have h1:decide (p.num<0)=decide (q.num<0):=by simpa using h1
  rw[QHX p q h1]at hK;have hl:=QJ1 (p.num.natAbs*q.den) (q.num.natAbs*p.den);refine QE (fun h2=> ?_) (fun h2=> ?_)
  ·rw[h2,R7]at hK;rw[w64 (by omega),Int.zero_sub];exact hK
  ·rw[h2,R8]at hK;exact hK
def QJ2:Ctr
 | [.x false [.v (.int .i64 n)]]=>some fun K=>(-9223372036854775808<=n/\n<9223372036854775808)/\K (rA (n:Rat) 64)
 | _=>none
def QFE:Ctr
 | [.x true [.r p a],.x true [.r q b]]=>some fun K=>a+b+1<=4294967296/\K (rA (p+q) (a+b+1))
 | _=>none
def QFF:Ctr
 | [.x true [.r p a],.x true [.r q b]]=>some fun K=>a+b<=4294967296/\K (rA (p*q) (a+b))
 | _=>none
def QFG:Ctr
 | [.x true [.r p a],.x true [.r q b]]=>some fun K=>a+b<=4294967296/\(q≠0->K (.t [(true,[.r (p/q) (a+b)]),(false,[.v (.int .i64 0)])]))/\(q=0->K (.t [(true,[.v (.bool false),.v (.string ⟨⟨[]⟩⟩),.v (.string ⟨⟨[]⟩⟩)]),(false,[.v (.int .i64 12)])]))
 | _=>none
def QFH:Ctr
 | [.x true [.r p a]]=>some fun K=>a<=4294967296/\K (rA (-p) a)
 | _=>none
def QFI:Ctr
 | [.x true [.r p a]]=>some fun K=>a<=4294967296/\K (rA (Qf p) a)
 | _=>none
def QBm:Ctr
 | [.x true [.r p a]]=>some fun K=>a<=4294967296/\K (iA .i64 (WV p))
 | _=>none
def QFJ:Ctr
 | [.x true [.r p a],.x true [.r q b]]=>some fun K=>a+b<=4294967296/\K (iA .i64 (JS p q))
 | _=>none
theorem QPP:QT 32 QJ2:=by
 refine⟨Qm Tryd.func32 (by kernel_rfl),fun l T hT K hK=> ?_⟩;unfold QJ2 at hT;split at hT
 ·cases hT
  exact JT (Qn Vj QW Tryd.func32 (by kernel_rfl) (by kernel_rfl) (by rfl) (QQw _ hK.1.1 hK.1.2)) hK.2
 ·cases hT
theorem QMv:QT 14 QFE:=by
 refine⟨Qm Tryd.func14 (by kernel_rfl),fun l T hT K hK=> ?_⟩;unfold QFE at hT;split at hT
 ·cases hT
  exact JT (Qn Vj QW Tryd.func14 (by kernel_rfl) (by kernel_rfl) (by rfl) (QPJ _ _ _ _ hK.1)) hK.2
 ·cases hT
theorem QMw:QT 30 QFF:=by
 refine⟨Qm Tryd.func30 (by kernel_rfl),fun l T hT K hK=> ?_⟩;unfold QFF at hT;split at hT
 ·cases hT
  exact JT (Qn Vj QW Tryd.func30 (by kernel_rfl) (by kernel_rfl) (by rfl) (QPK _ _ _ _ hK.1)) hK.2
 ·cases hT
theorem QMx:QT 28 QFG:=by
 refine⟨Qm Tryd.func28 (by kernel_rfl),fun l T hT K hK=> ?_⟩;unfold QFG at hT;split at hT
 ·rename_i p a q b;cases hT
  by_cases hq:q=0
  ·subst hq;exact Qn Vj QW Tryd.func28 (by kernel_rfl) (by kernel_rfl) (by rfl) (QMt p a b hK.1 K (hK.2.2 rfl))
  ·exact Eng.Spec.res (Qn Vj QW Tryd.func28 (by kernel_rfl) (by kernel_rfl) (by rfl) (QPL p a q b hK.1 hq)) fun _ _ _ _ hn hc=>⟨_,hK.2.1 hq,hn.conc hc⟩
 ·cases hT
theorem QMy:QT 37 QFH:=by
 refine⟨Qm Tryd.func37 (by kernel_rfl),fun l T hT K hK=> ?_⟩;unfold QFH at hT;split at hT
 ·cases hT
  exact YZ fun w O ρ vals hc=>JT (Qn Vj QW Tryd.func37 (by kernel_rfl) (by kernel_rfl) (by rfl) (QPM _ _ hK.1 (QGD hc))) hK.2
 ·cases hT
theorem QMz:QT 12 QFI:=by
 refine⟨Qm Tryd.func12 (by kernel_rfl),fun l T hT K hK=> ?_⟩;unfold QFI at hT;split at hT
 ·cases hT
  exact YZ fun w O ρ vals hc=>JT (Qn Vj QW Tryd.func12 (by kernel_rfl) (by kernel_rfl) (by rfl) (QPN _ _ hK.1 (QGD hc))) hK.2
 ·cases hT
theorem QJ3:QT 10 QBm:=by
 refine okL Tryd.func10 fun l T hT K hK=> ?_
 unfold QBm at hT;split at hT<;>cases hT
 exact spL Vj QW Tryd.func10 (QMu _ _ hK.1 K hK.2)
theorem QM0:QT 11 QFJ:=by
 refine okL Tryd.func11 fun l T hT K hK=> ?_
 unfold QFJ at hT;split at hT<;>cases hT
 exact spL Vj QW Tryd.func11 (QPO _ _ _ _ hK.1 K hK.2)
def L21:LC:=(32,QJ2)::(14,QFE)::(30,QFF)::(28,QFG)::(37,QFH)::(12,QFI)::(10,QBm)::(11,QFJ)::L20
noncomputable def T21:Qh:=mkT L21 M15 X4
theorem QN3:QN L21:= .cons QPP (.cons QMv (.cons QMw (.cons QMx (.cons QMy (.cons QMz (.cons QJ3 (.cons QM0 QN2)))))))
theorem QJ4:XO T21:=Qq QN3 Un XP
end Go.Proofs
namespace Go.Proofs
open Go Go.Eng
def QAl (p:Rat)(a:Nat)(q:Rat)(b:Nat)(K:AV->Prop):Prop:=Qc T21 (oF Tryd.f31) noL Tryd.f31 [rA p a,rA q b] K
theorem QBn (p:Rat)(a:Nat)(q:Rat)(b:Nat)(K:AV->Prop):QAl p a q b K=(a+b<=4294967296/\bif decide (JS p q<=0)then a<=4294967296/\K (Zi true [Zz p a])else b<=4294967296/\K (Zi true [Zz q b])):=by kernel_rfl
theorem UU (p q:Rat):JS p q<=0↔p<=q:=by
 unfold JS;split
 ·rename_i h;exact⟨fun _=>Rat.le_of_lt h,fun _=>by decide⟩
 ·rename_i h;split
  ·rename_i h2;subst h2;exact⟨fun _=>Rat.le_refl,fun _=>by decide⟩
  ·rename_i h2;constructor
   ·intro h3;exact absurd h3 (by decide)
   ·intro h3;exfalso;rcases Rat.le_iff_lt_or_eq.1 h3 with h4 | h4
    ·exact h h4
    ·exact h2 h4
theorem GS (p q:Rat):JS p q≥0↔q<=p:=by
 unfold JS;split
 ·rename_i h;constructor
  ·intro h3;exact absurd h3 (by decide)
  ·intro h3;exact absurd h (Rat.not_lt.2 h3)
 ·rename_i h;exact⟨fun _=>Rat.not_lt.1 h,fun _=>by split<;>decide⟩
theorem QPQ (p:Rat)(a:Nat)(q:Rat)(b:Nat)(h:a+b+1<=4294967296)(K:AV->Prop)(hK:K (rA (p-q) (a+b+1))):QU (Qc T21 (oF Tryd.f13) noL Tryd.f13 [rA p a,rA q b] K):=by
 refine HV ((b<=4294967296/\a+b+1<=4294967296/\K (Zi true [Zz (p+ -q) (a+b+1)]))) ?_
 rw[Rat.sub_eq_add_neg]at hK;exact⟨by omega,by omega,hK⟩
theorem QPR (p:Rat)(a:Nat)(q:Rat)(b:Nat)(h:a+b<=4294967296):QU (QAl p a q b (RatR (J9 p q) (max a b))):=by
 refine⟨?_⟩;rw[QBn];unfold J9;refine⟨by omega,QE (fun h1=> ?_) (fun h1=> ?_)⟩
 ·rw[if_pos ((UU p q).1 (R5 h1))];exact⟨by omega,.of (Zw _ _)⟩
 ·rw[if_neg (fun h2=>R6 h1 ((UU p q).2 h2))];exact⟨by omega,.of (Zu _ _)⟩
theorem QM1 (x n:Int)(hn:0<n/\n<9223372036854775808)(K:AV->Prop)(hK:K (iA .i64 (x % n))):QU (Qc T21 (oF Tryd.f8) noL Tryd.f8 [iA .i64 x,iA .i64 n] K):=by
 refine HV ((n≠0/\bif decide (x.tmod n<0)then K (Zi false [Zg (Zf Zb (Zb.wrap (x.tmod n+n)))])else K (Zi false [Zg (Zf Zb (x.tmod n))]))) ?_
 have h1:=Int.emod_nonneg x (by omega:n≠0);have h2:=Int.emod_lt_of_pos x hn.1;have hb:Int.tmod x n<n:=by
  have:=Int.tmod_lt_of_pos x hn.1;exact this
 refine⟨by omega,QE (fun h=> ?_) (fun h=> ?_)⟩
 ·have h:=R5 h;have e:Int.tmod x n+n=x % n:=by
   rw[Int.emod_eq_tmod];rw[if_neg]
   ·omega
   ·intro h';rcases h' with h' | h'
    ·have:=Int.tmod_nonneg n h';omega
    ·rw[Int.tmod_eq_zero_of_dvd h']at h;omega
  rw[e,w64 (by omega)];exact hK
 ·have h:=R6 h;have e:Int.tmod x n=x % n:=by
   rw[Int.tmod_eq_emod];split
   ·omega
   ·rename_i h';exfalso;have h3:x<0:=by omega
    have h4: ¬n∣x:=by omega
    have:=Int.tmod_eq_emod (a:=x) (b:=n);rw[if_neg h']at this;omega
  rw[e];exact hK
def QFK:Ctr
 | [.x true [.r p a],.x true [.r q b]]=>some fun K=>a+b+1<=4294967296/\K (rA (p-q) (a+b+1))
 | _=>none
def QFL:Ctr
 | [.x true [.r p a],.x true [.r q b]]=>some fun K=>a+b<=4294967296/\K (rA (J9 p q) (max a b))
 | _=>none
def QBo:Ctr
 | [.x false [.v (.int .i64 x)],.x false [.v (.int .i64 n)]]=>some fun K=>(0<n/\n<9223372036854775808)/\K (iA .i64 (x % n))
 | _=>none
theorem QM2:QT 13 QFK:=by
 refine okL Tryd.func13 fun l T hT K hK=> ?_
 unfold QFK at hT;split at hT<;>cases hT
 exact spL QJ4 QW Tryd.func13 (QPQ _ _ _ _ hK.1 K hK.2)
theorem QM3:QT 31 QFL:=by
 refine⟨Qm Tryd.func31 (by kernel_rfl),fun l T hT K hK=> ?_⟩;unfold QFL at hT;split at hT
 ·cases hT
  exact JT (Qn QJ4 QW Tryd.func31 (by kernel_rfl) (by kernel_rfl) (by rfl) (QPR _ _ _ _ hK.1)) hK.2
 ·cases hT
theorem QJ5:QT 8 QBo:=by
 refine okL Tryd.func8 fun l T hT K hK=> ?_
 unfold QBo at hT;split at hT<;>cases hT
 exact spL QJ4 QW Tryd.func8 (QM1 _ _ hK.1 K hK.2)
def L22:LC:=(13,QFK)::(31,QFL)::(8,QBo)::L21
theorem QJ6:QN L22:= .cons QM2 (.cons QM3 (.cons QJ5 QN3))
end Go.Proofs
namespace Go.Proofs
open Go Go.Eng
structure QFM (α:Type)where
 xs:List α
 i:Nat
structure GU {α:Type}(l:List α)(x:QFM α):Prop where
  len:x.xs.length=l.length
  hi:2*x.i<=l.length+1
  get: ∀p,x.xs[p]? =if p<x.i∨l.length-x.i<=p then l.reverse[p]? else l[p]?
def QJ7 (l:List UInt8):LI:=fun _=> .inv ⟨QFM UInt8,fun x=>⟨[(0,.x false [.w 1000 0 l.length]),(2,iA .i64 x.i),(3,iA .i64 ((l.length:Int)-1-x.i))],[(1000,QAA x.xs)]⟩,GU l,fun x=>l.length-x.i,fun _=>0⟩
def UW (n:Nat)(qs:List Rat):Blk:= .row 27 3 (qs.map fun q=>[Zz q n])
theorem GU.step {α:Type}{l:List α}{x:QFM α}(h:GU l x)(hi:x.i<l.length-1-x.i){a b:α}(ha:x.xs[l.length-1-x.i]? =some a)(hb:x.xs[x.i]? =some b):GU l ⟨(x.xs.set x.i a).set (l.length-1-x.i) b,x.i+1⟩:=by
 obtain⟨len,_,get⟩:=h;refine⟨by simpa using len,by simp only;omega,fun p=> ?_⟩;simp only;by_cases h1:p=l.length-1-x.i
 ·subst h1;rw[List.getElem?_set,if_pos rfl,if_pos (by rw[List.length_set];omega),if_pos (by omega),Zq (by omega),<-hb,get,if_neg (by omega)];congr 1;omega
 ·rw[List.getElem?_set_ne (by omega)];by_cases h2:p=x.i
  ·subst h2;rw[List.getElem?_set,if_pos rfl,if_pos (by omega),if_pos (by omega),Zq (by omega),<-ha,get,if_neg (by omega)]
  ·rw[List.getElem?_set_ne (by omega),get];by_cases h3:p<x.i∨l.length-x.i<=p
   ·rw[if_pos h3,if_pos (by omega)]
   ·rw[if_neg h3,if_neg (by omega)]
theorem GU.done {α:Type}{l:List α}{x:QFM α}(h:GU l x)(hi: ¬(x.i:Int)<(l.length:Int)-1-x.i):x.xs=l.reverse:=by
 obtain⟨len,h1,get⟩:=h;apply List.ext_getElem?
 intro p;rw[get];split
 ·rfl
 ·rename_i h3;have hp:p<l.length:=by omega
  rw[Zq hp];congr 1;omega
theorem GU.start {α:Type}(l:List α):GU l ⟨l,0⟩:=⟨rfl,by simp,fun p=>by
 simp only;split
 ·rename_i h;rw[List.getElem?_eq_none (by omega),List.getElem?_eq_none (by rw[Zs];omega)]
 ·rfl⟩
set_option maxHeartbeats 1000000 in
theorem QPS (l:List UInt8)(hl:l.length<=1099511627776):QU (JK (X:=Unit) (mkT L22 M15 X4) (oF Tryd.f73) (QJ7 l) Tryd.f73 [.x false [.w 1000 0 l.length]] [(1000,QAA l)] (fun _=>True) (fun _=>⟨[],[(1000,QAA l.reverse)]⟩)):=by
 refine HV (((∃(x:QFM UInt8),(GU l x/\OfNat.ofNat 0=0)/\0=0/\l.length=l.length/\0=Za x.i/\Zb.wrap (Za l.length-1)=Za l.length-1-Za x.i/\5=5/\1=1/\(Ze QK l=Ze QK x.xs∨QG (Ze QK l) (Ze QK x.xs))/\True)/\∀(x:QFM UInt8),GU l x->OfNat.ofNat 0=0->bif decide (Za x.i<Za l.length-1-Za x.i)then(0<=Za l.length-1-Za x.i/\Za l.length-1-Za x.i<Za l.length)/\∃(d:Int),ldE (Ze QK x.xs) (0+(Za l.length-1-Za x.i).toNat) 0 1=some [Zg (Zf Zh d)]/\(0<=Za x.i/\Za x.i<Za l.length)/\∃(d_1:Int),ldE (Ze QK x.xs) (0+(Za x.i).toNat) 0 1=some [Zg (Zf Zh d_1)]/\(0<=Za x.i/\Za x.i<Za l.length)/\0+(Za x.i).toNat<(Ze QK x.xs).length/\(0<=Za l.length-1-Za x.i/\Za l.length-1-Za x.i<Za l.length)/\0+(Za l.length-1-Za x.i).toNat<((Ze QK x.xs).set (0+(Za x.i).toNat) [Zg (Zf Zh d)]).length/\∃(x':QFM UInt8),(GU l x'/\OfNat.ofNat 0=0/\l.length-x'.i<l.length-x.i)/\0=0/\l.length=l.length/\Zb.wrap (Za x.i+1)=Za x'.i/\Zb.wrap (Za l.length-1-Za x.i-1)=Za l.length-1-Za x'.i/\5=5/\1=1/\(((Ze QK x.xs).set (0+(Za x.i).toNat) [Zg (Zf Zh d)]).set (0+(Za l.length-1-Za x.i).toNat) [Zg (Zf Zh d_1)]=Ze QK x'.xs∨QG (((Ze QK x.xs).set (0+(Za x.i).toNat) [Zg (Zf Zh d)]).set (0+(Za l.length-1-Za x.i).toNat) [Zg (Zf Zh d_1)]) (Ze QK x'.xs))/\True else ∃(_x_1:Unit),True/\5=5/\1=1/\(Ze QK x.xs=Ze QK l.reverse∨QG (Ze QK x.xs) (Ze QK l.reverse))/\True)) ?_
 simp only[Zk,R0,R1,Nat.zero_add,R4];refine⟨⟨⟨l,0⟩,.start l,rfl,by rw[w64 (by omega)];simp,.inl rfl⟩,fun x hx=>QE (fun hp=> ?_) (fun hp=> ?_)⟩
 ·have hp:=R5 hp;have len:=hx.len;have hi:=hx.hi;obtain⟨a,ha⟩: ∃a,x.xs[l.length-1-x.i]? =some a:=⟨_,Zl (by omega)⟩
  obtain⟨b,hb⟩: ∃b,x.xs[x.i]? =some b:=⟨_,Zl (by omega)⟩
  have e1:((l.length:Int)-1-x.i).toNat=l.length-1-x.i:=by omega
  have ld: ∀{j:Nat} {c:UInt8},x.xs[j]? =some c->ldE (x.xs.map QK) j 0 1=some [.v (.int .u8 (c.toNat:Int))]:=fun h=>by
   simp only[ldE,List.getElem?_map,h];rfl
  simp only[e1,Zp];refine⟨by omega,_,ld ha,by omega,_,ld hb,by omega,by rw[List.length_map];omega,by omega,by rw[List.length_set,List.length_map];omega,_,⟨hx.step (by omega) ha hb,by simp only;omega⟩,?_,?_,.inl ?_⟩
  ·rw[w64 (by omega)];simp
  ·rw[w64 (by omega)];simp only;omega
  ·rw[GO _ _ _ _ rfl,GO _ _ _ _ rfl]
 ·have hp:=R6 hp;rw[hx.done hp];exact⟨(),.inl rfl⟩
def QFN:YA:=fun as0 H _=>match as0 with
 | [.x false [.w k 0 n]]=>match H k with
  | some (.row t 1 xs)=>bif t.beq 5 then
    some fun K=> ∃bs:List UInt8,xs=bs.map QK/\n=bs.length/\bs.length<=1099511627776/\K (.t []) (Xc [(1000,k)] (QO [(1000,QAA bs.reverse)]) H)
    else none
  | _=>none
 | _=>none
theorem QM4:WE 73 QFN:=by
 refine⟨Qm Tryd.func73 (by kernel_rfl),fun l H d T hT K hK=> ?_⟩;unfold QFN at hT;split at hT
 ·rename_i k n;split at hT
  ·rename_i t xs e1;cases hb:t.beq 5 with
   | false=>rw[hb]at hT;cases hT
   | true=>
    rw[hb]at hT;cases hT
    have ht:=Nat.eq_of_beq_eq_true hb;subst ht;obtain⟨bs,rfl,rfl,hl,hK⟩:=hK;refine Xp (R:=[(1000,k)]) (N:=[]) (Hl:=[(1000,QAA bs)]) (Qq QJ6 Un XP) QW Tryd.func73 (by kernel_rfl) (by kernel_rfl) (by rfl)
     (as0:=[.x false [.w 1000 0 bs.length]]) ?_ (GB e1 rfl rfl) rfl (by simp) (by simp) (fun _ h=>by cases h) (fun x=>⟨fun p hp=> ?_,fun p hp b hb=> ?_⟩) (QPS bs hl) (fun _ _=> ?_)
    ·simp[Jf,Je,JJ,lkB]
    ·simp at hp;subst hp;exact fun h=>by have h':some (QAA _)=none:=h;cases h'
    ·simp at hp;subst hp;have h':some (QAA _)=some b:=hb;cases h';rfl
    ·exact⟨_,rfl,hK⟩
  ·cases hT
 ·cases hT
def M23:List (Nat×YA):=(73,QFN)::M15
theorem QAm:YI M23:= .cons QM4 Un
structure QM5 where
 m:Nat
 bs:List UInt8
def QFO (n:Nat):LI:=fun _=> .inv ⟨QM5,fun x=>⟨[(0,iA .i64 x.m),(3,.x false [.w 500 0 x.bs.length])],[(500,QAA x.bs)]⟩,fun x=>QA n=QA x.m++x.bs.reverse/\x.m<=n,fun x=>x.m,fun _=>0⟩
def Uq (n:Nat)(K:AV->Prop):Prop:=Qc (mkT L22 M23 X4) (oF Tryd.f52) (QFO n) Tryd.f52 [iA .i64 n] K
theorem GV (n:Nat)(K:AV->Prop):Uq n K=((∃(x:QM5),((QA n=QA x.m++x.bs.reverse/\x.m<=n)/\OfNat.ofNat 0=0)/\Za n=Za x.m/\Value.slice none 0 0=Value.slice none 0 0/\0=0/\x.bs.length=0/\Ze QK x.bs=[]/\True)/\∀(x:QM5),QA n=QA x.m++x.bs.reverse/\x.m<=n->OfNat.ofNat 0=0->bif decide (Za x.m>0)then(256:Int)≠0/\((x.bs.length+1)*1<=140737488355328/\x.bs.length+1<=9223372036854775807)/\(256:Int)≠0/\∃(x':QM5),((QA n=QA x'.m++x'.bs.reverse/\x'.m<=n)/\OfNat.ofNat 0=0/\x'.m<x.m)/\Zb.wrap ((Za x.m).tdiv 256)=Za x'.m/\0=0/\x.bs.length+1=x'.bs.length/\5=5/\1=1/\(Zo x.bs.length (Ze QK x.bs)++[[Zg (Zf Zh (Zh.wrap ((Za x.m).tmod 256)))]]=Ze QK x'.bs∨QG (Zo x.bs.length (Ze QK x.bs)++[[Zg (Zf Zh (Zh.wrap ((Za x.m).tmod 256)))]]) (Ze QK x'.bs))/\True else ∃(bs:List UInt8),Ze QK x.bs=Ze QK bs/\x.bs.length=bs.length/\bs.length<=1099511627776/\∃(bs_1:List UInt8),Zo x.bs.length (List.drop 0 (Ze QK bs.reverse))=Ze QK bs_1/\K (Zi false [Zg (Zt (Zc (Zn bs_1)))])):=by kernel_rfl
theorem QJ8 (n:Nat)(hn:n<9223372036854775808):QU (Uq n (NatIs n 63)):=by
 refine⟨?_⟩;rw[GV];simp only[Zk,R0,R1,R4];have hlen:(QA n).length<=63:=XB (show n<2^63 from hn);refine⟨⟨⟨n,[]⟩,⟨by simp,Nat.le_refl _⟩,rfl,rfl,rfl⟩,fun x hx=>QE (fun hp=> ?_) (fun hp=> ?_)⟩
 ·obtain⟨m,bs⟩:=x;obtain⟨h1,h2⟩:=hx;simp only at h1 h2 hp⊢;have hp:=R5 hp;have hl:=congrArg List.length h1;rw[List.length_append,Zs]at hl;have e1:(m:Int).tdiv 256=((m/256:Nat):Int):=by rw[te (by omega)];omega
  have e2:Zh.wrap ((m:Int).tmod 256)=((UInt8.ofNat (m % 256)).toNat:Int):=by
   rw[tm (by omega),UInt8.toNat_ofNat',wu8 (by omega)];omega
  rw[e1,e2,w64 (by omega)];refine⟨by omega,by omega,by omega,⟨m/256,bs++[UInt8.ofNat (m % 256)]⟩,⟨⟨?_,by simp only;omega⟩,by simp only;omega⟩,rfl,by simp,.inl ?_⟩
  ·simp only;rw[h1,Xf m (by omega)];simp
  ·simp only;rw[Zm (by simp),List.map_append];rfl
 ·obtain⟨m,bs⟩:=x;obtain⟨h1,h2⟩:=hx;simp only at h1 h2 hp⊢;have hp:=R6 hp;have hm:m=0:=by omega
  subst hm;have hl:=congrArg List.length h1;rw[List.length_append,Zs]at hl;rw[Qy,List.nil_append]at h1;refine⟨bs,rfl,rfl,by omega,bs.reverse,?_,hn,.inr ⟨_,rfl,h1.symm⟩⟩;rw[List.drop_zero,Zm (by simp)]
def GW:Ctr
 | [.x false [.v (.int .i64 n)]]=>some fun K=>(0<=n/\n<9223372036854775808)/\K (bA n.toNat 63)
 | _=>none
theorem QHv:QT 52 GW:=by
 refine⟨Qm Tryd.func52 (by kernel_rfl),fun l T hT K hK=> ?_⟩;unfold GW at hT;split at hT
 ·cases hT
  obtain⟨⟨h0,h1⟩,hK⟩:=hK;rename_i n;obtain⟨n,rfl⟩:=Int.eq_ofNat_of_zero_le h0;exact WC (Qn (Qq QJ6 QAm XP) QW Tryd.func52 (by kernel_rfl) (by kernel_rfl) (by rfl) (QJ8 n (by omega))) hK
 ·cases hT
def L24:LC:=(52,GW)::L22
theorem QN4:QN L24:= .cons QHv QJ6
structure OfX where
 a:Nat
 b:Nat
def QDN:List Ch:=[.v (.bool false),.v (.string ⟨⟨[]⟩⟩),.v (.string ⟨⟨[]⟩⟩)]
def QM6 (num den:Int):LI:=fun _=> .inv ⟨OfX,fun x=>⟨[(0,iA .i64 num),(1,iA .i64 den),(4,.x false [.p 4 0]),(5,iA .i64 x.a),(6,iA .i64 x.b)],[(4,.box 27 QDN)]⟩,fun x=>Zj x.a x.b=Zj num.natAbs den.natAbs/\x.a<9223372036854775808/\x.b<9223372036854775808,fun x=>x.b,fun _=>0⟩
def QDO (num den:Int)(K:AV->Prop):Prop:=Qc (mkT L24 M23 X4) (oF Tryd.f33) (QM6 num den) Tryd.f33 [iA .i64 num,iA .i64 den] K
theorem QDP (num:Int)(den:Int)(K:AV->Prop):QDO num den K=((∃(x:OfX),((x.a.gcd x.b=num.natAbs.gcd den.natAbs/\x.a<9223372036854775808/\x.b<9223372036854775808)/\OfNat.ofNat 0=0)/\num=num/\den=den/\0=0/\(bif true then if Zb.wrap (0-num)>num then Zb.wrap (0-num)else num else if Zb.wrap (0-num)<num then Zb.wrap (0-num)else num)=Za x.a/\den=Za x.b/\27=27/\false=false/\Zc (Zn [])=Zc (Zn [])/\Zc (Zn [])=Zc (Zn [])/\True)/\∀(x:OfX),x.a.gcd x.b=num.natAbs.gcd den.natAbs/\x.a<9223372036854775808/\x.b<9223372036854775808->OfNat.ofNat 0=0->bif decide (Za x.b>0)then Za x.b≠0/\∃(x':OfX),((x'.a.gcd x'.b=num.natAbs.gcd den.natAbs/\x'.a<9223372036854775808/\x'.b<9223372036854775808)/\OfNat.ofNat 0=0/\x'.b<x.b)/\num=num/\den=den/\0=0/\Za x.b=Za x'.a/\(Za x.a).tmod (Za x.b)=Za x'.b/\27=27/\false=false/\Zc (Zn [])=Zc (Zn [])/\Zc (Zn [])=Zc (Zn [])/\True else Za x.a≠0/\Za x.a≠0/\((0<=bif true then if Zb.wrap (0-Zb.wrap (num.tdiv (Za x.a)))>Zb.wrap (num.tdiv (Za x.a))then Zb.wrap (0-Zb.wrap (num.tdiv (Za x.a)))else Zb.wrap (num.tdiv (Za x.a))else if Zb.wrap (0-Zb.wrap (num.tdiv (Za x.a)))<Zb.wrap (num.tdiv (Za x.a))then Zb.wrap (0-Zb.wrap (num.tdiv (Za x.a)))else Zb.wrap (num.tdiv (Za x.a)))/\(bif true then if Zb.wrap (0-Zb.wrap (num.tdiv (Za x.a)))>Zb.wrap (num.tdiv (Za x.a))then Zb.wrap (0-Zb.wrap (num.tdiv (Za x.a)))else Zb.wrap (num.tdiv (Za x.a))else if Zb.wrap (0-Zb.wrap (num.tdiv (Za x.a)))<Zb.wrap (num.tdiv (Za x.a))then Zb.wrap (0-Zb.wrap (num.tdiv (Za x.a)))else Zb.wrap (num.tdiv (Za x.a)))<9223372036854775808)/\(0<=Zb.wrap (den.tdiv (Za x.a))/\Zb.wrap (den.tdiv (Za x.a))<9223372036854775808)/\K (Zi true [Zg (Zd (decide (Zb.wrap (num.tdiv (Za x.a))<0))),Zy (bif true then if Zb.wrap (0-Zb.wrap (num.tdiv (Za x.a)))>Zb.wrap (num.tdiv (Za x.a))then Zb.wrap (0-Zb.wrap (num.tdiv (Za x.a)))else Zb.wrap (num.tdiv (Za x.a))else if Zb.wrap (0-Zb.wrap (num.tdiv (Za x.a)))<Zb.wrap (num.tdiv (Za x.a))then Zb.wrap (0-Zb.wrap (num.tdiv (Za x.a)))else Zb.wrap (num.tdiv (Za x.a))).toNat 63,Zy (Zb.wrap (den.tdiv (Za x.a))).toNat 63])):=by kernel_rfl
theorem QGF {n:Int}(h0: -9223372036854775808<n)(h1:n<9223372036854775808):(bif true then if Zb.wrap (0-n)>n then Zb.wrap (0-n)else n else if Zb.wrap (0-n)<n then Zb.wrap (0-n)else n)=(n.natAbs:Int):=by
 simp only[R7];rw[w64 (by omega)];split<;>omega
theorem QDQ (num:Int)(d:Nat):mkRat num d=XF (decide (num<0)) num.natAbs d:=by
 unfold XF;congr 1;by_cases h:num<0
 ·simp only[h,decide_true,R7];omega
 ·simp only[h,decide_false,R8];omega
theorem QFP (num:Int)(d:Nat)(hd:d≠0):(mkRat num d).num=num.tdiv (Zj num.natAbs d:Nat):=by
 rw[QDQ,UO _ _ _ hd];by_cases h:num<0
 ·simp only[h,decide_true,R7];have e:num= -(num.natAbs:Int):=by omega
  conv=>rhs;rw[e,Int.neg_tdiv]
  simp
 ·simp only[h,decide_false,R8];have e:num=(num.natAbs:Int):=by omega
  conv=>rhs;rw[e]
  rw[te (by omega)];simp
theorem QJ9 (num:Int)(d:Nat)(hd:d≠0):(mkRat num d).den=d/Zj num.natAbs d:=by
 rw[QDQ,QAT _ _ _ hd]
theorem QQx (num:Int)(den:Nat)(h0: -9223372036854775808<num/\num<9223372036854775808)(h1:0<den/\den<9223372036854775808):QU (QDO num den (RatIs (mkRat num den) 63)):=by
 refine⟨?_⟩;rw[QDP];rw[QGF h0.1 h0.2];simp only[Zk,R0,R1,R4];refine⟨⟨⟨num.natAbs,den⟩,⟨by simp,by simp only;omega,by simp only;omega⟩,rfl,rfl⟩,fun x hx=>QE (fun hp=> ?_) (fun hp=> ?_)⟩
 ·obtain⟨hg,ha,hb⟩:=hx;have hp:=R5 hp;have hm:=Nat.mod_lt x.a (by omega:0<x.b);refine⟨by omega,⟨x.b,x.a % x.b⟩,⟨⟨?_,hb,by simp only;omega⟩,hm⟩,rfl,by rw[tm (by omega)];simp⟩;rw[<-hg,Nat.gcd_comm x.b,<-Nat.gcd_rec,Nat.gcd_comm]
 ·obtain⟨hg,ha,hb⟩:=hx;have hp:=R6 hp;have hb0:x.b=0:=by omega
  rw[hb0,Nat.gcd_zero_right,Int.natAbs_natCast]at hg;have hd:den≠0:=by omega
  have hpos:0<Zj num.natAbs den:=Nat.gcd_pos_of_pos_right _ (by omega);rw[hg];have en:=QFP num den hd;have ed:=QJ9 num den hd;have e1:(den:Int).tdiv (Zj num.natAbs den:Nat)=((den/Zj num.natAbs den:Nat):Int):=by rw[te (by omega)];simp
  have hle:den/Zj num.natAbs den<=den:=Zr _ _;have hle2:(num.tdiv (Zj num.natAbs den:Nat)).natAbs<=num.natAbs:=by
   rw[Int.natAbs_tdiv,Int.natAbs_natCast];exact Zr _ _
  rw[e1];generalize num.tdiv (Zj num.natAbs den:Nat)=t at en hle2⊢;generalize den/Zj num.natAbs den=d at ed hle⊢;rw[w64 (n:=t) (by omega),w64 (n:=(d:Int)) (by omega),QGF (by omega) (by omega),Zp,Zp];refine⟨by omega,by omega,by omega,by omega,_,_,_,rfl,by rw[en],?_,?_⟩
  ·rw[en];exact .b (by show _<9223372036854775808;omega)
  ·rw[ed];exact .b (by show _<9223372036854775808;omega)
def QDR:Ctr
 | [.x false [.v (.int .i64 n)],.x false [.v (.int .i64 d)]]=>some fun K=>((-9223372036854775808<n/\n<9223372036854775808)/\0<d/\d<9223372036854775808)/\K (rA (mkRat n d.toNat) 63)
 | _=>none
theorem QPT:QT 33 QDR:=by
 refine⟨Qm Tryd.func33 (by kernel_rfl),fun l T hT K hK=> ?_⟩;unfold QDR at hT;split at hT
 ·cases hT
  obtain⟨⟨h0,h1,h2⟩,hK⟩:=hK;rename_i n d;obtain⟨d,rfl⟩:=Int.eq_ofNat_of_zero_le (by omega:0<=d);exact QDJ (Qn (Qq QN4 QAm XP) QW Tryd.func33 (by kernel_rfl) (by kernel_rfl) (by rfl) (QQx n d h0 (by omega))) hK
 ·cases hT
def L25:LC:=(33,QDR)::L24
theorem QN5:QN L25:= .cons QPT QN4
def QDS (num den:Int)(K:AV->Prop):Prop:=Qc (mkT L25 M23 X4) (oF Tryd.f7) noL Tryd.f7 [iA .i64 num,iA .i64 den] K
theorem QDT (num:Int)(den:Int)(K:AV->Prop):QDS num den K=(((-9223372036854775808<num/\num<9223372036854775808)/\0<den/\den<9223372036854775808)/\K (Zi true [Zz (mkRat num den.toNat) 63])):=by kernel_rfl
def QKA:Ctr:=QDR
theorem QPU:QT 7 QKA:=by
 refine⟨Qm Tryd.func7 (by kernel_rfl),fun l T hT K hK=> ?_⟩;unfold QKA QDR at hT;split at hT
 ·cases hT
  exact Qn (Qq QN5 QAm XP) QW Tryd.func7 (by kernel_rfl) (by kernel_rfl) (by rfl) (show QU (QDS _ _ K)from⟨by rw[QDT];exact hK⟩)
 ·cases hT
def L26:LC:=(7,QKA)::L25
noncomputable def T26:Qh:=mkT L26 M23 X4
theorem QGG:QN L26:= .cons QPU QN5
theorem QKB:XO T26:=Qq QGG QAm XP
end Go.Proofs
namespace Go.Proofs
open Go Go.Eng
def lR (n:Nat)(qs:List Rat):List (List Ch):=qs.map fun q=>[Zz q n]
def sR (n:Nat)(qs:List Rat):AV:= .x false [.s 3 (lR n qs)]
def QFQ (a:Nat)(ps:List Rat)(b:Nat)(qs:List Rat):LI:=fun _=> .inv ⟨Nat,fun i=>⟨[(0,sR a ps),(1,sR b qs),(12,iA .i64 ps.length),(13,iA .i64 i)],[]⟩,fun i=>i<=ps.length/\ps.take i=qs.take i,fun i=>ps.length-i,fun _=>0⟩
theorem QKC {n:Int}{d:Nat}(h:0<=n):0<=mkRat n d:=Rat.num_nonneg.1 (by
 by_cases hd:d=0
 ·subst hd;simp
 ·rw[QFP _ _ hd];exact Int.tdiv_nonneg h (Int.natCast_nonneg _))
theorem YJ {n:Int}{d:Nat}(h:0<n)(hd:d≠0):0<mkRat n d:=by
 refine Rat.lt_iff_le_and_ne.2 ⟨QKC (by omega),fun e=> ?_⟩;have:=(Rat.mkRat_eq_zero hd).1 e.symm;omega
theorem QPV {p a:Rat}(h1:p<=a)(h2: -p<=a):Qf p<=a:=by
 unfold Qf;split
 ·exact h2
 ·exact h1
theorem XE (n:Nat)(qs:List Rat):(lR n qs).length=qs.length:=by simp[lR]
theorem Xd {n:Nat}{qs:List Rat}{i:Nat}{q:Rat}(h:qs[i]? =some q):ldE (lR n qs) i 0 3=some [.r q n]:=by
 simp only[ldE,lR,List.getElem?_map,h];rfl
theorem QKD (a:Nat)(ps:List Rat)(b:Nat)(qs:List Rat)(hl:ps.length<=1000000000)(_hl2:qs.length<=1000000000)(K:AV->Prop)(hK:K (.x false [.v (.bool (decide (ps=qs)))])):QU (Qc T26 (oF Tryd.f16) (QFQ a ps b qs) Tryd.f16 [sR a ps,sR b qs] K):=by
 refine HV ((bif Za (lR a ps).length !=Za (lR b qs).length then K (Zi false [Zg (Zd false)])else(∃(x:Nat),((x<=ps.length/\Zo x ps=Zo x qs)/\OfNat.ofNat 0=0)/\3=3/\lR a ps=lR a ps/\3=3/\lR b qs=lR b qs/\Za (lR a ps).length=Za ps.length/\0=Za x/\True)/\∀(x:Nat),x<=ps.length/\Zo x ps=Zo x qs->OfNat.ofNat 0=0->bif decide (Za x<Za ps.length)then(0<=Za x/\Za x<Za (lR a ps).length)/\∃(q:Rat),∃(n:Nat),ldE (lR a ps) (Za x).toNat 0 3=some [Zz q n]/\(0<=Za x/\Za x<Za (lR b qs).length)/\∃(q_1:Rat),∃(n:Nat),ldE (lR b qs) (Za x).toNat 0 3=some [Zz q_1 n]/\bif !(decide (q=q_1)&&true)then K (Zi false [Zg (Zd false)])else ∃(x':Nat),((x'<=ps.length/\Zo x' ps=Zo x' qs)/\OfNat.ofNat 0=0/\ps.length-x'<ps.length-x)/\3=3/\lR a ps=lR a ps/\3=3/\lR b qs=lR b qs/\Za ps.length=Za ps.length/\Zb.wrap (Za x+1)=Za x'/\True else K (Zi false [Zg (Zd true)]))) ?_
 simp only[Zk,R0,R1,R4];simp only[XE,R0];refine QE (fun h=> ?_) (fun h=>⟨⟨0,by simp,rfl⟩,fun x hx=>QE (fun hp=> ?_) (fun hp=> ?_)⟩)
 ·have h:ps.length≠qs.length:=fun e=>by rw[e]at h;simp at h
  have:decide (ps=qs)=false:=by simp;exact fun e=>h (by rw[e])
  rw[this]at hK;exact hK
 ·have h:ps.length=qs.length:=by simp at h;omega
  have hp:x<ps.length:=by have:=R5 hp;omega
  obtain⟨p,hpp⟩: ∃p,ps[x]? =some p:=⟨_,Zl hp⟩
  obtain⟨q,hqq⟩: ∃q,qs[x]? =some q:=⟨_,Zl (by omega)⟩
  simp only[Zp];refine⟨by omega,_,_,Xd hpp,by omega,_,_,Xd hqq,QE (fun he=> ?_) (fun he=> ?_)⟩
  ·have he:p≠q:=by simpa using he
   have:decide (ps=qs)=false:=by
    simp;intro e;rw[e,hqq]at hpp;exact he (Option.some.inj hpp).symm
   rw[this]at hK;exact hK
  ·have he:p=q:=by simpa using he
   subst he;refine⟨x+1,⟨⟨by omega,?_⟩,by omega⟩,by rw[w64 (by omega)];simp⟩;rw[List.take_add_one,List.take_add_one,hx.2,hpp,hqq]
 ·have h:ps.length=qs.length:=by simp at h;omega
  have hp: ¬x<ps.length:=by have:=R6 hp;omega
  have e:=hx.2;rw[Zm (by omega),Zm (by omega)]at e;have:decide (ps=qs)=true:=by simpa using e
  rw[this]at hK;exact hK
def Vl:Ctr
 | [.x false [.s 3 xs],.x false [.s 3 ys]]=>some fun K=> ∃a ps b qs,xs=lR a ps/\ys=lR b qs/\(ps.length<=1000000000/\qs.length<=1000000000)/\K (.x false [.v (.bool (decide (ps=qs)))])
 | _=>none
theorem QAn:QT 16 Vl:=by
 refine okL Tryd.func16 fun l T hT K hK=> ?_
 unfold Vl at hT;split at hT<;>cases hT
 obtain⟨a,ps,b,qs,rfl,rfl,⟨h1,h2⟩,hK⟩:=hK;exact spL QKB QW Tryd.func16 (QKD a ps b qs h1 h2 K hK)
end Go.Proofs
