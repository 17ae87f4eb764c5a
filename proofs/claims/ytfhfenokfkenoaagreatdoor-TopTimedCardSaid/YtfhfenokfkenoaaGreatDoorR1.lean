/- Rationals, first part: constants as numbers; a rational out of its parts. -/
import Derived.Test.YtfhfenokfkenoaaGreatDoorN3
open Int renaming ofNat → Za, ofNat_eq_natCast → Zk, toNat_natCast → Zp
open Go.IntKind renaming i64 → Zb, u8 → Zh
open ByteArray renaming mk → Zc
open Go.Value renaming bool → Zd, int → Zf, string → Zv
open List renaming map → Ze, getElem?_eq_getElem → Zl, take_of_length_le → Zm, take → Zo, getElem?_reverse → Zq, length_reverse → Zu
open Go.Eng.Ch renaming v → Zg, r → Zy, b → Zz
open Go.Eng.AV renaming x → Zi
open Nat renaming gcd → Zj, le_max_right → Zr, le_max_left → Zs, div_le_self → Zt, mul_ne_zero → Zw, div_one → Zx
open Array renaming mk → Zn
namespace Go.Proofs
open Go Go.Eng
def QMZ (a:AV):AV:=match a with
  | .x false [.v (.string ⟨⟨l⟩⟩)]=>match l with
    | []=> .x false [.b 0 0]
    | [x]=>bif Nat.beq x.toNat 0 then a else .x false [.b x.toNat 8]
    | _=>a
  | _=>a
theorem QGm {w:World}{O:Nat->Prop}{ρ:Env}{a:AV}{v:Value}(h:ConcV w O ρ a v):ConcV w O ρ (QMZ a) v:=by
 unfold QMZ;split
 ·split
  ·exact W8 (m:=0) (n:=0) (by rw[Qx];exact h) (by decide)
  ·rename_i x;cases hb:Nat.beq x.toNat 0 with
   | true=>exact h
   | false=>
    have h0:x.toNat≠0:=fun e=>by rw[e]at hb;cases hb
    have hx:=x.toNat_lt;refine W8 (m:=x.toNat) ?_ (by simpa using hx)
    have e:QA x.toNat=[x]:=by
     rw[Xg _ h0,show x.toNat/256=0 by omega,Qx];simp
    rw[e];exact h
  ·exact h
 ·exact h
def QMa:List AV->List AV
 | []=>[]
 | a::l=>QMZ a::QMa l
theorem QGn {w:World}{O:Nat->Prop}{ρ:Env}{l:List AV}{vs:List Value}(h:Qq w O ρ l vs):Qq w O ρ (QMa l) vs:=by
 induction h with
 | nil=>exact .nil
 | cons h _ ih=>exact .cons (QGm h) ih
def nrm (c:Ctr):Ctr:=fun l=>c (QMa l)
theorem _root_.Go.Eng.CtrOK.nrm {P:Program}{g:Nat}{tab:List Value}{f:Nat}{c:Ctr}(h:CtrOK P g tab f c):CtrOK P g tab f (Proofs.nrm c):=
 ⟨h.enter,fun _ T hT K hK=>Spec.args (h.sound _ T hT K hK) fun _ _ _ hc=>QGn hc⟩
def RatIs (q:Rat)(n:Nat)(av:AV):Prop:= ∃s x y,av= .x true [.v (.bool s),x,y]/\s=decide (q.num<0)/\NatIs q.num.natAbs n (.x false [x])/\NatIs q.den n (.x false [y])
theorem RatIs.conc {w:World}{O:Nat->Prop}{ρ:Env}{q:Rat}{n:Nat}{av:AV}{v:Value}(h:RatIs q n av)(hc:ConcV w O ρ av v):ConcV w O ρ (.x true [.r q n]) v:=by
 obtain⟨s,x,y,rfl,rfl,hx,hy⟩:=h;obtain⟨vals,h1,h2⟩:=hc;cases h1 with
 | v _ h1=>
  obtain⟨us,rest,rfl,_,k1,k2⟩:=h1.cons;obtain⟨vs,rest2,rfl,_,k3,k4⟩:=k2.cons;cases k4
  have one: ∀{m:Nat} {c:Ch} {us:List Value},NatIs m n (.x false [c])->CC w O ρ [c] us->us=[YP (QA m)]:=by
   intro m c us hn hcc;obtain⟨_,⟨n',e⟩ | ⟨l,e,rfl⟩⟩:=hn
   ·cases e;cases hcc with | b _ h=>cases h;rfl
   ·cases e;cases hcc with | v _ h=>cases h;rfl
  have e1:=one hx k1;have e2:=one hy k3;subst e1 e2;exact⟨_,.r ⟨hx.1,hy.1⟩ .nil,h2⟩
theorem QEu {P:Program}{g:Nat}{tab:List Value}{f:Nat}{l:List AV}{q:Rat}{n:Nat}{K:AV->Prop}(h:Eng.Spec P g tab f l (RatIs q n))(hk:K (.x true [.r q n])):Eng.Spec P g tab f l K:=
 Eng.Spec.res h fun _ _ _ _ hn hc=>⟨_,hk,hn.conc hc⟩
theorem QIL {w:World}{O:Nat->Prop}{ρ:Env}{q:Rat}{n:Nat}{l:List AV}{vals:List Value}(h:Qq w O ρ (.x true [.r q n]::l) vals):Bd n q:=by
 cases h with
 | cons h _=>obtain⟨vs,h1,_⟩:=h;cases h1 with | r hb _=>exact hb
theorem Bd.num {n:Nat}{q:Rat}(h:Bd n q):q.num.natAbs<2^n:=h.1
theorem Bd.den {n:Nat}{q:Rat}(h:Bd n q):q.den<2^n:=h.2
def L18:LC:=(138,nrm QIK)::(126,nrm QIC)::(137,nrm QID)::(75,nrm QEc)::(139,nrm QII)::(74,nrm QIB)::L17
noncomputable def T18:Qa:=mkT L18 M15 X4
theorem QSk:QG L18:= .cons ok_Gcd.nrm (.cons ok_Add.nrm (.cons ok_Sub.nrm (.cons ok_Mul.nrm (.cons ok_Div.nrm (.cons ok_Cmp.nrm QWy)))))
theorem QSl:XH T18:=QV QSk HO Qo
def QBk (K:AV->Prop):Prop:=QT T18 (oF Tryz.f130) noL Tryz.f130 [] K
theorem QCw (K:AV->Prop):QBk K=(K (Zi true [Zg (Zd false),Zg (Zv (Zc (Zn []))),Zg (Zv (Zc (Zn [OfNat.ofNat 1])))])):=by kernel_rfl
theorem QGo:QA 1=[1]:=rfl
theorem QIM {m:Nat}:QA m=[1]↔m=1:=⟨fun h=>Wt (by rw[h];rfl),fun h=>by rw[h];rfl⟩
set_option maxHeartbeats 1000000 in
theorem QUJ (q:Rat)(n:Nat)(K:AV->Prop)(hn:n<=4294967296)(hK:K (.x false [.v (.bool true)])):QK (QT T18 (oF Tryz.f129) noL Tryz.f129 [.x true [.r q n]] K):=by
 refine HV ((bif decide (QA q.den=[])then K (Zi false [Zg (Zd false)])else ∃(b:UInt8),((0:Int)<=0/\(QA q.den)[0]?=some b)/\bif Za b.toNat==0 then K (Zi false [Zg (Zd false)])else bif decide (QA q.num.natAbs=[])then bif decide (q.num<0)then K (Zi false [Zg (Zd false)])else bif !decide (QA q.den=(Zc #[1]).data.toList)then K (Zi false [Zg (Zd false)])else bif !decide (QA q.num.natAbs=(Zc #[]).data.toList)then ∃(b:UInt8),((0:Int)<=0/\(QA q.num.natAbs)[0]?=some b)/\bif Za b.toNat==0 then K (Zi false [Zg (Zd false)])else bif decide (QA q.den=[OfNat.ofNat 1])then K (Zi false [Zg (Zd true)])else(n<=4294967296/\n<=4294967296)/\K (Zi false [Zg (Zd (decide (QA (q.num.natAbs.gcd q.den)=(Zc #[1]).data.toList)))])else bif decide (QA q.den=[OfNat.ofNat 1])then K (Zi false [Zg (Zd true)])else(n<=4294967296/\n<=4294967296)/\K (Zi false [Zg (Zd (decide (QA (q.num.natAbs.gcd q.den)=(Zc #[1]).data.toList)))])else bif !decide (QA q.num.natAbs=(Zc #[]).data.toList)then ∃(b:UInt8),((0:Int)<=0/\(QA q.num.natAbs)[0]?=some b)/\bif Za b.toNat==0 then K (Zi false [Zg (Zd false)])else bif decide (QA q.den=[OfNat.ofNat 1])then K (Zi false [Zg (Zd true)])else(n<=4294967296/\n<=4294967296)/\K (Zi false [Zg (Zd (decide (QA (q.num.natAbs.gcd q.den)=(Zc #[1]).data.toList)))])else bif decide (QA q.den=[OfNat.ofNat 1])then K (Zi false [Zg (Zd true)])else(n<=4294967296/\n<=4294967296)/\K (Zi false [Zg (Zd (decide (QA (q.num.natAbs.gcd q.den)=(Zc #[1]).data.toList)))]))) ?_
 have hd:=q.den_nz;obtain⟨b,hb,hb0⟩:=WX hd;have hbb:((b.toNat:Int)==0)=false:=by simp;omega
 have hg:Zj q.num.natAbs q.den=1:=q.reduced;have e1:((Zc #[(1:UInt8)]).data.toList)=[1]:=rfl;have e2:((Zc #[]).data.toList)=([]:List UInt8):=rfl;have tail:bif decide (QA q.den=[1])then K (.x false [.v (.bool true)])else(n<=4294967296/\n<=4294967296)/\K (.x false [.v (.bool (decide (QA (Zj q.num.natAbs q.den)=[1])))]):=by
  refine QC (fun _=>hK) (fun _=>⟨⟨hn,hn⟩,?_⟩);rw[hg,QGo];exact hK
 simp only[];refine QC (fun h=>absurd (Ql.1 (R5 h)) hd) (fun _=>⟨b,⟨by omega,hb⟩,?_⟩);simp only[Zk,hbb,R8];refine QC (fun h=> ?_) (fun h=> ?_)
 ·have h:=Ql.1 (R5 h);have h0: ¬q.num<0:=by omega
  have h1:q.den=1:=by rw[h,Nat.gcd_zero_left]at hg;exact hg
  have h2:QA q.num.natAbs=[]:=Ql.2 h;simp only[h0,decide_false,R8,h1,h2,QGo,decide_true,Bool.not_true];rw[h1,QGo]at tail;exact tail
 ·have h:=R6 h;have hz:q.num.natAbs≠0:=fun e=>h (Ql.2 e);obtain⟨c,hc,hc0⟩:=WX hz;have hcc:((c.toNat:Int)==0)=false:=by simp;omega
  simp only[h,decide_false,R7,Bool.not_false];refine⟨c,⟨by omega,hc⟩,?_⟩;simp only[hcc,R8];exact tail
theorem QUK:QK (QBk (RatIs 0 1)):=by
 refine⟨?_⟩;rw[QCw];exact⟨_,_,_,rfl,rfl,⟨by decide,.inr ⟨[],rfl,rfl⟩⟩,⟨by decide,.inr ⟨[1],rfl,rfl⟩⟩⟩
def QGp:Ctr
 | [.x true [.r _ n]]=>some fun K=>n<=4294967296/\K (.x false [.v (.bool true)])
 | _=>none
def QGq:Ctr
 | []=>some fun K=>K (.x true [.r 0 1])
 | _=>none
theorem QQh:QJ 129 QGp:=by
 refine okL Tryz.func129 fun l T hT K hK=> ?_
 unfold QGp at hT;split at hT<;>cases hT
 exact spL QSl QN Tryz.func129 (QUJ _ _ K hK.1 hK.2)
theorem QQi:QJ 130 QGq:=by
 refine⟨Qg Tryz.func130 (by kernel_rfl),fun l T hT K hK=> ?_⟩;unfold QGq at hT;split at hT
 ·cases hT
  exact QEu (Qm QSl QN Tryz.func130 (by kernel_rfl) (by kernel_rfl) (by rfl) QUK) hK
 ·cases hT
def L19:LC:=(129,QGp)::(130,QGq)::L18
noncomputable def T19:Qa:=mkT L19 M15 X4
theorem QSm:QG L19:= .cons QQh (.cons QQi QSk)
theorem QMb:XH T19:=QV QSm HO Qo
def QBl (s:Bool)(n a d b:Nat)(K:AV->Prop):Prop:=QT T19 (oF Tryz.f77) noL Tryz.f77 [.x false [.v (.bool s)],bA n a,bA d b] K
theorem QCx (s:Bool)(n:Nat)(a:Nat)(d:Nat)(b:Nat)(K:AV->Prop):QBl s n a d b K=(bif decide (QA n=[])then K (Zi true [Zy (OfNat.ofNat 0) 1])else bif !decide (QA d=(Zc #[1]).data.toList)then(a<=4294967296/\b<=4294967296)/\bif !decide (QA (n.gcd d)=(Zc #[1]).data.toList)then(a<=549755813888/\a+b<=549755813888)/\(b<=549755813888/\a+b<=549755813888)/\K (Zi true [Zg (Zd s),Zz (n/n.gcd d) a,Zz (d/n.gcd d) b])else K (Zi true [Zg (Zd s),Zz n a,Zz d b])else K (Zi true [Zg (Zd s),Zz n a,Zz d b])):=by kernel_rfl
def HR (s:Bool)(m a:Nat)(t:Bool)(n b:Nat)(K:AV->Prop):Prop:=QT T19 (oF Tryz.f76) noL Tryz.f76 [.x false [.v (.bool s)],bA m a,.x false [.v (.bool t)],bA n b] K
theorem QAI (s:Bool)(m:Nat)(a:Nat)(t:Bool)(n:Nat)(b:Nat)(K:AV->Prop):HR s m a t n b K=(True/\bif s==t then(a<=(549755813888:Nat)/\b<=(549755813888:Nat))/\K (AV.t [(false,[Zg (Zd s)]),(false,[Zz (m+n) (max a b+(1:Nat))])])else(a<=(549755813888:Nat)/\b<=(549755813888:Nat))/\bif(bif decide (m<n)then(1:Int)else(0:Int))==(0:Int)then K (AV.t [(false,[Zg (Zd s)]),(false,[Zz (bif decide (m<n)then(0:Nat)else m-n) a])])else(b<=(549755813888:Nat)/\a<=(549755813888:Nat))/\K (AV.t [(false,[Zg (Zd t)]),(false,[Zz (bif decide (n<m)then(0:Nat)else n-m) b])])):=by kernel_rfl
def RatR (q:Rat)(n:Nat)(av:AV):Prop:=RatIs q n av∨ ∃m,m<=n/\av= .x true [.r q m]
theorem RatR.conc {w:World}{O:Nat->Prop}{ρ:Env}{q:Rat}{n:Nat}{av:AV}{v:Value}(h:RatR q n av)(hc:ConcV w O ρ av v):ConcV w O ρ (.x true [.r q n]) v:=by
 rcases h with h | ⟨m,hm,rfl⟩
 ·exact h.conc hc
 ·obtain⟨vs,h1,h2⟩:=hc;cases h1 with
  | r hb h=>exact⟨_,.r (hb.mono hm) h,h2⟩
theorem JC {P:Program}{g:Nat}{tab:List Value}{f:Nat}{l:List AV}{q:Rat}{n:Nat}{K:AV->Prop}(h:Eng.Spec P g tab f l (RatR q n))(hk:K (.x true [.r q n])):Eng.Spec P g tab f l K:=
 Eng.Spec.res h fun _ _ _ _ hn hc=>⟨_,hk,hn.conc hc⟩
theorem RatR.of {q:Rat}{n m:Nat}(h:m<=n):RatR q n (.x true [.r q m]):= .inr ⟨m,h,rfl⟩
theorem QWz (q:Rat)(n:Nat)(K:AV->Prop)(hn:n<=4294967296)(hK:K (.x true [.r q n])):QK (QT T19 (oF Tryz.f73) noL Tryz.f73 [.x true [.r q n]] K):=by
 refine HV ((n<=4294967296/\K (Zi true [Zy q n]))) ?_
 exact⟨hn,hK⟩
theorem QMc {s:Bool}{n d a b:Nat}(hd:d≠0)(hn0:n≠0)(hn:n<2^a)(hdb:d<2^b):RatIs (XG s n d) (max a b) (.x true [.v (.bool s),.b (n/Zj n d) a,.b (d/Zj n d) b]):=by
 have h1:=Kh (Zs a b);have h2:=Kh (Zr a b);refine⟨_,_,_,rfl,(QJv s n d hd hn0).symm,?_,?_⟩
 ·rw[QCc s n d hd];have:=Zt n (Zj n d);exact .b (by omega)
 ·rw[QBb s n d hd];have:=Zt d (Zj n d);exact .b (by omega)
theorem QUL (s:Bool)(n a d b:Nat)(ha:a<=4294967296)(hb:b<=4294967296)(hn:n<2^a)(hdb:d<2^b)(hd:d≠0):QK (QBl s n a d b (RatR (XG s n d) (max a b))):=by
 refine⟨?_⟩;rw[QCx];have hb1:1<=b:=by
  rcases Nat.eq_zero_or_pos b with h | h
  ·subst h;rw[Nat.pow_zero]at hdb;omega
  ·exact h
 have e1:((Zc #[(1:UInt8)]).data.toList)=[1]:=rfl;simp only[];refine QC (fun h=> ?_) (fun h=> ?_)
 ·have h:=Ql.1 (R5 h);subst h;rw[QGL];exact .of (by omega)
 ·have hn0:n≠0:=fun e=>R6 h (Ql.2 e);have main:=QMc (s:=s) hd hn0 hn hdb;refine QC (fun h1=>⟨⟨ha,hb⟩,QC (fun h2=> ?_) (fun h2=> ?_)⟩) (fun h1=> ?_)
  ·exact⟨by omega,by omega,.inl main⟩
  ·have h2:Zj n d=1:=QIM.1 (by simpa using h2);rw[h2,Zx,Zx]at main;exact .inl main
  ·have h1:d=1:=QIM.1 (by simpa using h1);subst h1;rw[Nat.gcd_one_right,Zx,Zx]at main;exact .inl main
def SgnR (r:Bool×Nat)(c:Nat)(av:AV):Prop:= ∃x,av= .t [(false,[.v (.bool r.1)]),(false,[x])]/\NatIs r.2 c (.x false [x])
theorem SgnR.conc {w:World}{O:Nat->Prop}{ρ:Env}{r:Bool×Nat}{c:Nat}{av:AV}{v:Value}(h:SgnR r c av)(hc:ConcV w O ρ av v):ConcV w O ρ (.t [(false,[.v (.bool r.1)]),(false,[.b r.2 c])]) v:=by
 obtain⟨x,rfl,hx⟩:=h;obtain⟨vs,h1,h2⟩:=hc;cases h1 with
 | cons h1 h3=>cases h3 with
  | cons h3 h4=>exact⟨_,.cons h1 (.cons (hx.conc (av:= .x false [x]) h3) h4),h2⟩
theorem QMd (s:Bool)(m a:Nat)(t:Bool)(n b:Nat)(ha:a<=549755813888)(hb:b<=549755813888)(hm:m<2^a)(hn:n<2^b):QK (HR s m a t n b (SgnR (YS s m t n) (max a b+1))):=by
 refine⟨?_⟩;rw[QAI];have h1:=Kh (Zs a b);have h2:=Kh (Zr a b);have h3:2^(max a b+1)=2*2^max a b:=Nat.pow_succ';unfold YS;refine⟨trivial,QC (fun h=> ?_) (fun h=> ?_)⟩
 ·rw[h,R7];exact⟨⟨ha,hb⟩,_,rfl,.b (by simp only;omega)⟩
 ·rw[h,R8];by_cases hlt:m<n
  ·have e1:decide (n<=m)=false:=by simp;omega
   have e2:decide (n<m)=false:=by simp;omega
   have e3:decide (m<n)=true:=by simp;omega
   simp only[e1,e2,e3,R7,R8];exact⟨⟨ha,hb⟩,⟨hb,ha⟩,_,rfl,.b (by simp only;omega)⟩
  ·have e1:decide (n<=m)=true:=by simp;omega
   have e3:decide (m<n)=false:=by simp;omega
   simp only[e1,e3,R7,R8];exact⟨⟨ha,hb⟩,_,rfl,.b (by simp only;omega)⟩
def QMe:Ctr
 | [.x true [.r q n]]=>some fun K=>n<=4294967296/\K (.x true [.r q n])
 | _=>none
def QGr:Ctr
 | [.x false [.v (.bool s)],.x false [.b n a],.x false [.b d b]]=>some fun K=>((a<=4294967296/\b<=4294967296)/\d≠0)/\K (.x true [.r (XG s n d) (max a b)])
 | _=>none
def QAJ:Ctr
 | [.x false [.v (.bool s)],.x false [.b m a],.x false [.v (.bool t)],.x false [.b n b]]=>some fun K=>(a<=549755813888/\b<=549755813888)/\K (.t [(false,[.v (.bool (YS s m t n).1)]),(false,[.b (YS s m t n).2 (max a b+1)])])
 | _=>none
theorem QUM:QJ 73 QMe:=by
 refine okL Tryz.func73 fun l T hT K hK=> ?_
 unfold QMe at hT;split at hT<;>cases hT
 exact spL QMb QN Tryz.func73 (QWz _ _ K hK.1 hK.2)
theorem QEv {w:World}{O:Nat->Prop}{ρ:Env}{a c:AV}{m n:Nat}{l:List AV}{vals:List Value}(h:Qq w O ρ (c::a:: .x false [.b m n]::l) vals):m<2^n:=by
 cases h with
 | cons _ h=>exact JO h
theorem ok_made:QJ 77 QGr:=by
 refine⟨Qg Tryz.func77 (by kernel_rfl),fun l T hT K hK=> ?_⟩;unfold QGr at hT;split at hT
 ·rename_i s n a d b;cases hT
  exact Y3 fun w O ρ vals hc=>JC (Qm QMb QN Tryz.func77 (by kernel_rfl) (by kernel_rfl) (by rfl) (QUL s n a d b hK.1.1.1 hK.1.1.2 (JO hc) (QEv hc) hK.1.2)) hK.2
 ·cases hT
theorem QKM:QJ 76 QAJ:=by
 refine⟨Qg Tryz.func76 (by kernel_rfl),fun l T hT K hK=> ?_⟩;unfold QAJ at hT;split at hT
 ·rename_i s m a t n b;cases hT
  refine Y3 fun w O ρ vals hc=>Eng.Spec.res (Qm QMb QN Tryz.func76 (by kernel_rfl) (by kernel_rfl) (by rfl) (QMd s m a t n b hK.1.1 hK.1.2 (JO hc) ?_)) fun _ _ _ _ hn hc=>⟨_,hK.2,hn.conc hc⟩;cases hc with
  | cons _ h=>exact QEv h
 ·cases hT
def L20:LC:=(73,QMe)::(77,nrm QGr)::(76,QAJ)::L19
noncomputable def T20:Qa:=mkT L20 M15 X4
theorem QSn:QG L20:= .cons QUM (.cons ok_made.nrm (.cons QKM QSm))
theorem UB:XH T20:=QV QSn HO Qo
end Go.Proofs
namespace Go.Proofs
open Go Go.Eng
def rA (q:Rat)(n:Nat):AV:= .x true [.r q n]
def QEw (n:Int)(K:AV->Prop):Prop:=QT T20 (oF Tryz.f68) noL Tryz.f68 [iA .i64 n] K
theorem QEx (n:Int)(K:AV->Prop):QEw n K=(bif decide (n≥0)then n<9223372036854775808/\((63<=4294967296/\8<=4294967296)/\1≠0)/\K (Zi true [Zy (XG false n.toNat 1) 63])else Zb.wrap (0-Zb.wrap (n+1))<9223372036854775808/\(63<=549755813888/\8<=549755813888)/\((64<=4294967296/\8<=4294967296)/\1≠0)/\K (Zi true [Zy (XG true ((Zb.wrap (0-Zb.wrap (n+1))).toNat+1) 1) 64])):=by kernel_rfl
def QBm (p:Rat)(a:Nat)(q:Rat)(b:Nat)(K:AV->Prop):Prop:=QT T20 (oF Tryz.f23) noL Tryz.f23 [rA p a,rA q b] K
theorem QCy (p:Rat)(a:Nat)(q:Rat)(b:Nat)(K:AV->Prop):QBm p a q b K=(a<=4294967296/\b<=4294967296/\bif decide (p.den=q.den)then(a<=549755813888/\b<=549755813888)/\((max a b+1<=4294967296/\a<=4294967296)/\p.den≠0)/\K (Zi true [Zy (XG (YS (decide (p.num<0)) p.num.natAbs (decide (q.num<0)) q.num.natAbs).fst (YS (decide (p.num<0)) p.num.natAbs (decide (q.num<0)) q.num.natAbs).snd p.den) (max (max a b+1) a)])else(a<=274877906944/\b<=274877906944)/\(b<=274877906944/\a<=274877906944)/\(a+b<=549755813888/\b+a<=549755813888)/\(a<=274877906944/\b<=274877906944)/\((max (a+b) (b+a)+1<=4294967296/\a+b<=4294967296)/\p.den*q.den≠0)/\K (Zi true [Zy (XG (YS (decide (p.num<0)) (p.num.natAbs*q.den) (decide (q.num<0)) (q.num.natAbs*p.den)).fst (YS (decide (p.num<0)) (p.num.natAbs*q.den) (decide (q.num<0)) (q.num.natAbs*p.den)).snd (p.den*q.den)) (max (max (a+b) (b+a)+1) (a+b))])):=by kernel_rfl
def QBn (p:Rat)(a:Nat)(q:Rat)(b:Nat)(K:AV->Prop):Prop:=QT T20 (oF Tryz.f88) noL Tryz.f88 [rA p a,rA q b] K
theorem QCz (p:Rat)(a:Nat)(q:Rat)(b:Nat)(K:AV->Prop):QBn p a q b K=(a<=4294967296/\b<=4294967296/\True/\(a<=274877906944/\b<=274877906944)/\(a<=274877906944/\b<=274877906944)/\((a+b<=4294967296/\a+b<=4294967296)/\p.den*q.den≠0)/\K (Zi true [Zy (XG (!decide (p.num<0)==decide (q.num<0)) (p.num.natAbs*q.num.natAbs) (p.den*q.den)) (max (a+b) (a+b))])):=by kernel_rfl
def U4 (p:Rat)(a:Nat)(q:Rat)(b:Nat)(K:AV->Prop):Prop:=QT T20 (oF Tryz.f87) noL Tryz.f87 [rA p a,rA q b] K
theorem UC (p:Rat)(a:Nat)(q:Rat)(b:Nat)(K:AV->Prop):U4 p a q b K=(a<=4294967296/\b<=4294967296/\bif decide (QA q.num.natAbs=[])then K (AV.t [(true,[Zg (Zd false),Zg (Zv (Zc (Zn []))),Zg (Zv (Zc (Zn [])))]),(false,[Zg (Zf Zb 12)])])else True/\(a<=274877906944/\b<=274877906944)/\(a<=274877906944/\b<=274877906944)/\((a+b<=4294967296/\a+b<=4294967296)/\p.den*q.num.natAbs≠0)/\K (AV.t [(true,[Zy (XG (!decide (p.num<0)==decide (q.num<0)) (p.num.natAbs*q.den) (p.den*q.num.natAbs)) (max (a+b) (a+b))]),(false,[Zg (Zf Zb 0)])])):=by kernel_rfl
def QBo (p:Rat)(a:Nat)(K:AV->Prop):Prop:=QT T20 (oF Tryz.f127) noL Tryz.f127 [rA p a] K
theorem QC0 (p:Rat)(a:Nat)(K:AV->Prop):QBo p a K=(a<=4294967296/\bif !decide (p.num<0)then K (Zi true [Zg (Zd !decide (QA p.num.natAbs=(Zc #[]).data.toList)),Zz p.num.natAbs a,Zz p.den a])else K (Zi true [Zg (Zd false),Zz p.num.natAbs a,Zz p.den a])):=by kernel_rfl
def QBp (p:Rat)(a:Nat)(K:AV->Prop):Prop:=QT T20 (oF Tryz.f22) noL Tryz.f22 [rA p a] K
theorem QC1 (p:Rat)(a:Nat)(K:AV->Prop):QBp p a K=(a<=4294967296/\K (Zi true [Zg (Zd false),Zz p.num.natAbs a,Zz p.den a])):=by kernel_rfl
def XE (q:Rat):Int:=if q.num=0 then 0 else if q.num<0 then-1 else 1
theorem QW0 (n:Int)(h0: -9223372036854775808<=n)(h1:n<9223372036854775808):QK (QEw n (RatR (n:Rat) 64)):=by
 refine⟨?_⟩;rw[QEx];have key: ∀m:Int,mkRat m 1=(m:Rat):=fun m=>by
  rw[Rat.mkRat_one]
 refine QC (fun h=> ?_) (fun h=> ?_)
 ·have h:=R5 h;have e:XG false n.toNat 1=(n:Rat):=by
   unfold XG;rw[R8,key];congr 1;omega
  rw[e];exact⟨h1,by omega,.of (by omega)⟩
 ·have h:=R6 h;rw[w64 (n:=n+1) (by omega),w64 (by omega)];have e:XG true ((0-(n+1)).toNat+1) 1=(n:Rat):=by
   unfold XG;rw[R7,key];congr 1;omega
  rw[e];exact⟨by omega,by omega,by omega,.of (by omega)⟩
theorem QUN (p:Rat)(a:Nat)(q:Rat)(b:Nat)(h:a+b+1<=4294967296):QK (QBm p a q b (RatR (p+q) (a+b+1))):=by
 refine⟨?_⟩;rw[QCy];have hp:=p.den_nz;have hq:=q.den_nz;refine⟨by omega,by omega,QC (fun hd=> ?_) (fun hd=> ?_)⟩
 ·have hd:=R5 hd;rw[Gu p q hd];exact⟨by omega,by omega,.of (by omega)⟩
 ·rw[QJy];exact⟨by omega,by omega,by omega,by omega,⟨by omega,Zw hp hq⟩,.of (by omega)⟩
theorem QUO (p:Rat)(a:Nat)(q:Rat)(b:Nat)(h:a+b<=4294967296):QK (QBn p a q b (RatR (p*q) (a+b))):=by
 refine⟨?_⟩;rw[QCz];refine⟨by omega,by omega,trivial,by omega,by omega,⟨by omega,Zw p.den_nz q.den_nz⟩,?_⟩;have e:=QJw p q;rw[show(!(decide (p.num<0)==decide (q.num<0)))=(decide (p.num<0) !=decide (q.num<0))from rfl,e];exact .of (by omega)
def RatE (q:Rat)(n:Nat)(e:Int)(av:AV):Prop:= ∃b cs,av= .t [(b,cs),(false,[.v (.int .i64 e)])]/\RatR q n (.x b cs)
theorem RatE.conc {w:World}{O:Nat->Prop}{ρ:Env}{q:Rat}{n:Nat}{e:Int}{av:AV}{v:Value}(h:RatE q n e av)(hc:ConcV w O ρ av v):ConcV w O ρ (.t [(true,[.r q n]),(false,[.v (.int .i64 e)])]) v:=by
 obtain⟨b,cs,rfl,hx⟩:=h;obtain⟨vs,h1,h2⟩:=hc;cases h1 with
 | cons h1 h3=>cases h3 with
  | cons h3 h4=>exact⟨_,.cons (hx.conc (av:= .x b cs) h1) (.cons h3 h4),h2⟩
theorem QUP (p:Rat)(a:Nat)(q:Rat)(b:Nat)(h:a+b<=4294967296)(hq:q≠0):QK (U4 p a q b (RatE (p/q) (a+b) 0)):=by
 refine⟨?_⟩;rw[UC];have hn:q.num≠0:=fun e=>hq (Rat.num_eq_zero.1 e);refine⟨by omega,by omega,QC (fun h0=> ?_) (fun _=>⟨trivial,by omega,by omega,⟨by omega,Zw p.den_nz (by omega)⟩,?_⟩)⟩
 ·have:=Ql.1 (R5 h0);omega
 ·rw[show(!(decide (p.num<0)==decide (q.num<0)))=(decide (p.num<0) !=decide (q.num<0))from rfl,QJx p q hn];exact⟨_,_,rfl,.of (by omega)⟩
theorem QQj (p:Rat)(a b:Nat)(h:a+b<=4294967296)(K:AV->Prop)(hK:K (.t [(true,[.v (.bool false),.v (.string ⟨⟨[]⟩⟩),.v (.string ⟨⟨[]⟩⟩)]),(false,[.v (.int .i64 12)])])):QK (U4 p a 0 b K):=by
 refine⟨?_⟩;rw[UC];refine⟨by omega,by omega,QC (fun _=>hK) (fun h0=> ?_)⟩;exact absurd (Ql.2 (by rfl)) (R6 h0)
theorem QUQ (p:Rat)(a:Nat)(h:a<=4294967296)(hb:Bd a p):QK (QBo p a (RatR (-p) a)):=by
 refine⟨?_⟩;rw[QC0];have hn:(-p).num= -p.num:=rfl;have hd:(-p).den=p.den:=rfl;have e2:((Zc #[]).data.toList)=([]:List UInt8):=rfl;have mk: ∀s:Bool,s=decide ((-p).num<0)->RatR (-p) a (.x true [.v (.bool s),.b p.num.natAbs a,.b p.den a]):=fun s hs=>
  .inl ⟨s,_,_,rfl,hs,by rw[hn,Int.natAbs_neg];exact .b hb.1,by rw[hd];exact .b hb.2⟩
 refine⟨h,QC (fun h1=>mk _ ?_) (fun h1=>mk _ ?_)⟩
 ·have h1: ¬p.num<0:=by simpa using h1
  show(!decide (QA p.num.natAbs=[]))=decide (-p.num<0)
  rw[Bool.eq_iff_iff,decide_eq_true_eq,Bool.not_eq_true',decide_eq_false_iff_not,Ql];omega
 ·have h1:p.num<0:=by simpa using h1
  rw[hn,eq_comm,decide_eq_false_iff_not];omega
def Q5 (p:Rat):Rat:=if p.num<0 then-p else p
theorem QUR (p:Rat)(a:Nat)(h:a<=4294967296)(hb:Bd a p):QK (QBp p a (RatR (Q5 p) a)):=by
 refine⟨?_⟩;rw[QC1];have hn:(Q5 p).num.natAbs=p.num.natAbs:=by
  unfold Q5;split
  ·exact Int.natAbs_neg _
  ·rfl
 have hd:(Q5 p).den=p.den:=by
  unfold Q5;split
  ·rfl
  ·rfl
 have h0: ¬(Q5 p).num<0:=by
  unfold Q5;split
  ·show ¬ -p.num<0;omega
  ·assumption
 exact⟨h,.inl ⟨_,_,_,rfl,by simp[h0],by rw[hn];exact .b hb.1,by rw[hd];exact .b hb.2⟩⟩
theorem QQk (p:Rat)(a:Nat)(h:a<=4294967296)(K:AV->Prop)(hK:K (iA .i64 (XE p))):QK (QT T20 (oF Tryz.f32) noL Tryz.f32 [rA p a] K):=by
 refine HV ((a<=4294967296/\bif decide (QA p.num.natAbs=[])then K (Zi false [Zg (Zf Zb 0)])else bif decide (p.num<0)then K (Zi false [Zg (Zf Zb (-1))])else K (Zi false [Zg (Zf Zb 1)]))) ?_
 unfold XE at hK;refine⟨h,QC (fun h1=> ?_) (fun h1=>QC (fun h2=> ?_) (fun h2=> ?_))⟩
 ·have h1:=Ql.1 (R5 h1);rw[if_pos (by omega)]at hK;exact hK
 ·have h1: ¬p.num.natAbs=0:=fun e=>R6 h1 (Ql.2 e);rw[if_neg (by omega),if_pos (R5 h2)]at hK;exact hK
 ·have h1: ¬p.num.natAbs=0:=fun e=>R6 h1 (Ql.2 e);rw[if_neg (by omega),if_neg (R6 h2)]at hK;exact hK
theorem QMf (m n:Nat): -1<=YU m n/\YU m n<=1:=by unfold YU;split<;>(try split)<;>omega
theorem QUS (p:Rat)(a:Nat)(q:Rat)(b:Nat)(h:a+b<=4294967296)(K:AV->Prop)(hK:K (iA .i64 (YT p q))):QK (QT T20 (oF Tryz.f21) noL Tryz.f21 [rA p a,rA q b] K):=by
 refine HV ((a<=4294967296/\b<=4294967296/\True/\bif !decide (p.num<0)==decide (q.num<0)then bif decide (p.num<0)then K (Zi false [Zg (Zf Zb (-1))])else K (Zi false [Zg (Zf Zb 1)])else(a<=274877906944/\b<=274877906944)/\(b<=274877906944/\a<=274877906944)/\bif decide (p.num<0)then K (Zi false [Zg (Zf Zb (Zb.wrap (0-YU (p.num.natAbs*q.den) (q.num.natAbs*p.den))))])else K (Zi false [Zg (Zf Zb (YU (p.num.natAbs*q.den) (q.num.natAbs*p.den)))]))) ?_
 refine⟨by omega,by omega,trivial,QC (fun h1=> ?_) (fun h1=>⟨by omega,by omega,?_⟩)⟩
 ·refine QC (fun h2=> ?_) (fun h2=> ?_)
  ·have h2:=R5 h2;have h3: ¬q.num<0:=fun h3=>by simp[h2,h3]at h1
   rw[QPu h2 h3]at hK;exact hK
  ·have h2:=R6 h2;have h3:q.num<0:=by
    apply Classical.byContradiction;intro h3;simp[h2,h3]at h1
   rw[QPv h2 h3]at hK;exact hK
 ·have h1:decide (p.num<0)=decide (q.num<0):=by simpa using h1
  rw[QJ0 p q h1]at hK;have hl:=QMf (p.num.natAbs*q.den) (q.num.natAbs*p.den);refine QC (fun h2=> ?_) (fun h2=> ?_)
  ·rw[h2,R7]at hK;rw[w64 (by omega),Int.zero_sub];exact hK
  ·rw[h2,R8]at hK;exact hK
def QMg:Ctr
 | [.x false [.v (.int .i64 n)]]=>some fun K=>(-9223372036854775808<=n/\n<9223372036854775808)/\K (rA (n:Rat) 64)
 | _=>none
def QGs:Ctr
 | [.x true [.r p a],.x true [.r q b]]=>some fun K=>a+b+1<=4294967296/\K (rA (p+q) (a+b+1))
 | _=>none
def QC2:Ctr
 | [.x true [.r p a],.x true [.r q b]]=>some fun K=>a+b<=4294967296/\K (rA (p*q) (a+b))
 | _=>none
def QGt:Ctr
 | [.x true [.r p a],.x true [.r q b]]=>some fun K=>a+b<=4294967296/\(q≠0->K (.t [(true,[.r (p/q) (a+b)]),(false,[.v (.int .i64 0)])]))/\(q=0->K (.t [(true,[.v (.bool false),.v (.string ⟨⟨[]⟩⟩),.v (.string ⟨⟨[]⟩⟩)]),(false,[.v (.int .i64 12)])]))
 | _=>none
def QGu:Ctr
 | [.x true [.r p a]]=>some fun K=>a<=4294967296/\K (rA (-p) a)
 | _=>none
def QGv:Ctr
 | [.x true [.r p a]]=>some fun K=>a<=4294967296/\K (rA (Q5 p) a)
 | _=>none
def QC3:Ctr
 | [.x true [.r p a]]=>some fun K=>a<=4294967296/\K (iA .i64 (XE p))
 | _=>none
def QGw:Ctr
 | [.x true [.r p a],.x true [.r q b]]=>some fun K=>a+b<=4294967296/\K (iA .i64 (YT p q))
 | _=>none
theorem ok_rOf:QJ 68 QMg:=by
 refine⟨Qg Tryz.func68 (by kernel_rfl),fun l T hT K hK=> ?_⟩;unfold QMg at hT;split at hT
 ·cases hT
  exact JC (Qm UB QN Tryz.func68 (by kernel_rfl) (by kernel_rfl) (by rfl) (QW0 _ hK.1.1 hK.1.2)) hK.2
 ·cases hT
theorem ok_rAdd:QJ 23 QGs:=by
 refine⟨Qg Tryz.func23 (by kernel_rfl),fun l T hT K hK=> ?_⟩;unfold QGs at hT;split at hT
 ·cases hT
  exact JC (Qm UB QN Tryz.func23 (by kernel_rfl) (by kernel_rfl) (by rfl) (QUN _ _ _ _ hK.1)) hK.2
 ·cases hT
theorem ok_rMul:QJ 88 QC2:=by
 refine⟨Qg Tryz.func88 (by kernel_rfl),fun l T hT K hK=> ?_⟩;unfold QC2 at hT;split at hT
 ·cases hT
  exact JC (Qm UB QN Tryz.func88 (by kernel_rfl) (by kernel_rfl) (by rfl) (QUO _ _ _ _ hK.1)) hK.2
 ·cases hT
theorem ok_rDiv:QJ 87 QGt:=by
 refine⟨Qg Tryz.func87 (by kernel_rfl),fun l T hT K hK=> ?_⟩;unfold QGt at hT;split at hT
 ·rename_i p a q b;cases hT
  by_cases hq:q=0
  ·subst hq;exact Qm UB QN Tryz.func87 (by kernel_rfl) (by kernel_rfl) (by rfl) (QQj p a b hK.1 K (hK.2.2 rfl))
  ·exact Eng.Spec.res (Qm UB QN Tryz.func87 (by kernel_rfl) (by kernel_rfl) (by rfl) (QUP p a q b hK.1 hq)) fun _ _ _ _ hn hc=>⟨_,hK.2.1 hq,hn.conc hc⟩
 ·cases hT
theorem ok_rNeg:QJ 127 QGu:=by
 refine⟨Qg Tryz.func127 (by kernel_rfl),fun l T hT K hK=> ?_⟩;unfold QGu at hT;split at hT
 ·cases hT
  exact Y3 fun w O ρ vals hc=>JC (Qm UB QN Tryz.func127 (by kernel_rfl) (by kernel_rfl) (by rfl) (QUQ _ _ hK.1 (QIL hc))) hK.2
 ·cases hT
theorem ok_rAbs:QJ 22 QGv:=by
 refine⟨Qg Tryz.func22 (by kernel_rfl),fun l T hT K hK=> ?_⟩;unfold QGv at hT;split at hT
 ·cases hT
  exact Y3 fun w O ρ vals hc=>JC (Qm UB QN Tryz.func22 (by kernel_rfl) (by kernel_rfl) (by rfl) (QUR _ _ hK.1 (QIL hc))) hK.2
 ·cases hT
theorem QMh:QJ 32 QC3:=by
 refine okL Tryz.func32 fun l T hT K hK=> ?_
 unfold QC3 at hT;split at hT<;>cases hT
 exact spL UB QN Tryz.func32 (QQk _ _ hK.1 K hK.2)
theorem QQl:QJ 21 QGw:=by
 refine okL Tryz.func21 fun l T hT K hK=> ?_
 unfold QGw at hT;split at hT<;>cases hT
 exact spL UB QN Tryz.func21 (QUS _ _ _ _ hK.1 K hK.2)
def L21:LC:=(68,QMg)::(23,QGs)::(88,QC2)::(87,QGt)::(127,QGu)::(22,QGv)::(32,QC3)::(21,QGw)::L20
noncomputable def T21:Qa:=mkT L21 M15 X4
theorem QSo:QG L21:= .cons ok_rOf (.cons ok_rAdd (.cons ok_rMul (.cons ok_rDiv (.cons ok_rNeg (.cons ok_rAbs (.cons QMh (.cons QQl QSn)))))))
theorem QIN:XH T21:=QV QSo HO Qo
end Go.Proofs
namespace Go.Proofs
open Go Go.Eng
def QBq (p:Rat)(a:Nat)(q:Rat)(b:Nat)(K:AV->Prop):Prop:=QT T21 (oF Tryz.f172) noL Tryz.f172 [rA p a,rA q b] K
theorem QC4 (p:Rat)(a:Nat)(q:Rat)(b:Nat)(K:AV->Prop):QBq p a q b K=(a+b<=4294967296/\bif decide (YT p q<=0)then a<=4294967296/\K (Zi true [Zy p a])else b<=4294967296/\K (Zi true [Zy q b])):=by kernel_rfl
def QBr (p:Rat)(a:Nat)(q:Rat)(b:Nat)(K:AV->Prop):Prop:=QT T21 (oF Tryz.f173) noL Tryz.f173 [rA p a,rA q b] K
theorem QC5 (p:Rat)(a:Nat)(q:Rat)(b:Nat)(K:AV->Prop):QBr p a q b K=(a+b<=4294967296/\bif decide (YT p q≥0)then a<=4294967296/\K (Zi true [Zy p a])else b<=4294967296/\K (Zi true [Zy q b])):=by kernel_rfl
theorem KB (p q:Rat):YT p q<=0↔p<=q:=by
 unfold YT;split
 ·rename_i h;exact⟨fun _=>Rat.le_of_lt h,fun _=>by decide⟩
 ·rename_i h;split
  ·rename_i h2;subst h2;exact⟨fun _=>Rat.le_refl,fun _=>by decide⟩
  ·rename_i h2;constructor
   ·intro h3;exact absurd h3 (by decide)
   ·intro h3;exfalso;rcases Rat.le_iff_lt_or_eq.1 h3 with h4 | h4
    ·exact h h4
    ·exact h2 h4
theorem QAK (p q:Rat):YT p q≥0↔q<=p:=by
 unfold YT;split
 ·rename_i h;constructor
  ·intro h3;exact absurd h3 (by decide)
  ·intro h3;exact absurd h (Rat.not_lt.2 h3)
 ·rename_i h;exact⟨fun _=>Rat.not_lt.1 h,fun _=>by split<;>decide⟩
theorem QUT (p:Rat)(a:Nat)(q:Rat)(b:Nat)(h:a+b+1<=4294967296)(K:AV->Prop)(hK:K (rA (p-q) (a+b+1))):QK (QT T21 (oF Tryz.f69) noL Tryz.f69 [rA p a,rA q b] K):=by
 refine HV ((b<=4294967296/\a+b+1<=4294967296/\K (Zi true [Zy (p+ -q) (a+b+1)]))) ?_
 rw[Rat.sub_eq_add_neg]at hK;exact⟨by omega,by omega,hK⟩
theorem QUU (p:Rat)(a:Nat)(q:Rat)(b:Nat)(h:a+b<=4294967296):QK (QBq p a q b (RatR (Y7 p q) (max a b))):=by
 refine⟨?_⟩;rw[QC4];unfold Y7;refine⟨by omega,QC (fun h1=> ?_) (fun h1=> ?_)⟩
 ·rw[if_pos ((KB p q).1 (R5 h1))];exact⟨by omega,.of (Zs _ _)⟩
 ·rw[if_neg (fun h2=>R6 h1 ((KB p q).2 h2))];exact⟨by omega,.of (Zr _ _)⟩
def WI (a b:Rat):Rat:=if b<=a then a else b
theorem QUV (p:Rat)(a:Nat)(q:Rat)(b:Nat)(h:a+b<=4294967296):QK (QBr p a q b (RatR (WI p q) (max a b))):=by
 refine⟨?_⟩;rw[QC5];unfold WI;refine⟨by omega,QC (fun h1=> ?_) (fun h1=> ?_)⟩
 ·rw[if_pos ((QAK p q).1 (R5 h1))];exact⟨by omega,.of (Zs _ _)⟩
 ·rw[if_neg (fun h2=>R6 h1 ((QAK p q).2 h2))];exact⟨by omega,.of (Zr _ _)⟩
theorem QQm (x n:Int)(hn:0<n/\n<9223372036854775808)(K:AV->Prop)(hK:K (iA .i64 (x % n))):QK (QT T21 (oF Tryz.f49) noL Tryz.f49 [iA .i64 x,iA .i64 n] K):=by
 refine HV ((n≠0/\bif decide (x.tmod n<0)then K (Zi false [Zg (Zf Zb (Zb.wrap (x.tmod n+n)))])else K (Zi false [Zg (Zf Zb (x.tmod n))]))) ?_
 have h1:=Int.emod_nonneg x (by omega:n≠0);have h2:=Int.emod_lt_of_pos x hn.1;have hb:Int.tmod x n<n:=by
  have:=Int.tmod_lt_of_pos x hn.1;exact this
 refine⟨by omega,QC (fun h=> ?_) (fun h=> ?_)⟩
 ·have h:=R5 h;have e:Int.tmod x n+n=x % n:=by
   rw[Int.emod_eq_tmod];rw[if_neg]
   ·omega
   ·intro h';rcases h' with h' | h'
    ·have:=Int.tmod_nonneg n h';omega
    ·rw[Int.tmod_eq_zero_of_dvd h']at h;omega
  rw[e,w64 (by omega)];exact hK
 ·have h:=R6 h;have e:Int.tmod x n=x % n:=by
   rw[Int.tmod_eq_emod];split
   ·omega
   ·rename_i h';exfalso;have h3:x<0:=by omega
    have h4: ¬n∣x:=by omega
    have:=Int.tmod_eq_emod (a:=x) (b:=n);rw[if_neg h']at this;omega
  rw[e];exact hK
def QGx:Ctr
 | [.x true [.r p a],.x true [.r q b]]=>some fun K=>a+b+1<=4294967296/\K (rA (p-q) (a+b+1))
 | _=>none
def QGy:Ctr
 | [.x true [.r p a],.x true [.r q b]]=>some fun K=>a+b<=4294967296/\K (rA (Y7 p q) (max a b))
 | _=>none
def QGz:Ctr
 | [.x true [.r p a],.x true [.r q b]]=>some fun K=>a+b<=4294967296/\K (rA (WI p q) (max a b))
 | _=>none
def QC6:Ctr
 | [.x false [.v (.int .i64 x)],.x false [.v (.int .i64 n)]]=>some fun K=>(0<n/\n<9223372036854775808)/\K (iA .i64 (x % n))
 | _=>none
theorem ok_rSub:QJ 69 QGx:=by
 refine okL Tryz.func69 fun l T hT K hK=> ?_
 unfold QGx at hT;split at hT<;>cases hT
 exact spL QIN QN Tryz.func69 (QUT _ _ _ _ hK.1 K hK.2)
theorem ok_rMin:QJ 172 QGy:=by
 refine⟨Qg Tryz.func172 (by kernel_rfl),fun l T hT K hK=> ?_⟩;unfold QGy at hT;split at hT
 ·cases hT
  exact JC (Qm QIN QN Tryz.func172 (by kernel_rfl) (by kernel_rfl) (by rfl) (QUU _ _ _ _ hK.1)) hK.2
 ·cases hT
theorem ok_rMax:QJ 173 QGz:=by
 refine⟨Qg Tryz.func173 (by kernel_rfl),fun l T hT K hK=> ?_⟩;unfold QGz at hT;split at hT
 ·cases hT
  exact JC (Qm QIN QN Tryz.func173 (by kernel_rfl) (by kernel_rfl) (by rfl) (QUV _ _ _ _ hK.1)) hK.2
 ·cases hT
theorem QMi:QJ 49 QC6:=by
 refine okL Tryz.func49 fun l T hT K hK=> ?_
 unfold QC6 at hT;split at hT<;>cases hT
 exact spL QIN QN Tryz.func49 (QQm _ _ hK.1 K hK.2)
def L22:LC:=(69,QGx)::(172,QGy)::(173,QGz)::(49,QC6)::L21
theorem QMj:QG L22:= .cons ok_rSub (.cons ok_rMin (.cons ok_rMax (.cons QMi QSo)))
end Go.Proofs
namespace Go.Proofs
open Go Go.Eng
structure QG0 (α:Type)where
 xs:List α
 i:Nat
structure QAL {α:Type}(l:List α)(x:QG0 α):Prop where
  len:x.xs.length=l.length
  hi:2*x.i<=l.length+1
  get: ∀p,x.xs[p]? =if p<x.i∨l.length-x.i<=p then l.reverse[p]? else l[p]?
def QMk (l:List UInt8):LI:=fun _=> .inv ⟨QG0 UInt8,fun x=>⟨[(0,.x false [.w 1000 0 l.length]),(2,iA .i64 x.i),(3,iA .i64 ((l.length:Int)-1-x.i))],[(1000,QBE x.xs)]⟩,QAL l,fun x=>l.length-x.i,fun _=>0⟩
def Xs (n:Nat)(qs:List Rat):Blk:= .row 25 3 (qs.map fun q=>[Zy q n])
theorem QAL.step {α:Type}{l:List α}{x:QG0 α}(h:QAL l x)(hi:x.i<l.length-1-x.i){a b:α}(ha:x.xs[l.length-1-x.i]? =some a)(hb:x.xs[x.i]? =some b):QAL l ⟨(x.xs.set x.i a).set (l.length-1-x.i) b,x.i+1⟩:=by
 obtain⟨len,_,get⟩:=h;refine⟨by simpa using len,by simp only;omega,fun p=> ?_⟩;simp only;by_cases h1:p=l.length-1-x.i
 ·subst h1;rw[List.getElem?_set,if_pos rfl,if_pos (by rw[List.length_set];omega),if_pos (by omega),Zq (by omega),<-hb,get,if_neg (by omega)];congr 1;omega
 ·rw[List.getElem?_set_ne (by omega)];by_cases h2:p=x.i
  ·subst h2;rw[List.getElem?_set,if_pos rfl,if_pos (by omega),if_pos (by omega),Zq (by omega),<-ha,get,if_neg (by omega)]
  ·rw[List.getElem?_set_ne (by omega),get];by_cases h3:p<x.i∨l.length-x.i<=p
   ·rw[if_pos h3,if_pos (by omega)]
   ·rw[if_neg h3,if_neg (by omega)]
theorem QAL.done {α:Type}{l:List α}{x:QG0 α}(h:QAL l x)(hi: ¬(x.i:Int)<(l.length:Int)-1-x.i):x.xs=l.reverse:=by
 obtain⟨len,h1,get⟩:=h;apply List.ext_getElem?
 intro p;rw[get];split
 ·rfl
 ·rename_i h3;have hp:p<l.length:=by omega
  rw[Zq hp];congr 1;omega
theorem QAL.start {α:Type}(l:List α):QAL l ⟨l,0⟩:=⟨rfl,by simp,fun p=>by
 simp only;split
 ·rename_i h;rw[List.getElem?_eq_none (by omega),List.getElem?_eq_none (by rw[Zu];omega)]
 ·rfl⟩
set_option maxHeartbeats 1000000 in
theorem QUW (l:List UInt8)(hl:l.length<=1099511627776):QK (X7 (X:=Unit) (mkT L22 M15 X4) (oF Tryz.f179) (QMk l) Tryz.f179 [.x false [.w 1000 0 l.length]] [(1000,QBE l)] (fun _=>True) (fun _=>⟨[],[(1000,QBE l.reverse)]⟩)):=by
 refine HV (((∃(x:QG0 UInt8),(QAL l x/\OfNat.ofNat 0=0)/\0=0/\l.length=l.length/\0=Za x.i/\Zb.wrap (Za l.length-1)=Za l.length-1-Za x.i/\5=5/\1=1/\(Ze QO l=Ze QO x.xs∨QE (Ze QO l) (Ze QO x.xs))/\True)/\∀(x:QG0 UInt8),QAL l x->OfNat.ofNat 0=0->bif decide (Za x.i<Za l.length-1-Za x.i)then(0<=Za l.length-1-Za x.i/\Za l.length-1-Za x.i<Za l.length)/\∃(d:Int),ldE (Ze QO x.xs) (0+(Za l.length-1-Za x.i).toNat) 0 1=some [Zg (Zf Zh d)]/\(0<=Za x.i/\Za x.i<Za l.length)/\∃(d_1:Int),ldE (Ze QO x.xs) (0+(Za x.i).toNat) 0 1=some [Zg (Zf Zh d_1)]/\(0<=Za x.i/\Za x.i<Za l.length)/\0+(Za x.i).toNat<(Ze QO x.xs).length/\(0<=Za l.length-1-Za x.i/\Za l.length-1-Za x.i<Za l.length)/\0+(Za l.length-1-Za x.i).toNat<((Ze QO x.xs).set (0+(Za x.i).toNat) [Zg (Zf Zh d)]).length/\∃(x':QG0 UInt8),(QAL l x'/\OfNat.ofNat 0=0/\l.length-x'.i<l.length-x.i)/\0=0/\l.length=l.length/\Zb.wrap (Za x.i+1)=Za x'.i/\Zb.wrap (Za l.length-1-Za x.i-1)=Za l.length-1-Za x'.i/\5=5/\1=1/\(((Ze QO x.xs).set (0+(Za x.i).toNat) [Zg (Zf Zh d)]).set (0+(Za l.length-1-Za x.i).toNat) [Zg (Zf Zh d_1)]=Ze QO x'.xs∨QE (((Ze QO x.xs).set (0+(Za x.i).toNat) [Zg (Zf Zh d)]).set (0+(Za l.length-1-Za x.i).toNat) [Zg (Zf Zh d_1)]) (Ze QO x'.xs))/\True else ∃(_x_1:Unit),True/\5=5/\1=1/\(Ze QO x.xs=Ze QO l.reverse∨QE (Ze QO x.xs) (Ze QO l.reverse))/\True)) ?_
 simp only[Zk,R0,R1,Nat.zero_add,R4];refine⟨⟨⟨l,0⟩,.start l,rfl,by rw[w64 (by omega)];simp,.inl rfl⟩,fun x hx=>QC (fun hp=> ?_) (fun hp=> ?_)⟩
 ·have hp:=R5 hp;have len:=hx.len;have hi:=hx.hi;obtain⟨a,ha⟩: ∃a,x.xs[l.length-1-x.i]? =some a:=⟨_,Zl (by omega)⟩
  obtain⟨b,hb⟩: ∃b,x.xs[x.i]? =some b:=⟨_,Zl (by omega)⟩
  have e1:((l.length:Int)-1-x.i).toNat=l.length-1-x.i:=by omega
  have ld: ∀{j:Nat} {c:UInt8},x.xs[j]? =some c->ldE (x.xs.map QO) j 0 1=some [.v (.int .u8 (c.toNat:Int))]:=fun h=>by
   simp only[ldE,List.getElem?_map,h];rfl
  simp only[e1,Zp];refine⟨by omega,_,ld ha,by omega,_,ld hb,by omega,by rw[List.length_map];omega,by omega,by rw[List.length_set,List.length_map];omega,_,⟨hx.step (by omega) ha hb,by simp only;omega⟩,?_,?_,.inl ?_⟩
  ·rw[w64 (by omega)];simp
  ·rw[w64 (by omega)];simp only;omega
  ·rw[QAG _ _ _ _ rfl,QAG _ _ _ _ rfl]
 ·have hp:=R6 hp;rw[hx.done hp];exact⟨(),.inl rfl⟩
def QG1:XW:=fun as0 H _=>match as0 with
 | [.x false [.w k 0 n]]=>match H k with
  | some (.row t 1 xs)=>bif t.beq 5 then
    some fun K=> ∃bs:List UInt8,xs=bs.map QO/\n=bs.length/\bs.length<=1099511627776/\K (.t []) (XJ [(1000,k)] (QS [(1000,QBE bs.reverse)]) H)
    else none
  | _=>none
 | _=>none
theorem QQn:YG 179 QG1:=by
 refine⟨Qg Tryz.func179 (by kernel_rfl),fun l H d T hT K hK=> ?_⟩;unfold QG1 at hT;split at hT
 ·rename_i k n;split at hT
  ·rename_i t xs e1;cases hb:t.beq 5 with
   | false=>rw[hb]at hT;cases hT
   | true=>
    rw[hb]at hT;cases hT
    have ht:=Nat.eq_of_beq_eq_true hb;subst ht;obtain⟨bs,rfl,rfl,hl,hK⟩:=hK;refine XT (R:=[(1000,k)]) (N:=[]) (Hl:=[(1000,QBE bs)]) (QV QMj HO Qo) QN Tryz.func179 (by kernel_rfl) (by kernel_rfl) (by rfl)
     (as0:=[.x false [.w 1000 0 bs.length]]) ?_ (V9 e1 rfl rfl) rfl (by simp) (by simp) (fun _ h=>by cases h) (fun x=>⟨fun p hp=> ?_,fun p hp b hb=> ?_⟩) (QUW bs hl) (fun _ _=> ?_)
    ·simp[JB,JA,Y0,lkB]
    ·simp at hp;subst hp;exact fun h=>by have h':some (QBE _)=none:=h;cases h'
    ·simp at hp;subst hp;have h':some (QBE _)=some b:=hb;cases h';rfl
    ·exact⟨_,rfl,hK⟩
  ·cases hT
 ·cases hT
def M23:List (Nat×XW):=(179,QG1)::M15
theorem QBs:Xe M23:= .cons QQn HO
structure QQo where
 m:Nat
 bs:List UInt8
def QG2 (n:Nat):LI:=fun _=> .inv ⟨QQo,fun x=>⟨[(0,iA .i64 x.m),(3,.x false [.w 500 0 x.bs.length])],[(500,QBE x.bs)]⟩,fun x=>QA n=QA x.m++x.bs.reverse/\x.m<=n,fun x=>x.m,fun _=>0⟩
def HT (n:Nat)(K:AV->Prop):Prop:=QT (mkT L22 M23 X4) (oF Tryz.f128) (QG2 n) Tryz.f128 [iA .i64 n] K
theorem QAM (n:Nat)(K:AV->Prop):HT n K=((∃(x:QQo),((QA n=QA x.m++x.bs.reverse/\x.m<=n)/\OfNat.ofNat 0=0)/\Za n=Za x.m/\Value.slice none 0 0=Value.slice none 0 0/\0=0/\x.bs.length=0/\Ze QO x.bs=[]/\True)/\∀(x:QQo),QA n=QA x.m++x.bs.reverse/\x.m<=n->OfNat.ofNat 0=0->bif decide (Za x.m>0)then(256:Int)≠0/\((x.bs.length+1)*1<=140737488355328/\x.bs.length+1<=9223372036854775807)/\(256:Int)≠0/\∃(x':QQo),((QA n=QA x'.m++x'.bs.reverse/\x'.m<=n)/\OfNat.ofNat 0=0/\x'.m<x.m)/\Zb.wrap ((Za x.m).tdiv 256)=Za x'.m/\0=0/\x.bs.length+1=x'.bs.length/\5=5/\1=1/\(Zo x.bs.length (Ze QO x.bs)++[[Zg (Zf Zh (Zh.wrap ((Za x.m).tmod 256)))]]=Ze QO x'.bs∨QE (Zo x.bs.length (Ze QO x.bs)++[[Zg (Zf Zh (Zh.wrap ((Za x.m).tmod 256)))]]) (Ze QO x'.bs))/\True else ∃(bs:List UInt8),Ze QO x.bs=Ze QO bs/\x.bs.length=bs.length/\bs.length<=1099511627776/\∃(bs_1:List UInt8),Zo x.bs.length (List.drop 0 (Ze QO bs.reverse))=Ze QO bs_1/\K (Zi false [Zg (Zv (Zc (Zn bs_1)))])):=by kernel_rfl
theorem QMl (n:Nat)(hn:n<9223372036854775808):QK (HT n (NatIs n 63)):=by
 refine⟨?_⟩;rw[QAM];simp only[Zk,R0,R1,R4];have hlen:(QA n).length<=63:=XC (show n<2^63 from hn);refine⟨⟨⟨n,[]⟩,⟨by simp,Nat.le_refl _⟩,rfl,rfl,rfl⟩,fun x hx=>QC (fun hp=> ?_) (fun hp=> ?_)⟩
 ·obtain⟨m,bs⟩:=x;obtain⟨h1,h2⟩:=hx;simp only at h1 h2 hp⊢;have hp:=R5 hp;have hl:=congrArg List.length h1;rw[List.length_append,Zu]at hl;have e1:(m:Int).tdiv 256=((m/256:Nat):Int):=by rw[te (by omega)];omega
  have e2:Zh.wrap ((m:Int).tmod 256)=((UInt8.ofNat (m % 256)).toNat:Int):=by
   rw[tm (by omega),UInt8.toNat_ofNat',wu8 (by omega)];omega
  rw[e1,e2,w64 (by omega)];refine⟨by omega,by omega,by omega,⟨m/256,bs++[UInt8.ofNat (m % 256)]⟩,⟨⟨?_,by simp only;omega⟩,by simp only;omega⟩,rfl,by simp,.inl ?_⟩
  ·simp only;rw[h1,Xg m (by omega)];simp
  ·simp only;rw[Zm (by simp),List.map_append];rfl
 ·obtain⟨m,bs⟩:=x;obtain⟨h1,h2⟩:=hx;simp only at h1 h2 hp⊢;have hp:=R6 hp;have hm:m=0:=by omega
  subst hm;have hl:=congrArg List.length h1;rw[List.length_append,Zu]at hl;rw[Qx,List.nil_append]at h1;refine⟨bs,rfl,rfl,by omega,bs.reverse,?_,hn,.inr ⟨_,rfl,h1.symm⟩⟩;rw[List.drop_zero,Zm (by simp)]
def QAN:Ctr
 | [.x false [.v (.int .i64 n)]]=>some fun K=>(0<=n/\n<9223372036854775808)/\K (bA n.toNat 63)
 | _=>none
theorem QKN:QJ 128 QAN:=by
 refine⟨Qg Tryz.func128 (by kernel_rfl),fun l T hT K hK=> ?_⟩;unfold QAN at hT;split at hT
 ·cases hT
  obtain⟨⟨h0,h1⟩,hK⟩:=hK;rename_i n;obtain⟨n,rfl⟩:=Int.eq_ofNat_of_zero_le h0;exact WB (Qm (QV QMj QBs Qo) QN Tryz.func128 (by kernel_rfl) (by kernel_rfl) (by rfl) (QMl n (by omega))) hK
 ·cases hT
def L24:LC:=(128,QAN)::L22
theorem QSp:QG L24:= .cons QKN QMj
structure OfX where
 a:Nat
 b:Nat
def KP:List Ch:=[.v (.bool false),.v (.string ⟨⟨[]⟩⟩),.v (.string ⟨⟨[]⟩⟩)]
def QQp (num den:Int):LI:=fun _=> .inv ⟨OfX,fun x=>⟨[(0,iA .i64 num),(1,iA .i64 den),(4,.x false [.p 4 0]),(5,iA .i64 x.a),(6,iA .i64 x.b)],[(4,.box 25 KP)]⟩,fun x=>Zj x.a x.b=Zj num.natAbs den.natAbs/\x.a<9223372036854775808/\x.b<9223372036854775808,fun x=>x.b,fun _=>0⟩
def QEy (num den:Int)(K:AV->Prop):Prop:=QT (mkT L24 M23 X4) (oF Tryz.f70) (QQp num den) Tryz.f70 [iA .i64 num,iA .i64 den] K
theorem QEz (num:Int)(den:Int)(K:AV->Prop):QEy num den K=((∃(x:OfX),((x.a.gcd x.b=num.natAbs.gcd den.natAbs/\x.a<9223372036854775808/\x.b<9223372036854775808)/\OfNat.ofNat 0=0)/\num=num/\den=den/\0=0/\(bif true then if Zb.wrap (0-num)>num then Zb.wrap (0-num)else num else if Zb.wrap (0-num)<num then Zb.wrap (0-num)else num)=Za x.a/\den=Za x.b/\25=25/\false=false/\Zc (Zn [])=Zc (Zn [])/\Zc (Zn [])=Zc (Zn [])/\True)/\∀(x:OfX),x.a.gcd x.b=num.natAbs.gcd den.natAbs/\x.a<9223372036854775808/\x.b<9223372036854775808->OfNat.ofNat 0=0->bif decide (Za x.b>0)then Za x.b≠0/\∃(x':OfX),((x'.a.gcd x'.b=num.natAbs.gcd den.natAbs/\x'.a<9223372036854775808/\x'.b<9223372036854775808)/\OfNat.ofNat 0=0/\x'.b<x.b)/\num=num/\den=den/\0=0/\Za x.b=Za x'.a/\(Za x.a).tmod (Za x.b)=Za x'.b/\25=25/\false=false/\Zc (Zn [])=Zc (Zn [])/\Zc (Zn [])=Zc (Zn [])/\True else Za x.a≠0/\Za x.a≠0/\((0<=bif true then if Zb.wrap (0-Zb.wrap (num.tdiv (Za x.a)))>Zb.wrap (num.tdiv (Za x.a))then Zb.wrap (0-Zb.wrap (num.tdiv (Za x.a)))else Zb.wrap (num.tdiv (Za x.a))else if Zb.wrap (0-Zb.wrap (num.tdiv (Za x.a)))<Zb.wrap (num.tdiv (Za x.a))then Zb.wrap (0-Zb.wrap (num.tdiv (Za x.a)))else Zb.wrap (num.tdiv (Za x.a)))/\(bif true then if Zb.wrap (0-Zb.wrap (num.tdiv (Za x.a)))>Zb.wrap (num.tdiv (Za x.a))then Zb.wrap (0-Zb.wrap (num.tdiv (Za x.a)))else Zb.wrap (num.tdiv (Za x.a))else if Zb.wrap (0-Zb.wrap (num.tdiv (Za x.a)))<Zb.wrap (num.tdiv (Za x.a))then Zb.wrap (0-Zb.wrap (num.tdiv (Za x.a)))else Zb.wrap (num.tdiv (Za x.a)))<9223372036854775808)/\(0<=Zb.wrap (den.tdiv (Za x.a))/\Zb.wrap (den.tdiv (Za x.a))<9223372036854775808)/\K (Zi true [Zg (Zd (decide (Zb.wrap (num.tdiv (Za x.a))<0))),Zz (bif true then if Zb.wrap (0-Zb.wrap (num.tdiv (Za x.a)))>Zb.wrap (num.tdiv (Za x.a))then Zb.wrap (0-Zb.wrap (num.tdiv (Za x.a)))else Zb.wrap (num.tdiv (Za x.a))else if Zb.wrap (0-Zb.wrap (num.tdiv (Za x.a)))<Zb.wrap (num.tdiv (Za x.a))then Zb.wrap (0-Zb.wrap (num.tdiv (Za x.a)))else Zb.wrap (num.tdiv (Za x.a))).toNat 63,Zz (Zb.wrap (den.tdiv (Za x.a))).toNat 63])):=by kernel_rfl
theorem QIO {n:Int}(h0: -9223372036854775808<n)(h1:n<9223372036854775808):(bif true then if Zb.wrap (0-n)>n then Zb.wrap (0-n)else n else if Zb.wrap (0-n)<n then Zb.wrap (0-n)else n)=(n.natAbs:Int):=by
 simp only[R7];rw[w64 (by omega)];split<;>omega
theorem QE0 (num:Int)(d:Nat):mkRat num d=XG (decide (num<0)) num.natAbs d:=by
 unfold XG;congr 1;by_cases h:num<0
 ·simp only[h,decide_true,R7];omega
 ·simp only[h,decide_false,R8];omega
theorem QG3 (num:Int)(d:Nat)(hd:d≠0):(mkRat num d).num=num.tdiv (Zj num.natAbs d:Nat):=by
 rw[QE0,Uz _ _ _ hd];by_cases h:num<0
 ·simp only[h,decide_true,R7];have e:num= -(num.natAbs:Int):=by omega
  conv=>rhs;rw[e,Int.neg_tdiv]
  simp
 ·simp only[h,decide_false,R8];have e:num=(num.natAbs:Int):=by omega
  conv=>rhs;rw[e]
  rw[te (by omega)];simp
theorem QMm (num:Int)(d:Nat)(hd:d≠0):(mkRat num d).den=d/Zj num.natAbs d:=by
 rw[QE0,QBb _ _ _ hd]
theorem QW1 (num:Int)(den:Nat)(h0: -9223372036854775808<num/\num<9223372036854775808)(h1:0<den/\den<9223372036854775808):QK (QEy num den (RatIs (mkRat num den) 63)):=by
 refine⟨?_⟩;rw[QEz];rw[QIO h0.1 h0.2];simp only[Zk,R0,R1,R4];refine⟨⟨⟨num.natAbs,den⟩,⟨by simp,by simp only;omega,by simp only;omega⟩,rfl,rfl⟩,fun x hx=>QC (fun hp=> ?_) (fun hp=> ?_)⟩
 ·obtain⟨hg,ha,hb⟩:=hx;have hp:=R5 hp;have hm:=Nat.mod_lt x.a (by omega:0<x.b);refine⟨by omega,⟨x.b,x.a % x.b⟩,⟨⟨?_,hb,by simp only;omega⟩,hm⟩,rfl,by rw[tm (by omega)];simp⟩;rw[<-hg,Nat.gcd_comm x.b,<-Nat.gcd_rec,Nat.gcd_comm]
 ·obtain⟨hg,ha,hb⟩:=hx;have hp:=R6 hp;have hb0:x.b=0:=by omega
  rw[hb0,Nat.gcd_zero_right,Int.natAbs_natCast]at hg;have hd:den≠0:=by omega
  have hpos:0<Zj num.natAbs den:=Nat.gcd_pos_of_pos_right _ (by omega);rw[hg];have en:=QG3 num den hd;have ed:=QMm num den hd;have e1:(den:Int).tdiv (Zj num.natAbs den:Nat)=((den/Zj num.natAbs den:Nat):Int):=by rw[te (by omega)];simp
  have hle:den/Zj num.natAbs den<=den:=Zt _ _;have hle2:(num.tdiv (Zj num.natAbs den:Nat)).natAbs<=num.natAbs:=by
   rw[Int.natAbs_tdiv,Int.natAbs_natCast];exact Zt _ _
  rw[e1];generalize num.tdiv (Zj num.natAbs den:Nat)=t at en hle2⊢;generalize den/Zj num.natAbs den=d at ed hle⊢;rw[w64 (n:=t) (by omega),w64 (n:=(d:Int)) (by omega),QIO (by omega) (by omega),Zp,Zp];refine⟨by omega,by omega,by omega,by omega,_,_,_,rfl,by rw[en],?_,?_⟩
  ·rw[en];exact .b (by show _<9223372036854775808;omega)
  ·rw[ed];exact .b (by show _<9223372036854775808;omega)
def QE1:Ctr
 | [.x false [.v (.int .i64 n)],.x false [.v (.int .i64 d)]]=>some fun K=>((-9223372036854775808<n/\n<9223372036854775808)/\0<d/\d<9223372036854775808)/\K (rA (mkRat n d.toNat) 63)
 | _=>none
theorem QUX:QJ 70 QE1:=by
 refine⟨Qg Tryz.func70 (by kernel_rfl),fun l T hT K hK=> ?_⟩;unfold QE1 at hT;split at hT
 ·cases hT
  obtain⟨⟨h0,h1,h2⟩,hK⟩:=hK;rename_i n d;obtain⟨d,rfl⟩:=Int.eq_ofNat_of_zero_le (by omega:0<=d);exact QEu (Qm (QV QSp QBs Qo) QN Tryz.func70 (by kernel_rfl) (by kernel_rfl) (by rfl) (QW1 n d h0 (by omega))) hK
 ·cases hT
def L25:LC:=(70,QE1)::L24
theorem QMn:QG L25:= .cons QUX QSp
def L26:LC:=L25
noncomputable def T26:Qa:=mkT L26 M23 X4
theorem QMo:QG L26:=QMn
theorem QSq:XH T26:=QV QMo QBs Qo
end Go.Proofs
namespace Go.Proofs
open Go Go.Eng
def lR (n:Nat)(qs:List Rat):List (List Ch):=qs.map fun q=>[Zy q n]
def sR (n:Nat)(qs:List Rat):AV:= .x false [.s 3 (lR n qs)]
def QG4 (a:Nat)(ps:List Rat)(b:Nat)(qs:List Rat):LI:=fun _=> .inv ⟨Nat,fun i=>⟨[(0,sR a ps),(1,sR b qs),(12,iA .i64 ps.length),(13,iA .i64 i)],[]⟩,fun i=>i<=ps.length/\ps.take i=qs.take i,fun i=>ps.length-i,fun _=>0⟩
theorem QMp {n:Int}{d:Nat}(h:0<=n):0<=mkRat n d:=Rat.num_nonneg.1 (by
 by_cases hd:d=0
 ·subst hd;simp
 ·rw[QG3 _ _ hd];exact Int.tdiv_nonneg h (Int.natCast_nonneg _))
theorem Xo {n:Int}{d:Nat}(h:0<n)(hd:d≠0):0<mkRat n d:=by
 refine Rat.lt_iff_le_and_ne.2 ⟨QMp (by omega),fun e=> ?_⟩;have:=(Rat.mkRat_eq_zero hd).1 e.symm;omega
theorem QMq {p a:Rat}(h1:p<=a)(h2: -p<=a):Q5 p<=a:=by
 unfold Q5;split
 ·exact h2
 ·exact h1
theorem Qr (n:Nat)(qs:List Rat):(lR n qs).length=qs.length:=by simp[lR]
theorem XD {n:Nat}{qs:List Rat}{i:Nat}{q:Rat}(h:qs[i]? =some q):ldE (lR n qs) i 0 3=some [.r q n]:=by
 simp only[ldE,lR,List.getElem?_map,h];rfl
theorem QMr (a:Nat)(ps:List Rat)(b:Nat)(qs:List Rat)(hl:ps.length<=1000000000)(_hl2:qs.length<=1000000000)(K:AV->Prop)(hK:K (.x false [.v (.bool (decide (ps=qs)))])):QK (QT T26 (oF Tryz.f18) (QG4 a ps b qs) Tryz.f18 [sR a ps,sR b qs] K):=by
 refine HV ((bif Za (lR a ps).length !=Za (lR b qs).length then K (Zi false [Zg (Zd false)])else(∃(x:Nat),((x<=ps.length/\Zo x ps=Zo x qs)/\OfNat.ofNat 0=0)/\3=3/\lR a ps=lR a ps/\3=3/\lR b qs=lR b qs/\Za (lR a ps).length=Za ps.length/\0=Za x/\True)/\∀(x:Nat),x<=ps.length/\Zo x ps=Zo x qs->OfNat.ofNat 0=0->bif decide (Za x<Za ps.length)then(0<=Za x/\Za x<Za (lR a ps).length)/\∃(q:Rat),∃(n:Nat),ldE (lR a ps) (Za x).toNat 0 3=some [Zy q n]/\(0<=Za x/\Za x<Za (lR b qs).length)/\∃(q_1:Rat),∃(n:Nat),ldE (lR b qs) (Za x).toNat 0 3=some [Zy q_1 n]/\bif !(decide (q=q_1)&&true)then K (Zi false [Zg (Zd false)])else ∃(x':Nat),((x'<=ps.length/\Zo x' ps=Zo x' qs)/\OfNat.ofNat 0=0/\ps.length-x'<ps.length-x)/\3=3/\lR a ps=lR a ps/\3=3/\lR b qs=lR b qs/\Za ps.length=Za ps.length/\Zb.wrap (Za x+1)=Za x'/\True else K (Zi false [Zg (Zd true)]))) ?_
 simp only[Zk,R0,R1,R4];simp only[Qr,R0];refine QC (fun h=> ?_) (fun h=>⟨⟨0,by simp,rfl⟩,fun x hx=>QC (fun hp=> ?_) (fun hp=> ?_)⟩)
 ·have h:ps.length≠qs.length:=fun e=>by rw[e]at h;simp at h
  have:decide (ps=qs)=false:=by simp;exact fun e=>h (by rw[e])
  rw[this]at hK;exact hK
 ·have h:ps.length=qs.length:=by simp at h;omega
  have hp:x<ps.length:=by have:=R5 hp;omega
  obtain⟨p,hpp⟩: ∃p,ps[x]? =some p:=⟨_,Zl hp⟩
  obtain⟨q,hqq⟩: ∃q,qs[x]? =some q:=⟨_,Zl (by omega)⟩
  simp only[Zp];refine⟨by omega,_,_,XD hpp,by omega,_,_,XD hqq,QC (fun he=> ?_) (fun he=> ?_)⟩
  ·have he:p≠q:=by simpa using he
   have:decide (ps=qs)=false:=by
    simp;intro e;rw[e,hqq]at hpp;exact he (Option.some.inj hpp).symm
   rw[this]at hK;exact hK
  ·have he:p=q:=by simpa using he
   subst he;refine⟨x+1,⟨⟨by omega,?_⟩,by omega⟩,by rw[w64 (by omega)];simp⟩;rw[List.take_add_one,List.take_add_one,hx.2,hpp,hqq]
 ·have h:ps.length=qs.length:=by simp at h;omega
  have hp: ¬x<ps.length:=by have:=R6 hp;omega
  have e:=hx.2;rw[Zm (by omega),Zm (by omega)]at e;have:decide (ps=qs)=true:=by simpa using e
  rw[this]at hK;exact hK
def UD:Ctr
 | [.x false [.s 3 xs],.x false [.s 3 ys]]=>some fun K=> ∃a ps b qs,xs=lR a ps/\ys=lR b qs/\(ps.length<=1000000000/\qs.length<=1000000000)/\K (.x false [.v (.bool (decide (ps=qs)))])
 | _=>none
theorem QKO:QJ 18 UD:=by
 refine okL Tryz.func18 fun l T hT K hK=> ?_
 unfold UD at hT;split at hT<;>cases hT
 obtain⟨a,ps,b,qs,rfl,rfl,⟨h1,h2⟩,hK⟩:=hK;exact spL QSq QN Tryz.func18 (QMr a ps b qs h1 h2 K hK)
end Go.Proofs
