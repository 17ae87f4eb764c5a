/- rat.whole, nat.Int, rat.Floor. -/
import Derived.Test.YtnbkdgmgbaangaaGreatDoorPA
open Int renaming ofNat_eq_natCast → Za, ofNat → Ze, mul_comm → Zm, neg_mul → Zn
open ByteArray renaming mk → Zb
open Nat renaming zero_add → Zc, le_refl → Zd
open Go.IntKind renaming i64 → Zf
open Array renaming mk → Zg
open Go.Eng.Ch renaming r → Zh, v → Zo
open Go.Value renaming int → Zi, bool → Zl
open List renaming drop → Zj, tail_cons → Zk
namespace Go.Proofs
open Go Go.Eng
theorem QYB {a d q:Int}(hd:0<d)(h1:q*d<=a)(h2:a<(q+1)*d):a/d=q:=
 Int.le_antisymm (Int.le_of_lt_add_one (Int.ediv_lt_of_lt_mul hd h2)) (Int.le_ediv_of_mul_le hd h1)
theorem QS9 (n:Int):mkRat n 1=(n:Rat):=by rw[Rat.mkRat_one]
theorem QJl (p:Rat):p.floor=p.num/(p.den:Int):=Rat.floor_def p
theorem QTA {p:Rat}(h: ¬p.num<0):XB (decide (p.num<0)) (p.num.natAbs/p.den) 1=((p.floor:Int):Rat):=by
 unfold XB;rw[decide_eq_false h,R8,QS9,QJl];congr 1;rw[Int.natCast_ediv];congr 1;omega
theorem QPf {p:Rat}(h:p.num<0):XB (decide (p.num<0)) (p.num.natAbs/p.den+(if p.num.natAbs % p.den=0 then 0 else 1)) 1=((p.floor:Int):Rat):=by
 unfold XB;rw[decide_eq_true h,R7,QS9,QJl];congr 1;have hd:0<p.den:=Nat.pos_of_ne_zero p.den_nz;have e:=Nat.div_add_mod p.num.natAbs p.den;have hm:=Nat.mod_lt p.num.natAbs hd;have hk:p.num= -(p.num.natAbs:Int):=by omega
 symm;generalize p.num.natAbs=k at*;generalize p.den=d at*;rw[hk];generalize k/d=q at*;generalize k % d=r at*;have e':(d:Int)*q+r=k:=by exact_mod_cast e
 refine QYB (by omega) ?_ ?_
 ·split
  ·have: -((q+0:Nat):Int)*(d:Int)= -((d:Int)*q):=by rw[Nat.add_zero,Zn,Zm]
   rw[this];omega
  ·have: -((q+1:Nat):Int)*(d:Int)= -((d:Int)*q)-d:=by rw[Zn,Int.natCast_add,Int.add_mul,Zm (q:Int)];omega
   rw[this];omega
 ·split
  ·have:(-((q+0:Nat):Int)+1)*(d:Int)= -((d:Int)*q)+d:=by rw[Nat.add_zero,Int.add_mul,Zn,Zm (q:Int)];omega
   rw[this];omega
  ·have:(-((q+1:Nat):Int)+1)*(d:Int)= -((d:Int)*q):=by
    have: -((q+1:Nat):Int)+1= -(q:Int):=by omega
    rw[this,Zn,Zm]
   rw[this];omega
def QPg:OT:=fun _=>([],[])
def Gp (p:Rat)(a:Nat)(K:AV->Prop):Prop:=QX T49 QPg noL Tryz.f206 [rA p a] K
theorem QCd (p:Rat)(a:Nat)(K:AV->Prop):Gp p a K=((a<=549755813888/\a<=549755813888)/\bif decide (p.num<0)then bif !decide (QA (bif decide (p.den=0)then 0 else p.num.natAbs%p.den)=(Zb #[]).data.toList)then(a<=549755813888/\8<=549755813888)/\((max a 8+1<=4294967296/\8<=4294967296)/\1≠0)/\K (AV.x true [Zh (XB (decide (p.num<0)) (p.num.natAbs/p.den+1) 1) (max (max a 8+1) 8)])else((a<=4294967296/\8<=4294967296)/\1≠0)/\K (AV.x true [Zh (XB (decide (p.num<0)) (p.num.natAbs/p.den) 1) (max a 8)])else((a<=4294967296/\8<=4294967296)/\1≠0)/\K (AV.x true [Zh (XB (decide (p.num<0)) (p.num.natAbs/p.den) 1) (max a 8)])):=by kernel_rfl
theorem QTB (p:Rat)(a:Nat)(hc:(a<=2000000000))(K:AV->Prop)(hK: ∀m,m<=a+16->K (rA ((p.floor:Int):Rat) m)):QR (Gp p a K):=by
 refine⟨?_⟩;rw[QCd];try simp only[Za,R0,R1,Zc,Zd,R4,R2,R3]
 have hd:p.den≠0:=p.den_nz;rw[decide_eq_false hd,R8];refine⟨by omega,QF (fun h=> ?_) (fun h=> ?_)⟩
 ·have h:=R5 h;have e:=QPf h;refine QF (fun h2=>⟨by omega,by omega,?_⟩) (fun h2=>⟨by omega,?_⟩)
  ·have h2: ¬QA (p.num.natAbs % p.den)=[]:=by simpa using h2
   rw[if_neg (fun e=>h2 (Qo.2 e))]at e;rw[e];exact hK _ (by omega)
  ·have h2:QA (p.num.natAbs % p.den)=[]:=by simpa using h2
   rw[if_pos (Qo.1 h2),Nat.add_zero]at e;rw[e];exact hK _ (by omega)
 ·refine⟨by omega,?_⟩;rw[QTA (R6 h)];exact hK _ (by omega)
def VJ:Ctr:=fun as0=>match as0 with
 | [.x true [.r p a]]=>some fun K=>((a<=2000000000))/\(∀m,m<=a+16->K (rA ((p.floor:Int):Rat) m))
 | _=>none
theorem Hw:CtrOK Tryz.prog QH QG 206 VJ:=by
 refine⟨QK Tryz.func206 (by kernel_rfl),fun l T hT K hK=> ?_⟩;unfold VJ at hT;split at hT
 ·cases hT
  obtain⟨hc,hK⟩:=hK;exact QJ QaU QP Tryz.func206 (by kernel_rfl) (by kernel_rfl) (by rfl) (QTB _ _ hc K hK)
 ·cases hT
def Qck:List (Nat×Ctr):=(206,VJ)::L49
noncomputable def Qgf:QU:=mkT Qck M48 X4
theorem QTC:CtrsOK Tryz.prog QH QG Qck:= .cons Hw QSi
theorem Qcl:QM Tryz.prog QH QG Qgf:=Qc QTC Gk Ql
def QYC:OT:=fun _=>([],[])
def QFL (m:Nat)(n:Nat)(K:AV->Prop):Prop:=QX Qgf QYC noL Tryz.f207 [bA m n] K
theorem QHH (m:Nat)(n:Nat)(K:AV->Prop):QFL m n K=(bif decide (Ze (QA m).length>8)then K (AV.t [(false,[Zo (Zi Zf 0)]),(false,[Zo (Zi Zf 2)])])else m<18446744073709551616/\bif decide (Ze m>9223372036854775807)then K (AV.t [(false,[Zo (Zi Zf 0)]),(false,[Zo (Zi Zf 2)])])else m<18446744073709551616/\K (AV.t [(false,[Zo (Zi Zf (Zf.wrap (Ze m)))]),(false,[Zo (Zi Zf 0)])])):=by kernel_rfl
theorem Qcm (m:Nat)(n:Nat)(hc:(m<9223372036854775808))(K:AV->Prop)(hK:K (.t [(false,[.v (.int .i64 m)]),(false,[.v (.int .i64 0)])])):QR (QFL m n K):=by
 refine⟨?_⟩;rw[QHH];try simp only[Za,R0,R1,Zc,Zd,R4,R2,R3]
 exact QF (fun h=>by have:=R5 h;have:(QA m).length<=8:=Qf.2 (by omega);omega) (fun _=>⟨by omega,QF (fun h=>by have:=R5 h;omega) (fun _=>⟨by omega,by rw[w64 (by omega)];exact hK⟩)⟩)
def QHI:Ctr:=fun as0=>match as0 with
 | [.x false [.b m n]]=>some fun K=>((m<9223372036854775808))/\(K (.t [(false,[.v (.int .i64 m)]),(false,[.v (.int .i64 0)])]))
 | _=>none
theorem QNd:CtrOK Tryz.prog QH QG 207 QHI:=by
 refine⟨QK Tryz.func207 (by kernel_rfl),fun l T hT K hK=> ?_⟩;unfold QHI at hT;split at hT
 ·cases hT
  obtain⟨hc,hK⟩:=hK;exact QJ Qcl QP Tryz.func207 (by kernel_rfl) (by kernel_rfl) (by rfl) (Qcm _ _ hc K hK)
 ·cases hT
def Qcn:List (Nat×Ctr):=(207,QHI)::Qck
noncomputable def Qgg:QU:=mkT Qcn M48 X4
theorem Qco:CtrsOK Tryz.prog QH QG Qcn:= .cons QNd QTC
theorem Qcp:QM Tryz.prog QH QG Qgg:=Qc Qco Gk Ql
def QPh:OT:=fun _=>([],[])
def Gq (p:Rat)(a:Nat)(K:AV->Prop):Prop:=QX Qgg QPh noL Tryz.f166 [rA p a] K
theorem QCe (p:Rat)(a:Nat)(K:AV->Prop):Gq p a K=(a<=(4294967296:Nat)/\a<=(2000000000:Nat)/\∀(m:Nat),m<=a+(16:Nat)->Int.natAbs (Rat.num ↑(Rat.floor p))<(9223372036854775808:Nat)/\bif decide (Rat.num ↑(Rat.floor p)<(0:Int))then K (AV.t [(false,[Zo (Zi Zf (IntKind.wrap Zf ((0:Int)-Ze (Int.natAbs (Rat.num ↑(Rat.floor p))))))]),(false,[Zo (Zi Zf (0:Int))])])else K (AV.t [(false,[Zo (Zi Zf (Ze (Int.natAbs (Rat.num ↑(Rat.floor p)))))]),(false,[Zo (Zi Zf (0:Int))])])):=by kernel_rfl
theorem QTD (p:Rat)(a:Nat)(hc:(a<=2000000000)/\(-9223372036854775808<p.floor/\p.floor<9223372036854775808))(K:AV->Prop)(hK:K (.t [(false,[.v (.int .i64 p.floor)]),(false,[.v (.int .i64 0)])])):QR (Gq p a K):=by
 refine⟨?_⟩;rw[QCe];try simp only[Za,R0,R1,Zc,Zd,R4,R2,R3]
 obtain⟨ha,h1,h2⟩:=hc;simp only[Rat.num_intCast];refine⟨by omega,ha,fun m hm=>⟨by omega,QF (fun h=> ?_) (fun h=> ?_)⟩⟩
 ·have h:=R5 h;have e:Zf.wrap (0-(p.floor.natAbs:Int))=p.floor:=by rw[w64 (by omega)];omega
  rw[e];exact hK
 ·have h:=R6 h;have e:((p.floor.natAbs:Nat):Int)=p.floor:=by omega
  rw[e];exact hK
def Ux:Ctr:=fun as0=>match as0 with
 | [.x true [.r p a]]=>some fun K=>((a<=2000000000)/\(-9223372036854775808<p.floor/\p.floor<9223372036854775808))/\(K (.t [(false,[.v (.int .i64 p.floor)]),(false,[.v (.int .i64 0)])]))
 | _=>none
theorem QPi:CtrOK Tryz.prog QH QG 166 Ux:=by
 refine⟨QK Tryz.func166 (by kernel_rfl),fun l T hT K hK=> ?_⟩;unfold Ux at hT;split at hT
 ·cases hT
  obtain⟨hc,hK⟩:=hK;exact QJ Qcp QP Tryz.func166 (by kernel_rfl) (by kernel_rfl) (by rfl) (QTD _ _ hc K hK)
 ·cases hT
def QiD:List (Nat×Ctr):=(166,Ux)::Qcn
noncomputable def QiW:QU:=mkT QiD M48 X4
end Go.Proofs
namespace Go.Proofs
open Go Go.Eng
theorem QMD {w:World}{O:Nat->Prop}{ρ:Env}{m n:Nat}{v:Value}(h:ConcV w O ρ (.x true [.v (.bool false),.b m n,.v (.string ⟨⟨[1]⟩⟩)]) v):ConcV w O ρ (.x true [.r (m:Rat) (n+1)]) v:=by
 obtain⟨vals,h1,h2⟩:=h;cases h1 with
 | v _ h1=>cases h1 with
  | b hm h1=>cases h1 with
   | v _ h1=>
    cases h1
    refine⟨_,?_,h2⟩;have hn:((m:Nat):Rat).num=m:=rfl;have hd:((m:Nat):Rat).den=1:=rfl;have e:[Zl false,YS (QA m),Value.string ⟨⟨[1]⟩⟩]=[QDY (m:Rat),numV (m:Rat),QH8 (m:Rat)]:=by
     unfold QDY numV QH8;rw[hn,hd];have:decide ((m:Int)<0)=false:=decide_eq_false (by omega);rw[this];rfl
    rw[e];refine .r ⟨?_,?_⟩ .nil
    ·rw[hn];have:2^n<=2^(n+1):=Nat.pow_le_pow_right (by decide) (by omega);show(m:Int).natAbs<_;rw[Int.natAbs_natCast];omega
    ·rw[hd];exact Nat.one_lt_two_pow (by omega)
def QHJ:Ctr:=fun as0=>match as0 with
 | [.x true [.r p a],.x true [.v (.bool false),.b m n,.v (.string ⟨⟨[1]⟩⟩)]]=>some fun K=>a+n+1<=4294967296/\K (rA (p*(m:Rat)) (a+n+1))
 | as0=>QGi as0
theorem QTE:CtrOK Tryz.prog QH QG 92 QHJ:=by
 refine⟨ok_rMul.enter,fun l T hT K hK=> ?_⟩;unfold QHJ at hT;split at hT
 ·rename_i p a m n;cases hT
  refine Eng.Spec.args (ok_rMul.sound [.x true [.r p a],.x true [.r (m:Rat) (n+1)]] _ rfl K hK) fun w O vals hc=> ?_
  cases hc with
  | cons h1 h2=>cases h2 with
   | cons h2 h3=>exact .cons h1 (.cons (QMD h2) h3)
 ·exact ok_rMul.sound _ T hT K hK
def Qgh:List (Nat×Ctr):=(92,QHJ)::L95
theorem Qcq:CtrsOK Tryz.prog QH QG Qgh:= .cons QTE Qad
def Qcr:List (Nat×Ctr):=(206,VJ)::Qgh
noncomputable def Qgi:QU:=mkT Qcr M79 X4
theorem QTF:CtrsOK Tryz.prog QH QG Qcr:= .cons Hw Qcq
theorem Qcs:QM Tryz.prog QH QG Qgi:=Qc QTF Q7 Ql
def QTG:OT:=fun _=>([],[])
def QCf (p:Rat)(a:Nat)(d:Int)(K:AV->Prop):Prop:=QX Qgi QTG noL Tryz.f235 [rA p a,iA .i64 d] K
theorem QD6 (p:Rat)(a:Nat)(d:Int)(K:AV->Prop):QCf p a d K=((bif true then if(1:Int)>d then(1:Int)else d else if(1:Int)<d then(1:Int)else d)<(9223372036854775808:Int)/\a+(63:Nat)+(1:Nat)<=(4294967296:Nat)/\a+(63:Nat)+(1:Nat)<=(2000000000:Nat)/\∀(m:Nat),m<=a+(63:Nat)+(1:Nat)+(16:Nat)->((m<=(4294967296:Nat)/\(63:Nat)<=(4294967296:Nat))/\Int.toNat (bif true then if(1:Int)>d then(1:Int)else d else if(1:Int)<d then(1:Int)else d)≠(0:Nat))/\K (AV.x true [Zh (XB (decide (Rat.num ↑(Rat.floor (p*↑(Int.toNat (bif true then if(1:Int)>d then(1:Int)else d else if(1:Int)<d then(1:Int)else d))))<(0:Int))) (Int.natAbs (Rat.num ↑(Rat.floor (p*↑(Int.toNat (bif true then if(1:Int)>d then(1:Int)else d else if(1:Int)<d then(1:Int)else d)))))) (Int.toNat (bif true then if(1:Int)>d then(1:Int)else d else if(1:Int)<d then(1:Int)else d))) (max m (63:Nat))])):=by kernel_rfl
theorem QYD (p:Rat)(a:Nat)(d:Int)(hc:(a<=1000000000)/\(1<=d/\d<9223372036854775808))(K:AV->Prop)(hK: ∀m,m<=a+200->K (rA (VI p d.toNat) m)):QR (QCf p a d K):=by
 refine⟨?_⟩;rw[QD6];try simp only[Za,R0,R1,Zc,Zd,R4,R2,R3]
 have e:(bif true then if 1>d then 1 else d else if 1<d then 1 else d)=d:=by
  show(if 1>d then 1 else d)=d
  rw[if_neg (by omega)]
 rw[e];refine⟨by omega,by omega,by omega,fun m hm=>⟨by omega,?_⟩⟩;have e2: ∀f:Int,XB (decide (((f:Int):Rat).num<0)) ((f:Int):Rat).num.natAbs d.toNat=mkRat f d.toNat:=fun f=>by
  rw[Rat.num_intCast];unfold XB;by_cases h:f<0
  ·rw[decide_eq_true h,R7];congr 1;omega
  ·rw[decide_eq_false h,R8];congr 1;omega
 rw[e2];exact hK _ (by omega)
def QHK:Ctr:=fun as0=>match as0 with
 | [.x true [.r p a],.x false [.v (.int .i64 d)]]=>some fun K=>((a<=1000000000)/\(1<=d/\d<9223372036854775808))/\(∀m,m<=a+200->K (rA (VI p d.toNat) m))
 | _=>none
theorem QTH:CtrOK Tryz.prog QH QG 235 QHK:=by
 refine⟨QK Tryz.func235 (by kernel_rfl),fun l T hT K hK=> ?_⟩;unfold QHK at hT;split at hT
 ·cases hT
  obtain⟨hc,hK⟩:=hK;exact QJ Qcs QP Tryz.func235 (by kernel_rfl) (by kernel_rfl) (by rfl) (QYD _ _ _ hc K hK)
 ·cases hT
def Qct:List (Nat×Ctr):=(235,QHK)::Qcr
noncomputable def Qgj:QU:=mkT Qct M79 X4
theorem QTI:CtrsOK Tryz.prog QH QG Qct:= .cons QTH QTF
theorem Qcu:QM Tryz.prog QH QG Qgj:=Qc QTI Q7 Ql
def Qcv:OT:=fun _=>([],[])
def QJm (p:Rat)(a:Nat)(d:Int)(K:AV->Prop):Prop:=QX Qgj Qcv noL Tryz.f236 [rA p a,iA .i64 d] K
theorem QJn (p:Rat)(a:Nat)(d:Int)(K:AV->Prop):QJm p a d K=(a<=4294967296/\(a<=1000000000/\1<=d/\d<9223372036854775808)/\∀(m:Nat),m<=a+200->m<=4294967296/\K (AV.x true [Zh (-VI (-p) d.toNat) m])):=by kernel_rfl
theorem Qgk (p:Rat)(a:Nat)(d:Int)(hc:(a<=1000000000)/\(1<=d/\d<9223372036854775808))(K:AV->Prop)(hK: ∀m,m<=a+200->K (rA (upR p d.toNat) m)):QR (QJm p a d K):=by
 refine⟨?_⟩;rw[QJn];try simp only[Za,R0,R1,Zc,Zd,R4,R2,R3]
 exact⟨by omega,by omega,fun m hm=>⟨by omega,hK m hm⟩⟩
def QTJ:Ctr:=fun as0=>match as0 with
 | [.x true [.r p a],.x false [.v (.int .i64 d)]]=>some fun K=>((a<=1000000000)/\(1<=d/\d<9223372036854775808))/\(∀m,m<=a+200->K (rA (upR p d.toNat) m))
 | _=>none
theorem Qcw:CtrOK Tryz.prog QH QG 236 QTJ:=by
 refine⟨QK Tryz.func236 (by kernel_rfl),fun l T hT K hK=> ?_⟩;unfold QTJ at hT;split at hT
 ·cases hT
  obtain⟨hc,hK⟩:=hK;exact QJ Qcu QP Tryz.func236 (by kernel_rfl) (by kernel_rfl) (by rfl) (Qgk _ _ _ hc K hK)
 ·cases hT
def Qcx:List (Nat×Ctr):=(236,QTJ)::Qct
noncomputable def Qgl:QU:=mkT Qcx M79 X4
theorem QTK:CtrsOK Tryz.prog QH QG Qcx:= .cons Qcw QTI
theorem Qcy:QM Tryz.prog QH QG Qgl:=Qc QTK Q7 Ql
def QTL:OT:=fun _=>([],[])
def QCg (l:Rat)(a:Nat)(h:Rat)(b:Nat)(K:AV->Prop):Prop:=QX Qgl QTL noL Tryz.f152 [.x true [.r l a,.r h b]] K
theorem QD7 (l:Rat)(a:Nat)(h:Rat)(b:Nat)(K:AV->Prop):QCg l a h b K=(a<=4294967296/\b<=4294967296/\a+b<=4294967296/\K (AV.x false [Zo (Zl (decide (JP l h<=0)))])):=by kernel_rfl
theorem QYE (l:Rat)(a:Nat)(h:Rat)(b:Nat)(hc:(a+b<=4294967296)/\(l<=h))(K:AV->Prop)(hK:K (.x false [.v (.bool true)])):QR (QCg l a h b K):=by
 refine⟨?_⟩;rw[QD7];try simp only[Za,R0,R1,Zc,Zd,R4,R2,R3]
 rw[decide_eq_true ((Ws l h).2 hc.2)];exact⟨by omega,by omega,hc.1,hK⟩
def QHL:Ctr:=fun as0=>match as0 with
 | [.x true [.r l a,.r h b]]=>some fun K=>((a+b<=4294967296)/\(l<=h))/\(K (.x false [.v (.bool true)]))
 | _=>none
theorem QTM:CtrOK Tryz.prog QH QG 152 QHL:=by
 refine⟨QK Tryz.func152 (by kernel_rfl),fun l T hT K hK=> ?_⟩;unfold QHL at hT;split at hT
 ·cases hT
  obtain⟨hc,hK⟩:=hK;exact QJ Qcy QP Tryz.func152 (by kernel_rfl) (by kernel_rfl) (by rfl) (QYE _ _ _ _ hc K hK)
 ·cases hT
def Qcz:List (Nat×Ctr):=(152,QHL)::Qcx
noncomputable def Qgm:QU:=mkT Qcz M79 X4
theorem QTN:CtrsOK Tryz.prog QH QG Qcz:= .cons QTM QTK
theorem Qc0:QM Tryz.prog QH QG Qgm:=Qc QTN Q7 Ql
def QYF:OT:=fun _=>([],[])
def QFM (l:Rat)(a:Nat)(h:Rat)(b:Nat)(K:AV->Prop):Prop:=QX Qgm QYF noL Tryz.f96 [.x true [.r l a,.r h b]] K
theorem QHM (l:Rat)(a:Nat)(h:Rat)(b:Nat)(K:AV->Prop):QFM l a h b K=((a+b<=4294967296/\l<=h)/\K (AV.x true [Zh l a,Zh h b])):=by kernel_rfl
theorem Qc1 (l:Rat)(a:Nat)(h:Rat)(b:Nat)(hc:(a+b<=4294967296)/\(l<=h))(K:AV->Prop)(hK:K (.x true [.r l a,.r h b])):QR (QFM l a h b K):=by
 refine⟨?_⟩;rw[QHM];try simp only[Za,R0,R1,Zc,Zd,R4,R2,R3]
 exact⟨hc,hK⟩
def QME:Ctr:=fun as0=>match as0 with
 | [.x true [.r l a,.r h b]]=>some fun K=>((a+b<=4294967296)/\(l<=h))/\(K (.x true [.r l a,.r h b]))
 | _=>none
theorem QYG:CtrOK Tryz.prog QH QG 96 QME:=by
 refine⟨QK Tryz.func96 (by kernel_rfl),fun l T hT K hK=> ?_⟩;unfold QME at hT;split at hT
 ·cases hT
  obtain⟨hc,hK⟩:=hK;exact QJ Qc0 QP Tryz.func96 (by kernel_rfl) (by kernel_rfl) (by rfl) (Qc1 _ _ _ _ hc K hK)
 ·cases hT
def Qc2:List (Nat×Ctr):=(96,QME)::Qcz
noncomputable def Qgn:QU:=mkT Qc2 M79 X4
theorem QTO:CtrsOK Tryz.prog QH QG Qc2:= .cons QYG QTN
theorem Qc3:QM Tryz.prog QH QG Qgn:=Qc QTO Q7 Ql
def Qc4:OT:=fun _=>([],[])
def QJo (p:Rat)(a:Nat)(K:AV->Prop):Prop:=QX Qgn Qc4 noL Tryz.f153 [rA p a] K
theorem QJp (p:Rat)(a:Nat)(K:AV->Prop):QJo p a K=(a+a<=4294967296/\K (AV.x true [Zh (XF p p) (max a a),Zh (XF p p) (max a a)])):=by kernel_rfl
theorem Qgo (p:Rat)(a:Nat)(hc:(a<=2000000000))(K:AV->Prop)(hK:K (.x true [.r p a,.r p a])):QR (QJo p a K):=by
 refine⟨?_⟩;rw[QJp];try simp only[Za,R0,R1,Zc,Zd,R4,R2,R3]
 rw[W8,Nat.max_self];exact⟨by omega,hK⟩
def QTP:Ctr:=fun as0=>match as0 with
 | [.x true [.r p a]]=>some fun K=>((a<=2000000000))/\(K (.x true [.r p a,.r p a]))
 | _=>none
theorem Qc5:CtrOK Tryz.prog QH QG 153 QTP:=by
 refine⟨QK Tryz.func153 (by kernel_rfl),fun l T hT K hK=> ?_⟩;unfold QTP at hT;split at hT
 ·cases hT
  obtain⟨hc,hK⟩:=hK;exact QJ Qc3 QP Tryz.func153 (by kernel_rfl) (by kernel_rfl) (by rfl) (Qgo _ _ hc K hK)
 ·cases hT
def Qc6:List (Nat×Ctr):=(153,QTP)::Qc2
noncomputable def Qgp:QU:=mkT Qc6 M79 X4
theorem QTQ:CtrsOK Tryz.prog QH QG Qc6:= .cons Qc5 QTO
theorem Qc7:QM Tryz.prog QH QG Qgp:=Qc QTQ Q7 Ql
def QYH:OT:=fun id=>bif id.beq 1 then([0,2,1,3,4,5],[[],[0],[],[2,1,0],[1,0,3,2],[3,2,1,0,4]])else bif id.beq 2 then([0,1,2,3,5,6,7,8,4,9,10,11],[[],[0],[],[2],[1,0,3,2],[],[5],[],[7],[6,5,8,7,4,1,0,3,2],[4,1,0,3,2,9,6,5,8,7],[10,4,1,0,3,2,9,6,5,8,7]])else([],[])
def QFN (l:Rat)(a:Nat)(h:Rat)(b:Nat)(m:Rat)(c:Nat)(k:Rat)(d:Nat)(K:AV->Prop):Prop:=QX Qgp QYH noL Tryz.f164 [.x true [.r l a,.r h b],.x true [.r m c,.r k d]] K
theorem QHN (l:Rat)(a:Nat)(h:Rat)(b:Nat)(m:Rat)(c:Nat)(k:Rat)(d:Nat)(K:AV->Prop):QFN l a h b m c k d K=((a+b<=4294967296/\l<=h)/\(c+d<=4294967296/\m<=k)/\a+c+1<=4294967296/\b+d+1<=4294967296/\K (AV.x true [Zh (l+m) (a+c+1),Zh (h+k) (b+d+1)])):=by kernel_rfl
theorem Qc8 (l:Rat)(a:Nat)(h:Rat)(b:Nat)(m:Rat)(c:Nat)(k:Rat)(d:Nat)(hc:(a+b+c+d<=4294967290)/\(l<=h/\m<=k))(K:AV->Prop)(hK:K (.x true [.r (l+m) (a+c+1),.r (h+k) (b+d+1)])):QR (QFN l a h b m c k d K):=by
 refine⟨?_⟩;rw[QHN];try simp only[Za,R0,R1,Zc,Zd,R4,R2,R3]
 obtain⟨h1,h2,h3⟩:=hc;exact⟨⟨by omega,h2⟩,⟨by omega,h3⟩,by omega,by omega,hK⟩
def QMF:Ctr:=fun as0=>match as0 with
 | [.x true [.r l a,.r h b],.x true [.r m c,.r k d]]=>some fun K=>((a+b+c+d<=4294967290)/\(l<=h/\m<=k))/\(K (.x true [.r (l+m) (a+c+1),.r (h+k) (b+d+1)]))
 | _=>none
theorem QYI:CtrOK Tryz.prog QH QG 164 QMF:=by
 refine⟨QK Tryz.func164 (by kernel_rfl),fun l T hT K hK=> ?_⟩;unfold QMF at hT;split at hT
 ·cases hT
  obtain⟨hc,hK⟩:=hK;exact QJ Qc7 QP Tryz.func164 (by kernel_rfl) (by kernel_rfl) (by rfl) (Qc8 _ _ _ _ _ _ _ _ hc K hK)
 ·cases hT
def Qc9:List (Nat×Ctr):=(164,QMF)::Qc6
noncomputable def Qgq:QU:=mkT Qc9 M79 X4
theorem QTR:CtrsOK Tryz.prog QH QG Qc9:= .cons QYI QTQ
theorem QdA:QM Tryz.prog QH QG Qgq:=Qc QTR Q7 Ql
def QYJ:OT:=fun id=>bif id.beq 1 then([0,2,1,3,4,5],[[],[0],[],[2,1,0],[1,0,3,2],[3,2,1,0,4]])else bif id.beq 2 then([0,1,2,3,5,6,7,8,4,9,10,11],[[],[0],[],[2],[1,0,3,2],[],[5],[],[7],[6,5,8,7,4,1,0,3,2],[4,1,0,3,2,9,6,5,8,7],[10,4,1,0,3,2,9,6,5,8,7]])else([],[])
def QFO (l:Rat)(a:Nat)(h:Rat)(b:Nat)(m:Rat)(c:Nat)(k:Rat)(d:Nat)(K:AV->Prop):Prop:=QX Qgq QYJ noL Tryz.f162 [.x true [.r l a,.r h b],.x true [.r m c,.r k d]] K
theorem QHO (l:Rat)(a:Nat)(h:Rat)(b:Nat)(m:Rat)(c:Nat)(k:Rat)(d:Nat)(K:AV->Prop):QFO l a h b m c k d K=((a+b<=4294967296/\l<=h)/\(c+d<=4294967296/\m<=k)/\a+d+1<=4294967296/\b+c+1<=4294967296/\K (AV.x true [Zh (l-k) (a+d+1),Zh (h-m) (b+c+1)])):=by kernel_rfl
theorem QdB (l:Rat)(a:Nat)(h:Rat)(b:Nat)(m:Rat)(c:Nat)(k:Rat)(d:Nat)(hc:(a+b+c+d<=4294967290)/\(l<=h/\m<=k))(K:AV->Prop)(hK:K (.x true [.r (l-k) (a+d+1),.r (h-m) (b+c+1)])):QR (QFO l a h b m c k d K):=by
 refine⟨?_⟩;rw[QHO];try simp only[Za,R0,R1,Zc,Zd,R4,R2,R3]
 obtain⟨h1,h2,h3⟩:=hc;exact⟨⟨by omega,h2⟩,⟨by omega,h3⟩,by omega,by omega,hK⟩
def QMG:Ctr:=fun as0=>match as0 with
 | [.x true [.r l a,.r h b],.x true [.r m c,.r k d]]=>some fun K=>((a+b+c+d<=4294967290)/\(l<=h/\m<=k))/\(K (.x true [.r (l-k) (a+d+1),.r (h-m) (b+c+1)]))
 | _=>none
theorem QYK:CtrOK Tryz.prog QH QG 162 QMG:=by
 refine⟨QK Tryz.func162 (by kernel_rfl),fun l T hT K hK=> ?_⟩;unfold QMG at hT;split at hT
 ·cases hT
  obtain⟨hc,hK⟩:=hK;exact QJ QdA QP Tryz.func162 (by kernel_rfl) (by kernel_rfl) (by rfl) (QdB _ _ _ _ _ _ _ _ hc K hK)
 ·cases hT
def QdC:List (Nat×Ctr):=(162,QMG)::Qc9
noncomputable def Qgr:QU:=mkT QdC M79 X4
theorem QTS:CtrsOK Tryz.prog QH QG QdC:= .cons QYK QTR
theorem QdD:QM Tryz.prog QH QG Qgr:=Qc QTS Q7 Ql
structure AdX where
 lo:Rat
 hi:Rat
 i:Nat
def X6 (f:Rat->Rat->Rat)(ps:List (Rat×Nat))(q:Rat):Rat:=(ps.map (·.1)).foldl f q
def hdR (l:List (Rat×Nat)):Rat:=match l with
 | []=>0
 | p::_=>p.1
def QJq (l:List (Rat×Nat))(N:Nat):LI:=fun _=> .inv ⟨AdX,fun x=>⟨[(2,.x false [.p 2 0]),(3,.x false [.p 3 0]),(11,.x false [.s 3 (lRb l.tail)]),(12,iA .i64 l.tail.length),(13,iA .i64 x.i)],[(2,.box 83 (Xg++Xg)),(3,.box 83 [.r x.lo N,.r x.hi N])]⟩,
 fun x=>X6 XF (l.tail.drop x.i) x.lo=X6 XF l.tail (hdR l)/\X6 XJ (l.tail.drop x.i) x.hi=X6 XJ l.tail (hdR l)/\x.i<=l.tail.length,fun x=>l.tail.length-x.i,fun _=>0⟩
def QMH:OT:=fun id=>bif id.beq 5 then([0,1,2,4,5,6,3,8,7,9,10,11],[[],[0],[],[1,0,2],[],[4],[],[5,4,6,3,1,0,2],[0,1,2,3,4,5],[8,0,1,2,3,4,5,7,6],[0,1,2,3,4,5,6,7,8,9],[10,0,1,2,3,4,5,6,7,8,9]])else([],[])
def Uy (l:List (Rat×Nat))(N:Nat)(K:AV->Prop):Prop:=QX Qgr QMH (QJq l N) Tryz.f205 [.x false [.s 3 (lRb l)]] K
theorem QAP (l:List (Rat×Nat))(N:Nat)(K:AV->Prop):Uy l N K=(((0:Int)<=0/\0<Ze (lRb l).length)/\∃(q:Rat)(n:Nat),ldE (lRb l) 0 0 3=some [Zh q n]/\n<=2000000000/\((0:Int)<=1/\1<=Ze (lRb l).length/\Ze (lRb l).length<=Ze (lRb l).length)/\(∃(x:AdX),((X6 XF (Zj x.i l.tail) x.lo=X6 XF l.tail (hdR l)/\X6 XJ (Zj x.i l.tail) x.hi=X6 XJ l.tail (hdR l)/\x.i<=l.tail.length)/\OfNat.ofNat 0=0)/\0=0/\0=0/\3=3/\List.take ((Ze (lRb l).length).toNat-1) (Zj 1 (lRb l))=lRb l.tail/\Ze (List.take ((Ze (lRb l).length).toNat-1) (Zj 1 (lRb l))).length=Ze l.tail.length/\0=Ze x.i/\83=83/\false=false/\Zb (Zg [])=Zb (Zg [])/\Zb (Zg [])=Zb (Zg [])/\false=false/\Zb (Zg [])=Zb (Zg [])/\Zb (Zg [])=Zb (Zg [])/\83=83/\q=x.lo/\n<=N/\q=x.hi/\n<=N/\True)/\∀(x:AdX),X6 XF (Zj x.i l.tail) x.lo=X6 XF l.tail (hdR l)/\X6 XJ (Zj x.i l.tail) x.hi=X6 XJ l.tail (hdR l)/\x.i<=l.tail.length->OfNat.ofNat 0=0->bif decide (Ze x.i<Ze l.tail.length)then(0<=Ze x.i/\Ze x.i<Ze (lRb l.tail).length)/\∃(q:Rat)(n:Nat),ldE (lRb l.tail) (Ze x.i).toNat 0 3=some [Zh q n]/\N+n<=4294967296/\N+n<=4294967296/\∃(x':AdX),((X6 XF (Zj x'.i l.tail) x'.lo=X6 XF l.tail (hdR l)/\X6 XJ (Zj x'.i l.tail) x'.hi=X6 XJ l.tail (hdR l)/\x'.i<=l.tail.length)/\OfNat.ofNat 0=0/\l.tail.length-x'.i<l.tail.length-x.i)/\0=0/\0=0/\3=3/\lRb l.tail=lRb l.tail/\Ze l.tail.length=Ze l.tail.length/\Zf.wrap (Ze x.i+1)=Ze x'.i/\83=83/\false=false/\Zb (Zg [])=Zb (Zg [])/\Zb (Zg [])=Zb (Zg [])/\false=false/\Zb (Zg [])=Zb (Zg [])/\Zb (Zg [])=Zb (Zg [])/\83=83/\XF x.lo q=x'.lo/\max N n<=N/\XJ x.hi q=x'.hi/\max N n<=N/\True else K (AV.x true [Zh x.lo N,Zh x.hi N])):=by kernel_rfl
theorem QPj (l:List (Rat×Nat))(N:Nat)(hc:(l≠[]/\l.length<=100/\N<=2000000000)/\(∀p∈l,p.2<=N))(K:AV->Prop)(hK:K (.x true [.r (X6 XF l.tail (hdR l)) N,.r (X6 XJ l.tail (hdR l)) N])):QR (Uy l N K):=by
 refine⟨?_⟩;rw[QAP];try simp only[Za,R0,R1,Zc,Zd,R4,R2,R3]
 obtain⟨⟨h0,hl,hN⟩,hb⟩:=hc;obtain⟨p0,ps,rfl⟩: ∃p ps,l=p::ps:=by
  cases l with
  | nil=>exact absurd rfl h0
  | cons p ps=>exact⟨p,ps,rfl⟩
 have hb0:=hb p0 (by simp);have hl':ps.length+1<=100:=hl;have ll:(lRb (p0::ps)).length=ps.length+1:=by simp[lRb]
 rw[ll];have e2:List.take ((((ps.length+1:Nat):Int)).toNat-1) (Zj 1 (lRb (p0::ps)))=lRb ps:=by
  rw[Int.toNat_natCast,Nat.add_sub_cancel];exact List.take_of_length_le (by simp[lRb])
 have lps:(lRb ps).length=ps.length:=by simp[lRb]
 refine⟨by omega,p0.1,p0.2,rfl,by omega,by omega,⟨⟨p0.1,p0.1,0⟩,⟨rfl,rfl,by simp⟩,e2,by rw[e2,lps];rfl,rfl,rfl,hb0,rfl,hb0⟩,fun x hx=>QF (fun hp=> ?_) (fun hp=> ?_)⟩
 ·have hp:x.i<ps.length:=by have:=R5 hp;simp only[Zk]at this;omega
  obtain⟨p,hpp⟩: ∃p,ps[x.i]? =some p:=⟨_,List.getElem?_eq_getElem hp⟩
  obtain⟨e1,e3,hxi⟩:=hx;simp only[Zk]at e1 e3 hxi⊢;have hd:ps.drop x.i=p::ps.drop (x.i+1):=by
   rw[List.drop_eq_getElem_cons hp];rw[List.getElem?_eq_getElem hp]at hpp;rw[Option.some.inj hpp]
  rw[hd]at e1 e3;have hbp:=hb p (by simp[List.mem_of_getElem? hpp]);exact⟨by rw[lps];omega,p.1,p.2,by simp only[ldE,lRb,List.getElem?_map,Int.toNat_natCast,hpp];rfl,by omega,by omega,⟨_,_,x.i+1⟩,⟨⟨e1,e3,hp⟩,by simp only;omega⟩,by rw[w64 (by omega)];simp,rfl,by omega,rfl,by omega⟩
 ·have hp:x.i=ps.length:=by have:=R6 hp;have:=hx.2.2;simp only[Zk]at*;omega
  obtain⟨e1,e3,hxi⟩:=hx;simp only[Zk]at e1 e3 hK;rw[hp,List.drop_length]at e1 e3;have e1:x.lo=_:=e1;have e3:x.hi=_:=e3;rw[e1,e3];exact hK
def Hx:Ctr:=fun as0=>match as0 with
 | [.x false [.s 3 xs]]=>some fun K=> ∃(l:List (Rat×Nat)) (N:Nat),xs=lRb l/\((l≠[]/\l.length<=100/\N<=2000000000)/\(∀p∈l,p.2<=N))/\(K (.x true [.r (X6 XF l.tail (hdR l)) N,.r (X6 XJ l.tail (hdR l)) N]))
 | _=>none
theorem QMI:CtrOK Tryz.prog QH QG 205 Hx:=by
 refine⟨QK Tryz.func205 (by kernel_rfl),fun l T hT K hK=> ?_⟩;unfold Hx at hT;split at hT
 ·cases hT
  obtain⟨l,N,rfl,hc,hK⟩:=hK;exact QJ QdD QP Tryz.func205 (by kernel_rfl) (by kernel_rfl) (by rfl) (QPj _ _ hc K hK)
 ·cases hT
def QdE:List (Nat×Ctr):=(205,Hx)::QdC
noncomputable def Qgs:QU:=mkT QdE M79 X4
theorem QTT:CtrsOK Tryz.prog QH QG QdE:= .cons QMI QTS
theorem QdF:QM Tryz.prog QH QG Qgs:=Qc QTT Q7 Ql
def QYL:OT:=fun id=>bif id.beq 1 then([0,2,1,3,4,5],[[],[0],[],[2,1,0],[1,0,3,2],[3,2,1,0,4]])else bif id.beq 2 then([0,1,2,3,5,6,7,8,10,11,12,13,15,16,17,18,4,9,14,19,20,21,22],[[],[0],[],[2],[1,0,3,2],[],[5],[],[7],[6,5,8,7,4,1,0,3,2],[],[10],[],[12],[11,10,13,12,9,6,5,8,7,4,1,0,3,2],[],[15],[],[17],[16,15,18,17,14,11,10,13,12,9,6,5,8,7,4,1,0,3,2],[4,1,0,3,2,9,6,5,8,7,14,11,10,13,12,19,16,15,18,17],[20,4,1,0,3,2,9,6,5,8,7,14,11,10,13,12,19,16,15,18,17],[21,20,4,1,0,3,2,9,6,5,8,7,14,11,10,13,12,19,16,15,18,17]])else([],[])
def QFP (l:Rat)(a:Nat)(h:Rat)(b:Nat)(m:Rat)(c:Nat)(k:Rat)(d:Nat)(K:AV->Prop):Prop:=QX Qgs QYL noL Tryz.f163 [.x true [.r l a,.r h b],.x true [.r m c,.r k d]] K
theorem QHP (l:Rat)(a:Nat)(h:Rat)(b:Nat)(m:Rat)(c:Nat)(k:Rat)(d:Nat)(K:AV->Prop):QFP l a h b m c k d K=((a+b<=4294967296/\l<=h)/\(c+d<=4294967296/\m<=k)/\a+c<=4294967296/\a+d<=4294967296/\b+c<=4294967296/\b+d<=4294967296/\∃(l_1:List (Rat×Nat))(N:Nat),[[Zh (l*m) (a+c)],[Zh (l*k) (a+d)],[Zh (h*m) (b+c)],[Zh (h*k) (b+d)]]=lRb l_1/\((l_1≠[]/\l_1.length<=100/\N<=2000000000)/\∀(p:Rat×Nat),p∈l_1->p.snd<=N)/\K (AV.x true [Zh (X6 XF l_1.tail (hdR l_1)) N,Zh (X6 XJ l_1.tail (hdR l_1)) N])):=by kernel_rfl
theorem QdG (l:Rat)(a:Nat)(h:Rat)(b:Nat)(m:Rat)(c:Nat)(k:Rat)(d:Nat)(hc:(a+b+c+d<=2000000000)/\(l<=h/\m<=k))(K:AV->Prop)(hK: ∀(s:Sp) n,s=YM ⟨l,h⟩ ⟨m,k⟩->n<=max a b+max c d->K (.x true [.r s.lo n,.r s.hi n])):QR (QFP l a h b m c k d K):=by
 refine⟨?_⟩;rw[QHP];try simp only[Za,R0,R1,Zc,Zd,R4,R2,R3]
 obtain⟨h1,h2,h3⟩:=hc;refine⟨⟨by omega,h2⟩,⟨by omega,h3⟩,by omega,by omega,by omega,by omega,[(l*m,a+c),(l*k,a+d),(h*m,b+c),(h*k,b+d)],max a b+max c d,rfl,⟨⟨by simp,by simp,by omega⟩,fun p hp=> ?_⟩,hK _ _ rfl (Zd _)⟩;simp only[List.mem_cons,List.not_mem_nil,or_false]at hp;rcases hp with rfl | rfl | rfl | rfl<;>simp only<;>omega
def QMJ:Ctr:=fun as0=>match as0 with
 | [.x true [.r l a,.r h b],.x true [.r m c,.r k d]]=>some fun K=>((a+b+c+d<=2000000000)/\(l<=h/\m<=k))/\(∀(s:Sp) n,s=YM ⟨l,h⟩ ⟨m,k⟩->n<=max a b+max c d->K (.x true [.r s.lo n,.r s.hi n]))
 | _=>none
theorem QYM:CtrOK Tryz.prog QH QG 163 QMJ:=by
 refine⟨QK Tryz.func163 (by kernel_rfl),fun l T hT K hK=> ?_⟩;unfold QMJ at hT;split at hT
 ·cases hT
  obtain⟨hc,hK⟩:=hK;exact QJ QdF QP Tryz.func163 (by kernel_rfl) (by kernel_rfl) (by rfl) (QdG _ _ _ _ _ _ _ _ hc K hK)
 ·cases hT
def QdH:List (Nat×Ctr):=(163,QMJ)::QdE
noncomputable def Qgt:QU:=mkT QdH M79 X4
theorem QTU:CtrsOK Tryz.prog QH QG QdH:= .cons QYM QTT
theorem QdI:QM Tryz.prog QH QG Qgt:=Qc QTU Q7 Ql
def QTV:OT:=fun id=>bif id.beq 1 then([0,2,1,3,4,5],[[],[0],[],[2,1,0],[1,0,3,2],[3,2,1,0,4]])else bif id.beq 2 then([0,1,2,3,5,6,7,8,4,9,10,11],[[],[0],[],[2],[1,0,3,2],[],[5],[],[7],[6,5,8,7,4,1,0,3,2],[4,1,0,3,2,9,6,5,8,7],[10,4,1,0,3,2,9,6,5,8,7]])else([],[])
def QCh (l:Rat)(a:Nat)(h:Rat)(b:Nat)(m:Rat)(c:Nat)(k:Rat)(d:Nat)(K:AV->Prop):Prop:=QX Qgt QTV noL Tryz.f116 [.x true [.r l a,.r h b],.x true [.r m c,.r k d]] K
theorem QD8 (l:Rat)(a:Nat)(h:Rat)(b:Nat)(m:Rat)(c:Nat)(k:Rat)(d:Nat)(K:AV->Prop):QCh l a h b m c k d K=((a+b<=4294967296/\l<=h)/\(c+d<=4294967296/\m<=k)/\a+c<=4294967296/\b+d<=4294967296/\K (AV.x true [Zh (XF l m) (max a c),Zh (XJ h k) (max b d)])):=by kernel_rfl
theorem QYN (l:Rat)(a:Nat)(h:Rat)(b:Nat)(m:Rat)(c:Nat)(k:Rat)(d:Nat)(hc:(a+b+c+d<=4294967290)/\(l<=h/\m<=k))(K:AV->Prop)(hK:K (.x true [.r (XF l m) (max a c),.r (XJ h k) (max b d)])):QR (QCh l a h b m c k d K):=by
 refine⟨?_⟩;rw[QD8];try simp only[Za,R0,R1,Zc,Zd,R4,R2,R3]
 obtain⟨h1,h2,h3⟩:=hc;exact⟨⟨by omega,h2⟩,⟨by omega,h3⟩,by omega,by omega,hK⟩
def QHQ:Ctr:=fun as0=>match as0 with
 | [.x true [.r l a,.r h b],.x true [.r m c,.r k d]]=>some fun K=>((a+b+c+d<=4294967290)/\(l<=h/\m<=k))/\(K (.x true [.r (XF l m) (max a c),.r (XJ h k) (max b d)]))
 | _=>none
theorem QTW:CtrOK Tryz.prog QH QG 116 QHQ:=by
 refine⟨QK Tryz.func116 (by kernel_rfl),fun l T hT K hK=> ?_⟩;unfold QHQ at hT;split at hT
 ·cases hT
  obtain⟨hc,hK⟩:=hK;exact QJ QdI QP Tryz.func116 (by kernel_rfl) (by kernel_rfl) (by rfl) (QYN _ _ _ _ _ _ _ _ hc K hK)
 ·cases hT
def QdJ:List (Nat×Ctr):=(116,QHQ)::QdH
noncomputable def Qgu:QU:=mkT QdJ M79 X4
theorem QTX:CtrsOK Tryz.prog QH QG QdJ:= .cons QTW QTU
theorem QdK:QM Tryz.prog QH QG Qgu:=Qc QTX Q7 Ql
def QYO:OT:=fun _=>([],[])
def QFQ (l:Rat)(a:Nat)(h:Rat)(b:Nat)(q:Rat)(c:Nat)(K:AV->Prop):Prop:=QX Qgu QYO noL Tryz.f41 [.x true [.r l a,.r h b],rA q c] K
theorem QHR (l:Rat)(a:Nat)(h:Rat)(b:Nat)(q:Rat)(c:Nat)(K:AV->Prop):QFQ l a h b q c K=((a+b<=4294967296/\l<=h)/\a+c<=4294967296/\bif decide (JP l q<=0)then c+b<=4294967296/\K (AV.x false [Zo (Zl (decide (JP q h<=0)))])else K (AV.x false [Zo (Zl false)])):=by kernel_rfl
theorem QdL (l:Rat)(a:Nat)(h:Rat)(b:Nat)(q:Rat)(c:Nat)(hc:(a+b+c<=4294967290)/\(l<=h))(K:AV->Prop)(hK:K (.x false [.v (.bool (J4 ⟨l,h⟩ q))])):QR (QFQ l a h b q c K):=by
 refine⟨?_⟩;rw[QHR];try simp only[Za,R0,R1,Zc,Zd,R4,R2,R3]
 refine⟨⟨by omega,hc.2⟩,by omega,?_⟩;unfold J4 at hK;refine QF (fun h1=>⟨by omega,?_⟩) (fun h1=> ?_)
 ·have h1:=(Ws _ _).1 (R5 h1);rw[decide_eq_true h1,Bool.true_and]at hK;have e:decide (JP q h<=0)=decide (q<=h):=by
   by_cases e:q<=h
   ·rw[decide_eq_true e,decide_eq_true ((Ws _ _).2 e)]
   ·rw[decide_eq_false e,decide_eq_false (fun h=>e ((Ws _ _).1 h))]
  rw[e];exact hK
 ·have h1: ¬l<=q:=fun e=>R6 h1 ((Ws _ _).2 e);rw[decide_eq_false h1,Bool.false_and]at hK;exact hK
def QMK:Ctr:=fun as0=>match as0 with
 | [.x true [.r l a,.r h b],.x true [.r q c]]=>some fun K=>((a+b+c<=4294967290)/\(l<=h))/\(K (.x false [.v (.bool (J4 ⟨l,h⟩ q))]))
 | _=>none
theorem QYP:CtrOK Tryz.prog QH QG 41 QMK:=by
 refine⟨QK Tryz.func41 (by kernel_rfl),fun l T hT K hK=> ?_⟩;unfold QMK at hT;split at hT
 ·cases hT
  obtain⟨hc,hK⟩:=hK;exact QJ QdK QP Tryz.func41 (by kernel_rfl) (by kernel_rfl) (by rfl) (QdL _ _ _ _ _ _ hc K hK)
 ·cases hT
def QdM:List (Nat×Ctr):=(41,QMK)::QdJ
noncomputable def Qgv:QU:=mkT QdM M79 X4
theorem QTY:CtrsOK Tryz.prog QH QG QdM:= .cons QYP QTX
theorem QdN:QM Tryz.prog QH QG Qgv:=Qc QTY Q7 Ql
def QdO:OT:=fun id=>bif id.beq 2 then([0,1,2,3,5,6,7,8,12,4,9,10,11,13],[[],[0],[],[2],[1,0,3,2],[],[5],[],[7],[6,5,8,7,4,1,0,3,2],[4,1,0,3,2,9,6,5,8,7],[10,4,1,0,3,2,9,6,5,8,7],[],[12,11,10,4,1,0,3,2,9,6,5,8,7]])else bif id.beq 3 then([0,1,2],[[],[],[0,1]])else([],[])
def QJr (l:Rat)(a:Nat)(h:Rat)(b:Nat)(K:AV->Prop):Prop:=QX Qgv QdO noL Tryz.f201 [.x true [.r l a,.r h b]] K
theorem QJs (l:Rat)(a:Nat)(h:Rat)(b:Nat)(K:AV->Prop):QJr l a h b K=((a+b<=4294967296/\l<=h)/\a+a<=4294967296/\b+b<=4294967296/\∃(l_1:List (Rat×Nat))(N:Nat),[[Zh (l*l) (a+a)],[Zh (h*h) (b+b)]]=lRb l_1/\((l_1≠[]/\l_1.length<=100/\N<=2000000000)/\∀(p:Rat×Nat),p∈l_1->p.snd<=N)/\((-9223372036854775808:Int)<=0/\(0:Int)<9223372036854775808)/\(a+b+64<=4294967290/\l<=h)/\bif J4 (Sp.mk l h) ↑(0:Int)then((-9223372036854775808:Int)<=0/\(0:Int)<9223372036854775808)/\K (AV.x true [Zh (↑(0:Int)) 64,Zh (X6 XJ l_1.tail (hdR l_1)) N])else K (AV.x true [Zh (X6 XF l_1.tail (hdR l_1)) N,Zh (X6 XJ l_1.tail (hdR l_1)) N])):=by kernel_rfl
theorem Qgw (l:Rat)(a:Nat)(h:Rat)(b:Nat)(hc:(a+b<=1000000000)/\(l<=h))(K:AV->Prop)(hK: ∀(s:Sp) n m,s=QHD ⟨l,h⟩->n<=2*(a+b)+64->m<=2*(a+b)->K (.x true [.r s.lo n,.r s.hi m])):QR (QJr l a h b K):=by
 refine⟨?_⟩;rw[QJs];try simp only[Za,R0,R1,Zc,Zd,R4,R2,R3]
 obtain⟨h1,h2⟩:=hc;refine⟨⟨by omega,h2⟩,by omega,by omega,[(l*l,a+a),(h*h,b+b)],2*(a+b),rfl,⟨⟨by simp,by simp,by omega⟩,fun p hp=> ?_⟩,by omega,⟨by omega,h2⟩,QF (fun h=>⟨by omega,?_⟩) (fun h=> ?_)⟩
 ·simp only[List.mem_cons,List.not_mem_nil,or_false]at hp;rcases hp with rfl | rfl<;>simp only<;>omega
 ·have:=hK _ 64 (2*(a+b)) rfl (by omega) (by omega);have h':J4 ⟨l,_⟩ 0=true:=h;simp only[QHD,h',R7]at this;exact this
 ·have:=hK _ (2*(a+b)) (2*(a+b)) rfl (by omega) (by omega);have h':J4 ⟨l,_⟩ 0=false:=h;simp only[QHD,h',R8]at this;exact this
def QTZ:Ctr:=fun as0=>match as0 with
 | [.x true [.r l a,.r h b]]=>some fun K=>((a+b<=1000000000)/\(l<=h))/\(∀(s:Sp) n m,s=QHD ⟨l,h⟩->n<=2*(a+b)+64->m<=2*(a+b)->K (.x true [.r s.lo n,.r s.hi m]))
 | _=>none
theorem QdP:CtrOK Tryz.prog QH QG 201 QTZ:=by
 refine⟨QK Tryz.func201 (by kernel_rfl),fun l T hT K hK=> ?_⟩;unfold QTZ at hT;split at hT
 ·cases hT
  obtain⟨hc,hK⟩:=hK;exact QJ QdN QP Tryz.func201 (by kernel_rfl) (by kernel_rfl) (by rfl) (Qgw _ _ _ _ hc K hK)
 ·cases hT
def QdQ:List (Nat×Ctr):=(201,QTZ)::QdM
noncomputable def Qgx:QU:=mkT QdQ M79 X4
theorem QTa:CtrsOK Tryz.prog QH QG QdQ:= .cons QdP QTY
theorem QdR:QM Tryz.prog QH QG Qgx:=Qc QTa Q7 Ql
def QYQ:OT:=fun id=>bif id.beq 2 then([0,1,2,4,5,6,3,7,8,9],[[],[0],[],[1,0,2],[],[4],[],[5,4,6,3,1,0,2],[3,1,0,2,7,5,4,6],[8,3,1,0,2,7,5,4,6]])else([],[])
def QFR (l:Rat)(a:Nat)(h:Rat)(b:Nat)(d:Int)(K:AV->Prop):Prop:=QX Qgx QYQ noL Tryz.f203 [.x true [.r l a,.r h b],iA .i64 d] K
theorem QHS (l:Rat)(a:Nat)(h:Rat)(b:Nat)(d:Int)(K:AV->Prop):QFR l a h b d K=((a+b<=4294967296/\l<=h)/\(a<=1000000000/\1<=d/\d<9223372036854775808)/\∀(m:Nat),m<=a+200->(b<=1000000000/\1<=d/\d<9223372036854775808)/\∀(m_1:Nat),m_1<=b+200->K (AV.x true [Zh (VI l d.toNat) m,Zh (upR h d.toNat) m_1])):=by kernel_rfl
theorem QdS (l:Rat)(a:Nat)(h:Rat)(b:Nat)(d:Int)(hc:(a<=1000000000/\b<=1000000000)/\(l<=h)/\(1<=d/\d<9223372036854775808))(K:AV->Prop)(hK: ∀n m,n<=a+200->m<=b+200->K (.x true [.r (VI l d.toNat) n,.r (upR h d.toNat) m])):QR (QFR l a h b d K):=by
 refine⟨?_⟩;rw[QHS];try simp only[Za,R0,R1,Zc,Zd,R4,R2,R3]
 obtain⟨h1,h2,h3⟩:=hc;exact⟨⟨by omega,h2⟩,⟨by omega,h3⟩,fun n hn=>⟨⟨by omega,h3⟩,fun m hm=>hK n m hn hm⟩⟩
def QML:Ctr:=fun as0=>match as0 with
 | [.x true [.r l a,.r h b],.x false [.v (.int .i64 d)]]=>some fun K=>((a<=1000000000/\b<=1000000000)/\(l<=h)/\(1<=d/\d<9223372036854775808))/\(∀n m,n<=a+200->m<=b+200->K (.x true [.r (VI l d.toNat) n,.r (upR h d.toNat) m]))
 | _=>none
theorem QYR:CtrOK Tryz.prog QH QG 203 QML:=by
 refine⟨QK Tryz.func203 (by kernel_rfl),fun l T hT K hK=> ?_⟩;unfold QML at hT;split at hT
 ·cases hT
  obtain⟨hc,hK⟩:=hK;exact QJ QdR QP Tryz.func203 (by kernel_rfl) (by kernel_rfl) (by rfl) (QdS _ _ _ _ _ hc K hK)
 ·cases hT
def QdT:List (Nat×Ctr):=(203,QML)::QdQ
noncomputable def Qgy:QU:=mkT QdT M79 X4
theorem QTb:CtrsOK Tryz.prog QH QG QdT:= .cons QYR QTa
theorem QdU:QM Tryz.prog QH QG Qgy:=Qc QTb Q7 Ql
def QTc:OT:=fun id=>bif id.beq 1 then([1,4,10,0,2,3,5,6,7,8,9,11,12],[[],[],[0,1],[2,0,1],[],[3,2,0,1,4],[2,0,1,5,3,4],[6,2,0,1,5,3,4],[7,6,2,0,1,5,3,4],[7,6,2,0,1,5,3,4],[],[10,8,7,6,2,0,1,5,3,4],[9,7,6,2,0,1,5,3,4,11,10,8]])else([],[])
def QCi (p:Rat)(a:Nat)(K:AV->Prop):Prop:=QX Qgy QTc noL Tryz.f202 [rA p a] K
theorem QD9 (p:Rat)(a:Nat)(K:AV->Prop):QCi p a K=(((-9223372036854775808:Int)<=1/\(1:Int)<9223372036854775808)/\64+a+1<=4294967296/\((-9223372036854775808:Int)<=1/\(1:Int)<9223372036854775808)/\64+a+1<=4294967296/\64+a+1+(64+a+1)<=4294967296/\(↑(1:Int)+p≠OfNat.ofNat 0->K (AV.x true [Zh ((↑(1:Int)-p)/(↑(1:Int)+p)) (64+a+1+(64+a+1))]))/\(↑(1:Int)+p=OfNat.ofNat 0->K (AV.x true [Zo (Zl false),Zo (Value.string (Zb (Zg []))),Zo (Value.string (Zb (Zg [])))]))):=by kernel_rfl
theorem QYS (p:Rat)(a:Nat)(hc:(a<=1000000000)/\(0<=p))(K:AV->Prop)(hK:K (rA (QAO p) (64+a+1+(64+a+1)))):QR (QCi p a K):=by
 refine⟨?_⟩;rw[QD9];try simp only[Za,R0,R1,Zc,Zd,R4,R2,R3]
 exact⟨by omega,by omega,by omega,by omega,by omega,fun _=>hK,fun h=>by
  have h:(1:Rat)+p=0:=h;have:=hc.2;exfalso
  grind⟩
def QHT:Ctr:=fun as0=>match as0 with
 | [.x true [.r p a]]=>some fun K=>((a<=1000000000)/\(0<=p))/\(K (rA (QAO p) (64+a+1+(64+a+1))))
 | _=>none
theorem QTd:CtrOK Tryz.prog QH QG 202 QHT:=by
 refine⟨QK Tryz.func202 (by kernel_rfl),fun l T hT K hK=> ?_⟩;unfold QHT at hT;split at hT
 ·cases hT
  obtain⟨hc,hK⟩:=hK;exact QJ QdU QP Tryz.func202 (by kernel_rfl) (by kernel_rfl) (by rfl) (QYS _ _ hc K hK)
 ·cases hT
def QdV:List (Nat×Ctr):=(202,QHT)::QdT
noncomputable def Qgz:QU:=mkT QdV M79 X4
theorem QTe:CtrsOK Tryz.prog QH QG QdV:= .cons QTd QTb
theorem QdW:QM Tryz.prog QH QG Qgz:=Qc QTe Q7 Ql
def QJt:OT:=fun id=>bif id.beq 3 then([0,1,2,4,5,6,3,7,8,9],[[],[],[1],[0,2,1],[],[],[5],[4,6,5,3,0,2,1],[3,0,2,1,7,4,6,5],[8,3,0,2,1,7,4,6,5]])else([],[])
def Vu (l:Rat)(a:Nat)(h:Rat)(b:Nat)(K:AV->Prop):Prop:=QX Qgz QJt noL Tryz.f159 [.x true [.r l a,.r h b]] K
theorem Hy (l:Rat)(a:Nat)(h:Rat)(b:Nat)(K:AV->Prop):Vu l a h b K=((a+b<=1000000000/\l<=h)/\∀(s:Sp) (n m:Nat),s=QHD (Sp.mk l h)->n<=2*(a+b)+64->m<=2*(a+b)->(m<=1000000000/\OfNat.ofNat 0<=s.hi)/\(n<=1000000000/\OfNat.ofNat 0<=s.lo)/\K (AV.x true [Zh (QAO s.hi) (64+m+1+(64+m+1)),Zh (QAO s.lo) (64+n+1+(64+n+1))])):=by kernel_rfl
theorem QMM (l:Rat)(a:Nat)(h:Rat)(b:Nat)(hc:(a+b<=200000000)/\(l<=h))(K:AV->Prop)(hK: ∀(s:Sp) n m,s=QCZ ⟨l,h⟩->n<=4*(a+b)+400->m<=4*(a+b)+400->K (.x true [.r s.lo n,.r s.hi m])):QR (Vu l a h b K):=by
 refine⟨?_⟩;rw[Hy];try simp only[Za,R0,R1,Zc,Zd,R4,R2,R3]
 refine⟨⟨by omega,hc.2⟩,fun s n m hs hn hm=> ?_⟩;subst hs;have h0:=QNc ⟨l,h⟩;have h1:=(QJf (s:=⟨l,h⟩) (x:=l) ⟨Rat.le_refl,hc.2⟩).ok;exact⟨⟨by omega,Rat.le_trans h0 h1⟩,⟨by omega,h0⟩,hK (QCZ ⟨l,h⟩) _ _ rfl (by omega) (by omega)⟩
def UG:Ctr:=fun as0=>match as0 with
 | [.x true [.r l a,.r h b]]=>some fun K=>((a+b<=200000000)/\(l<=h))/\(∀(s:Sp) n m,s=QCZ ⟨l,h⟩->n<=4*(a+b)+400->m<=4*(a+b)+400->K (.x true [.r s.lo n,.r s.hi m]))
 | _=>none
theorem QJu:CtrOK Tryz.prog QH QG 159 UG:=by
 refine⟨QK Tryz.func159 (by kernel_rfl),fun l T hT K hK=> ?_⟩;unfold UG at hT;split at hT
 ·cases hT
  obtain⟨hc,hK⟩:=hK;exact QJ QdW QP Tryz.func159 (by kernel_rfl) (by kernel_rfl) (by rfl) (QMM _ _ _ _ hc K hK)
 ·cases hT
def QdX:List (Nat×Ctr):=(159,UG)::QdV
noncomputable def Qg0:QU:=mkT QdX M79 X4
theorem QTf:CtrsOK Tryz.prog QH QG QdX:= .cons QJu QTe
theorem QdY:QM Tryz.prog QH QG Qg0:=Qc QTf Q7 Ql
end Go.Proofs
