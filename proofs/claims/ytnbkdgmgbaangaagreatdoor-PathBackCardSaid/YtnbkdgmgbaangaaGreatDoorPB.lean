/- rat.whole, nat.Int, rat.Floor. -/
import Derived.Test.YtnbkdgmgbaangaaGreatDoorPA
open Int renaming ofNat_eq_natCast → Za, ofNat → Ze, mul_comm → Zm, neg_mul → Zn
open ByteArray renaming mk → Zb
open Nat renaming zero_add → Zc, le_refl → Zd
open Go.IntKind renaming i64 → Zf
open Array renaming mk → Zg
open Go.Eng.Ch renaming r → Zh, v → Zo
open Go.Value renaming int → Zi, bool → Zl
open List renaming drop → Zj, tail_cons → Zk
namespace Go.Proofs
open Go Go.Eng
theorem QYF {a d q:Int}(hd:0<d)(h1:q*d<=a)(h2:a<(q+1)*d):a/d=q:=
 Int.le_antisymm (Int.le_of_lt_add_one (Int.ediv_lt_of_lt_mul hd h2)) (Int.le_ediv_of_mul_le hd h1)
theorem QTF (n:Int):mkRat n 1=(n:Rat):=by rw[Rat.mkRat_one]
theorem QJi (p:Rat):p.floor=p.num/(p.den:Int):=Rat.floor_def p
theorem QTG {p:Rat}(h: ¬p.num<0):XA (decide (p.num<0)) (p.num.natAbs/p.den) 1=((p.floor:Int):Rat):=by
 unfold XA;rw[decide_eq_false h,R8,QTF,QJi];congr 1;rw[Int.natCast_ediv];congr 1;omega
theorem QPl {p:Rat}(h:p.num<0):XA (decide (p.num<0)) (p.num.natAbs/p.den+(if p.num.natAbs % p.den=0 then 0 else 1)) 1=((p.floor:Int):Rat):=by
 unfold XA;rw[decide_eq_true h,R7,QTF,QJi];congr 1;have hd:0<p.den:=Nat.pos_of_ne_zero p.den_nz;have e:=Nat.div_add_mod p.num.natAbs p.den;have hm:=Nat.mod_lt p.num.natAbs hd;have hk:p.num= -(p.num.natAbs:Int):=by omega
 symm;generalize p.num.natAbs=k at*;generalize p.den=d at*;rw[hk];generalize k/d=q at*;generalize k % d=r at*;have e':(d:Int)*q+r=k:=by exact_mod_cast e
 refine QYF (by omega) ?_ ?_
 ·split
  ·have: -((q+0:Nat):Int)*(d:Int)= -((d:Int)*q):=by rw[Nat.add_zero,Zn,Zm]
   rw[this];omega
  ·have: -((q+1:Nat):Int)*(d:Int)= -((d:Int)*q)-d:=by rw[Zn,Int.natCast_add,Int.add_mul,Zm (q:Int)];omega
   rw[this];omega
 ·split
  ·have:(-((q+0:Nat):Int)+1)*(d:Int)= -((d:Int)*q)+d:=by rw[Nat.add_zero,Int.add_mul,Zn,Zm (q:Int)];omega
   rw[this];omega
  ·have:(-((q+1:Nat):Int)+1)*(d:Int)= -((d:Int)*q):=by
    have: -((q+1:Nat):Int)+1= -(q:Int):=by omega
    rw[this,Zn,Zm]
   rw[this];omega
def QPm:OT:=fun _=>([],[])
def Gk (p:Rat)(a:Nat)(K:AV->Prop):Prop:=QX T49 QPm noL Tryz.f206 [rA p a] K
theorem QCX (p:Rat)(a:Nat)(K:AV->Prop):Gk p a K=((a<=549755813888/\a<=549755813888)/\bif decide (p.num<0)then bif !decide (QA (bif decide (p.den=0)then 0 else p.num.natAbs%p.den)=(Zb #[]).data.toList)then(a<=549755813888/\8<=549755813888)/\((max a 8+1<=4294967296/\8<=4294967296)/\1≠0)/\K (AV.x true [Zh (XA (decide (p.num<0)) (p.num.natAbs/p.den+1) 1) (max (max a 8+1) 8)])else((a<=4294967296/\8<=4294967296)/\1≠0)/\K (AV.x true [Zh (XA (decide (p.num<0)) (p.num.natAbs/p.den) 1) (max a 8)])else((a<=4294967296/\8<=4294967296)/\1≠0)/\K (AV.x true [Zh (XA (decide (p.num<0)) (p.num.natAbs/p.den) 1) (max a 8)])):=by kernel_rfl
theorem QTH (p:Rat)(a:Nat)(hc:(a<=2000000000))(K:AV->Prop)(hK: ∀m,m<=a+16->K (rA ((p.floor:Int):Rat) m)):QR (Gk p a K):=by
 refine⟨?_⟩;rw[QCX];try simp only[Za,R0,R1,Zc,Zd,R4,R2,R3]
 have hd:p.den≠0:=p.den_nz;rw[decide_eq_false hd,R8];refine⟨by omega,QF (fun h=> ?_) (fun h=> ?_)⟩
 ·have h:=R5 h;have e:=QPl h;refine QF (fun h2=>⟨by omega,by omega,?_⟩) (fun h2=>⟨by omega,?_⟩)
  ·have h2: ¬QA (p.num.natAbs % p.den)=[]:=by simpa using h2
   rw[if_neg (fun e=>h2 (Qn.2 e))]at e;rw[e];exact hK _ (by omega)
  ·have h2:QA (p.num.natAbs % p.den)=[]:=by simpa using h2
   rw[if_pos (Qn.1 h2),Nat.add_zero]at e;rw[e];exact hK _ (by omega)
 ·refine⟨by omega,?_⟩;rw[QTG (R6 h)];exact hK _ (by omega)
def VI:Ctr:=fun as0=>match as0 with
 | [.x true [.r p a]]=>some fun K=>((a<=2000000000))/\(∀m,m<=a+16->K (rA ((p.floor:Int):Rat) m))
 | _=>none
theorem Ht:CtrOK Tryz.prog QH QG 206 VI:=by
 refine⟨QK Tryz.func206 (by kernel_rfl),fun l T hT K hK=> ?_⟩;unfold VI at hT;split at hT
 ·cases hT
  obtain⟨hc,hK⟩:=hK;exact QJ QaV QP Tryz.func206 (by kernel_rfl) (by kernel_rfl) (by rfl) (QTH _ _ hc K hK)
 ·cases hT
def Qcl:List (Nat×Ctr):=(206,VI)::L49
noncomputable def Qgg:QU:=mkT Qcl M48 X4
theorem QTI:CtrsOK Tryz.prog QH QG Qcl:= .cons Ht QSo
theorem Qcm:QM Tryz.prog QH QG Qgg:=Qc QTI Gg Qk
def QYG:OT:=fun _=>([],[])
def QFE (m:Nat)(n:Nat)(K:AV->Prop):Prop:=QX Qgg QYG noL Tryz.f207 [bA m n] K
theorem QHC (m:Nat)(n:Nat)(K:AV->Prop):QFE m n K=(bif decide (Ze (QA m).length>8)then K (AV.t [(false,[Zo (Zi Zf 0)]),(false,[Zo (Zi Zf 2)])])else m<18446744073709551616/\bif decide (Ze m>9223372036854775807)then K (AV.t [(false,[Zo (Zi Zf 0)]),(false,[Zo (Zi Zf 2)])])else m<18446744073709551616/\K (AV.t [(false,[Zo (Zi Zf (Zf.wrap (Ze m)))]),(false,[Zo (Zi Zf 0)])])):=by kernel_rfl
theorem Qcn (m:Nat)(n:Nat)(hc:(m<9223372036854775808))(K:AV->Prop)(hK:K (.t [(false,[.v (.int .i64 m)]),(false,[.v (.int .i64 0)])])):QR (QFE m n K):=by
 refine⟨?_⟩;rw[QHC];try simp only[Za,R0,R1,Zc,Zd,R4,R2,R3]
 exact QF (fun h=>by have:=R5 h;have:(QA m).length<=8:=Qf.2 (by omega);omega) (fun _=>⟨by omega,QF (fun h=>by have:=R5 h;omega) (fun _=>⟨by omega,by rw[w64 (by omega)];exact hK⟩)⟩)
def QHD:Ctr:=fun as0=>match as0 with
 | [.x false [.b m n]]=>some fun K=>((m<9223372036854775808))/\(K (.t [(false,[.v (.int .i64 m)]),(false,[.v (.int .i64 0)])]))
 | _=>none
theorem QNg:CtrOK Tryz.prog QH QG 207 QHD:=by
 refine⟨QK Tryz.func207 (by kernel_rfl),fun l T hT K hK=> ?_⟩;unfold QHD at hT;split at hT
 ·cases hT
  obtain⟨hc,hK⟩:=hK;exact QJ Qcm QP Tryz.func207 (by kernel_rfl) (by kernel_rfl) (by rfl) (Qcn _ _ hc K hK)
 ·cases hT
def Qco:List (Nat×Ctr):=(207,QHD)::Qcl
noncomputable def Qgh:QU:=mkT Qco M48 X4
theorem Qcp:CtrsOK Tryz.prog QH QG Qco:= .cons QNg QTI
theorem Qcq:QM Tryz.prog QH QG Qgh:=Qc Qcp Gg Qk
def QPn:OT:=fun _=>([],[])
def Gl (p:Rat)(a:Nat)(K:AV->Prop):Prop:=QX Qgh QPn noL Tryz.f166 [rA p a] K
theorem QCY (p:Rat)(a:Nat)(K:AV->Prop):Gl p a K=(a<=(4294967296:Nat)/\a<=(2000000000:Nat)/\∀(m:Nat),m<=a+(16:Nat)->Int.natAbs (Rat.num ↑(Rat.floor p))<(9223372036854775808:Nat)/\bif decide (Rat.num ↑(Rat.floor p)<(0:Int))then K (AV.t [(false,[Zo (Zi Zf (IntKind.wrap Zf ((0:Int)-Ze (Int.natAbs (Rat.num ↑(Rat.floor p))))))]),(false,[Zo (Zi Zf (0:Int))])])else K (AV.t [(false,[Zo (Zi Zf (Ze (Int.natAbs (Rat.num ↑(Rat.floor p)))))]),(false,[Zo (Zi Zf (0:Int))])])):=by kernel_rfl
theorem QTJ (p:Rat)(a:Nat)(hc:(a<=2000000000)/\(-9223372036854775808<p.floor/\p.floor<9223372036854775808))(K:AV->Prop)(hK:K (.t [(false,[.v (.int .i64 p.floor)]),(false,[.v (.int .i64 0)])])):QR (Gl p a K):=by
 refine⟨?_⟩;rw[QCY];try simp only[Za,R0,R1,Zc,Zd,R4,R2,R3]
 obtain⟨ha,h1,h2⟩:=hc;simp only[Rat.num_intCast];refine⟨by omega,ha,fun m hm=>⟨by omega,QF (fun h=> ?_) (fun h=> ?_)⟩⟩
 ·have h:=R5 h;have e:Zf.wrap (0-(p.floor.natAbs:Int))=p.floor:=by rw[w64 (by omega)];omega
  rw[e];exact hK
 ·have h:=R6 h;have e:((p.floor.natAbs:Nat):Int)=p.floor:=by omega
  rw[e];exact hK
def Uv:Ctr:=fun as0=>match as0 with
 | [.x true [.r p a]]=>some fun K=>((a<=2000000000)/\(-9223372036854775808<p.floor/\p.floor<9223372036854775808))/\(K (.t [(false,[.v (.int .i64 p.floor)]),(false,[.v (.int .i64 0)])]))
 | _=>none
theorem QPo:CtrOK Tryz.prog QH QG 166 Uv:=by
 refine⟨QK Tryz.func166 (by kernel_rfl),fun l T hT K hK=> ?_⟩;unfold Uv at hT;split at hT
 ·cases hT
  obtain⟨hc,hK⟩:=hK;exact QJ Qcq QP Tryz.func166 (by kernel_rfl) (by kernel_rfl) (by rfl) (QTJ _ _ hc K hK)
 ·cases hT
def QiE:List (Nat×Ctr):=(166,Uv)::Qco
noncomputable def QiX:QU:=mkT QiE M48 X4
end Go.Proofs
namespace Go.Proofs
open Go Go.Eng
theorem QMB {w:World}{O:Nat->Prop}{ρ:Env}{m n:Nat}{v:Value}(h:ConcV w O ρ (.x true [.v (.bool false),.b m n,.v (.string ⟨⟨[1]⟩⟩)]) v):ConcV w O ρ (.x true [.r (m:Rat) (n+1)]) v:=by
 obtain⟨vals,h1,h2⟩:=h;cases h1 with
 | v _ h1=>cases h1 with
  | b hm h1=>cases h1 with
   | v _ h1=>
    cases h1
    refine⟨_,?_,h2⟩;have hn:((m:Nat):Rat).num=m:=rfl;have hd:((m:Nat):Rat).den=1:=rfl;have e:[Zl false,YR (QA m),Value.string ⟨⟨[1]⟩⟩]=[QDR (m:Rat),numV (m:Rat),QH4 (m:Rat)]:=by
     unfold QDR numV QH4;rw[hn,hd];have:decide ((m:Int)<0)=false:=decide_eq_false (by omega);rw[this];rfl
    rw[e];refine .r ⟨?_,?_⟩ .nil
    ·rw[hn];have:2^n<=2^(n+1):=Nat.pow_le_pow_right (by decide) (by omega);show(m:Int).natAbs<_;rw[Int.natAbs_natCast];omega
    ·rw[hd];exact Nat.one_lt_two_pow (by omega)
def QHE:Ctr:=fun as0=>match as0 with
 | [.x true [.r p a],.x true [.v (.bool false),.b m n,.v (.string ⟨⟨[1]⟩⟩)]]=>some fun K=>a+n+1<=4294967296/\K (rA (p*(m:Rat)) (a+n+1))
 | as0=>QGd as0
theorem QTK:CtrOK Tryz.prog QH QG 92 QHE:=by
 refine⟨ok_rMul.enter,fun l T hT K hK=> ?_⟩;unfold QHE at hT;split at hT
 ·rename_i p a m n;cases hT
  refine Eng.Spec.args (ok_rMul.sound [.x true [.r p a],.x true [.r (m:Rat) (n+1)]] _ rfl K hK) fun w O vals hc=> ?_
  cases hc with
  | cons h1 h2=>cases h2 with
   | cons h2 h3=>exact .cons h1 (.cons (QMB h2) h3)
 ·exact ok_rMul.sound _ T hT K hK
def Qgi:List (Nat×Ctr):=(92,QHE)::L95
theorem Qcr:CtrsOK Tryz.prog QH QG Qgi:= .cons QTK Qae
def Qcs:List (Nat×Ctr):=(206,VI)::Qgi
noncomputable def Qgj:QU:=mkT Qcs M79 X4
theorem QTL:CtrsOK Tryz.prog QH QG Qcs:= .cons Ht Qcr
theorem Qct:QM Tryz.prog QH QG Qgj:=Qc QTL Q6 Qk
def QTM:OT:=fun _=>([],[])
def QCZ (p:Rat)(a:Nat)(d:Int)(K:AV->Prop):Prop:=QX Qgj QTM noL Tryz.f235 [rA p a,iA .i64 d] K
theorem QDz (p:Rat)(a:Nat)(d:Int)(K:AV->Prop):QCZ p a d K=((bif true then if(1:Int)>d then(1:Int)else d else if(1:Int)<d then(1:Int)else d)<(9223372036854775808:Int)/\a+(63:Nat)+(1:Nat)<=(4294967296:Nat)/\a+(63:Nat)+(1:Nat)<=(2000000000:Nat)/\∀(m:Nat),m<=a+(63:Nat)+(1:Nat)+(16:Nat)->((m<=(4294967296:Nat)/\(63:Nat)<=(4294967296:Nat))/\Int.toNat (bif true then if(1:Int)>d then(1:Int)else d else if(1:Int)<d then(1:Int)else d)≠(0:Nat))/\K (AV.x true [Zh (XA (decide (Rat.num ↑(Rat.floor (p*↑(Int.toNat (bif true then if(1:Int)>d then(1:Int)else d else if(1:Int)<d then(1:Int)else d))))<(0:Int))) (Int.natAbs (Rat.num ↑(Rat.floor (p*↑(Int.toNat (bif true then if(1:Int)>d then(1:Int)else d else if(1:Int)<d then(1:Int)else d)))))) (Int.toNat (bif true then if(1:Int)>d then(1:Int)else d else if(1:Int)<d then(1:Int)else d))) (max m (63:Nat))])):=by kernel_rfl
theorem QYH (p:Rat)(a:Nat)(d:Int)(hc:(a<=1000000000)/\(1<=d/\d<9223372036854775808))(K:AV->Prop)(hK: ∀m,m<=a+200->K (rA (VH p d.toNat) m)):QR (QCZ p a d K):=by
 refine⟨?_⟩;rw[QDz];try simp only[Za,R0,R1,Zc,Zd,R4,R2,R3]
 have e:(bif true then if 1>d then 1 else d else if 1<d then 1 else d)=d:=by
  show(if 1>d then 1 else d)=d
  rw[if_neg (by omega)]
 rw[e];refine⟨by omega,by omega,by omega,fun m hm=>⟨by omega,?_⟩⟩;have e2: ∀f:Int,XA (decide (((f:Int):Rat).num<0)) ((f:Int):Rat).num.natAbs d.toNat=mkRat f d.toNat:=fun f=>by
  rw[Rat.num_intCast];unfold XA;by_cases h:f<0
  ·rw[decide_eq_true h,R7];congr 1;omega
  ·rw[decide_eq_false h,R8];congr 1;omega
 rw[e2];exact hK _ (by omega)
def QHF:Ctr:=fun as0=>match as0 with
 | [.x true [.r p a],.x false [.v (.int .i64 d)]]=>some fun K=>((a<=1000000000)/\(1<=d/\d<9223372036854775808))/\(∀m,m<=a+200->K (rA (VH p d.toNat) m))
 | _=>none
theorem QTN:CtrOK Tryz.prog QH QG 235 QHF:=by
 refine⟨QK Tryz.func235 (by kernel_rfl),fun l T hT K hK=> ?_⟩;unfold QHF at hT;split at hT
 ·cases hT
  obtain⟨hc,hK⟩:=hK;exact QJ Qct QP Tryz.func235 (by kernel_rfl) (by kernel_rfl) (by rfl) (QYH _ _ _ hc K hK)
 ·cases hT
def Qcu:List (Nat×Ctr):=(235,QHF)::Qcs
noncomputable def Qgk:QU:=mkT Qcu M79 X4
theorem QTO:CtrsOK Tryz.prog QH QG Qcu:= .cons QTN QTL
theorem Qcv:QM Tryz.prog QH QG Qgk:=Qc QTO Q6 Qk
def Qcw:OT:=fun _=>([],[])
def QJj (p:Rat)(a:Nat)(d:Int)(K:AV->Prop):Prop:=QX Qgk Qcw noL Tryz.f236 [rA p a,iA .i64 d] K
theorem QJk (p:Rat)(a:Nat)(d:Int)(K:AV->Prop):QJj p a d K=(a<=4294967296/\(a<=1000000000/\1<=d/\d<9223372036854775808)/\∀(m:Nat),m<=a+200->m<=4294967296/\K (AV.x true [Zh (-VH (-p) d.toNat) m])):=by kernel_rfl
theorem Qgl (p:Rat)(a:Nat)(d:Int)(hc:(a<=1000000000)/\(1<=d/\d<9223372036854775808))(K:AV->Prop)(hK: ∀m,m<=a+200->K (rA (upR p d.toNat) m)):QR (QJj p a d K):=by
 refine⟨?_⟩;rw[QJk];try simp only[Za,R0,R1,Zc,Zd,R4,R2,R3]
 exact⟨by omega,by omega,fun m hm=>⟨by omega,hK m hm⟩⟩
def QTP:Ctr:=fun as0=>match as0 with
 | [.x true [.r p a],.x false [.v (.int .i64 d)]]=>some fun K=>((a<=1000000000)/\(1<=d/\d<9223372036854775808))/\(∀m,m<=a+200->K (rA (upR p d.toNat) m))
 | _=>none
theorem Qcx:CtrOK Tryz.prog QH QG 236 QTP:=by
 refine⟨QK Tryz.func236 (by kernel_rfl),fun l T hT K hK=> ?_⟩;unfold QTP at hT;split at hT
 ·cases hT
  obtain⟨hc,hK⟩:=hK;exact QJ Qcv QP Tryz.func236 (by kernel_rfl) (by kernel_rfl) (by rfl) (Qgl _ _ _ hc K hK)
 ·cases hT
def Qcy:List (Nat×Ctr):=(236,QTP)::Qcu
noncomputable def Qgm:QU:=mkT Qcy M79 X4
theorem QTQ:CtrsOK Tryz.prog QH QG Qcy:= .cons Qcx QTO
theorem Qcz:QM Tryz.prog QH QG Qgm:=Qc QTQ Q6 Qk
def QTR:OT:=fun _=>([],[])
def QCa (l:Rat)(a:Nat)(h:Rat)(b:Nat)(K:AV->Prop):Prop:=QX Qgm QTR noL Tryz.f152 [.x true [.r l a,.r h b]] K
theorem QD0 (l:Rat)(a:Nat)(h:Rat)(b:Nat)(K:AV->Prop):QCa l a h b K=(a<=4294967296/\b<=4294967296/\a+b<=4294967296/\K (AV.x false [Zo (Zl (decide (JP l h<=0)))])):=by kernel_rfl
theorem QYI (l:Rat)(a:Nat)(h:Rat)(b:Nat)(hc:(a+b<=4294967296)/\(l<=h))(K:AV->Prop)(hK:K (.x false [.v (.bool true)])):QR (QCa l a h b K):=by
 refine⟨?_⟩;rw[QD0];try simp only[Za,R0,R1,Zc,Zd,R4,R2,R3]
 rw[decide_eq_true ((Wt l h).2 hc.2)];exact⟨by omega,by omega,hc.1,hK⟩
def QHG:Ctr:=fun as0=>match as0 with
 | [.x true [.r l a,.r h b]]=>some fun K=>((a+b<=4294967296)/\(l<=h))/\(K (.x false [.v (.bool true)]))
 | _=>none
theorem QTS:CtrOK Tryz.prog QH QG 152 QHG:=by
 refine⟨QK Tryz.func152 (by kernel_rfl),fun l T hT K hK=> ?_⟩;unfold QHG at hT;split at hT
 ·cases hT
  obtain⟨hc,hK⟩:=hK;exact QJ Qcz QP Tryz.func152 (by kernel_rfl) (by kernel_rfl) (by rfl) (QYI _ _ _ _ hc K hK)
 ·cases hT
def Qc0:List (Nat×Ctr):=(152,QHG)::Qcy
noncomputable def Qgn:QU:=mkT Qc0 M79 X4
theorem QTT:CtrsOK Tryz.prog QH QG Qc0:= .cons QTS QTQ
theorem Qc1:QM Tryz.prog QH QG Qgn:=Qc QTT Q6 Qk
def QYJ:OT:=fun _=>([],[])
def QFF (l:Rat)(a:Nat)(h:Rat)(b:Nat)(K:AV->Prop):Prop:=QX Qgn QYJ noL Tryz.f96 [.x true [.r l a,.r h b]] K
theorem QHH (l:Rat)(a:Nat)(h:Rat)(b:Nat)(K:AV->Prop):QFF l a h b K=((a+b<=4294967296/\l<=h)/\K (AV.x true [Zh l a,Zh h b])):=by kernel_rfl
theorem Qc2 (l:Rat)(a:Nat)(h:Rat)(b:Nat)(hc:(a+b<=4294967296)/\(l<=h))(K:AV->Prop)(hK:K (.x true [.r l a,.r h b])):QR (QFF l a h b K):=by
 refine⟨?_⟩;rw[QHH];try simp only[Za,R0,R1,Zc,Zd,R4,R2,R3]
 exact⟨hc,hK⟩
def QMC:Ctr:=fun as0=>match as0 with
 | [.x true [.r l a,.r h b]]=>some fun K=>((a+b<=4294967296)/\(l<=h))/\(K (.x true [.r l a,.r h b]))
 | _=>none
theorem QYK:CtrOK Tryz.prog QH QG 96 QMC:=by
 refine⟨QK Tryz.func96 (by kernel_rfl),fun l T hT K hK=> ?_⟩;unfold QMC at hT;split at hT
 ·cases hT
  obtain⟨hc,hK⟩:=hK;exact QJ Qc1 QP Tryz.func96 (by kernel_rfl) (by kernel_rfl) (by rfl) (Qc2 _ _ _ _ hc K hK)
 ·cases hT
def Qc3:List (Nat×Ctr):=(96,QMC)::Qc0
noncomputable def Qgo:QU:=mkT Qc3 M79 X4
theorem QTU:CtrsOK Tryz.prog QH QG Qc3:= .cons QYK QTT
theorem Qc4:QM Tryz.prog QH QG Qgo:=Qc QTU Q6 Qk
def Qc5:OT:=fun _=>([],[])
def QJl (p:Rat)(a:Nat)(K:AV->Prop):Prop:=QX Qgo Qc5 noL Tryz.f153 [rA p a] K
theorem QJm (p:Rat)(a:Nat)(K:AV->Prop):QJl p a K=(a+a<=4294967296/\K (AV.x true [Zh (XC p p) (max a a),Zh (XC p p) (max a a)])):=by kernel_rfl
theorem Qgp (p:Rat)(a:Nat)(hc:(a<=2000000000))(K:AV->Prop)(hK:K (.x true [.r p a,.r p a])):QR (QJl p a K):=by
 refine⟨?_⟩;rw[QJm];try simp only[Za,R0,R1,Zc,Zd,R4,R2,R3]
 rw[W7,Nat.max_self];exact⟨by omega,hK⟩
def QTV:Ctr:=fun as0=>match as0 with
 | [.x true [.r p a]]=>some fun K=>((a<=2000000000))/\(K (.x true [.r p a,.r p a]))
 | _=>none
theorem Qc6:CtrOK Tryz.prog QH QG 153 QTV:=by
 refine⟨QK Tryz.func153 (by kernel_rfl),fun l T hT K hK=> ?_⟩;unfold QTV at hT;split at hT
 ·cases hT
  obtain⟨hc,hK⟩:=hK;exact QJ Qc4 QP Tryz.func153 (by kernel_rfl) (by kernel_rfl) (by rfl) (Qgp _ _ hc K hK)
 ·cases hT
def Qc7:List (Nat×Ctr):=(153,QTV)::Qc3
noncomputable def Qgq:QU:=mkT Qc7 M79 X4
theorem QTW:CtrsOK Tryz.prog QH QG Qc7:= .cons Qc6 QTU
theorem Qc8:QM Tryz.prog QH QG Qgq:=Qc QTW Q6 Qk
def QYL:OT:=fun id=>bif id.beq 1 then([0,2,1,3,4,5],[[],[0],[],[2,1,0],[1,0,3,2],[3,2,1,0,4]])else bif id.beq 2 then([0,1,2,3,5,6,7,8,4,9,10,11],[[],[0],[],[2],[1,0,3,2],[],[5],[],[7],[6,5,8,7,4,1,0,3,2],[4,1,0,3,2,9,6,5,8,7],[10,4,1,0,3,2,9,6,5,8,7]])else([],[])
def QFG (l:Rat)(a:Nat)(h:Rat)(b:Nat)(m:Rat)(c:Nat)(k:Rat)(d:Nat)(K:AV->Prop):Prop:=QX Qgq QYL noL Tryz.f164 [.x true [.r l a,.r h b],.x true [.r m c,.r k d]] K
theorem QHI (l:Rat)(a:Nat)(h:Rat)(b:Nat)(m:Rat)(c:Nat)(k:Rat)(d:Nat)(K:AV->Prop):QFG l a h b m c k d K=((a+b<=4294967296/\l<=h)/\(c+d<=4294967296/\m<=k)/\a+c+1<=4294967296/\b+d+1<=4294967296/\K (AV.x true [Zh (l+m) (a+c+1),Zh (h+k) (b+d+1)])):=by kernel_rfl
theorem Qc9 (l:Rat)(a:Nat)(h:Rat)(b:Nat)(m:Rat)(c:Nat)(k:Rat)(d:Nat)(hc:(a+b+c+d<=4294967290)/\(l<=h/\m<=k))(K:AV->Prop)(hK:K (.x true [.r (l+m) (a+c+1),.r (h+k) (b+d+1)])):QR (QFG l a h b m c k d K):=by
 refine⟨?_⟩;rw[QHI];try simp only[Za,R0,R1,Zc,Zd,R4,R2,R3]
 obtain⟨h1,h2,h3⟩:=hc;exact⟨⟨by omega,h2⟩,⟨by omega,h3⟩,by omega,by omega,hK⟩
def QMD:Ctr:=fun as0=>match as0 with
 | [.x true [.r l a,.r h b],.x true [.r m c,.r k d]]=>some fun K=>((a+b+c+d<=4294967290)/\(l<=h/\m<=k))/\(K (.x true [.r (l+m) (a+c+1),.r (h+k) (b+d+1)]))
 | _=>none
theorem QYM:CtrOK Tryz.prog QH QG 164 QMD:=by
 refine⟨QK Tryz.func164 (by kernel_rfl),fun l T hT K hK=> ?_⟩;unfold QMD at hT;split at hT
 ·cases hT
  obtain⟨hc,hK⟩:=hK;exact QJ Qc8 QP Tryz.func164 (by kernel_rfl) (by kernel_rfl) (by rfl) (Qc9 _ _ _ _ _ _ _ _ hc K hK)
 ·cases hT
def QdA:List (Nat×Ctr):=(164,QMD)::Qc7
noncomputable def Qgr:QU:=mkT QdA M79 X4
theorem QTX:CtrsOK Tryz.prog QH QG QdA:= .cons QYM QTW
theorem QdB:QM Tryz.prog QH QG Qgr:=Qc QTX Q6 Qk
def QYN:OT:=fun id=>bif id.beq 1 then([0,2,1,3,4,5],[[],[0],[],[2,1,0],[1,0,3,2],[3,2,1,0,4]])else bif id.beq 2 then([0,1,2,3,5,6,7,8,4,9,10,11],[[],[0],[],[2],[1,0,3,2],[],[5],[],[7],[6,5,8,7,4,1,0,3,2],[4,1,0,3,2,9,6,5,8,7],[10,4,1,0,3,2,9,6,5,8,7]])else([],[])
def QFH (l:Rat)(a:Nat)(h:Rat)(b:Nat)(m:Rat)(c:Nat)(k:Rat)(d:Nat)(K:AV->Prop):Prop:=QX Qgr QYN noL Tryz.f162 [.x true [.r l a,.r h b],.x true [.r m c,.r k d]] K
theorem QHJ (l:Rat)(a:Nat)(h:Rat)(b:Nat)(m:Rat)(c:Nat)(k:Rat)(d:Nat)(K:AV->Prop):QFH l a h b m c k d K=((a+b<=4294967296/\l<=h)/\(c+d<=4294967296/\m<=k)/\a+d+1<=4294967296/\b+c+1<=4294967296/\K (AV.x true [Zh (l-k) (a+d+1),Zh (h-m) (b+c+1)])):=by kernel_rfl
theorem QdC (l:Rat)(a:Nat)(h:Rat)(b:Nat)(m:Rat)(c:Nat)(k:Rat)(d:Nat)(hc:(a+b+c+d<=4294967290)/\(l<=h/\m<=k))(K:AV->Prop)(hK:K (.x true [.r (l-k) (a+d+1),.r (h-m) (b+c+1)])):QR (QFH l a h b m c k d K):=by
 refine⟨?_⟩;rw[QHJ];try simp only[Za,R0,R1,Zc,Zd,R4,R2,R3]
 obtain⟨h1,h2,h3⟩:=hc;exact⟨⟨by omega,h2⟩,⟨by omega,h3⟩,by omega,by omega,hK⟩
def QME:Ctr:=fun as0=>match as0 with
 | [.x true [.r l a,.r h b],.x true [.r m c,.r k d]]=>some fun K=>((a+b+c+d<=4294967290)/\(l<=h/\m<=k))/\(K (.x true [.r (l-k) (a+d+1),.r (h-m) (b+c+1)]))
 | _=>none
theorem QYO:CtrOK Tryz.prog QH QG 162 QME:=by
 refine⟨QK Tryz.func162 (by kernel_rfl),fun l T hT K hK=> ?_⟩;unfold QME at hT;split at hT
 ·cases hT
  obtain⟨hc,hK⟩:=hK;exact QJ QdB QP Tryz.func162 (by kernel_rfl) (by kernel_rfl) (by rfl) (QdC _ _ _ _ _ _ _ _ hc K hK)
 ·cases hT
def QdD:List (Nat×Ctr):=(162,QME)::QdA
noncomputable def Qgs:QU:=mkT QdD M79 X4
theorem QTY:CtrsOK Tryz.prog QH QG QdD:= .cons QYO QTX
theorem QdE:QM Tryz.prog QH QG Qgs:=Qc QTY Q6 Qk
structure AdX where
 lo:Rat
 hi:Rat
 i:Nat
def X5 (f:Rat->Rat->Rat)(ps:List (Rat×Nat))(q:Rat):Rat:=(ps.map (·.1)).foldl f q
def hdR (l:List (Rat×Nat)):Rat:=match l with
 | []=>0
 | p::_=>p.1
def QJn (l:List (Rat×Nat))(N:Nat):LI:=fun _=> .inv ⟨AdX,fun x=>⟨[(2,.x false [.p 2 0]),(3,.x false [.p 3 0]),(11,.x false [.s 3 (lRb l.tail)]),(12,iA .i64 l.tail.length),(13,iA .i64 x.i)],[(2,.box 83 (Xg++Xg)),(3,.box 83 [.r x.lo N,.r x.hi N])]⟩,
 fun x=>X5 XC (l.tail.drop x.i) x.lo=X5 XC l.tail (hdR l)/\X5 XF (l.tail.drop x.i) x.hi=X5 XF l.tail (hdR l)/\x.i<=l.tail.length,fun x=>l.tail.length-x.i,fun _=>0⟩
def QMF:OT:=fun id=>bif id.beq 5 then([0,1,2,4,5,6,3,8,7,9,10,11],[[],[0],[],[1,0,2],[],[4],[],[5,4,6,3,1,0,2],[0,1,2,3,4,5],[8,0,1,2,3,4,5,7,6],[0,1,2,3,4,5,6,7,8,9],[10,0,1,2,3,4,5,6,7,8,9]])else([],[])
def Uw (l:List (Rat×Nat))(N:Nat)(K:AV->Prop):Prop:=QX Qgs QMF (QJn l N) Tryz.f205 [.x false [.s 3 (lRb l)]] K
theorem QAK (l:List (Rat×Nat))(N:Nat)(K:AV->Prop):Uw l N K=(((0:Int)<=0/\0<Ze (lRb l).length)/\∃(q:Rat)(n:Nat),ldE (lRb l) 0 0 3=some [Zh q n]/\n<=2000000000/\((0:Int)<=1/\1<=Ze (lRb l).length/\Ze (lRb l).length<=Ze (lRb l).length)/\(∃(x:AdX),((X5 XC (Zj x.i l.tail) x.lo=X5 XC l.tail (hdR l)/\X5 XF (Zj x.i l.tail) x.hi=X5 XF l.tail (hdR l)/\x.i<=l.tail.length)/\OfNat.ofNat 0=0)/\0=0/\0=0/\3=3/\List.take ((Ze (lRb l).length).toNat-1) (Zj 1 (lRb l))=lRb l.tail/\Ze (List.take ((Ze (lRb l).length).toNat-1) (Zj 1 (lRb l))).length=Ze l.tail.length/\0=Ze x.i/\83=83/\false=false/\Zb (Zg [])=Zb (Zg [])/\Zb (Zg [])=Zb (Zg [])/\false=false/\Zb (Zg [])=Zb (Zg [])/\Zb (Zg [])=Zb (Zg [])/\83=83/\q=x.lo/\n<=N/\q=x.hi/\n<=N/\True)/\∀(x:AdX),X5 XC (Zj x.i l.tail) x.lo=X5 XC l.tail (hdR l)/\X5 XF (Zj x.i l.tail) x.hi=X5 XF l.tail (hdR l)/\x.i<=l.tail.length->OfNat.ofNat 0=0->bif decide (Ze x.i<Ze l.tail.length)then(0<=Ze x.i/\Ze x.i<Ze (lRb l.tail).length)/\∃(q:Rat)(n:Nat),ldE (lRb l.tail) (Ze x.i).toNat 0 3=some [Zh q n]/\N+n<=4294967296/\N+n<=4294967296/\∃(x':AdX),((X5 XC (Zj x'.i l.tail) x'.lo=X5 XC l.tail (hdR l)/\X5 XF (Zj x'.i l.tail) x'.hi=X5 XF l.tail (hdR l)/\x'.i<=l.tail.length)/\OfNat.ofNat 0=0/\l.tail.length-x'.i<l.tail.length-x.i)/\0=0/\0=0/\3=3/\lRb l.tail=lRb l.tail/\Ze l.tail.length=Ze l.tail.length/\Zf.wrap (Ze x.i+1)=Ze x'.i/\83=83/\false=false/\Zb (Zg [])=Zb (Zg [])/\Zb (Zg [])=Zb (Zg [])/\false=false/\Zb (Zg [])=Zb (Zg [])/\Zb (Zg [])=Zb (Zg [])/\83=83/\XC x.lo q=x'.lo/\max N n<=N/\XF x.hi q=x'.hi/\max N n<=N/\True else K (AV.x true [Zh x.lo N,Zh x.hi N])):=by kernel_rfl
theorem QPp (l:List (Rat×Nat))(N:Nat)(hc:(l≠[]/\l.length<=100/\N<=2000000000)/\(∀p∈l,p.2<=N))(K:AV->Prop)(hK:K (.x true [.r (X5 XC l.tail (hdR l)) N,.r (X5 XF l.tail (hdR l)) N])):QR (Uw l N K):=by
 refine⟨?_⟩;rw[QAK];try simp only[Za,R0,R1,Zc,Zd,R4,R2,R3]
 obtain⟨⟨h0,hl,hN⟩,hb⟩:=hc;obtain⟨p0,ps,rfl⟩: ∃p ps,l=p::ps:=by
  cases l with
  | nil=>exact absurd rfl h0
  | cons p ps=>exact⟨p,ps,rfl⟩
 have hb0:=hb p0 (by simp);have hl':ps.length+1<=100:=hl;have ll:(lRb (p0::ps)).length=ps.length+1:=by simp[lRb]
 rw[ll];have e2:List.take ((((ps.length+1:Nat):Int)).toNat-1) (Zj 1 (lRb (p0::ps)))=lRb ps:=by
  rw[Int.toNat_natCast,Nat.add_sub_cancel];exact List.take_of_length_le (by simp[lRb])
 have lps:(lRb ps).length=ps.length:=by simp[lRb]
 refine⟨by omega,p0.1,p0.2,rfl,by omega,by omega,⟨⟨p0.1,p0.1,0⟩,⟨rfl,rfl,by simp⟩,e2,by rw[e2,lps];rfl,rfl,rfl,hb0,rfl,hb0⟩,fun x hx=>QF (fun hp=> ?_) (fun hp=> ?_)⟩
 ·have hp:x.i<ps.length:=by have:=R5 hp;simp only[Zk]at this;omega
  obtain⟨p,hpp⟩: ∃p,ps[x.i]? =some p:=⟨_,List.getElem?_eq_getElem hp⟩
  obtain⟨e1,e3,hxi⟩:=hx;simp only[Zk]at e1 e3 hxi⊢;have hd:ps.drop x.i=p::ps.drop (x.i+1):=by
   rw[List.drop_eq_getElem_cons hp];rw[List.getElem?_eq_getElem hp]at hpp;rw[Option.some.inj hpp]
  rw[hd]at e1 e3;have hbp:=hb p (by simp[List.mem_of_getElem? hpp]);exact⟨by rw[lps];omega,p.1,p.2,by simp only[ldE,lRb,List.getElem?_map,Int.toNat_natCast,hpp];rfl,by omega,by omega,⟨_,_,x.i+1⟩,⟨⟨e1,e3,hp⟩,by simp only;omega⟩,by rw[w64 (by omega)];simp,rfl,by omega,rfl,by omega⟩
 ·have hp:x.i=ps.length:=by have:=R6 hp;have:=hx.2.2;simp only[Zk]at*;omega
  obtain⟨e1,e3,hxi⟩:=hx;simp only[Zk]at e1 e3 hK;rw[hp,List.drop_length]at e1 e3;have e1:x.lo=_:=e1;have e3:x.hi=_:=e3;rw[e1,e3];exact hK
def Hu:Ctr:=fun as0=>match as0 with
 | [.x false [.s 3 xs]]=>some fun K=> ∃(l:List (Rat×Nat)) (N:Nat),xs=lRb l/\((l≠[]/\l.length<=100/\N<=2000000000)/\(∀p∈l,p.2<=N))/\(K (.x true [.r (X5 XC l.tail (hdR l)) N,.r (X5 XF l.tail (hdR l)) N]))
 | _=>none
theorem QMG:CtrOK Tryz.prog QH QG 205 Hu:=by
 refine⟨QK Tryz.func205 (by kernel_rfl),fun l T hT K hK=> ?_⟩;unfold Hu at hT;split at hT
 ·cases hT
  obtain⟨l,N,rfl,hc,hK⟩:=hK;exact QJ QdE QP Tryz.func205 (by kernel_rfl) (by kernel_rfl) (by rfl) (QPp _ _ hc K hK)
 ·cases hT
def QdF:List (Nat×Ctr):=(205,Hu)::QdD
noncomputable def Qgt:QU:=mkT QdF M79 X4
theorem QTZ:CtrsOK Tryz.prog QH QG QdF:= .cons QMG QTY
theorem QdG:QM Tryz.prog QH QG Qgt:=Qc QTZ Q6 Qk
def QYP:OT:=fun id=>bif id.beq 1 then([0,2,1,3,4,5],[[],[0],[],[2,1,0],[1,0,3,2],[3,2,1,0,4]])else bif id.beq 2 then([0,1,2,3,5,6,7,8,10,11,12,13,15,16,17,18,4,9,14,19,20,21,22],[[],[0],[],[2],[1,0,3,2],[],[5],[],[7],[6,5,8,7,4,1,0,3,2],[],[10],[],[12],[11,10,13,12,9,6,5,8,7,4,1,0,3,2],[],[15],[],[17],[16,15,18,17,14,11,10,13,12,9,6,5,8,7,4,1,0,3,2],[4,1,0,3,2,9,6,5,8,7,14,11,10,13,12,19,16,15,18,17],[20,4,1,0,3,2,9,6,5,8,7,14,11,10,13,12,19,16,15,18,17],[21,20,4,1,0,3,2,9,6,5,8,7,14,11,10,13,12,19,16,15,18,17]])else([],[])
def QFI (l:Rat)(a:Nat)(h:Rat)(b:Nat)(m:Rat)(c:Nat)(k:Rat)(d:Nat)(K:AV->Prop):Prop:=QX Qgt QYP noL Tryz.f163 [.x true [.r l a,.r h b],.x true [.r m c,.r k d]] K
theorem QHK (l:Rat)(a:Nat)(h:Rat)(b:Nat)(m:Rat)(c:Nat)(k:Rat)(d:Nat)(K:AV->Prop):QFI l a h b m c k d K=((a+b<=4294967296/\l<=h)/\(c+d<=4294967296/\m<=k)/\a+c<=4294967296/\a+d<=4294967296/\b+c<=4294967296/\b+d<=4294967296/\∃(l_1:List (Rat×Nat))(N:Nat),[[Zh (l*m) (a+c)],[Zh (l*k) (a+d)],[Zh (h*m) (b+c)],[Zh (h*k) (b+d)]]=lRb l_1/\((l_1≠[]/\l_1.length<=100/\N<=2000000000)/\∀(p:Rat×Nat),p∈l_1->p.snd<=N)/\K (AV.x true [Zh (X5 XC l_1.tail (hdR l_1)) N,Zh (X5 XF l_1.tail (hdR l_1)) N])):=by kernel_rfl
theorem QdH (l:Rat)(a:Nat)(h:Rat)(b:Nat)(m:Rat)(c:Nat)(k:Rat)(d:Nat)(hc:(a+b+c+d<=2000000000)/\(l<=h/\m<=k))(K:AV->Prop)(hK: ∀(s:Sp) n,s=YK ⟨l,h⟩ ⟨m,k⟩->n<=max a b+max c d->K (.x true [.r s.lo n,.r s.hi n])):QR (QFI l a h b m c k d K):=by
 refine⟨?_⟩;rw[QHK];try simp only[Za,R0,R1,Zc,Zd,R4,R2,R3]
 obtain⟨h1,h2,h3⟩:=hc;refine⟨⟨by omega,h2⟩,⟨by omega,h3⟩,by omega,by omega,by omega,by omega,[(l*m,a+c),(l*k,a+d),(h*m,b+c),(h*k,b+d)],max a b+max c d,rfl,⟨⟨by simp,by simp,by omega⟩,fun p hp=> ?_⟩,hK _ _ rfl (Zd _)⟩;simp only[List.mem_cons,List.not_mem_nil,or_false]at hp;rcases hp with rfl | rfl | rfl | rfl<;>simp only<;>omega
def QMH:Ctr:=fun as0=>match as0 with
 | [.x true [.r l a,.r h b],.x true [.r m c,.r k d]]=>some fun K=>((a+b+c+d<=2000000000)/\(l<=h/\m<=k))/\(∀(s:Sp) n,s=YK ⟨l,h⟩ ⟨m,k⟩->n<=max a b+max c d->K (.x true [.r s.lo n,.r s.hi n]))
 | _=>none
theorem QYQ:CtrOK Tryz.prog QH QG 163 QMH:=by
 refine⟨QK Tryz.func163 (by kernel_rfl),fun l T hT K hK=> ?_⟩;unfold QMH at hT;split at hT
 ·cases hT
  obtain⟨hc,hK⟩:=hK;exact QJ QdG QP Tryz.func163 (by kernel_rfl) (by kernel_rfl) (by rfl) (QdH _ _ _ _ _ _ _ _ hc K hK)
 ·cases hT
def QdI:List (Nat×Ctr):=(163,QMH)::QdF
noncomputable def Qgu:QU:=mkT QdI M79 X4
theorem QTa:CtrsOK Tryz.prog QH QG QdI:= .cons QYQ QTZ
theorem QdJ:QM Tryz.prog QH QG Qgu:=Qc QTa Q6 Qk
def QTb:OT:=fun id=>bif id.beq 1 then([0,2,1,3,4,5],[[],[0],[],[2,1,0],[1,0,3,2],[3,2,1,0,4]])else bif id.beq 2 then([0,1,2,3,5,6,7,8,4,9,10,11],[[],[0],[],[2],[1,0,3,2],[],[5],[],[7],[6,5,8,7,4,1,0,3,2],[4,1,0,3,2,9,6,5,8,7],[10,4,1,0,3,2,9,6,5,8,7]])else([],[])
def QCb (l:Rat)(a:Nat)(h:Rat)(b:Nat)(m:Rat)(c:Nat)(k:Rat)(d:Nat)(K:AV->Prop):Prop:=QX Qgu QTb noL Tryz.f116 [.x true [.r l a,.r h b],.x true [.r m c,.r k d]] K
theorem QD1 (l:Rat)(a:Nat)(h:Rat)(b:Nat)(m:Rat)(c:Nat)(k:Rat)(d:Nat)(K:AV->Prop):QCb l a h b m c k d K=((a+b<=4294967296/\l<=h)/\(c+d<=4294967296/\m<=k)/\a+c<=4294967296/\b+d<=4294967296/\K (AV.x true [Zh (XC l m) (max a c),Zh (XF h k) (max b d)])):=by kernel_rfl
theorem QYR (l:Rat)(a:Nat)(h:Rat)(b:Nat)(m:Rat)(c:Nat)(k:Rat)(d:Nat)(hc:(a+b+c+d<=4294967290)/\(l<=h/\m<=k))(K:AV->Prop)(hK:K (.x true [.r (XC l m) (max a c),.r (XF h k) (max b d)])):QR (QCb l a h b m c k d K):=by
 refine⟨?_⟩;rw[QD1];try simp only[Za,R0,R1,Zc,Zd,R4,R2,R3]
 obtain⟨h1,h2,h3⟩:=hc;exact⟨⟨by omega,h2⟩,⟨by omega,h3⟩,by omega,by omega,hK⟩
def QHL:Ctr:=fun as0=>match as0 with
 | [.x true [.r l a,.r h b],.x true [.r m c,.r k d]]=>some fun K=>((a+b+c+d<=4294967290)/\(l<=h/\m<=k))/\(K (.x true [.r (XC l m) (max a c),.r (XF h k) (max b d)]))
 | _=>none
theorem QTc:CtrOK Tryz.prog QH QG 116 QHL:=by
 refine⟨QK Tryz.func116 (by kernel_rfl),fun l T hT K hK=> ?_⟩;unfold QHL at hT;split at hT
 ·cases hT
  obtain⟨hc,hK⟩:=hK;exact QJ QdJ QP Tryz.func116 (by kernel_rfl) (by kernel_rfl) (by rfl) (QYR _ _ _ _ _ _ _ _ hc K hK)
 ·cases hT
def QdK:List (Nat×Ctr):=(116,QHL)::QdI
noncomputable def Qgv:QU:=mkT QdK M79 X4
theorem QTd:CtrsOK Tryz.prog QH QG QdK:= .cons QTc QTa
theorem QdL:QM Tryz.prog QH QG Qgv:=Qc QTd Q6 Qk
def QYS:OT:=fun _=>([],[])
def QFJ (l:Rat)(a:Nat)(h:Rat)(b:Nat)(q:Rat)(c:Nat)(K:AV->Prop):Prop:=QX Qgv QYS noL Tryz.f41 [.x true [.r l a,.r h b],rA q c] K
theorem QHM (l:Rat)(a:Nat)(h:Rat)(b:Nat)(q:Rat)(c:Nat)(K:AV->Prop):QFJ l a h b q c K=((a+b<=4294967296/\l<=h)/\a+c<=4294967296/\bif decide (JP l q<=0)then c+b<=4294967296/\K (AV.x false [Zo (Zl (decide (JP q h<=0)))])else K (AV.x false [Zo (Zl false)])):=by kernel_rfl
theorem QdM (l:Rat)(a:Nat)(h:Rat)(b:Nat)(q:Rat)(c:Nat)(hc:(a+b+c<=4294967290)/\(l<=h))(K:AV->Prop)(hK:K (.x false [.v (.bool (J3 ⟨l,h⟩ q))])):QR (QFJ l a h b q c K):=by
 refine⟨?_⟩;rw[QHM];try simp only[Za,R0,R1,Zc,Zd,R4,R2,R3]
 refine⟨⟨by omega,hc.2⟩,by omega,?_⟩;unfold J3 at hK;refine QF (fun h1=>⟨by omega,?_⟩) (fun h1=> ?_)
 ·have h1:=(Wt _ _).1 (R5 h1);rw[decide_eq_true h1,Bool.true_and]at hK;have e:decide (JP q h<=0)=decide (q<=h):=by
   by_cases e:q<=h
   ·rw[decide_eq_true e,decide_eq_true ((Wt _ _).2 e)]
   ·rw[decide_eq_false e,decide_eq_false (fun h=>e ((Wt _ _).1 h))]
  rw[e];exact hK
 ·have h1: ¬l<=q:=fun e=>R6 h1 ((Wt _ _).2 e);rw[decide_eq_false h1,Bool.false_and]at hK;exact hK
def QMI:Ctr:=fun as0=>match as0 with
 | [.x true [.r l a,.r h b],.x true [.r q c]]=>some fun K=>((a+b+c<=4294967290)/\(l<=h))/\(K (.x false [.v (.bool (J3 ⟨l,h⟩ q))]))
 | _=>none
theorem QYT:CtrOK Tryz.prog QH QG 41 QMI:=by
 refine⟨QK Tryz.func41 (by kernel_rfl),fun l T hT K hK=> ?_⟩;unfold QMI at hT;split at hT
 ·cases hT
  obtain⟨hc,hK⟩:=hK;exact QJ QdL QP Tryz.func41 (by kernel_rfl) (by kernel_rfl) (by rfl) (QdM _ _ _ _ _ _ hc K hK)
 ·cases hT
def QdN:List (Nat×Ctr):=(41,QMI)::QdK
noncomputable def Qgw:QU:=mkT QdN M79 X4
theorem QTe:CtrsOK Tryz.prog QH QG QdN:= .cons QYT QTd
theorem QdO:QM Tryz.prog QH QG Qgw:=Qc QTe Q6 Qk
def QdP:OT:=fun id=>bif id.beq 2 then([0,1,2,3,5,6,7,8,12,4,9,10,11,13],[[],[0],[],[2],[1,0,3,2],[],[5],[],[7],[6,5,8,7,4,1,0,3,2],[4,1,0,3,2,9,6,5,8,7],[10,4,1,0,3,2,9,6,5,8,7],[],[12,11,10,4,1,0,3,2,9,6,5,8,7]])else bif id.beq 3 then([0,1,2],[[],[],[0,1]])else([],[])
def QJo (l:Rat)(a:Nat)(h:Rat)(b:Nat)(K:AV->Prop):Prop:=QX Qgw QdP noL Tryz.f201 [.x true [.r l a,.r h b]] K
theorem QJp (l:Rat)(a:Nat)(h:Rat)(b:Nat)(K:AV->Prop):QJo l a h b K=((a+b<=4294967296/\l<=h)/\a+a<=4294967296/\b+b<=4294967296/\∃(l_1:List (Rat×Nat))(N:Nat),[[Zh (l*l) (a+a)],[Zh (h*h) (b+b)]]=lRb l_1/\((l_1≠[]/\l_1.length<=100/\N<=2000000000)/\∀(p:Rat×Nat),p∈l_1->p.snd<=N)/\((-9223372036854775808:Int)<=0/\(0:Int)<9223372036854775808)/\(a+b+64<=4294967290/\l<=h)/\bif J3 (Sp.mk l h) ↑(0:Int)then((-9223372036854775808:Int)<=0/\(0:Int)<9223372036854775808)/\K (AV.x true [Zh (↑(0:Int)) 64,Zh (X5 XF l_1.tail (hdR l_1)) N])else K (AV.x true [Zh (X5 XC l_1.tail (hdR l_1)) N,Zh (X5 XF l_1.tail (hdR l_1)) N])):=by kernel_rfl
theorem Qgx (l:Rat)(a:Nat)(h:Rat)(b:Nat)(hc:(a+b<=1000000000)/\(l<=h))(K:AV->Prop)(hK: ∀(s:Sp) n m,s=QG8 ⟨l,h⟩->n<=2*(a+b)+64->m<=2*(a+b)->K (.x true [.r s.lo n,.r s.hi m])):QR (QJo l a h b K):=by
 refine⟨?_⟩;rw[QJp];try simp only[Za,R0,R1,Zc,Zd,R4,R2,R3]
 obtain⟨h1,h2⟩:=hc;refine⟨⟨by omega,h2⟩,by omega,by omega,[(l*l,a+a),(h*h,b+b)],2*(a+b),rfl,⟨⟨by simp,by simp,by omega⟩,fun p hp=> ?_⟩,by omega,⟨by omega,h2⟩,QF (fun h=>⟨by omega,?_⟩) (fun h=> ?_)⟩
 ·simp only[List.mem_cons,List.not_mem_nil,or_false]at hp;rcases hp with rfl | rfl<;>simp only<;>omega
 ·have:=hK _ 64 (2*(a+b)) rfl (by omega) (by omega);have h':J3 ⟨l,_⟩ 0=true:=h;simp only[QG8,h',R7]at this;exact this
 ·have:=hK _ (2*(a+b)) (2*(a+b)) rfl (by omega) (by omega);have h':J3 ⟨l,_⟩ 0=false:=h;simp only[QG8,h',R8]at this;exact this
def QTf:Ctr:=fun as0=>match as0 with
 | [.x true [.r l a,.r h b]]=>some fun K=>((a+b<=1000000000)/\(l<=h))/\(∀(s:Sp) n m,s=QG8 ⟨l,h⟩->n<=2*(a+b)+64->m<=2*(a+b)->K (.x true [.r s.lo n,.r s.hi m]))
 | _=>none
theorem QdQ:CtrOK Tryz.prog QH QG 201 QTf:=by
 refine⟨QK Tryz.func201 (by kernel_rfl),fun l T hT K hK=> ?_⟩;unfold QTf at hT;split at hT
 ·cases hT
  obtain⟨hc,hK⟩:=hK;exact QJ QdO QP Tryz.func201 (by kernel_rfl) (by kernel_rfl) (by rfl) (Qgx _ _ _ _ hc K hK)
 ·cases hT
def QdR:List (Nat×Ctr):=(201,QTf)::QdN
noncomputable def Qgy:QU:=mkT QdR M79 X4
theorem QTg:CtrsOK Tryz.prog QH QG QdR:= .cons QdQ QTe
theorem QdS:QM Tryz.prog QH QG Qgy:=Qc QTg Q6 Qk
def QYU:OT:=fun id=>bif id.beq 2 then([0,1,2,4,5,6,3,7,8,9],[[],[0],[],[1,0,2],[],[4],[],[5,4,6,3,1,0,2],[3,1,0,2,7,5,4,6],[8,3,1,0,2,7,5,4,6]])else([],[])
def QFK (l:Rat)(a:Nat)(h:Rat)(b:Nat)(d:Int)(K:AV->Prop):Prop:=QX Qgy QYU noL Tryz.f203 [.x true [.r l a,.r h b],iA .i64 d] K
theorem QHN (l:Rat)(a:Nat)(h:Rat)(b:Nat)(d:Int)(K:AV->Prop):QFK l a h b d K=((a+b<=4294967296/\l<=h)/\(a<=1000000000/\1<=d/\d<9223372036854775808)/\∀(m:Nat),m<=a+200->(b<=1000000000/\1<=d/\d<9223372036854775808)/\∀(m_1:Nat),m_1<=b+200->K (AV.x true [Zh (VH l d.toNat) m,Zh (upR h d.toNat) m_1])):=by kernel_rfl
theorem QdT (l:Rat)(a:Nat)(h:Rat)(b:Nat)(d:Int)(hc:(a<=1000000000/\b<=1000000000)/\(l<=h)/\(1<=d/\d<9223372036854775808))(K:AV->Prop)(hK: ∀n m,n<=a+200->m<=b+200->K (.x true [.r (VH l d.toNat) n,.r (upR h d.toNat) m])):QR (QFK l a h b d K):=by
 refine⟨?_⟩;rw[QHN];try simp only[Za,R0,R1,Zc,Zd,R4,R2,R3]
 obtain⟨h1,h2,h3⟩:=hc;exact⟨⟨by omega,h2⟩,⟨by omega,h3⟩,fun n hn=>⟨⟨by omega,h3⟩,fun m hm=>hK n m hn hm⟩⟩
def QMJ:Ctr:=fun as0=>match as0 with
 | [.x true [.r l a,.r h b],.x false [.v (.int .i64 d)]]=>some fun K=>((a<=1000000000/\b<=1000000000)/\(l<=h)/\(1<=d/\d<9223372036854775808))/\(∀n m,n<=a+200->m<=b+200->K (.x true [.r (VH l d.toNat) n,.r (upR h d.toNat) m]))
 | _=>none
theorem QYV:CtrOK Tryz.prog QH QG 203 QMJ:=by
 refine⟨QK Tryz.func203 (by kernel_rfl),fun l T hT K hK=> ?_⟩;unfold QMJ at hT;split at hT
 ·cases hT
  obtain⟨hc,hK⟩:=hK;exact QJ QdS QP Tryz.func203 (by kernel_rfl) (by kernel_rfl) (by rfl) (QdT _ _ _ _ _ hc K hK)
 ·cases hT
def QdU:List (Nat×Ctr):=(203,QMJ)::QdR
noncomputable def Qgz:QU:=mkT QdU M79 X4
theorem QTh:CtrsOK Tryz.prog QH QG QdU:= .cons QYV QTg
theorem QdV:QM Tryz.prog QH QG Qgz:=Qc QTh Q6 Qk
def QTi:OT:=fun id=>bif id.beq 1 then([1,4,10,0,2,3,5,6,7,8,9,11,12],[[],[],[0,1],[2,0,1],[],[3,2,0,1,4],[2,0,1,5,3,4],[6,2,0,1,5,3,4],[7,6,2,0,1,5,3,4],[7,6,2,0,1,5,3,4],[],[10,8,7,6,2,0,1,5,3,4],[9,7,6,2,0,1,5,3,4,11,10,8]])else([],[])
def QCc (p:Rat)(a:Nat)(K:AV->Prop):Prop:=QX Qgz QTi noL Tryz.f202 [rA p a] K
theorem QD2 (p:Rat)(a:Nat)(K:AV->Prop):QCc p a K=(((-9223372036854775808:Int)<=1/\(1:Int)<9223372036854775808)/\64+a+1<=4294967296/\((-9223372036854775808:Int)<=1/\(1:Int)<9223372036854775808)/\64+a+1<=4294967296/\64+a+1+(64+a+1)<=4294967296/\(↑(1:Int)+p≠OfNat.ofNat 0->K (AV.x true [Zh ((↑(1:Int)-p)/(↑(1:Int)+p)) (64+a+1+(64+a+1))]))/\(↑(1:Int)+p=OfNat.ofNat 0->K (AV.x true [Zo (Zl false),Zo (Value.string (Zb (Zg []))),Zo (Value.string (Zb (Zg [])))]))):=by kernel_rfl
theorem QYW (p:Rat)(a:Nat)(hc:(a<=1000000000)/\(0<=p))(K:AV->Prop)(hK:K (rA (QAJ p) (64+a+1+(64+a+1)))):QR (QCc p a K):=by
 refine⟨?_⟩;rw[QD2];try simp only[Za,R0,R1,Zc,Zd,R4,R2,R3]
 exact⟨by omega,by omega,by omega,by omega,by omega,fun _=>hK,fun h=>by
  have h:(1:Rat)+p=0:=h;have:=hc.2;exfalso
  grind⟩
def QHO:Ctr:=fun as0=>match as0 with
 | [.x true [.r p a]]=>some fun K=>((a<=1000000000)/\(0<=p))/\(K (rA (QAJ p) (64+a+1+(64+a+1))))
 | _=>none
theorem QTj:CtrOK Tryz.prog QH QG 202 QHO:=by
 refine⟨QK Tryz.func202 (by kernel_rfl),fun l T hT K hK=> ?_⟩;unfold QHO at hT;split at hT
 ·cases hT
  obtain⟨hc,hK⟩:=hK;exact QJ QdV QP Tryz.func202 (by kernel_rfl) (by kernel_rfl) (by rfl) (QYW _ _ hc K hK)
 ·cases hT
def QdW:List (Nat×Ctr):=(202,QHO)::QdU
noncomputable def Qg0:QU:=mkT QdW M79 X4
theorem QTk:CtrsOK Tryz.prog QH QG QdW:= .cons QTj QTh
theorem QdX:QM Tryz.prog QH QG Qg0:=Qc QTk Q6 Qk
def QJq:OT:=fun id=>bif id.beq 3 then([0,1,2,4,5,6,3,7,8,9],[[],[],[1],[0,2,1],[],[],[5],[4,6,5,3,0,2,1],[3,0,2,1,7,4,6,5],[8,3,0,2,1,7,4,6,5]])else([],[])
def Vs (l:Rat)(a:Nat)(h:Rat)(b:Nat)(K:AV->Prop):Prop:=QX Qg0 QJq noL Tryz.f159 [.x true [.r l a,.r h b]] K
theorem Hv (l:Rat)(a:Nat)(h:Rat)(b:Nat)(K:AV->Prop):Vs l a h b K=((a+b<=1000000000/\l<=h)/\∀(s:Sp) (n m:Nat),s=QG8 (Sp.mk l h)->n<=2*(a+b)+64->m<=2*(a+b)->(m<=1000000000/\OfNat.ofNat 0<=s.hi)/\(n<=1000000000/\OfNat.ofNat 0<=s.lo)/\K (AV.x true [Zh (QAJ s.hi) (64+m+1+(64+m+1)),Zh (QAJ s.lo) (64+n+1+(64+n+1))])):=by kernel_rfl
theorem QMK (l:Rat)(a:Nat)(h:Rat)(b:Nat)(hc:(a+b<=200000000)/\(l<=h))(K:AV->Prop)(hK: ∀(s:Sp) n m,s=QCT ⟨l,h⟩->n<=4*(a+b)+400->m<=4*(a+b)+400->K (.x true [.r s.lo n,.r s.hi m])):QR (Vs l a h b K):=by
 refine⟨?_⟩;rw[Hv];try simp only[Za,R0,R1,Zc,Zd,R4,R2,R3]
 refine⟨⟨by omega,hc.2⟩,fun s n m hs hn hm=> ?_⟩;subst hs;have h0:=QNf ⟨l,h⟩;have h1:=(QJc (s:=⟨l,h⟩) (x:=l) ⟨Rat.le_refl,hc.2⟩).ok;exact⟨⟨by omega,Rat.le_trans h0 h1⟩,⟨by omega,h0⟩,hK (QCT ⟨l,h⟩) _ _ rfl (by omega) (by omega)⟩
def UE:Ctr:=fun as0=>match as0 with
 | [.x true [.r l a,.r h b]]=>some fun K=>((a+b<=200000000)/\(l<=h))/\(∀(s:Sp) n m,s=QCT ⟨l,h⟩->n<=4*(a+b)+400->m<=4*(a+b)+400->K (.x true [.r s.lo n,.r s.hi m]))
 | _=>none
theorem QJr:CtrOK Tryz.prog QH QG 159 UE:=by
 refine⟨QK Tryz.func159 (by kernel_rfl),fun l T hT K hK=> ?_⟩;unfold UE at hT;split at hT
 ·cases hT
  obtain⟨hc,hK⟩:=hK;exact QJ QdX QP Tryz.func159 (by kernel_rfl) (by kernel_rfl) (by rfl) (QMK _ _ _ _ hc K hK)
 ·cases hT
def QdY:List (Nat×Ctr):=(159,UE)::QdW
noncomputable def Qg1:QU:=mkT QdY M79 X4
theorem QTl:CtrsOK Tryz.prog QH QG QdY:= .cons QJr QTk
theorem QdZ:QM Tryz.prog QH QG Qg1:=Qc QTl Q6 Qk
end Go.Proofs
