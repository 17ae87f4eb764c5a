/- rat.whole, nat.Int, rat.Floor. -/
import Derived.Test.YtfhfenokfkenoaaGreatDoorPA
open Int renaming ofNat_eq_natCast → Za, ofNat → Ze, mul_comm → Zj, neg_mul → Zk
open ByteArray renaming mk → Zb
open Nat renaming zero_add → Zc, le_refl → Zd
open Array renaming mk → Zf
open Go.Eng.Ch renaming r → Zg
open List renaming drop → Zh, tail_cons → Zi
namespace Go.Proofs
open Go Go.Eng
theorem QXc {a d q:Int}(hd:0<d)(h1:q*d<=a)(h2:a<(q+1)*d):a/d=q:=
 Int.le_antisymm (Int.le_of_lt_add_one (Int.ediv_lt_of_lt_mul hd h2)) (Int.le_ediv_of_mul_le hd h1)
theorem QSj (n:Int):mkRat n 1=(n:Rat):=by rw[Rat.mkRat_one]
theorem QJX (p:Rat):p.floor=p.num/(p.den:Int):=Rat.floor_def p
theorem QSk {p:Rat}(h: ¬p.num<0):XJ (decide (p.num<0)) (p.num.natAbs/p.den) 1=((p.floor:Int):Rat):=by
 unfold XJ;rw[decide_eq_false h,R8,QSj,QJX];congr 1;rw[Int.natCast_ediv];congr 1;omega
theorem QPf {p:Rat}(h:p.num<0):XJ (decide (p.num<0)) (p.num.natAbs/p.den+(if p.num.natAbs % p.den=0 then 0 else 1)) 1=((p.floor:Int):Rat):=by
 unfold XJ;rw[decide_eq_true h,R7,QSj,QJX];congr 1;have hd:0<p.den:=Nat.pos_of_ne_zero p.den_nz;have e:=Nat.div_add_mod p.num.natAbs p.den;have hm:=Nat.mod_lt p.num.natAbs hd;have hk:p.num= -(p.num.natAbs:Int):=by omega
 symm;generalize p.num.natAbs=k at*;generalize p.den=d at*;rw[hk];generalize k/d=q at*;generalize k % d=r at*;have e':(d:Int)*q+r=k:=by exact_mod_cast e
 refine QXc (by omega) ?_ ?_
 ·split
  ·have: -((q+0:Nat):Int)*(d:Int)= -((d:Int)*q):=by rw[Nat.add_zero,Zk,Zj]
   rw[this];omega
  ·have: -((q+1:Nat):Int)*(d:Int)= -((d:Int)*q)-d:=by rw[Zk,Int.natCast_add,Int.add_mul,Zj (q:Int)];omega
   rw[this];omega
 ·split
  ·have:(-((q+0:Nat):Int)+1)*(d:Int)= -((d:Int)*q)+d:=by rw[Nat.add_zero,Int.add_mul,Zk,Zj (q:Int)];omega
   rw[this];omega
  ·have:(-((q+1:Nat):Int)+1)*(d:Int)= -((d:Int)*q):=by
    have: -((q+1:Nat):Int)+1= -(q:Int):=by omega
    rw[this,Zk,Zj]
   rw[this];omega
def QPg:OT:=fun _=>([],[])
def QAB (p:Rat)(a:Nat)(K:AV->Prop):Prop:=QS T49 QPg noL Tryz.f202 [rA p a] K
theorem QCg (p:Rat)(a:Nat)(K:AV->Prop):QAB p a K=((a<=549755813888/\a<=549755813888)/\bif decide (p.num<0)then bif !decide (QA (bif decide (p.den=0)then 0 else p.num.natAbs%p.den)=(Zb #[]).data.toList)then(a<=549755813888/\8<=549755813888)/\((max a 8+1<=4294967296/\8<=4294967296)/\1≠0)/\K (AV.x true [Zg (XJ (decide (p.num<0)) (p.num.natAbs/p.den+1) 1) (max (max a 8+1) 8)])else((a<=4294967296/\8<=4294967296)/\1≠0)/\K (AV.x true [Zg (XJ (decide (p.num<0)) (p.num.natAbs/p.den) 1) (max a 8)])else((a<=4294967296/\8<=4294967296)/\1≠0)/\K (AV.x true [Zg (XJ (decide (p.num<0)) (p.num.natAbs/p.den) 1) (max a 8)])):=by kernel_rfl
theorem QSl (p:Rat)(a:Nat)(hc:(a<=2000000000))(K:AV->Prop)(hK: ∀m,m<=a+16->K (rA ((p.floor:Int):Rat) m)):QO (QAB p a K):=by
 refine⟨?_⟩;rw[QCg];try simp only[Za,R0,R1,Zc,Zd,R4,R2,R3]
 have hd:p.den≠0:=p.den_nz;rw[decide_eq_false hd,R8];refine⟨by omega,QG (fun h=> ?_) (fun h=> ?_)⟩
 ·have h:=R5 h;have e:=QPf h;refine QG (fun h2=>⟨by omega,by omega,?_⟩) (fun h2=>⟨by omega,?_⟩)
  ·have h2: ¬QA (p.num.natAbs % p.den)=[]:=by simpa using h2
   rw[if_neg (fun e=>h2 (Qj.2 e))]at e;rw[e];exact hK _ (by omega)
  ·have h2:QA (p.num.natAbs % p.den)=[]:=by simpa using h2
   rw[if_pos (Qj.1 h2),Nat.add_zero]at e;rw[e];exact hK _ (by omega)
 ·refine⟨by omega,?_⟩;rw[QSk (R6 h)];exact hK _ (by omega)
def HK:Ctr
 | [.x true [.r p a]]=>some fun K=>((a<=2000000000))/\(∀m,m<=a+16->K (rA ((p.floor:Int):Rat) m))
 | _=>none
theorem QPh:QI 202 HK:=by
 refine⟨QK Tryz.func202 (by kernel_rfl),fun l T hT K hK=> ?_⟩;unfold HK at hT;split at hT
 ·cases hT
  obtain⟨hc,hK⟩:=hK;exact QF QZ2 QP Tryz.func202 (by kernel_rfl) (by kernel_rfl) (by rfl) (QSl _ _ hc K hK)
 ·cases hT
def Qhf:List (Nat×Ctr):=(202,HK)::L49
def Qhg:List (Nat×Ctr):=Qhf
def Qhh:List (Nat×Ctr):=Qhg
noncomputable def Qh2:QR:=mkT Qhh M48 X4
end Go.Proofs
namespace Go.Proofs
open Go Go.Eng
theorem QL9 {w:World}{O:Nat->Prop}{ρ:Env}{m n:Nat}{v:Value}(h:ConcV w O ρ (.x true [.v (.bool false),.b m n,.v (.string ⟨⟨[1]⟩⟩)]) v):ConcV w O ρ (.x true [.r (m:Rat) (n+1)]) v:=by
 obtain⟨vals,h1,h2⟩:=h;cases h1 with
 | v _ h1=>cases h1 with
  | b hm h1=>cases h1 with
   | v _ h1=>
    cases h1
    refine⟨_,?_,h2⟩;have hn:((m:Nat):Rat).num=m:=rfl;have hd:((m:Nat):Rat).den=1:=rfl;have e:[Value.bool false,JA (QA m),Value.string ⟨⟨[1]⟩⟩]=[QDP (m:Rat),QHt (m:Rat),QHu (m:Rat)]:=by
     unfold QDP QHt QHu;rw[hn,hd];have:decide ((m:Int)<0)=false:=decide_eq_false (by omega);rw[this];rfl
    rw[e];refine .r ⟨?_,?_⟩ .nil
    ·rw[hn];have:2^n<=2^(n+1):=Nat.pow_le_pow_right (by decide) (by omega);show(m:Int).natAbs<_;rw[Int.natAbs_natCast];omega
    ·rw[hd];exact Nat.one_lt_two_pow (by omega)
def QHF:Ctr:=fun as0=>match as0 with
 | [.x true [.r p a],.x true [.v (.bool false),.b m n,.v (.string ⟨⟨[1]⟩⟩)]]=>some fun K=>a+n+1<=4294967296/\K (rA (p*(m:Rat)) (a+n+1))
 | as0=>QGe as0
theorem QSm:QI 88 QHF:=by
 refine⟨ok_rMul.enter,fun l T hT K hK=> ?_⟩;unfold QHF at hT;split at hT
 ·rename_i p a m n;cases hT
  refine Eng.Spec.args (ok_rMul.sound [.x true [.r p a],.x true [.r (m:Rat) (n+1)]] _ rfl K hK) fun w O vals hc=> ?_
  cases hc with
  | cons h1 h2=>cases h2 with
   | cons h2 h3=>exact .cons h1 (.cons (QL9 h2) h3)
 ·exact ok_rMul.sound _ T hT K hK
def Qf4:List (Nat×Ctr):=(88,QHF)::L95
theorem QcN:QH Qf4:= .cons QSm QaK
def QcO:List (Nat×Ctr):=(202,HK)::Qf4
noncomputable def Qf5:QR:=mkT QcO M79 X4
theorem QSn:QH QcO:= .cons QPh QcN
theorem QcP:QJ Qf5:=QU QSn XE Ql
def QSo:OT:=fun _=>([],[])
def QCh (p:Rat)(a:Nat)(d:Int)(K:AV->Prop):Prop:=QS Qf5 QSo noL Tryz.f231 [rA p a,iA .i64 d] K
theorem QDz (p:Rat)(a:Nat)(d:Int)(K:AV->Prop):QCh p a d K=((bif true then if(1:Int)>d then(1:Int)else d else if(1:Int)<d then(1:Int)else d)<(9223372036854775808:Int)/\a+(63:Nat)+(1:Nat)<=(4294967296:Nat)/\a+(63:Nat)+(1:Nat)<=(2000000000:Nat)/\∀(m:Nat),m<=a+(63:Nat)+(1:Nat)+(16:Nat)->((m<=(4294967296:Nat)/\(63:Nat)<=(4294967296:Nat))/\Int.toNat (bif true then if(1:Int)>d then(1:Int)else d else if(1:Int)<d then(1:Int)else d)≠(0:Nat))/\K (AV.x true [Zg (XJ (decide (Rat.num ↑(Rat.floor (p*↑(Int.toNat (bif true then if(1:Int)>d then(1:Int)else d else if(1:Int)<d then(1:Int)else d))))<(0:Int))) (Int.natAbs (Rat.num ↑(Rat.floor (p*↑(Int.toNat (bif true then if(1:Int)>d then(1:Int)else d else if(1:Int)<d then(1:Int)else d)))))) (Int.toNat (bif true then if(1:Int)>d then(1:Int)else d else if(1:Int)<d then(1:Int)else d))) (max m (63:Nat))])):=by kernel_rfl
theorem QXd (p:Rat)(a:Nat)(d:Int)(hc:(a<=1000000000)/\(1<=d/\d<9223372036854775808))(K:AV->Prop)(hK: ∀m,m<=a+200->K (rA (Vk p d.toNat) m)):QO (QCh p a d K):=by
 refine⟨?_⟩;rw[QDz];try simp only[Za,R0,R1,Zc,Zd,R4,R2,R3]
 have e:(bif true then if 1>d then 1 else d else if 1<d then 1 else d)=d:=by
  show(if 1>d then 1 else d)=d
  rw[if_neg (by omega)]
 rw[e];refine⟨by omega,by omega,by omega,fun m hm=>⟨by omega,?_⟩⟩;have e2: ∀f:Int,XJ (decide (((f:Int):Rat).num<0)) ((f:Int):Rat).num.natAbs d.toNat=mkRat f d.toNat:=fun f=>by
  rw[Rat.num_intCast];unfold XJ;by_cases h:f<0
  ·rw[decide_eq_true h,R7];congr 1;omega
  ·rw[decide_eq_false h,R8];congr 1;omega
 rw[e2];exact hK _ (by omega)
def QHG:Ctr
 | [.x true [.r p a],.x false [.v (.int .i64 d)]]=>some fun K=>((a<=1000000000)/\(1<=d/\d<9223372036854775808))/\(∀m,m<=a+200->K (rA (Vk p d.toNat) m))
 | _=>none
theorem QSp:QI 231 QHG:=by
 refine⟨QK Tryz.func231 (by kernel_rfl),fun l T hT K hK=> ?_⟩;unfold QHG at hT;split at hT
 ·cases hT
  obtain⟨hc,hK⟩:=hK;exact QF QcP QP Tryz.func231 (by kernel_rfl) (by kernel_rfl) (by rfl) (QXd _ _ _ hc K hK)
 ·cases hT
def QcQ:List (Nat×Ctr):=(231,QHG)::QcO
noncomputable def Qf6:QR:=mkT QcQ M79 X4
theorem QSq:QH QcQ:= .cons QSp QSn
theorem QcR:QJ Qf6:=QU QSq XE Ql
def QcS:OT:=fun _=>([],[])
def QJY (p:Rat)(a:Nat)(d:Int)(K:AV->Prop):Prop:=QS Qf6 QcS noL Tryz.f232 [rA p a,iA .i64 d] K
theorem QJZ (p:Rat)(a:Nat)(d:Int)(K:AV->Prop):QJY p a d K=(a<=4294967296/\(a<=1000000000/\1<=d/\d<9223372036854775808)/\∀(m:Nat),m<=a+200->m<=4294967296/\K (AV.x true [Zg (-Vk (-p) d.toNat) m])):=by kernel_rfl
theorem Qf7 (p:Rat)(a:Nat)(d:Int)(hc:(a<=1000000000)/\(1<=d/\d<9223372036854775808))(K:AV->Prop)(hK: ∀m,m<=a+200->K (rA (upR p d.toNat) m)):QO (QJY p a d K):=by
 refine⟨?_⟩;rw[QJZ];try simp only[Za,R0,R1,Zc,Zd,R4,R2,R3]
 exact⟨by omega,by omega,fun m hm=>⟨by omega,hK m hm⟩⟩
def QSr:Ctr
 | [.x true [.r p a],.x false [.v (.int .i64 d)]]=>some fun K=>((a<=1000000000)/\(1<=d/\d<9223372036854775808))/\(∀m,m<=a+200->K (rA (upR p d.toNat) m))
 | _=>none
theorem QcT:QI 232 QSr:=by
 refine⟨QK Tryz.func232 (by kernel_rfl),fun l T hT K hK=> ?_⟩;unfold QSr at hT;split at hT
 ·cases hT
  obtain⟨hc,hK⟩:=hK;exact QF QcR QP Tryz.func232 (by kernel_rfl) (by kernel_rfl) (by rfl) (Qf7 _ _ _ hc K hK)
 ·cases hT
def QcU:List (Nat×Ctr):=(232,QSr)::QcQ
noncomputable def Qf8:QR:=mkT QcU M79 X4
theorem QSs:QH QcU:= .cons QcT QSq
theorem QcV:QJ Qf8:=QU QSs XE Ql
def QSt:OT:=fun _=>([],[])
def QCi (l:Rat)(a:Nat)(h:Rat)(b:Nat)(K:AV->Prop):Prop:=QS Qf8 QSt noL Tryz.f153 [.x true [.r l a,.r h b]] K
theorem QD0 (l:Rat)(a:Nat)(h:Rat)(b:Nat)(K:AV->Prop):QCi l a h b K=(a<=4294967296/\b<=4294967296/\a+b<=4294967296/\K (AV.x false [Ch.v (Value.bool (decide (JX l h<=0)))])):=by kernel_rfl
theorem QXe (l:Rat)(a:Nat)(h:Rat)(b:Nat)(hc:(a+b<=4294967296)/\(l<=h))(K:AV->Prop)(hK:K (.x false [.v (.bool true)])):QO (QCi l a h b K):=by
 refine⟨?_⟩;rw[QD0];try simp only[Za,R0,R1,Zc,Zd,R4,R2,R3]
 rw[decide_eq_true ((JS l h).2 hc.2)];exact⟨by omega,by omega,hc.1,hK⟩
def QHH:Ctr
 | [.x true [.r l a,.r h b]]=>some fun K=>((a+b<=4294967296)/\(l<=h))/\(K (.x false [.v (.bool true)]))
 | _=>none
theorem QSu:QI 153 QHH:=by
 refine⟨QK Tryz.func153 (by kernel_rfl),fun l T hT K hK=> ?_⟩;unfold QHH at hT;split at hT
 ·cases hT
  obtain⟨hc,hK⟩:=hK;exact QF QcV QP Tryz.func153 (by kernel_rfl) (by kernel_rfl) (by rfl) (QXe _ _ _ _ hc K hK)
 ·cases hT
def QcW:List (Nat×Ctr):=(153,QHH)::QcU
noncomputable def Qf9:QR:=mkT QcW M79 X4
theorem QSv:QH QcW:= .cons QSu QSs
theorem QcX:QJ Qf9:=QU QSv XE Ql
def QXf:OT:=fun _=>([],[])
def QFL (l:Rat)(a:Nat)(h:Rat)(b:Nat)(K:AV->Prop):Prop:=QS Qf9 QXf noL Tryz.f96 [.x true [.r l a,.r h b]] K
theorem QHI (l:Rat)(a:Nat)(h:Rat)(b:Nat)(K:AV->Prop):QFL l a h b K=((a+b<=4294967296/\l<=h)/\K (AV.x true [Zg l a,Zg h b])):=by kernel_rfl
theorem QcY (l:Rat)(a:Nat)(h:Rat)(b:Nat)(hc:(a+b<=4294967296)/\(l<=h))(K:AV->Prop)(hK:K (.x true [.r l a,.r h b])):QO (QFL l a h b K):=by
 refine⟨?_⟩;rw[QHI];try simp only[Za,R0,R1,Zc,Zd,R4,R2,R3]
 exact⟨hc,hK⟩
def QMA:Ctr
 | [.x true [.r l a,.r h b]]=>some fun K=>((a+b<=4294967296)/\(l<=h))/\(K (.x true [.r l a,.r h b]))
 | _=>none
theorem QXg:QI 96 QMA:=by
 refine⟨QK Tryz.func96 (by kernel_rfl),fun l T hT K hK=> ?_⟩;unfold QMA at hT;split at hT
 ·cases hT
  obtain⟨hc,hK⟩:=hK;exact QF QcX QP Tryz.func96 (by kernel_rfl) (by kernel_rfl) (by rfl) (QcY _ _ _ _ hc K hK)
 ·cases hT
def QcZ:List (Nat×Ctr):=(96,QMA)::QcW
noncomputable def QgA:QR:=mkT QcZ M79 X4
theorem QSw:QH QcZ:= .cons QXg QSv
theorem Qca:QJ QgA:=QU QSw XE Ql
def Qcb:OT:=fun _=>([],[])
def QJa (p:Rat)(a:Nat)(K:AV->Prop):Prop:=QS QgA Qcb noL Tryz.f154 [rA p a] K
theorem QJb (p:Rat)(a:Nat)(K:AV->Prop):QJa p a K=(a+a<=4294967296/\K (AV.x true [Zg (Qm p p) (max a a),Zg (Qm p p) (max a a)])):=by kernel_rfl
theorem QgB (p:Rat)(a:Nat)(hc:(a<=2000000000))(K:AV->Prop)(hK:K (.x true [.r p a,.r p a])):QO (QJa p a K):=by
 refine⟨?_⟩;rw[QJb];try simp only[Za,R0,R1,Zc,Zd,R4,R2,R3]
 rw[X8,Nat.max_self];exact⟨by omega,hK⟩
def QSx:Ctr
 | [.x true [.r p a]]=>some fun K=>((a<=2000000000))/\(K (.x true [.r p a,.r p a]))
 | _=>none
theorem Qcc:QI 154 QSx:=by
 refine⟨QK Tryz.func154 (by kernel_rfl),fun l T hT K hK=> ?_⟩;unfold QSx at hT;split at hT
 ·cases hT
  obtain⟨hc,hK⟩:=hK;exact QF Qca QP Tryz.func154 (by kernel_rfl) (by kernel_rfl) (by rfl) (QgB _ _ hc K hK)
 ·cases hT
def Qcd:List (Nat×Ctr):=(154,QSx)::QcZ
noncomputable def QgC:QR:=mkT Qcd M79 X4
theorem QSy:QH Qcd:= .cons Qcc QSw
theorem Qce:QJ QgC:=QU QSy XE Ql
def QXh:OT:=fun id=>bif id.beq 1 then([0,2,1,3,4,5],[[],[0],[],[2,1,0],[1,0,3,2],[3,2,1,0,4]])else bif id.beq 2 then([0,1,2,3,5,6,7,8,4,9,10,11],[[],[0],[],[2],[1,0,3,2],[],[5],[],[7],[6,5,8,7,4,1,0,3,2],[4,1,0,3,2,9,6,5,8,7],[10,4,1,0,3,2,9,6,5,8,7]])else([],[])
def QFM (l:Rat)(a:Nat)(h:Rat)(b:Nat)(m:Rat)(c:Nat)(k:Rat)(d:Nat)(K:AV->Prop):Prop:=QS QgC QXh noL Tryz.f160 [.x true [.r l a,.r h b],.x true [.r m c,.r k d]] K
theorem QHJ (l:Rat)(a:Nat)(h:Rat)(b:Nat)(m:Rat)(c:Nat)(k:Rat)(d:Nat)(K:AV->Prop):QFM l a h b m c k d K=((a+b<=4294967296/\l<=h)/\(c+d<=4294967296/\m<=k)/\a+c+1<=4294967296/\b+d+1<=4294967296/\K (AV.x true [Zg (l+m) (a+c+1),Zg (h+k) (b+d+1)])):=by kernel_rfl
theorem Qcf (l:Rat)(a:Nat)(h:Rat)(b:Nat)(m:Rat)(c:Nat)(k:Rat)(d:Nat)(hc:(a+b+c+d<=4294967290)/\(l<=h/\m<=k))(K:AV->Prop)(hK:K (.x true [.r (l+m) (a+c+1),.r (h+k) (b+d+1)])):QO (QFM l a h b m c k d K):=by
 refine⟨?_⟩;rw[QHJ];try simp only[Za,R0,R1,Zc,Zd,R4,R2,R3]
 obtain⟨h1,h2,h3⟩:=hc;exact⟨⟨by omega,h2⟩,⟨by omega,h3⟩,by omega,by omega,hK⟩
def QMB:Ctr
 | [.x true [.r l a,.r h b],.x true [.r m c,.r k d]]=>some fun K=>((a+b+c+d<=4294967290)/\(l<=h/\m<=k))/\(K (.x true [.r (l+m) (a+c+1),.r (h+k) (b+d+1)]))
 | _=>none
theorem QXi:QI 160 QMB:=by
 refine⟨QK Tryz.func160 (by kernel_rfl),fun l T hT K hK=> ?_⟩;unfold QMB at hT;split at hT
 ·cases hT
  obtain⟨hc,hK⟩:=hK;exact QF Qce QP Tryz.func160 (by kernel_rfl) (by kernel_rfl) (by rfl) (Qcf _ _ _ _ _ _ _ _ hc K hK)
 ·cases hT
def Qcg:List (Nat×Ctr):=(160,QMB)::Qcd
noncomputable def QgD:QR:=mkT Qcg M79 X4
theorem QSz:QH Qcg:= .cons QXi QSy
theorem Qch:QJ QgD:=QU QSz XE Ql
def QXj:OT:=fun id=>bif id.beq 1 then([0,2,1,3,4,5],[[],[0],[],[2,1,0],[1,0,3,2],[3,2,1,0,4]])else bif id.beq 2 then([0,1,2,3,5,6,7,8,4,9,10,11],[[],[0],[],[2],[1,0,3,2],[],[5],[],[7],[6,5,8,7,4,1,0,3,2],[4,1,0,3,2,9,6,5,8,7],[10,4,1,0,3,2,9,6,5,8,7]])else([],[])
def QFN (l:Rat)(a:Nat)(h:Rat)(b:Nat)(m:Rat)(c:Nat)(k:Rat)(d:Nat)(K:AV->Prop):Prop:=QS QgD QXj noL Tryz.f158 [.x true [.r l a,.r h b],.x true [.r m c,.r k d]] K
theorem QHK (l:Rat)(a:Nat)(h:Rat)(b:Nat)(m:Rat)(c:Nat)(k:Rat)(d:Nat)(K:AV->Prop):QFN l a h b m c k d K=((a+b<=4294967296/\l<=h)/\(c+d<=4294967296/\m<=k)/\a+d+1<=4294967296/\b+c+1<=4294967296/\K (AV.x true [Zg (l-k) (a+d+1),Zg (h-m) (b+c+1)])):=by kernel_rfl
theorem Qci (l:Rat)(a:Nat)(h:Rat)(b:Nat)(m:Rat)(c:Nat)(k:Rat)(d:Nat)(hc:(a+b+c+d<=4294967290)/\(l<=h/\m<=k))(K:AV->Prop)(hK:K (.x true [.r (l-k) (a+d+1),.r (h-m) (b+c+1)])):QO (QFN l a h b m c k d K):=by
 refine⟨?_⟩;rw[QHK];try simp only[Za,R0,R1,Zc,Zd,R4,R2,R3]
 obtain⟨h1,h2,h3⟩:=hc;exact⟨⟨by omega,h2⟩,⟨by omega,h3⟩,by omega,by omega,hK⟩
def QMC:Ctr
 | [.x true [.r l a,.r h b],.x true [.r m c,.r k d]]=>some fun K=>((a+b+c+d<=4294967290)/\(l<=h/\m<=k))/\(K (.x true [.r (l-k) (a+d+1),.r (h-m) (b+c+1)]))
 | _=>none
theorem QXk:QI 158 QMC:=by
 refine⟨QK Tryz.func158 (by kernel_rfl),fun l T hT K hK=> ?_⟩;unfold QMC at hT;split at hT
 ·cases hT
  obtain⟨hc,hK⟩:=hK;exact QF Qch QP Tryz.func158 (by kernel_rfl) (by kernel_rfl) (by rfl) (Qci _ _ _ _ _ _ _ _ hc K hK)
 ·cases hT
def Qcj:List (Nat×Ctr):=(158,QMC)::Qcg
noncomputable def QgE:QR:=mkT Qcj M79 X4
theorem QS0:QH Qcj:= .cons QXk QSz
theorem Qck:QJ QgE:=QU QS0 XE Ql
structure AdX where
 lo:Rat
 hi:Rat
 i:Nat
def YM (f:Rat->Rat->Rat)(ps:List (Rat×Nat))(q:Rat):Rat:=(ps.map (·.1)).foldl f q
def hdR (l:List (Rat×Nat)):Rat:=match l with
 | []=>0
 | p::_=>p.1
def QJc (l:List (Rat×Nat))(N:Nat):LI:=fun _=> .inv ⟨AdX,fun x=>⟨[(2,.x false [.p 2 0]),(3,.x false [.p 3 0]),(11,.x false [.s 3 (lRb l.tail)]),(12,iA .i64 l.tail.length),(13,iA .i64 x.i)],[(2,.box 86 (Jw++Jw)),(3,.box 86 [.r x.lo N,.r x.hi N])]⟩,
 fun x=>YM Qm (l.tail.drop x.i) x.lo=YM Qm l.tail (hdR l)/\YM Qz (l.tail.drop x.i) x.hi=YM Qz l.tail (hdR l)/\x.i<=l.tail.length,fun x=>l.tail.length-x.i,fun _=>0⟩
def QMD:OT:=fun id=>bif id.beq 5 then([0,1,2,4,5,6,3,8,7,9,10,11],[[],[0],[],[1,0,2],[],[4],[],[5,4,6,3,1,0,2],[0,1,2,3,4,5],[8,0,1,2,3,4,5,7,6],[0,1,2,3,4,5,6,7,8,9],[10,0,1,2,3,4,5,6,7,8,9]])else([],[])
def HL (l:List (Rat×Nat))(N:Nat)(K:AV->Prop):Prop:=QS QgE QMD (QJc l N) Tryz.f201 [.x false [.s 3 (lRb l)]] K
theorem QAa (l:List (Rat×Nat))(N:Nat)(K:AV->Prop):HL l N K=(((0:Int)<=0/\0<Ze (lRb l).length)/\∃(q:Rat)(n:Nat),ldE (lRb l) 0 0 3=some [Zg q n]/\n<=2000000000/\((0:Int)<=1/\1<=Ze (lRb l).length/\Ze (lRb l).length<=Ze (lRb l).length)/\(∃(x:AdX),((YM Qm (Zh x.i l.tail) x.lo=YM Qm l.tail (hdR l)/\YM Qz (Zh x.i l.tail) x.hi=YM Qz l.tail (hdR l)/\x.i<=l.tail.length)/\OfNat.ofNat 0=0)/\0=0/\0=0/\3=3/\List.take ((Ze (lRb l).length).toNat-1) (Zh 1 (lRb l))=lRb l.tail/\Ze (List.take ((Ze (lRb l).length).toNat-1) (Zh 1 (lRb l))).length=Ze l.tail.length/\0=Ze x.i/\86=86/\false=false/\Zb (Zf [])=Zb (Zf [])/\Zb (Zf [])=Zb (Zf [])/\false=false/\Zb (Zf [])=Zb (Zf [])/\Zb (Zf [])=Zb (Zf [])/\86=86/\q=x.lo/\n<=N/\q=x.hi/\n<=N/\True)/\∀(x:AdX),YM Qm (Zh x.i l.tail) x.lo=YM Qm l.tail (hdR l)/\YM Qz (Zh x.i l.tail) x.hi=YM Qz l.tail (hdR l)/\x.i<=l.tail.length->OfNat.ofNat 0=0->bif decide (Ze x.i<Ze l.tail.length)then(0<=Ze x.i/\Ze x.i<Ze (lRb l.tail).length)/\∃(q:Rat)(n:Nat),ldE (lRb l.tail) (Ze x.i).toNat 0 3=some [Zg q n]/\N+n<=4294967296/\N+n<=4294967296/\∃(x':AdX),((YM Qm (Zh x'.i l.tail) x'.lo=YM Qm l.tail (hdR l)/\YM Qz (Zh x'.i l.tail) x'.hi=YM Qz l.tail (hdR l)/\x'.i<=l.tail.length)/\OfNat.ofNat 0=0/\l.tail.length-x'.i<l.tail.length-x.i)/\0=0/\0=0/\3=3/\lRb l.tail=lRb l.tail/\Ze l.tail.length=Ze l.tail.length/\IntKind.i64.wrap (Ze x.i+1)=Ze x'.i/\86=86/\false=false/\Zb (Zf [])=Zb (Zf [])/\Zb (Zf [])=Zb (Zf [])/\false=false/\Zb (Zf [])=Zb (Zf [])/\Zb (Zf [])=Zb (Zf [])/\86=86/\Qm x.lo q=x'.lo/\max N n<=N/\Qz x.hi q=x'.hi/\max N n<=N/\True else K (AV.x true [Zg x.lo N,Zg x.hi N])):=by kernel_rfl
theorem QPi (l:List (Rat×Nat))(N:Nat)(hc:(l≠[]/\l.length<=100/\N<=2000000000)/\(∀p∈l,p.2<=N))(K:AV->Prop)(hK:K (.x true [.r (YM Qm l.tail (hdR l)) N,.r (YM Qz l.tail (hdR l)) N])):QO (HL l N K):=by
 refine⟨?_⟩;rw[QAa];try simp only[Za,R0,R1,Zc,Zd,R4,R2,R3]
 obtain⟨⟨h0,hl,hN⟩,hb⟩:=hc;obtain⟨p0,ps,rfl⟩: ∃p ps,l=p::ps:=by
  cases l with
  | nil=>exact absurd rfl h0
  | cons p ps=>exact⟨p,ps,rfl⟩
 have hb0:=hb p0 (by simp);have hl':ps.length+1<=100:=hl;have ll:(lRb (p0::ps)).length=ps.length+1:=by simp[lRb]
 rw[ll];have e2:List.take ((((ps.length+1:Nat):Int)).toNat-1) (Zh 1 (lRb (p0::ps)))=lRb ps:=by
  rw[Int.toNat_natCast,Nat.add_sub_cancel];exact List.take_of_length_le (by simp[lRb])
 have lps:(lRb ps).length=ps.length:=by simp[lRb]
 refine⟨by omega,p0.1,p0.2,rfl,by omega,by omega,⟨⟨p0.1,p0.1,0⟩,⟨rfl,rfl,by simp⟩,e2,by rw[e2,lps];rfl,rfl,rfl,hb0,rfl,hb0⟩,fun x hx=>QG (fun hp=> ?_) (fun hp=> ?_)⟩
 ·have hp:x.i<ps.length:=by have:=R5 hp;simp only[Zi]at this;omega
  obtain⟨p,hpp⟩: ∃p,ps[x.i]? =some p:=⟨_,List.getElem?_eq_getElem hp⟩
  obtain⟨e1,e3,hxi⟩:=hx;simp only[Zi]at e1 e3 hxi⊢;have hd:ps.drop x.i=p::ps.drop (x.i+1):=by
   rw[List.drop_eq_getElem_cons hp];rw[List.getElem?_eq_getElem hp]at hpp;rw[Option.some.inj hpp]
  rw[hd]at e1 e3;have hbp:=hb p (by simp[List.mem_of_getElem? hpp]);exact⟨by rw[lps];omega,p.1,p.2,by simp only[ldE,lRb,List.getElem?_map,Int.toNat_natCast,hpp];rfl,by omega,by omega,⟨_,_,x.i+1⟩,⟨⟨e1,e3,hp⟩,by simp only;omega⟩,by rw[w64 (by omega)];simp,rfl,by omega,rfl,by omega⟩
 ·have hp:x.i=ps.length:=by have:=R6 hp;have:=hx.2.2;simp only[Zi]at*;omega
  obtain⟨e1,e3,hxi⟩:=hx;simp only[Zi]at e1 e3 hK;rw[hp,List.drop_length]at e1 e3;have e1:x.lo=_:=e1;have e3:x.hi=_:=e3;rw[e1,e3];exact hK
def GP:Ctr
 | [.x false [.s 3 xs]]=>some fun K=> ∃(l:List (Rat×Nat)) (N:Nat),xs=lRb l/\((l≠[]/\l.length<=100/\N<=2000000000)/\(∀p∈l,p.2<=N))/\(K (.x true [.r (YM Qm l.tail (hdR l)) N,.r (YM Qz l.tail (hdR l)) N]))
 | _=>none
theorem QME:QI 201 GP:=by
 refine⟨QK Tryz.func201 (by kernel_rfl),fun l T hT K hK=> ?_⟩;unfold GP at hT;split at hT
 ·cases hT
  obtain⟨l,N,rfl,hc,hK⟩:=hK;exact QF Qck QP Tryz.func201 (by kernel_rfl) (by kernel_rfl) (by rfl) (QPi _ _ hc K hK)
 ·cases hT
def Qcl:List (Nat×Ctr):=(201,GP)::Qcj
noncomputable def QgF:QR:=mkT Qcl M79 X4
theorem QS1:QH Qcl:= .cons QME QS0
theorem Qcm:QJ QgF:=QU QS1 XE Ql
def QXl:OT:=fun id=>bif id.beq 1 then([0,2,1,3,4,5],[[],[0],[],[2,1,0],[1,0,3,2],[3,2,1,0,4]])else bif id.beq 2 then([0,1,2,3,5,6,7,8,10,11,12,13,15,16,17,18,4,9,14,19,20,21,22],[[],[0],[],[2],[1,0,3,2],[],[5],[],[7],[6,5,8,7,4,1,0,3,2],[],[10],[],[12],[11,10,13,12,9,6,5,8,7,4,1,0,3,2],[],[15],[],[17],[16,15,18,17,14,11,10,13,12,9,6,5,8,7,4,1,0,3,2],[4,1,0,3,2,9,6,5,8,7,14,11,10,13,12,19,16,15,18,17],[20,4,1,0,3,2,9,6,5,8,7,14,11,10,13,12,19,16,15,18,17],[21,20,4,1,0,3,2,9,6,5,8,7,14,11,10,13,12,19,16,15,18,17]])else([],[])
def QFO (l:Rat)(a:Nat)(h:Rat)(b:Nat)(m:Rat)(c:Nat)(k:Rat)(d:Nat)(K:AV->Prop):Prop:=QS QgF QXl noL Tryz.f159 [.x true [.r l a,.r h b],.x true [.r m c,.r k d]] K
theorem QHL (l:Rat)(a:Nat)(h:Rat)(b:Nat)(m:Rat)(c:Nat)(k:Rat)(d:Nat)(K:AV->Prop):QFO l a h b m c k d K=((a+b<=4294967296/\l<=h)/\(c+d<=4294967296/\m<=k)/\a+c<=4294967296/\a+d<=4294967296/\b+c<=4294967296/\b+d<=4294967296/\∃(l_1:List (Rat×Nat))(N:Nat),[[Zg (l*m) (a+c)],[Zg (l*k) (a+d)],[Zg (h*m) (b+c)],[Zg (h*k) (b+d)]]=lRb l_1/\((l_1≠[]/\l_1.length<=100/\N<=2000000000)/\∀(p:Rat×Nat),p∈l_1->p.snd<=N)/\K (AV.x true [Zg (YM Qm l_1.tail (hdR l_1)) N,Zg (YM Qz l_1.tail (hdR l_1)) N])):=by kernel_rfl
theorem Qcn (l:Rat)(a:Nat)(h:Rat)(b:Nat)(m:Rat)(c:Nat)(k:Rat)(d:Nat)(hc:(a+b+c+d<=2000000000)/\(l<=h/\m<=k))(K:AV->Prop)(hK: ∀(s:Sp) n,s=Jm ⟨l,h⟩ ⟨m,k⟩->n<=max a b+max c d->K (.x true [.r s.lo n,.r s.hi n])):QO (QFO l a h b m c k d K):=by
 refine⟨?_⟩;rw[QHL];try simp only[Za,R0,R1,Zc,Zd,R4,R2,R3]
 obtain⟨h1,h2,h3⟩:=hc;refine⟨⟨by omega,h2⟩,⟨by omega,h3⟩,by omega,by omega,by omega,by omega,[(l*m,a+c),(l*k,a+d),(h*m,b+c),(h*k,b+d)],max a b+max c d,rfl,⟨⟨by simp,by simp,by omega⟩,fun p hp=> ?_⟩,hK _ _ rfl (Zd _)⟩;simp only[List.mem_cons,List.not_mem_nil,or_false]at hp;rcases hp with rfl | rfl | rfl | rfl<;>simp only<;>omega
def QMF:Ctr
 | [.x true [.r l a,.r h b],.x true [.r m c,.r k d]]=>some fun K=>((a+b+c+d<=2000000000)/\(l<=h/\m<=k))/\(∀(s:Sp) n,s=Jm ⟨l,h⟩ ⟨m,k⟩->n<=max a b+max c d->K (.x true [.r s.lo n,.r s.hi n]))
 | _=>none
theorem QXm:QI 159 QMF:=by
 refine⟨QK Tryz.func159 (by kernel_rfl),fun l T hT K hK=> ?_⟩;unfold QMF at hT;split at hT
 ·cases hT
  obtain⟨hc,hK⟩:=hK;exact QF Qcm QP Tryz.func159 (by kernel_rfl) (by kernel_rfl) (by rfl) (Qcn _ _ _ _ _ _ _ _ hc K hK)
 ·cases hT
def Qco:List (Nat×Ctr):=(159,QMF)::Qcl
noncomputable def QgG:QR:=mkT Qco M79 X4
theorem QS2:QH Qco:= .cons QXm QS1
theorem Qcp:QJ QgG:=QU QS2 XE Ql
def QS3:OT:=fun id=>bif id.beq 1 then([0,2,1,3,4,5],[[],[0],[],[2,1,0],[1,0,3,2],[3,2,1,0,4]])else bif id.beq 2 then([0,1,2,3,5,6,7,8,4,9,10,11],[[],[0],[],[2],[1,0,3,2],[],[5],[],[7],[6,5,8,7,4,1,0,3,2],[4,1,0,3,2,9,6,5,8,7],[10,4,1,0,3,2,9,6,5,8,7]])else([],[])
def QCj (l:Rat)(a:Nat)(h:Rat)(b:Nat)(m:Rat)(c:Nat)(k:Rat)(d:Nat)(K:AV->Prop):Prop:=QS QgG QS3 noL Tryz.f112 [.x true [.r l a,.r h b],.x true [.r m c,.r k d]] K
theorem QD1 (l:Rat)(a:Nat)(h:Rat)(b:Nat)(m:Rat)(c:Nat)(k:Rat)(d:Nat)(K:AV->Prop):QCj l a h b m c k d K=((a+b<=4294967296/\l<=h)/\(c+d<=4294967296/\m<=k)/\a+c<=4294967296/\b+d<=4294967296/\K (AV.x true [Zg (Qm l m) (max a c),Zg (Qz h k) (max b d)])):=by kernel_rfl
theorem QXn (l:Rat)(a:Nat)(h:Rat)(b:Nat)(m:Rat)(c:Nat)(k:Rat)(d:Nat)(hc:(a+b+c+d<=4294967290)/\(l<=h/\m<=k))(K:AV->Prop)(hK:K (.x true [.r (Qm l m) (max a c),.r (Qz h k) (max b d)])):QO (QCj l a h b m c k d K):=by
 refine⟨?_⟩;rw[QD1];try simp only[Za,R0,R1,Zc,Zd,R4,R2,R3]
 obtain⟨h1,h2,h3⟩:=hc;exact⟨⟨by omega,h2⟩,⟨by omega,h3⟩,by omega,by omega,hK⟩
def QHM:Ctr
 | [.x true [.r l a,.r h b],.x true [.r m c,.r k d]]=>some fun K=>((a+b+c+d<=4294967290)/\(l<=h/\m<=k))/\(K (.x true [.r (Qm l m) (max a c),.r (Qz h k) (max b d)]))
 | _=>none
theorem QS4:QI 112 QHM:=by
 refine⟨QK Tryz.func112 (by kernel_rfl),fun l T hT K hK=> ?_⟩;unfold QHM at hT;split at hT
 ·cases hT
  obtain⟨hc,hK⟩:=hK;exact QF Qcp QP Tryz.func112 (by kernel_rfl) (by kernel_rfl) (by rfl) (QXn _ _ _ _ _ _ _ _ hc K hK)
 ·cases hT
def Qcq:List (Nat×Ctr):=(112,QHM)::Qco
noncomputable def QgH:QR:=mkT Qcq M79 X4
theorem QS5:QH Qcq:= .cons QS4 QS2
theorem Qcr:QJ QgH:=QU QS5 XE Ql
def QXo:OT:=fun _=>([],[])
def QFP (l:Rat)(a:Nat)(h:Rat)(b:Nat)(q:Rat)(c:Nat)(K:AV->Prop):Prop:=QS QgH QXo noL Tryz.f40 [.x true [.r l a,.r h b],rA q c] K
theorem QHN (l:Rat)(a:Nat)(h:Rat)(b:Nat)(q:Rat)(c:Nat)(K:AV->Prop):QFP l a h b q c K=((a+b<=4294967296/\l<=h)/\a+c<=4294967296/\bif decide (JX l q<=0)then c+b<=4294967296/\K (AV.x false [Ch.v (Value.bool (decide (JX q h<=0)))])else K (AV.x false [Ch.v (Value.bool false)])):=by kernel_rfl
theorem Qcs (l:Rat)(a:Nat)(h:Rat)(b:Nat)(q:Rat)(c:Nat)(hc:(a+b+c<=4294967290)/\(l<=h))(K:AV->Prop)(hK:K (.x false [.v (.bool (WU ⟨l,h⟩ q))])):QO (QFP l a h b q c K):=by
 refine⟨?_⟩;rw[QHN];try simp only[Za,R0,R1,Zc,Zd,R4,R2,R3]
 refine⟨⟨by omega,hc.2⟩,by omega,?_⟩;unfold WU at hK;refine QG (fun h1=>⟨by omega,?_⟩) (fun h1=> ?_)
 ·have h1:=(JS _ _).1 (R5 h1);rw[decide_eq_true h1,Bool.true_and]at hK;have e:decide (JX q h<=0)=decide (q<=h):=by
   by_cases e:q<=h
   ·rw[decide_eq_true e,decide_eq_true ((JS _ _).2 e)]
   ·rw[decide_eq_false e,decide_eq_false (fun h=>e ((JS _ _).1 h))]
  rw[e];exact hK
 ·have h1: ¬l<=q:=fun e=>R6 h1 ((JS _ _).2 e);rw[decide_eq_false h1,Bool.false_and]at hK;exact hK
def QMG:Ctr
 | [.x true [.r l a,.r h b],.x true [.r q c]]=>some fun K=>((a+b+c<=4294967290)/\(l<=h))/\(K (.x false [.v (.bool (WU ⟨l,h⟩ q))]))
 | _=>none
theorem QXp:QI 40 QMG:=by
 refine⟨QK Tryz.func40 (by kernel_rfl),fun l T hT K hK=> ?_⟩;unfold QMG at hT;split at hT
 ·cases hT
  obtain⟨hc,hK⟩:=hK;exact QF Qcr QP Tryz.func40 (by kernel_rfl) (by kernel_rfl) (by rfl) (Qcs _ _ _ _ _ _ hc K hK)
 ·cases hT
def Qct:List (Nat×Ctr):=(40,QMG)::Qcq
noncomputable def QgI:QR:=mkT Qct M79 X4
theorem QS6:QH Qct:= .cons QXp QS5
theorem Qcu:QJ QgI:=QU QS6 XE Ql
def Qcv:OT:=fun id=>bif id.beq 2 then([0,1,2,3,5,6,7,8,12,4,9,10,11,13],[[],[0],[],[2],[1,0,3,2],[],[5],[],[7],[6,5,8,7,4,1,0,3,2],[4,1,0,3,2,9,6,5,8,7],[10,4,1,0,3,2,9,6,5,8,7],[],[12,11,10,4,1,0,3,2,9,6,5,8,7]])else bif id.beq 3 then([0,1,2],[[],[],[0,1]])else([],[])
def QJd (l:Rat)(a:Nat)(h:Rat)(b:Nat)(K:AV->Prop):Prop:=QS QgI Qcv noL Tryz.f197 [.x true [.r l a,.r h b]] K
theorem QJe (l:Rat)(a:Nat)(h:Rat)(b:Nat)(K:AV->Prop):QJd l a h b K=((a+b<=4294967296/\l<=h)/\a+a<=4294967296/\b+b<=4294967296/\∃(l_1:List (Rat×Nat))(N:Nat),[[Zg (l*l) (a+a)],[Zg (h*h) (b+b)]]=lRb l_1/\((l_1≠[]/\l_1.length<=100/\N<=2000000000)/\∀(p:Rat×Nat),p∈l_1->p.snd<=N)/\((-9223372036854775808:Int)<=0/\(0:Int)<9223372036854775808)/\(a+b+64<=4294967290/\l<=h)/\bif WU (Sp.mk l h) ↑(0:Int)then((-9223372036854775808:Int)<=0/\(0:Int)<9223372036854775808)/\K (AV.x true [Zg (↑(0:Int)) 64,Zg (YM Qz l_1.tail (hdR l_1)) N])else K (AV.x true [Zg (YM Qm l_1.tail (hdR l_1)) N,Zg (YM Qz l_1.tail (hdR l_1)) N])):=by kernel_rfl
theorem QgJ (l:Rat)(a:Nat)(h:Rat)(b:Nat)(hc:(a+b<=1000000000)/\(l<=h))(K:AV->Prop)(hK: ∀(s:Sp) n m,s=QHB ⟨l,h⟩->n<=2*(a+b)+64->m<=2*(a+b)->K (.x true [.r s.lo n,.r s.hi m])):QO (QJd l a h b K):=by
 refine⟨?_⟩;rw[QJe];try simp only[Za,R0,R1,Zc,Zd,R4,R2,R3]
 obtain⟨h1,h2⟩:=hc;refine⟨⟨by omega,h2⟩,by omega,by omega,[(l*l,a+a),(h*h,b+b)],2*(a+b),rfl,⟨⟨by simp,by simp,by omega⟩,fun p hp=> ?_⟩,by omega,⟨by omega,h2⟩,QG (fun h=>⟨by omega,?_⟩) (fun h=> ?_)⟩
 ·simp only[List.mem_cons,List.not_mem_nil,or_false]at hp;rcases hp with rfl | rfl<;>simp only<;>omega
 ·have:=hK _ 64 (2*(a+b)) rfl (by omega) (by omega);have h':WU ⟨l,_⟩ 0=true:=h;simp only[QHB,h',R7]at this;exact this
 ·have:=hK _ (2*(a+b)) (2*(a+b)) rfl (by omega) (by omega);have h':WU ⟨l,_⟩ 0=false:=h;simp only[QHB,h',R8]at this;exact this
def QS7:Ctr
 | [.x true [.r l a,.r h b]]=>some fun K=>((a+b<=1000000000)/\(l<=h))/\(∀(s:Sp) n m,s=QHB ⟨l,h⟩->n<=2*(a+b)+64->m<=2*(a+b)->K (.x true [.r s.lo n,.r s.hi m]))
 | _=>none
theorem Qcw:QI 197 QS7:=by
 refine⟨QK Tryz.func197 (by kernel_rfl),fun l T hT K hK=> ?_⟩;unfold QS7 at hT;split at hT
 ·cases hT
  obtain⟨hc,hK⟩:=hK;exact QF Qcu QP Tryz.func197 (by kernel_rfl) (by kernel_rfl) (by rfl) (QgJ _ _ _ _ hc K hK)
 ·cases hT
def Qcx:List (Nat×Ctr):=(197,QS7)::Qct
noncomputable def QgK:QR:=mkT Qcx M79 X4
theorem QS8:QH Qcx:= .cons Qcw QS6
theorem Qcy:QJ QgK:=QU QS8 XE Ql
def QXq:OT:=fun id=>bif id.beq 2 then([0,1,2,4,5,6,3,7,8,9],[[],[0],[],[1,0,2],[],[4],[],[5,4,6,3,1,0,2],[3,1,0,2,7,5,4,6],[8,3,1,0,2,7,5,4,6]])else([],[])
def QFQ (l:Rat)(a:Nat)(h:Rat)(b:Nat)(d:Int)(K:AV->Prop):Prop:=QS QgK QXq noL Tryz.f199 [.x true [.r l a,.r h b],iA .i64 d] K
theorem QHO (l:Rat)(a:Nat)(h:Rat)(b:Nat)(d:Int)(K:AV->Prop):QFQ l a h b d K=((a+b<=4294967296/\l<=h)/\(a<=1000000000/\1<=d/\d<9223372036854775808)/\∀(m:Nat),m<=a+200->(b<=1000000000/\1<=d/\d<9223372036854775808)/\∀(m_1:Nat),m_1<=b+200->K (AV.x true [Zg (Vk l d.toNat) m,Zg (upR h d.toNat) m_1])):=by kernel_rfl
theorem Qcz (l:Rat)(a:Nat)(h:Rat)(b:Nat)(d:Int)(hc:(a<=1000000000/\b<=1000000000)/\(l<=h)/\(1<=d/\d<9223372036854775808))(K:AV->Prop)(hK: ∀n m,n<=a+200->m<=b+200->K (.x true [.r (Vk l d.toNat) n,.r (upR h d.toNat) m])):QO (QFQ l a h b d K):=by
 refine⟨?_⟩;rw[QHO];try simp only[Za,R0,R1,Zc,Zd,R4,R2,R3]
 obtain⟨h1,h2,h3⟩:=hc;exact⟨⟨by omega,h2⟩,⟨by omega,h3⟩,fun n hn=>⟨⟨by omega,h3⟩,fun m hm=>hK n m hn hm⟩⟩
def QMH:Ctr
 | [.x true [.r l a,.r h b],.x false [.v (.int .i64 d)]]=>some fun K=>((a<=1000000000/\b<=1000000000)/\(l<=h)/\(1<=d/\d<9223372036854775808))/\(∀n m,n<=a+200->m<=b+200->K (.x true [.r (Vk l d.toNat) n,.r (upR h d.toNat) m]))
 | _=>none
theorem QXr:QI 199 QMH:=by
 refine⟨QK Tryz.func199 (by kernel_rfl),fun l T hT K hK=> ?_⟩;unfold QMH at hT;split at hT
 ·cases hT
  obtain⟨hc,hK⟩:=hK;exact QF Qcy QP Tryz.func199 (by kernel_rfl) (by kernel_rfl) (by rfl) (Qcz _ _ _ _ _ hc K hK)
 ·cases hT
def Qc0:List (Nat×Ctr):=(199,QMH)::Qcx
noncomputable def QgL:QR:=mkT Qc0 M79 X4
theorem QS9:QH Qc0:= .cons QXr QS8
theorem Qc1:QJ QgL:=QU QS9 XE Ql
def QTA:OT:=fun id=>bif id.beq 1 then([1,4,10,0,2,3,5,6,7,8,9,11,12],[[],[],[0,1],[2,0,1],[],[3,2,0,1,4],[2,0,1,5,3,4],[6,2,0,1,5,3,4],[7,6,2,0,1,5,3,4],[7,6,2,0,1,5,3,4],[],[10,8,7,6,2,0,1,5,3,4],[9,7,6,2,0,1,5,3,4,11,10,8]])else([],[])
def QCk (p:Rat)(a:Nat)(K:AV->Prop):Prop:=QS QgL QTA noL Tryz.f198 [rA p a] K
theorem QD2 (p:Rat)(a:Nat)(K:AV->Prop):QCk p a K=(((-9223372036854775808:Int)<=1/\(1:Int)<9223372036854775808)/\64+a+1<=4294967296/\((-9223372036854775808:Int)<=1/\(1:Int)<9223372036854775808)/\64+a+1<=4294967296/\64+a+1+(64+a+1)<=4294967296/\(↑(1:Int)+p≠OfNat.ofNat 0->K (AV.x true [Zg ((↑(1:Int)-p)/(↑(1:Int)+p)) (64+a+1+(64+a+1))]))/\(↑(1:Int)+p=OfNat.ofNat 0->K (AV.x true [Ch.v (Value.bool false),Ch.v (Value.string (Zb (Zf []))),Ch.v (Value.string (Zb (Zf [])))]))):=by kernel_rfl
theorem QXs (p:Rat)(a:Nat)(hc:(a<=1000000000)/\(0<=p))(K:AV->Prop)(hK:K (rA (QAZ p) (64+a+1+(64+a+1)))):QO (QCk p a K):=by
 refine⟨?_⟩;rw[QD2];try simp only[Za,R0,R1,Zc,Zd,R4,R2,R3]
 exact⟨by omega,by omega,by omega,by omega,by omega,fun _=>hK,fun h=>by
  have h:(1:Rat)+p=0:=h;have:=hc.2;exfalso
  grind⟩
def QHP:Ctr
 | [.x true [.r p a]]=>some fun K=>((a<=1000000000)/\(0<=p))/\(K (rA (QAZ p) (64+a+1+(64+a+1))))
 | _=>none
theorem QTB:QI 198 QHP:=by
 refine⟨QK Tryz.func198 (by kernel_rfl),fun l T hT K hK=> ?_⟩;unfold QHP at hT;split at hT
 ·cases hT
  obtain⟨hc,hK⟩:=hK;exact QF Qc1 QP Tryz.func198 (by kernel_rfl) (by kernel_rfl) (by rfl) (QXs _ _ hc K hK)
 ·cases hT
def Qc2:List (Nat×Ctr):=(198,QHP)::Qc0
noncomputable def QgM:QR:=mkT Qc2 M79 X4
theorem QTC:QH Qc2:= .cons QTB QS9
theorem Qc3:QJ QgM:=QU QTC XE Ql
def QJf:OT:=fun id=>bif id.beq 3 then([0,1,2,4,5,6,3,7,8,9],[[],[],[1],[0,2,1],[],[],[5],[4,6,5,3,0,2,1],[3,0,2,1,7,4,6,5],[8,3,0,2,1,7,4,6,5]])else([],[])
def UO (l:Rat)(a:Nat)(h:Rat)(b:Nat)(K:AV->Prop):Prop:=QS QgM QJf noL Tryz.f155 [.x true [.r l a,.r h b]] K
theorem GQ (l:Rat)(a:Nat)(h:Rat)(b:Nat)(K:AV->Prop):UO l a h b K=((a+b<=1000000000/\l<=h)/\∀(s:Sp) (n m:Nat),s=QHB (Sp.mk l h)->n<=2*(a+b)+64->m<=2*(a+b)->(m<=1000000000/\OfNat.ofNat 0<=s.hi)/\(n<=1000000000/\OfNat.ofNat 0<=s.lo)/\K (AV.x true [Zg (QAZ s.hi) (64+m+1+(64+m+1)),Zg (QAZ s.lo) (64+n+1+(64+n+1))])):=by kernel_rfl
theorem QMI (l:Rat)(a:Nat)(h:Rat)(b:Nat)(hc:(a+b<=200000000)/\(l<=h))(K:AV->Prop)(hK: ∀(s:Sp) n m,s=QCd ⟨l,h⟩->n<=4*(a+b)+400->m<=4*(a+b)+400->K (.x true [.r s.lo n,.r s.hi m])):QO (UO l a h b K):=by
 refine⟨?_⟩;rw[GQ];try simp only[Za,R0,R1,Zc,Zd,R4,R2,R3]
 refine⟨⟨by omega,hc.2⟩,fun s n m hs hn hm=> ?_⟩;subst hs;have h0:=QNc ⟨l,h⟩;have h1:=(QJO (s:=⟨l,h⟩) (x:=l) ⟨Rat.le_refl,hc.2⟩).ok;exact⟨⟨by omega,Rat.le_trans h0 h1⟩,⟨by omega,h0⟩,hK (QCd ⟨l,h⟩) _ _ rfl (by omega) (by omega)⟩
def Uk:Ctr
 | [.x true [.r l a,.r h b]]=>some fun K=>((a+b<=200000000)/\(l<=h))/\(∀(s:Sp) n m,s=QCd ⟨l,h⟩->n<=4*(a+b)+400->m<=4*(a+b)+400->K (.x true [.r s.lo n,.r s.hi m]))
 | _=>none
theorem QJg:QI 155 Uk:=by
 refine⟨QK Tryz.func155 (by kernel_rfl),fun l T hT K hK=> ?_⟩;unfold Uk at hT;split at hT
 ·cases hT
  obtain⟨hc,hK⟩:=hK;exact QF Qc3 QP Tryz.func155 (by kernel_rfl) (by kernel_rfl) (by rfl) (QMI _ _ _ _ hc K hK)
 ·cases hT
def Qc4:List (Nat×Ctr):=(155,Uk)::Qc2
noncomputable def QgN:QR:=mkT Qc4 M79 X4
theorem QTD:QH Qc4:= .cons QJg QTC
theorem Qc5:QJ QgN:=QU QTD XE Ql
end Go.Proofs
