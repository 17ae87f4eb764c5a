/- rat.whole, nat.Int, rat.Floor. -/
import Derived.Test.YtjdhppdpbkoihaaGreatDoorPA
open Go.IntKind renaming i64 → Za
open Int renaming ofNat_eq_natCast → Zb, mul_comm → Zd, neg_mul → Ze, ofNat → Zf
open Go.Value renaming int → Zc, bool → Zg
namespace Go.Proofs
open Go Go.Eng
theorem QN8 {a d q:Int}(hd:0<d)(h1:q*d<=a)(h2:a<(q+1)*d):a/d=q:=
 Int.le_antisymm (Int.le_of_lt_add_one (Int.ediv_lt_of_lt_mul hd h2)) (Int.le_ediv_of_mul_le hd h1)
theorem QKo (n:Int):mkRat n 1=(n:Rat):=by rw[Rat.mkRat_one]
theorem QDZ (p:Rat):p.floor=p.num/(p.den:Int):=Rat.floor_def p
theorem QKp {p:Rat}(h: ¬p.num<0):Q9 (decide (p.num<0)) (p.num.natAbs/p.den) 1=((p.floor:Int):Rat):=by
 unfold Q9;rw[decide_eq_false h,R8,QKo,QDZ];congr 1;rw[Int.natCast_ediv];congr 1;omega
theorem QIJ {p:Rat}(h:p.num<0):Q9 (decide (p.num<0)) (p.num.natAbs/p.den+(if p.num.natAbs % p.den=0 then 0 else 1)) 1=((p.floor:Int):Rat):=by
 unfold Q9;rw[decide_eq_true h,R7,QKo,QDZ];congr 1;have hd:0<p.den:=Nat.pos_of_ne_zero p.den_nz;have e:=Nat.div_add_mod p.num.natAbs p.den;have hm:=Nat.mod_lt p.num.natAbs hd;have hk:p.num= -(p.num.natAbs:Int):=by omega
 symm;generalize p.num.natAbs=k at*;generalize p.den=d at*;rw[hk];generalize k/d=q at*;generalize k % d=r at*;have e':(d:Int)*q+r=k:=by exact_mod_cast e
 refine QN8 (by omega) ?_ ?_
 ·split
  ·have: -((q+0:Nat):Int)*(d:Int)= -((d:Int)*q):=by rw[Nat.add_zero,Ze,Zd]
   rw[this];omega
  ·have: -((q+1:Nat):Int)*(d:Int)= -((d:Int)*q)-d:=by rw[Ze,Int.natCast_add,Int.add_mul,Zd (q:Int)];omega
   rw[this];omega
 ·split
  ·have:(-((q+0:Nat):Int)+1)*(d:Int)= -((d:Int)*q)+d:=by rw[Nat.add_zero,Int.add_mul,Ze,Zd (q:Int)];omega
   rw[this];omega
  ·have:(-((q+1:Nat):Int)+1)*(d:Int)= -((d:Int)*q):=by
    have: -((q+1:Nat):Int)+1= -(q:Int):=by omega
    rw[this,Ze,Zd]
   rw[this];omega
theorem QKq (p:Rat)(a:Nat)(hc:(a<=2000000000))(K:AV->Prop)(hK: ∀m,m<=a+16->K (rA ((p.floor:Int):Rat) m)):QN (QU T49 (oF Tryz.f133) noL Tryz.f133 [rA p a] K):=by
 refine HV (((a<=549755813888/\a<=549755813888)/\bif decide (p.num<0)then bif !decide (QA (bif decide (p.den=0)then 0 else p.num.natAbs%p.den)=(ByteArray.mk #[]).data.toList)then(a<=549755813888/\8<=549755813888)/\((max a 8+1<=4294967296/\8<=4294967296)/\1≠0)/\K (AV.x true [Ch.r (Q9 (decide (p.num<0)) (p.num.natAbs/p.den+1) 1) (max (max a 8+1) 8)])else((a<=4294967296/\8<=4294967296)/\1≠0)/\K (AV.x true [Ch.r (Q9 (decide (p.num<0)) (p.num.natAbs/p.den) 1) (max a 8)])else((a<=4294967296/\8<=4294967296)/\1≠0)/\K (AV.x true [Ch.r (Q9 (decide (p.num<0)) (p.num.natAbs/p.den) 1) (max a 8)]))) ?_
 try simp only[]
 have hd:p.den≠0:=p.den_nz;rw[decide_eq_false hd,R8];refine⟨by omega,QG (fun h=> ?_) (fun h=> ?_)⟩
 ·have h:=R5 h;have e:=QIJ h;refine QG (fun h2=>⟨by omega,by omega,?_⟩) (fun h2=>⟨by omega,?_⟩)
  ·have h2: ¬QA (p.num.natAbs % p.den)=[]:=by simpa using h2
   rw[if_neg (fun e=>h2 (Qf.2 e))]at e;rw[e];exact hK _ (by omega)
  ·have h2:QA (p.num.natAbs % p.den)=[]:=by simpa using h2
   rw[if_pos (Qf.1 h2),Nat.add_zero]at e;rw[e];exact hK _ (by omega)
 ·refine⟨by omega,?_⟩;rw[QKp (R6 h)];exact hK _ (by omega)
def Vk:Ctr
 | [.x true [.r p a]]=>some fun K=>((a<=2000000000))/\(∀m,m<=a+16->K (rA ((p.floor:Int):Rat) m))
 | _=>none
theorem QAf:QH 133 Vk:=by
 refine okL Tryz.func133 fun l T hT K hK=> ?_
 unfold Vk at hT;split at hT<;>cases hT
 obtain⟨hc,hK⟩:=hK;exact spL QTj QO Tryz.func133 (QKq _ _ hc K hK)
def QRU:LC:=(133,Vk)::L49
theorem QKr:QC QRU:= .cons QAf QKP
abbrev QKs (m:Nat)(n:Nat)(K:AV->Prop):Prop:=((m<9223372036854775808))/\(K (.t [(false,[.v (.int .i64 m)]),(false,[.v (.int .i64 0)])]))
theorem QRV (m:Nat)(n:Nat)(K:AV->Prop)(hK:QKs m n K):QN (QU (mkT QRU M48 X4) (oF Tryz.f134) noL Tryz.f134 [bA m n] K):=by
 obtain⟨hc,hK⟩:=hK;refine HV ((bif decide (Zf (QA m).length>8)then K (AV.t [(false,[Ch.v (Zc Za 0)]),(false,[Ch.v (Zc Za 2)])])else m<18446744073709551616/\bif decide (Zf m>9223372036854775807)then K (AV.t [(false,[Ch.v (Zc Za 0)]),(false,[Ch.v (Zc Za 2)])])else m<18446744073709551616/\K (AV.t [(false,[Ch.v (Zc Za (Za.wrap (Zf m)))]),(false,[Ch.v (Zc Za 0)])]))) ?_
 try simp only[Zb]
 exact QG (fun h=>by have:=R5 h;have:(QA m).length<=8:=Qh.2 (by omega);omega) (fun _=>⟨by omega,QG (fun h=>by have:=R5 h;omega) (fun _=>⟨by omega,by rw[w64 (by omega)];exact hK⟩)⟩)
def QFU:Ctr
 | [.x false [.b m n]]=>some fun K=>QKs m n K
 | _=>none
theorem QN9:QH 134 QFU:=by
 refine okL Tryz.func134 fun l T hT K hK=> ?_
 unfold QFU at hT;split at hT<;>cases hT
 exact spL (QW QKr QGU Q0) QO Tryz.func134 (QRV _ _ K hK)
def QRW:LC:=(134,QFU)::QRU
theorem QRX:QC QRW:= .cons QN9 QKr
theorem QKt (p:Rat)(a:Nat)(hc:(a<=2000000000)/\(-9223372036854775808<p.floor/\p.floor<9223372036854775808))(K:AV->Prop)(hK:K (.t [(false,[.v (.int .i64 p.floor)]),(false,[.v (.int .i64 0)])])):QN (QU (mkT QRW M48 X4) (oF Tryz.f103) noL Tryz.f103 [rA p a] K):=by
 refine HV ((a<=(4294967296:Nat)/\a<=(2000000000:Nat)/\∀(m:Nat),m<=a+(16:Nat)->Int.natAbs (Rat.num ↑(Rat.floor p))<(9223372036854775808:Nat)/\bif decide (Rat.num ↑(Rat.floor p)<(0:Int))then K (AV.t [(false,[Ch.v (Zc Za (IntKind.wrap Za ((0:Int)-Zf (Int.natAbs (Rat.num ↑(Rat.floor p))))))]),(false,[Ch.v (Zc Za (0:Int))])])else K (AV.t [(false,[Ch.v (Zc Za (Zf (Int.natAbs (Rat.num ↑(Rat.floor p)))))]),(false,[Ch.v (Zc Za (0:Int))])]))) ?_
 try simp only[Zb]
 obtain⟨ha,h1,h2⟩:=hc;simp only[Rat.num_intCast];refine⟨by omega,ha,fun m hm=>⟨by omega,QG (fun h=> ?_) (fun h=> ?_)⟩⟩
 ·have h:=R5 h;have e:Za.wrap (0-(p.floor.natAbs:Int))=p.floor:=by rw[w64 (by omega)];omega
  rw[e];exact hK
 ·have h:=R6 h;have e:((p.floor.natAbs:Nat):Int)=p.floor:=by omega
  rw[e];exact hK
def Vl:Ctr
 | [.x true [.r p a]]=>some fun K=>((a<=2000000000)/\(-9223372036854775808<p.floor/\p.floor<9223372036854775808))/\(K (.t [(false,[.v (.int .i64 p.floor)]),(false,[.v (.int .i64 0)])]))
 | _=>none
theorem QIK:QH 103 Vl:=by
 refine okL Tryz.func103 fun l T hT K hK=> ?_
 unfold Vl at hT;split at hT<;>cases hT
 obtain⟨hc,hK⟩:=hK;exact spL (QW QRX QGU Q0) QO Tryz.func103 (QKt _ _ hc K hK)
def QVE:LC:=(103,Vl)::QRW
noncomputable def QVS:QY:=mkT QVE M48 X4
end Go.Proofs
namespace Go.Proofs
open Go Go.Eng
theorem QFV {w:World}{O:Nat->Prop}{ρ:Env}{m n:Nat}{v:Value}(h:ConcV w O ρ (.x true [.v (.bool false),.b m n,.v (.string ⟨⟨[1]⟩⟩)]) v):ConcV w O ρ (.x true [.r (m:Rat) (n+1)]) v:=by
 obtain⟨vals,h1,h2⟩:=h;cases h1 with
 | v _ h1=>cases h1 with
  | b hm h1=>cases h1 with
   | v _ h1=>
    cases h1
    refine⟨_,?_,h2⟩;have hn:((m:Nat):Rat).num=m:=rfl;have hd:((m:Nat):Rat).den=1:=rfl;have e:[Zg false,Xz (QA m),Value.string ⟨⟨[1]⟩⟩]=[Gi (m:Rat),QCJ (m:Rat),QCK (m:Rat)]:=by
     unfold Gi QCJ QCK;rw[hn,hd];have:decide ((m:Int)<0)=false:=decide_eq_false (by omega);rw[this];rfl
    rw[e];refine .r ⟨?_,?_⟩ .nil
    ·rw[hn];have:2^n<=2^(n+1):=Nat.pow_le_pow_right (by decide) (by omega);show(m:Int).natAbs<_;rw[Int.natAbs_natCast];omega
    ·rw[hd];exact Nat.one_lt_two_pow (by omega)
def QBw:Ctr:=fun as0=>match as0 with
 | [.x true [.r p a],.x true [.v (.bool false),.b m n,.v (.string ⟨⟨[1]⟩⟩)]]=>some fun K=>a+n+1<=4294967296/\K (rA (p*(m:Rat)) (a+n+1))
 | as0=>QBi as0
theorem QKu:QH 53 QBw:=by
 refine⟨ok_rMul.enter,fun l T hT K hK=> ?_⟩;unfold QBw at hT;split at hT
 ·rename_i p a m n;cases hT
  refine Eng.Spec.args (ok_rMul.sound [.x true [.r p a],.x true [.r (m:Rat) (n+1)]] _ rfl K hK) fun w O vals hc=> ?_
  cases hc with
  | cons h1 h2=>cases h2 with
   | cons h2 h3=>exact .cons h1 (.cons (QFV h2) h3)
 ·exact ok_rMul.sound _ T hT K hK
def QT6:LC:=(53,QBw)::L95
theorem QRY:QC QT6:= .cons QKu QPn
def QT7:LC:=(133,Vk)::QT6
theorem QRZ:QC QT7:= .cons QAf QRY
def QT8:LC:=QT7
theorem QRa:QC QT8:=QRZ
def QRb:LC:=QT8
theorem QKv:QC QRb:=QRa
theorem QOA (l:Rat)(a:Nat)(h:Rat)(b:Nat)(hc:(a+b<=4294967296)/\(l<=h))(K:AV->Prop)(hK:K (.x false [.v (.bool true)])):QN (QU (mkT QRb M79 X4) (oF Tryz.f91) noL Tryz.f91 [.x true [.r l a,.r h b]] K):=by
 refine HV ((a<=4294967296/\b<=4294967296/\a+b<=4294967296/\K (AV.x false [Ch.v (Zg (decide (JD l h<=0)))]))) ?_
 try simp only[Zb,R0,R1,Nat.zero_add,Nat.le_refl,R4,R2,R3]
 rw[decide_eq_true ((KO l h).2 hc.2)];exact⟨by omega,by omega,hc.1,hK⟩
def QBx:Ctr
 | [.x true [.r l a,.r h b]]=>some fun K=>((a+b<=4294967296)/\(l<=h))/\(K (.x false [.v (.bool true)]))
 | _=>none
theorem QKw:QH 91 QBx:=by
 refine okL Tryz.func91 fun l T hT K hK=> ?_
 unfold QBx at hT;split at hT<;>cases hT
 obtain⟨hc,hK⟩:=hK;exact spL (QW QKv XC Q0) QO Tryz.func91 (QOA _ _ _ _ hc K hK)
def QRc:LC:=(91,QBx)::QRb
theorem QKx:QC QRc:= .cons QKw QKv
theorem QRd (l:Rat)(a:Nat)(h:Rat)(b:Nat)(hc:(a+b<=4294967296)/\(l<=h))(K:AV->Prop)(hK:K (.x true [.r l a,.r h b])):QN (QU (mkT QRc M79 X4) (oF Tryz.f49) noL Tryz.f49 [.x true [.r l a,.r h b]] K):=by
 refine HV (((a+b<=4294967296/\l<=h)/\K (AV.x true [Ch.r l a,Ch.r h b]))) ?_
 try simp only[Zb,R0,R1,Nat.zero_add,Nat.le_refl,R4,R2,R3]
 exact⟨hc,hK⟩
def QFW:Ctr
 | [.x true [.r l a,.r h b]]=>some fun K=>((a+b<=4294967296)/\(l<=h))/\(K (.x true [.r l a,.r h b]))
 | _=>none
theorem QOB:QH 49 QFW:=by
 refine okL Tryz.func49 fun l T hT K hK=> ?_
 unfold QFW at hT;split at hT<;>cases hT
 obtain⟨hc,hK⟩:=hK;exact spL (QW QKx XC Q0) QO Tryz.func49 (QRd _ _ _ _ hc K hK)
def QRe:LC:=(49,QFW)::QRc
theorem QKy:QC QRe:= .cons QOB QKx
theorem QT9 (p:Rat)(a:Nat)(hc:(a<=2000000000))(K:AV->Prop)(hK:K (.x true [.r p a,.r p a])):QN (QU (mkT QRe M79 X4) (oF Tryz.f92) noL Tryz.f92 [rA p a] K):=by
 refine HV ((a+a<=4294967296/\K (AV.x true [Ch.r (Y4 p p) (max a a),Ch.r (Y4 p p) (max a a)]))) ?_
 try simp only[Zb,R0,R1,Nat.zero_add,Nat.le_refl,R4,R2,R3]
 rw[YN,Nat.max_self];exact⟨by omega,hK⟩
def QKz:Ctr
 | [.x true [.r p a]]=>some fun K=>((a<=2000000000))/\(K (.x true [.r p a,.r p a]))
 | _=>none
theorem QRf:QH 92 QKz:=by
 refine okL Tryz.func92 fun l T hT K hK=> ?_
 unfold QKz at hT;split at hT<;>cases hT
 obtain⟨hc,hK⟩:=hK;exact spL (QW QKy XC Q0) QO Tryz.func92 (QT9 _ _ hc K hK)
def QUA:LC:=(92,QKz)::QRe
theorem QRg:QC QUA:= .cons QRf QKy
def QUB:LC:=QUA
theorem QRh:QC QUB:=QRg
def QUC:LC:=QUB
theorem QRi:QC QUC:=QRh
def QUD:LC:=QUC
theorem QRj:QC QUD:=QRi
def QUE:LC:=QUD
theorem QRk:QC QUE:=QRj
def QRl:LC:=QUE
theorem QK0:QC QRl:=QRk
theorem QRm (l:Rat)(a:Nat)(h:Rat)(b:Nat)(q:Rat)(c:Nat)(hc:(a+b+c<=4294967290)/\(l<=h))(K:AV->Prop)(hK:K (.x false [.v (.bool (QKm ⟨l,h⟩ q))])):QN (QU (mkT QRl M79 X4) (oF Tryz.f24) noL Tryz.f24 [.x true [.r l a,.r h b],rA q c] K):=by
 refine HV (((a+b<=4294967296/\l<=h)/\a+c<=4294967296/\bif decide (JD l q<=0)then c+b<=4294967296/\K (AV.x false [Ch.v (Zg (decide (JD q h<=0)))])else K (AV.x false [Ch.v (Zg false)]))) ?_
 try simp only[Zb,R0,R1,Nat.zero_add,Nat.le_refl,R4,R2,R3]
 refine⟨⟨by omega,hc.2⟩,by omega,?_⟩;unfold QKm at hK;refine QG (fun h1=>⟨by omega,?_⟩) (fun h1=> ?_)
 ·have h1:=(KO _ _).1 (R5 h1);rw[decide_eq_true h1,Bool.true_and]at hK;have e:decide (JD q h<=0)=decide (q<=h):=by
   by_cases e:q<=h
   ·rw[decide_eq_true e,decide_eq_true ((KO _ _).2 e)]
   ·rw[decide_eq_false e,decide_eq_false (fun h=>e ((KO _ _).1 h))]
  rw[e];exact hK
 ·have h1: ¬l<=q:=fun e=>R6 h1 ((KO _ _).2 e);rw[decide_eq_false h1,Bool.false_and]at hK;exact hK
def QBy:Ctr
 | [.x true [.r l a,.r h b],.x true [.r q c]]=>some fun K=>((a+b+c<=4294967290)/\(l<=h))/\(K (.x false [.v (.bool (QKm ⟨l,h⟩ q))]))
 | _=>none
theorem QGZ:QH 24 QBy:=by
 refine okL Tryz.func24 fun l T hT K hK=> ?_
 unfold QBy at hT;split at hT<;>cases hT
 obtain⟨hc,hK⟩:=hK;exact spL (QW QK0 XC Q0) QO Tryz.func24 (QRm _ _ _ _ _ _ hc K hK)
def QUF:LC:=(24,QBy)::QRl
theorem QRn:QC QUF:= .cons QGZ QK0
def QUG:LC:=QUF
theorem QRo:QC QUG:=QRn
def QUH:LC:=QUG
theorem QRp:QC QUH:=QRo
def QUI:LC:=QUH
theorem QRq:QC QUI:=QRp
def QRr:LC:=QUI
noncomputable def QVT:QY:=mkT QRr M79 X4
theorem QRs:QC QRr:=QRq
end Go.Proofs
