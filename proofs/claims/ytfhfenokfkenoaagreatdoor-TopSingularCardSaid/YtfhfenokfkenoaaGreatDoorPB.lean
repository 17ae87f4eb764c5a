/- rat.whole, nat.Int, rat.Floor. -/
import Derived.Test.YtfhfenokfkenoaaGreatDoorPA
open Go.IntKind renaming i64 → Za
open Int renaming ofNat_eq_natCast → Zb, mul_comm → Zd, neg_mul → Ze, ofNat → Zf
open Go.Value renaming int → Zc
namespace Go.Proofs
open Go Go.Eng
theorem QSt {a d q:Int}(hd:0<d)(h1:q*d<=a)(h2:a<(q+1)*d):a/d=q:=
 Int.le_antisymm (Int.le_of_lt_add_one (Int.ediv_lt_of_lt_mul hd h2)) (Int.le_ediv_of_mul_le hd h1)
theorem QOu (n:Int):mkRat n 1=(n:Rat):=by rw[Rat.mkRat_one]
theorem QFx (p:Rat):p.floor=p.num/(p.den:Int):=Rat.floor_def p
theorem QOv {p:Rat}(h: ¬p.num<0):XN (decide (p.num<0)) (p.num.natAbs/p.den) 1=((p.floor:Int):Rat):=by
 unfold XN;rw[decide_eq_false h,R8,QOu,QFx];congr 1;rw[Int.natCast_ediv];congr 1;omega
theorem QLf {p:Rat}(h:p.num<0):XN (decide (p.num<0)) (p.num.natAbs/p.den+(if p.num.natAbs % p.den=0 then 0 else 1)) 1=((p.floor:Int):Rat):=by
 unfold XN;rw[decide_eq_true h,R7,QOu,QFx];congr 1;have hd:0<p.den:=Nat.pos_of_ne_zero p.den_nz;have e:=Nat.div_add_mod p.num.natAbs p.den;have hm:=Nat.mod_lt p.num.natAbs hd;have hk:p.num= -(p.num.natAbs:Int):=by omega
 symm;generalize p.num.natAbs=k at*;generalize p.den=d at*;rw[hk];generalize k/d=q at*;generalize k % d=r at*;have e':(d:Int)*q+r=k:=by exact_mod_cast e
 refine QSt (by omega) ?_ ?_
 ·split
  ·have: -((q+0:Nat):Int)*(d:Int)= -((d:Int)*q):=by rw[Nat.add_zero,Ze,Zd]
   rw[this];omega
  ·have: -((q+1:Nat):Int)*(d:Int)= -((d:Int)*q)-d:=by rw[Ze,Int.natCast_add,Int.add_mul,Zd (q:Int)];omega
   rw[this];omega
 ·split
  ·have:(-((q+0:Nat):Int)+1)*(d:Int)= -((d:Int)*q)+d:=by rw[Nat.add_zero,Int.add_mul,Ze,Zd (q:Int)];omega
   rw[this];omega
  ·have:(-((q+1:Nat):Int)+1)*(d:Int)= -((d:Int)*q):=by
    have: -((q+1:Nat):Int)+1= -(q:Int):=by omega
    rw[this,Ze,Zd]
   rw[this];omega
theorem QOw (p:Rat)(a:Nat)(hc:(a<=2000000000))(K:AV->Prop)(hK: ∀m,m<=a+16->K (rA ((p.floor:Int):Rat) m)):QK (QP T49 (oF Tryz.f202) noL Tryz.f202 [rA p a] K):=by
 refine HV (((a<=549755813888/\a<=549755813888)/\bif decide (p.num<0)then bif !decide (QA (bif decide (p.den=0)then 0 else p.num.natAbs%p.den)=(ByteArray.mk #[]).data.toList)then(a<=549755813888/\8<=549755813888)/\((max a 8+1<=4294967296/\8<=4294967296)/\1≠0)/\K (AV.x true [Ch.r (XN (decide (p.num<0)) (p.num.natAbs/p.den+1) 1) (max (max a 8+1) 8)])else((a<=4294967296/\8<=4294967296)/\1≠0)/\K (AV.x true [Ch.r (XN (decide (p.num<0)) (p.num.natAbs/p.den) 1) (max a 8)])else((a<=4294967296/\8<=4294967296)/\1≠0)/\K (AV.x true [Ch.r (XN (decide (p.num<0)) (p.num.natAbs/p.den) 1) (max a 8)]))) ?_
 try simp only[]
 have hd:p.den≠0:=p.den_nz;rw[decide_eq_false hd,R8];refine⟨by omega,QC (fun h=> ?_) (fun h=> ?_)⟩
 ·have h:=R5 h;have e:=QLf h;refine QC (fun h2=>⟨by omega,by omega,?_⟩) (fun h2=>⟨by omega,?_⟩)
  ·have h2: ¬QA (p.num.natAbs % p.den)=[]:=by simpa using h2
   rw[if_neg (fun e=>h2 (Qk.2 e))]at e;rw[e];exact hK _ (by omega)
  ·have h2:QA (p.num.natAbs % p.den)=[]:=by simpa using h2
   rw[if_pos (Qk.1 h2),Nat.add_zero]at e;rw[e];exact hK _ (by omega)
 ·refine⟨by omega,?_⟩;rw[QOv (R6 h)];exact hK _ (by omega)
def Uv:Ctr
 | [.x true [.r p a]]=>some fun K=>((a<=2000000000))/\(∀m,m<=a+16->K (rA ((p.floor:Int):Rat) m))
 | _=>none
theorem QCc:QI 202 Uv:=by
 refine okL Tryz.func202 fun l T hT K hK=> ?_
 unfold Uv at hT;split at hT<;>cases hT
 obtain⟨hc,hK⟩:=hK;exact spL QZE QM Tryz.func202 (QOw _ _ hc K hK)
def QW1:LC:=(202,Uv)::L49
theorem QOx:QF QW1:= .cons QCc QN9
abbrev QOy (m:Nat)(n:Nat)(K:AV->Prop):Prop:=((m<9223372036854775808))/\(K (.t [(false,[.v (.int .i64 m)]),(false,[.v (.int .i64 0)])]))
theorem QW2 (m:Nat)(n:Nat)(K:AV->Prop)(hK:QOy m n K):QK (QP (mkT QW1 M48 X4) (oF Tryz.f203) noL Tryz.f203 [bA m n] K):=by
 obtain⟨hc,hK⟩:=hK;refine HV ((bif decide (Zf (QA m).length>8)then K (AV.t [(false,[Ch.v (Zc Za 0)]),(false,[Ch.v (Zc Za 2)])])else m<18446744073709551616/\bif decide (Zf m>9223372036854775807)then K (AV.t [(false,[Ch.v (Zc Za 0)]),(false,[Ch.v (Zc Za 2)])])else m<18446744073709551616/\K (AV.t [(false,[Ch.v (Zc Za (Za.wrap (Zf m)))]),(false,[Ch.v (Zc Za 0)])]))) ?_
 try simp only[Zb]
 exact QC (fun h=>by have:=R5 h;have:(QA m).length<=8:=Qd.2 (by omega);omega) (fun _=>⟨by omega,QC (fun h=>by have:=R5 h;omega) (fun _=>⟨by omega,by rw[w64 (by omega)];exact hK⟩)⟩)
def QIE:Ctr
 | [.x false [.b m n]]=>some fun K=>QOy m n K
 | _=>none
theorem QSu:QI 203 QIE:=by
 refine okL Tryz.func203 fun l T hT K hK=> ?_
 unfold QIE at hT;split at hT<;>cases hT
 exact spL (QS QOx QCX Qm) QM Tryz.func203 (QW2 _ _ K hK)
def QW3:LC:=(203,QIE)::QW1
theorem QW4:QF QW3:= .cons QSu QOx
theorem QOz (p:Rat)(a:Nat)(hc:(a<=2000000000)/\(-9223372036854775808<p.floor/\p.floor<9223372036854775808))(K:AV->Prop)(hK:K (.t [(false,[.v (.int .i64 p.floor)]),(false,[.v (.int .i64 0)])])):QK (QP (mkT QW3 M48 X4) (oF Tryz.f162) noL Tryz.f162 [rA p a] K):=by
 refine HV ((a<=(4294967296:Nat)/\a<=(2000000000:Nat)/\∀(m:Nat),m<=a+(16:Nat)->Int.natAbs (Rat.num ↑(Rat.floor p))<(9223372036854775808:Nat)/\bif decide (Rat.num ↑(Rat.floor p)<(0:Int))then K (AV.t [(false,[Ch.v (Zc Za (IntKind.wrap Za ((0:Int)-Zf (Int.natAbs (Rat.num ↑(Rat.floor p))))))]),(false,[Ch.v (Zc Za (0:Int))])])else K (AV.t [(false,[Ch.v (Zc Za (Zf (Int.natAbs (Rat.num ↑(Rat.floor p)))))]),(false,[Ch.v (Zc Za (0:Int))])]))) ?_
 try simp only[Zb]
 obtain⟨ha,h1,h2⟩:=hc;simp only[Rat.num_intCast];refine⟨by omega,ha,fun m hm=>⟨by omega,QC (fun h=> ?_) (fun h=> ?_)⟩⟩
 ·have h:=R5 h;have e:Za.wrap (0-(p.floor.natAbs:Int))=p.floor:=by rw[w64 (by omega)];omega
  rw[e];exact hK
 ·have h:=R6 h;have e:((p.floor.natAbs:Nat):Int)=p.floor:=by omega
  rw[e];exact hK
def Uw:Ctr
 | [.x true [.r p a]]=>some fun K=>((a<=2000000000)/\(-9223372036854775808<p.floor/\p.floor<9223372036854775808))/\(K (.t [(false,[.v (.int .i64 p.floor)]),(false,[.v (.int .i64 0)])]))
 | _=>none
theorem QLg:QI 162 Uw:=by
 refine okL Tryz.func162 fun l T hT K hK=> ?_
 unfold Uw at hT;split at hT<;>cases hT
 obtain⟨hc,hK⟩:=hK;exact spL (QS QW4 QCX Qm) QM Tryz.func162 (QOz _ _ hc K hK)
def Qax:LC:=(162,Uw)::QW3
noncomputable def QbQ:Qb:=mkT Qax M48 X4
end Go.Proofs
namespace Go.Proofs
open Go Go.Eng
theorem QIF {w:World}{O:Nat->Prop}{ρ:Env}{m n:Nat}{v:Value}(h:ConcV w O ρ (.x true [.v (.bool false),.b m n,.v (.string ⟨⟨[1]⟩⟩)]) v):ConcV w O ρ (.x true [.r (m:Rat) (n+1)]) v:=by
 obtain⟨vals,h1,h2⟩:=h;cases h1 with
 | v _ h1=>cases h1 with
  | b hm h1=>cases h1 with
   | v _ h1=>
    cases h1
    refine⟨_,?_,h2⟩;have hn:((m:Nat):Rat).num=m:=rfl;have hd:((m:Nat):Rat).den=1:=rfl;have e:[Value.bool false,JF (QA m),Value.string ⟨⟨[1]⟩⟩]=[QBc (m:Rat),QEZ (m:Rat),QEa (m:Rat)]:=by
     unfold QBc QEZ QEa;rw[hn,hd];have:decide ((m:Int)<0)=false:=decide_eq_false (by omega);rw[this];rfl
    rw[e];refine .r ⟨?_,?_⟩ .nil
    ·rw[hn];have:2^n<=2^(n+1):=Nat.pow_le_pow_right (by decide) (by omega);show(m:Int).natAbs<_;rw[Int.natAbs_natCast];omega
    ·rw[hd];exact Nat.one_lt_two_pow (by omega)
def QD5:Ctr:=fun as0=>match as0 with
 | [.x true [.r p a],.x true [.v (.bool false),.b m n,.v (.string ⟨⟨[1]⟩⟩)]]=>some fun K=>a+n+1<=4294967296/\K (rA (p*(m:Rat)) (a+n+1))
 | as0=>QDd as0
theorem QO0:QI 88 QD5:=by
 refine⟨ok_rMul.enter,fun l T hT K hK=> ?_⟩;unfold QD5 at hT;split at hT
 ·rename_i p a m n;cases hT
  refine Eng.Spec.args (ok_rMul.sound [.x true [.r p a],.x true [.r (m:Rat) (n+1)]] _ rfl K hK) fun w O vals hc=> ?_
  cases hc with
  | cons h1 h2=>cases h2 with
   | cons h2 h3=>exact .cons h1 (.cons (QIF h2) h3)
 ·exact ok_rMul.sound _ T hT K hK
def QZj:LC:=(88,QD5)::L95
theorem QW5:QF QZj:= .cons QO0 QU3
def QZk:LC:=(202,Uv)::QZj
theorem QW6:QF QZk:= .cons QCc QW5
def QZl:LC:=QZk
theorem QW7:QF QZl:=QW6
def QW8:LC:=QZl
theorem QO1:QF QW8:=QW7
theorem QSv (l:Rat)(a:Nat)(h:Rat)(b:Nat)(hc:(a+b<=4294967296)/\(l<=h))(K:AV->Prop)(hK:K (.x false [.v (.bool true)])):QK (QP (mkT QW8 M79 X4) (oF Tryz.f153) noL Tryz.f153 [.x true [.r l a,.r h b]] K):=by
 refine HV ((a<=4294967296/\b<=4294967296/\a+b<=4294967296/\K (AV.x false [Ch.v (Value.bool (decide (Jp l h<=0)))]))) ?_
 try simp only[Zb,R0,R1,Nat.zero_add,Nat.le_refl,R4,R2,R3]
 rw[decide_eq_true ((Ki l h).2 hc.2)];exact⟨by omega,by omega,hc.1,hK⟩
def QD6:Ctr
 | [.x true [.r l a,.r h b]]=>some fun K=>((a+b<=4294967296)/\(l<=h))/\(K (.x false [.v (.bool true)]))
 | _=>none
theorem QO2:QI 153 QD6:=by
 refine okL Tryz.func153 fun l T hT K hK=> ?_
 unfold QD6 at hT;split at hT<;>cases hT
 obtain⟨hc,hK⟩:=hK;exact spL (QS QO1 Xe Qm) QM Tryz.func153 (QSv _ _ _ _ hc K hK)
def QW9:LC:=(153,QD6)::QW8
theorem QO3:QF QW9:= .cons QO2 QO1
theorem QXA (l:Rat)(a:Nat)(h:Rat)(b:Nat)(hc:(a+b<=4294967296)/\(l<=h))(K:AV->Prop)(hK:K (.x true [.r l a,.r h b])):QK (QP (mkT QW9 M79 X4) (oF Tryz.f96) noL Tryz.f96 [.x true [.r l a,.r h b]] K):=by
 refine HV (((a+b<=4294967296/\l<=h)/\K (AV.x true [Ch.r l a,Ch.r h b]))) ?_
 try simp only[Zb,R0,R1,Nat.zero_add,Nat.le_refl,R4,R2,R3]
 exact⟨hc,hK⟩
def QIG:Ctr
 | [.x true [.r l a,.r h b]]=>some fun K=>((a+b<=4294967296)/\(l<=h))/\(K (.x true [.r l a,.r h b]))
 | _=>none
theorem QSw:QI 96 QIG:=by
 refine okL Tryz.func96 fun l T hT K hK=> ?_
 unfold QIG at hT;split at hT<;>cases hT
 obtain⟨hc,hK⟩:=hK;exact spL (QS QO3 Xe Qm) QM Tryz.func96 (QXA _ _ _ _ hc K hK)
def QXB:LC:=(96,QIG)::QW9
theorem QO4:QF QXB:= .cons QSw QO3
theorem QZm (p:Rat)(a:Nat)(hc:(a<=2000000000))(K:AV->Prop)(hK:K (.x true [.r p a,.r p a])):QK (QP (mkT QXB M79 X4) (oF Tryz.f154) noL Tryz.f154 [rA p a] K):=by
 refine HV ((a+a<=4294967296/\K (AV.x true [Ch.r (Xl p p) (max a a),Ch.r (Xl p p) (max a a)]))) ?_
 try simp only[Zb,R0,R1,Nat.zero_add,Nat.le_refl,R4,R2,R3]
 rw[JZ,Nat.max_self];exact⟨by omega,hK⟩
def QO5:Ctr
 | [.x true [.r p a]]=>some fun K=>((a<=2000000000))/\(K (.x true [.r p a,.r p a]))
 | _=>none
theorem QXC:QI 154 QO5:=by
 refine okL Tryz.func154 fun l T hT K hK=> ?_
 unfold QO5 at hT;split at hT<;>cases hT
 obtain⟨hc,hK⟩:=hK;exact spL (QS QO4 Xe Qm) QM Tryz.func154 (QZm _ _ hc K hK)
def QZn:LC:=(154,QO5)::QXB
theorem QXD:QF QZn:= .cons QXC QO4
def QZo:LC:=QZn
theorem QXE:QF QZo:=QXD
def QZp:LC:=QZo
theorem QXF:QF QZp:=QXE
def QZq:LC:=QZp
theorem QXG:QF QZq:=QXF
def QXH:LC:=QZq
theorem QO6:QF QXH:=QXG
theorem QSx (l:Rat)(a:Nat)(h:Rat)(b:Nat)(m:Rat)(c:Nat)(k:Rat)(d:Nat)(hc:(a+b+c+d<=4294967290)/\(l<=h/\m<=k))(K:AV->Prop)(hK:K (.x true [.r (Xl l m) (max a c),.r (JL h k) (max b d)])):QK (QP (mkT QXH M79 X4) (oF Tryz.f112) noL Tryz.f112 [.x true [.r l a,.r h b],.x true [.r m c,.r k d]] K):=by
 refine HV (((a+b<=4294967296/\l<=h)/\(c+d<=4294967296/\m<=k)/\a+c<=4294967296/\b+d<=4294967296/\K (AV.x true [Ch.r (Xl l m) (max a c),Ch.r (JL h k) (max b d)]))) ?_
 try simp only[Zb,R0,R1,Nat.zero_add,Nat.le_refl,R4,R2,R3]
 obtain⟨h1,h2,h3⟩:=hc;exact⟨⟨by omega,h2⟩,⟨by omega,h3⟩,by omega,by omega,hK⟩
def QD7:Ctr
 | [.x true [.r l a,.r h b],.x true [.r m c,.r k d]]=>some fun K=>((a+b+c+d<=4294967290)/\(l<=h/\m<=k))/\(K (.x true [.r (Xl l m) (max a c),.r (JL h k) (max b d)]))
 | _=>none
theorem QO7:QI 112 QD7:=by
 refine okL Tryz.func112 fun l T hT K hK=> ?_
 unfold QD7 at hT;split at hT<;>cases hT
 obtain⟨hc,hK⟩:=hK;exact spL (QS QO6 Xe Qm) QM Tryz.func112 (QSx _ _ _ _ _ _ _ _ hc K hK)
def QZr:LC:=(112,QD7)::QXH
theorem QXI:QF QZr:= .cons QO7 QO6
def QZs:LC:=QZr
theorem QXJ:QF QZs:=QXI
def QZt:LC:=QZs
theorem QXK:QF QZt:=QXJ
def QZu:LC:=QZt
theorem QXL:QF QZu:=QXK
def QZv:LC:=QZu
theorem QXM:QF QZv:=QXL
def QXN:LC:=QZv
noncomputable def QbR:Qb:=mkT QXN M79 X4
theorem QXO:QF QXN:=QXM
end Go.Proofs
