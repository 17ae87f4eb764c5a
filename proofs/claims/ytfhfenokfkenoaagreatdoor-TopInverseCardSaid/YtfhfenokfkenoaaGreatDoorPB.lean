/- rat.whole, nat.Int, rat.Floor. -/
import Derived.Test.YtfhfenokfkenoaaGreatDoorPA
open Int renaming ofNat_eq_natCast → Za, ofNat → Zc, mul_comm → Zm, neg_mul → Zn
open ByteArray renaming mk → Zb
open Nat renaming zero_add → Zd, le_refl → Ze
open Go.IntKind renaming i64 → Zf
open Array renaming mk → Zg
open Go.Eng.Ch renaming r → Zh, v → Zo
open Go.Value renaming int → Zi, bool → Zl
open List renaming drop → Zj, tail_cons → Zk
namespace Go.Proofs
open Go Go.Eng
theorem QUN {a d q:Int}(hd:0<d)(h1:q*d<=a)(h2:a<(q+1)*d):a/d=q:=
 Int.le_antisymm (Int.le_of_lt_add_one (Int.ediv_lt_of_lt_mul hd h2)) (Int.le_ediv_of_mul_le hd h1)
theorem QPp (n:Int):mkRat n 1=(n:Rat):=by rw[Rat.mkRat_one]
theorem QGw (p:Rat):p.floor=p.num/(p.den:Int):=Rat.floor_def p
theorem QPq {p:Rat}(h: ¬p.num<0):XP (decide (p.num<0)) (p.num.natAbs/p.den) 1=((p.floor:Int):Rat):=by
 unfold XP;rw[decide_eq_false h,R8,QPp,QGw];congr 1;rw[Int.natCast_ediv];congr 1;omega
theorem QMr {p:Rat}(h:p.num<0):XP (decide (p.num<0)) (p.num.natAbs/p.den+(if p.num.natAbs % p.den=0 then 0 else 1)) 1=((p.floor:Int):Rat):=by
 unfold XP;rw[decide_eq_true h,R7,QPp,QGw];congr 1;have hd:0<p.den:=Nat.pos_of_ne_zero p.den_nz;have e:=Nat.div_add_mod p.num.natAbs p.den;have hm:=Nat.mod_lt p.num.natAbs hd;have hk:p.num= -(p.num.natAbs:Int):=by omega
 symm;generalize p.num.natAbs=k at*;generalize p.den=d at*;rw[hk];generalize k/d=q at*;generalize k % d=r at*;have e':(d:Int)*q+r=k:=by exact_mod_cast e
 refine QUN (by omega) ?_ ?_
 ·split
  ·have: -((q+0:Nat):Int)*(d:Int)= -((d:Int)*q):=by rw[Nat.add_zero,Zn,Zm]
   rw[this];omega
  ·have: -((q+1:Nat):Int)*(d:Int)= -((d:Int)*q)-d:=by rw[Zn,Int.natCast_add,Int.add_mul,Zm (q:Int)];omega
   rw[this];omega
 ·split
  ·have:(-((q+0:Nat):Int)+1)*(d:Int)= -((d:Int)*q)+d:=by rw[Nat.add_zero,Int.add_mul,Zn,Zm (q:Int)];omega
   rw[this];omega
  ·have:(-((q+1:Nat):Int)+1)*(d:Int)= -((d:Int)*q):=by
    have: -((q+1:Nat):Int)+1= -(q:Int):=by omega
    rw[this,Zn,Zm]
   rw[this];omega
theorem QPr (p:Rat)(a:Nat)(hc:(a<=2000000000))(K:AV->Prop)(hK: ∀m,m<=a+16->K (rA ((p.floor:Int):Rat) m)):QK (QN T49 (oF Tryz.f202) noL Tryz.f202 [rA p a] K):=by
 refine HV (((a<=549755813888/\a<=549755813888)/\bif decide (p.num<0)then bif !decide (QA (bif decide (p.den=0)then 0 else p.num.natAbs%p.den)=(Zb #[]).data.toList)then(a<=549755813888/\8<=549755813888)/\((max a 8+1<=4294967296/\8<=4294967296)/\1≠0)/\K (AV.x true [Zh (XP (decide (p.num<0)) (p.num.natAbs/p.den+1) 1) (max (max a 8+1) 8)])else((a<=4294967296/\8<=4294967296)/\1≠0)/\K (AV.x true [Zh (XP (decide (p.num<0)) (p.num.natAbs/p.den) 1) (max a 8)])else((a<=4294967296/\8<=4294967296)/\1≠0)/\K (AV.x true [Zh (XP (decide (p.num<0)) (p.num.natAbs/p.den) 1) (max a 8)]))) ?_
 try simp only[]
 have hd:p.den≠0:=p.den_nz;rw[decide_eq_false hd,R8];refine⟨by omega,QF (fun h=> ?_) (fun h=> ?_)⟩
 ·have h:=R5 h;have e:=QMr h;refine QF (fun h2=>⟨by omega,by omega,?_⟩) (fun h2=>⟨by omega,?_⟩)
  ·have h2: ¬QA (p.num.natAbs % p.den)=[]:=by simpa using h2
   rw[if_neg (fun e=>h2 (Ql.2 e))]at e;rw[e];exact hK _ (by omega)
  ·have h2:QA (p.num.natAbs % p.den)=[]:=by simpa using h2
   rw[if_pos (Ql.1 h2),Nat.add_zero]at e;rw[e];exact hK _ (by omega)
 ·refine⟨by omega,?_⟩;rw[QPq (R6 h)];exact hK _ (by omega)
def HU:Ctr
 | [.x true [.r p a]]=>some fun K=>((a<=2000000000))/\(∀m,m<=a+16->K (rA ((p.floor:Int):Rat) m))
 | _=>none
theorem QDR:QI 202 HU:=by
 refine okL Tryz.func202 fun l T hT K hK=> ?_
 unfold HU at hT;split at hT<;>cases hT
 obtain⟨hc,hK⟩:=hK;exact spL QbA QM Tryz.func202 (QPr _ _ hc K hK)
def QYa:LC:=(202,HU)::L49
theorem QPs:QG QYa:= .cons QDR QPO
abbrev QPt (m:Nat)(n:Nat)(K:AV->Prop):Prop:=((m<9223372036854775808))/\(K (.t [(false,[.v (.int .i64 m)]),(false,[.v (.int .i64 0)])]))
theorem QYb (m:Nat)(n:Nat)(K:AV->Prop)(hK:QPt m n K):QK (QN (mkT QYa M48 X4) (oF Tryz.f203) noL Tryz.f203 [bA m n] K):=by
 obtain⟨hc,hK⟩:=hK;refine HV ((bif decide (Zc (QA m).length>8)then K (AV.t [(false,[Zo (Zi Zf 0)]),(false,[Zo (Zi Zf 2)])])else m<18446744073709551616/\bif decide (Zc m>9223372036854775807)then K (AV.t [(false,[Zo (Zi Zf 0)]),(false,[Zo (Zi Zf 2)])])else m<18446744073709551616/\K (AV.t [(false,[Zo (Zi Zf (Zf.wrap (Zc m)))]),(false,[Zo (Zi Zf 0)])]))) ?_
 try simp only[Za]
 exact QF (fun h=>by have:=R5 h;have:(QA m).length<=8:=Qc.2 (by omega);omega) (fun _=>⟨by omega,QF (fun h=>by have:=R5 h;omega) (fun _=>⟨by omega,by rw[w64 (by omega)];exact hK⟩)⟩)
def QJG:Ctr
 | [.x false [.b m n]]=>some fun K=>QPt m n K
 | _=>none
theorem QUO:QI 203 QJG:=by
 refine okL Tryz.func203 fun l T hT K hK=> ?_
 unfold QJG at hT;split at hT<;>cases hT
 exact spL (QP QPs QDI Qg) QM Tryz.func203 (QYb _ _ K hK)
def QYc:LC:=(203,QJG)::QYa
theorem QYd:QG QYc:= .cons QUO QPs
theorem QPu (p:Rat)(a:Nat)(hc:(a<=2000000000)/\(-9223372036854775808<p.floor/\p.floor<9223372036854775808))(K:AV->Prop)(hK:K (.t [(false,[.v (.int .i64 p.floor)]),(false,[.v (.int .i64 0)])])):QK (QN (mkT QYc M48 X4) (oF Tryz.f162) noL Tryz.f162 [rA p a] K):=by
 refine HV ((a<=(4294967296:Nat)/\a<=(2000000000:Nat)/\∀(m:Nat),m<=a+(16:Nat)->Int.natAbs (Rat.num ↑(Rat.floor p))<(9223372036854775808:Nat)/\bif decide (Rat.num ↑(Rat.floor p)<(0:Int))then K (AV.t [(false,[Zo (Zi Zf (IntKind.wrap Zf ((0:Int)-Zc (Int.natAbs (Rat.num ↑(Rat.floor p))))))]),(false,[Zo (Zi Zf (0:Int))])])else K (AV.t [(false,[Zo (Zi Zf (Zc (Int.natAbs (Rat.num ↑(Rat.floor p)))))]),(false,[Zo (Zi Zf (0:Int))])]))) ?_
 try simp only[Za]
 obtain⟨ha,h1,h2⟩:=hc;simp only[Rat.num_intCast];refine⟨by omega,ha,fun m hm=>⟨by omega,QF (fun h=> ?_) (fun h=> ?_)⟩⟩
 ·have h:=R5 h;have e:Zf.wrap (0-(p.floor.natAbs:Int))=p.floor:=by rw[w64 (by omega)];omega
  rw[e];exact hK
 ·have h:=R6 h;have e:((p.floor.natAbs:Nat):Int)=p.floor:=by omega
  rw[e];exact hK
def HW:Ctr
 | [.x true [.r p a]]=>some fun K=>((a<=2000000000)/\(-9223372036854775808<p.floor/\p.floor<9223372036854775808))/\(K (.t [(false,[.v (.int .i64 p.floor)]),(false,[.v (.int .i64 0)])]))
 | _=>none
theorem QMs:QI 162 HW:=by
 refine okL Tryz.func162 fun l T hT K hK=> ?_
 unfold HW at hT;split at hT<;>cases hT
 obtain⟨hc,hK⟩:=hK;exact spL (QP QYd QDI Qg) QM Tryz.func162 (QPu _ _ hc K hK)
def Qcu:LC:=(162,HW)::QYc
noncomputable def QdS:QZ:=mkT Qcu M48 X4
end Go.Proofs
namespace Go.Proofs
open Go Go.Eng
theorem QJH {w:World}{O:Nat->Prop}{ρ:Env}{m n:Nat}{v:Value}(h:ConcV w O ρ (.x true [.v (.bool false),.b m n,.v (.string ⟨⟨[1]⟩⟩)]) v):ConcV w O ρ (.x true [.r (m:Rat) (n+1)]) v:=by
 obtain⟨vals,h1,h2⟩:=h;cases h1 with
 | v _ h1=>cases h1 with
  | b hm h1=>cases h1 with
   | v _ h1=>
    cases h1
    refine⟨_,?_,h2⟩;have hn:((m:Nat):Rat).num=m:=rfl;have hd:((m:Nat):Rat).den=1:=rfl;have e:[Zl false,JF (QA m),Value.string ⟨⟨[1]⟩⟩]=[QCN (m:Rat),QFU (m:Rat),QFV (m:Rat)]:=by
     unfold QCN QFU QFV;rw[hn,hd];have:decide ((m:Int)<0)=false:=decide_eq_false (by omega);rw[this];rfl
    rw[e];refine .r ⟨?_,?_⟩ .nil
    ·rw[hn];have:2^n<=2^(n+1):=Nat.pow_le_pow_right (by decide) (by omega);show(m:Int).natAbs<_;rw[Int.natAbs_natCast];omega
    ·rw[hd];exact Nat.one_lt_two_pow (by omega)
def QEt:Ctr:=fun as0=>match as0 with
 | [.x true [.r p a],.x true [.v (.bool false),.b m n,.v (.string ⟨⟨[1]⟩⟩)]]=>some fun K=>a+n+1<=4294967296/\K (rA (p*(m:Rat)) (a+n+1))
 | as0=>QEW as0
theorem QPv:QI 88 QEt:=by
 refine⟨ok_rMul.enter,fun l T hT K hK=> ?_⟩;unfold QEt at hT;split at hT
 ·rename_i p a m n;cases hT
  refine Eng.Spec.args (ok_rMul.sound [.x true [.r p a],.x true [.r (m:Rat) (n+1)]] _ rfl K hK) fun w O vals hc=> ?_
  cases hc with
  | cons h1 h2=>cases h2 with
   | cons h2 h3=>exact .cons h1 (.cons (QJH h2) h3)
 ·exact ok_rMul.sound _ T hT K hK
def Qbg:LC:=(88,QEt)::L95
theorem QYe:QG Qbg:= .cons QPv QWe
def QYf:LC:=(202,HU)::Qbg
theorem QPw:QG QYf:= .cons QDR QYe
abbrev QKm (p:Rat)(a:Nat)(d:Int)(K:AV->Prop):Prop:=((a<=1000000000)/\(1<=d/\d<9223372036854775808))/\(∀m,m<=a+200->K (rA (HQ p d.toNat) m))
theorem QUP (p:Rat)(a:Nat)(d:Int)(K:AV->Prop)(hK:QKm p a d K):QK (QN (mkT QYf M79 X4) (oF Tryz.f231) noL Tryz.f231 [rA p a,iA .i64 d] K):=by
 obtain⟨hc,hK⟩:=hK;refine HV (((bif true then if(1:Int)>d then(1:Int)else d else if(1:Int)<d then(1:Int)else d)<(9223372036854775808:Int)/\a+(63:Nat)+(1:Nat)<=(4294967296:Nat)/\a+(63:Nat)+(1:Nat)<=(2000000000:Nat)/\∀(m:Nat),m<=a+(63:Nat)+(1:Nat)+(16:Nat)->((m<=(4294967296:Nat)/\(63:Nat)<=(4294967296:Nat))/\Int.toNat (bif true then if(1:Int)>d then(1:Int)else d else if(1:Int)<d then(1:Int)else d)≠(0:Nat))/\K (AV.x true [Zh (XP (decide (Rat.num ↑(Rat.floor (p*↑(Int.toNat (bif true then if(1:Int)>d then(1:Int)else d else if(1:Int)<d then(1:Int)else d))))<(0:Int))) (Int.natAbs (Rat.num ↑(Rat.floor (p*↑(Int.toNat (bif true then if(1:Int)>d then(1:Int)else d else if(1:Int)<d then(1:Int)else d)))))) (Int.toNat (bif true then if(1:Int)>d then(1:Int)else d else if(1:Int)<d then(1:Int)else d))) (max m (63:Nat))]))) ?_
 try simp only[Za,R0,R1,Zd,Ze,R4,R2,R3]
 have e:(bif true then if 1>d then 1 else d else if 1<d then 1 else d)=d:=by
  show(if 1>d then 1 else d)=d
  rw[if_neg (by omega)]
 rw[e];refine⟨by omega,by omega,by omega,fun m hm=>⟨by omega,?_⟩⟩;have e2: ∀f:Int,XP (decide (((f:Int):Rat).num<0)) ((f:Int):Rat).num.natAbs d.toNat=mkRat f d.toNat:=fun f=>by
  rw[Rat.num_intCast];unfold XP;by_cases h:f<0
  ·rw[decide_eq_true h,R7];congr 1;omega
  ·rw[decide_eq_false h,R8];congr 1;omega
 rw[e2];exact hK _ (by omega)
def QEu:Ctr
 | [.x true [.r p a],.x false [.v (.int .i64 d)]]=>some fun K=>QKm p a d K
 | _=>none
theorem QPx:QI 231 QEu:=by
 refine okL Tryz.func231 fun l T hT K hK=> ?_
 unfold QEu at hT;split at hT<;>cases hT
 exact spL (QP QPw XN Qg) QM Tryz.func231 (QUP _ _ _ K hK)
def QYg:LC:=(231,QEu)::QYf
theorem QPy:QG QYg:= .cons QPx QPw
abbrev QWf (p:Rat)(a:Nat)(d:Int)(K:AV->Prop):Prop:=((a<=1000000000)/\(1<=d/\d<9223372036854775808))/\(∀m,m<=a+200->K (rA (upR p d.toNat) m))
theorem Qbh (p:Rat)(a:Nat)(d:Int)(K:AV->Prop)(hK:QWf p a d K):QK (QN (mkT QYg M79 X4) (oF Tryz.f232) noL Tryz.f232 [rA p a,iA .i64 d] K):=by
 obtain⟨hc,hK⟩:=hK;refine HV ((a<=4294967296/\(a<=1000000000/\1<=d/\d<9223372036854775808)/\∀(m:Nat),m<=a+200->m<=4294967296/\K (AV.x true [Zh (-HQ (-p) d.toNat) m]))) ?_
 try simp only[Za,R0,R1,Zd,Ze,R4,R2,R3]
 exact⟨by omega,by omega,fun m hm=>⟨by omega,hK m hm⟩⟩
def QPz:Ctr
 | [.x true [.r p a],.x false [.v (.int .i64 d)]]=>some fun K=>QWf p a d K
 | _=>none
theorem QYh:QI 232 QPz:=by
 refine okL Tryz.func232 fun l T hT K hK=> ?_
 unfold QPz at hT;split at hT<;>cases hT
 exact spL (QP QPy XN Qg) QM Tryz.func232 (Qbh _ _ _ K hK)
def QYi:LC:=(232,QPz)::QYg
theorem QP0:QG QYi:= .cons QYh QPy
theorem QUQ (l:Rat)(a:Nat)(h:Rat)(b:Nat)(hc:(a+b<=4294967296)/\(l<=h))(K:AV->Prop)(hK:K (.x false [.v (.bool true)])):QK (QN (mkT QYi M79 X4) (oF Tryz.f153) noL Tryz.f153 [.x true [.r l a,.r h b]] K):=by
 refine HV ((a<=4294967296/\b<=4294967296/\a+b<=4294967296/\K (AV.x false [Zo (Zl (decide (JY l h<=0)))]))) ?_
 try simp only[Za,R0,R1,Zd,Ze,R4,R2,R3]
 rw[decide_eq_true ((J6 l h).2 hc.2)];exact⟨by omega,by omega,hc.1,hK⟩
def QEv:Ctr
 | [.x true [.r l a,.r h b]]=>some fun K=>((a+b<=4294967296)/\(l<=h))/\(K (.x false [.v (.bool true)]))
 | _=>none
theorem QP1:QI 153 QEv:=by
 refine okL Tryz.func153 fun l T hT K hK=> ?_
 unfold QEv at hT;split at hT<;>cases hT
 obtain⟨hc,hK⟩:=hK;exact spL (QP QP0 XN Qg) QM Tryz.func153 (QUQ _ _ _ _ hc K hK)
def QYj:LC:=(153,QEv)::QYi
theorem QP2:QG QYj:= .cons QP1 QP0
theorem QYk (l:Rat)(a:Nat)(h:Rat)(b:Nat)(hc:(a+b<=4294967296)/\(l<=h))(K:AV->Prop)(hK:K (.x true [.r l a,.r h b])):QK (QN (mkT QYj M79 X4) (oF Tryz.f96) noL Tryz.f96 [.x true [.r l a,.r h b]] K):=by
 refine HV (((a+b<=4294967296/\l<=h)/\K (AV.x true [Zh l a,Zh h b]))) ?_
 try simp only[Za,R0,R1,Zd,Ze,R4,R2,R3]
 exact⟨hc,hK⟩
def QJI:Ctr
 | [.x true [.r l a,.r h b]]=>some fun K=>((a+b<=4294967296)/\(l<=h))/\(K (.x true [.r l a,.r h b]))
 | _=>none
theorem QUR:QI 96 QJI:=by
 refine okL Tryz.func96 fun l T hT K hK=> ?_
 unfold QJI at hT;split at hT<;>cases hT
 obtain⟨hc,hK⟩:=hK;exact spL (QP QP2 XN Qg) QM Tryz.func96 (QYk _ _ _ _ hc K hK)
def QYl:LC:=(96,QJI)::QYj
theorem QP3:QG QYl:= .cons QUR QP2
theorem Qbi (p:Rat)(a:Nat)(hc:(a<=2000000000))(K:AV->Prop)(hK:K (.x true [.r p a,.r p a])):QK (QN (mkT QYl M79 X4) (oF Tryz.f154) noL Tryz.f154 [rA p a] K):=by
 refine HV ((a+a<=4294967296/\K (AV.x true [Zh (Qt p p) (max a a),Zh (Qt p p) (max a a)]))) ?_
 try simp only[Za,R0,R1,Zd,Ze,R4,R2,R3]
 rw[YH,Nat.max_self];exact⟨by omega,hK⟩
def QP4:Ctr
 | [.x true [.r p a]]=>some fun K=>((a<=2000000000))/\(K (.x true [.r p a,.r p a]))
 | _=>none
theorem QYm:QI 154 QP4:=by
 refine okL Tryz.func154 fun l T hT K hK=> ?_
 unfold QP4 at hT;split at hT<;>cases hT
 obtain⟨hc,hK⟩:=hK;exact spL (QP QP3 XN Qg) QM Tryz.func154 (Qbi _ _ hc K hK)
def QYn:LC:=(154,QP4)::QYl
theorem QP5:QG QYn:= .cons QYm QP3
theorem QYo (l:Rat)(a:Nat)(h:Rat)(b:Nat)(m:Rat)(c:Nat)(k:Rat)(d:Nat)(hc:(a+b+c+d<=4294967290)/\(l<=h/\m<=k))(K:AV->Prop)(hK:K (.x true [.r (l+m) (a+c+1),.r (h+k) (b+d+1)])):QK (QN (mkT QYn M79 X4) (oF Tryz.f160) noL Tryz.f160 [.x true [.r l a,.r h b],.x true [.r m c,.r k d]] K):=by
 refine HV (((a+b<=4294967296/\l<=h)/\(c+d<=4294967296/\m<=k)/\a+c+1<=4294967296/\b+d+1<=4294967296/\K (AV.x true [Zh (l+m) (a+c+1),Zh (h+k) (b+d+1)]))) ?_
 try simp only[Za,R0,R1,Zd,Ze,R4,R2,R3]
 obtain⟨h1,h2,h3⟩:=hc;exact⟨⟨by omega,h2⟩,⟨by omega,h3⟩,by omega,by omega,hK⟩
def QJJ:Ctr
 | [.x true [.r l a,.r h b],.x true [.r m c,.r k d]]=>some fun K=>((a+b+c+d<=4294967290)/\(l<=h/\m<=k))/\(K (.x true [.r (l+m) (a+c+1),.r (h+k) (b+d+1)]))
 | _=>none
theorem QUS:QI 160 QJJ:=by
 refine okL Tryz.func160 fun l T hT K hK=> ?_
 unfold QJJ at hT;split at hT<;>cases hT
 obtain⟨hc,hK⟩:=hK;exact spL (QP QP5 XN Qg) QM Tryz.func160 (QYo _ _ _ _ _ _ _ _ hc K hK)
def QYp:LC:=(160,QJJ)::QYn
theorem QP6:QG QYp:= .cons QUS QP5
theorem QYq (l:Rat)(a:Nat)(h:Rat)(b:Nat)(m:Rat)(c:Nat)(k:Rat)(d:Nat)(hc:(a+b+c+d<=4294967290)/\(l<=h/\m<=k))(K:AV->Prop)(hK:K (.x true [.r (l-k) (a+d+1),.r (h-m) (b+c+1)])):QK (QN (mkT QYp M79 X4) (oF Tryz.f158) noL Tryz.f158 [.x true [.r l a,.r h b],.x true [.r m c,.r k d]] K):=by
 refine HV (((a+b<=4294967296/\l<=h)/\(c+d<=4294967296/\m<=k)/\a+d+1<=4294967296/\b+c+1<=4294967296/\K (AV.x true [Zh (l-k) (a+d+1),Zh (h-m) (b+c+1)]))) ?_
 try simp only[Za,R0,R1,Zd,Ze,R4,R2,R3]
 obtain⟨h1,h2,h3⟩:=hc;exact⟨⟨by omega,h2⟩,⟨by omega,h3⟩,by omega,by omega,hK⟩
def QJK:Ctr
 | [.x true [.r l a,.r h b],.x true [.r m c,.r k d]]=>some fun K=>((a+b+c+d<=4294967290)/\(l<=h/\m<=k))/\(K (.x true [.r (l-k) (a+d+1),.r (h-m) (b+c+1)]))
 | _=>none
theorem QUT:QI 158 QJK:=by
 refine okL Tryz.func158 fun l T hT K hK=> ?_
 unfold QJK at hT;split at hT<;>cases hT
 obtain⟨hc,hK⟩:=hK;exact spL (QP QP6 XN Qg) QM Tryz.func158 (QYq _ _ _ _ _ _ _ _ hc K hK)
def QYr:LC:=(158,QJK)::QYp
theorem QP7:QG QYr:= .cons QUT QP6
structure AdX where
 lo:Rat
 hi:Rat
 i:Nat
def JA (f:Rat->Rat->Rat)(ps:List (Rat×Nat))(q:Rat):Rat:=(ps.map (·.1)).foldl f q
def hdR (l:List (Rat×Nat)):Rat:=match l with
 | []=>0
 | p::_=>p.1
def QGx (l:List (Rat×Nat))(N:Nat):LI:=fun _=> .inv ⟨AdX,fun x=>⟨[(2,.x false [.p 2 0]),(3,.x false [.p 3 0]),(11,.x false [.s 3 (lRb l.tail)]),(12,iA .i64 l.tail.length),(13,iA .i64 x.i)],[(2,.box 86 (Jd++Jd)),(3,.box 86 [.r x.lo N,.r x.hi N])]⟩,
 fun x=>JA Qt (l.tail.drop x.i) x.lo=JA Qt l.tail (hdR l)/\JA Q7 (l.tail.drop x.i) x.hi=JA Q7 l.tail (hdR l)/\x.i<=l.tail.length,fun x=>l.tail.length-x.i,fun _=>0⟩
abbrev QDS (l:List (Rat×Nat))(N:Nat)(K:AV->Prop):Prop:=((l≠[]/\l.length<=100/\N<=2000000000)/\(∀p∈l,p.2<=N))/\(K (.x true [.r (JA Qt l.tail (hdR l)) N,.r (JA Q7 l.tail (hdR l)) N]))
set_option maxHeartbeats 1000000 in
theorem QMt (l:List (Rat×Nat))(N:Nat)(K:AV->Prop)(hK:QDS l N K):QK (QN (mkT QYr M79 X4) (oF Tryz.f201) (QGx l N) Tryz.f201 [.x false [.s 3 (lRb l)]] K):=by
 obtain⟨hc,hK⟩:=hK;refine HV ((((0:Int)<=0/\0<Zc (lRb l).length)/\∃(q:Rat),∃(n:Nat),ldE (lRb l) 0 0 3=some [Zh q n]/\n<=2000000000/\((0:Int)<=1/\1<=Zc (lRb l).length/\Zc (lRb l).length<=Zc (lRb l).length)/\(∃(x:AdX),((JA Qt (Zj x.i l.tail) x.lo=JA Qt l.tail (hdR l)/\JA Q7 (Zj x.i l.tail) x.hi=JA Q7 l.tail (hdR l)/\x.i<=l.tail.length)/\OfNat.ofNat 0=0)/\0=0/\0=0/\3=3/\List.take ((Zc (lRb l).length).toNat-1) (Zj 1 (lRb l))=lRb l.tail/\Zc (List.take ((Zc (lRb l).length).toNat-1) (Zj 1 (lRb l))).length=Zc l.tail.length/\0=Zc x.i/\86=86/\false=false/\Zb (Zg [])=Zb (Zg [])/\Zb (Zg [])=Zb (Zg [])/\false=false/\Zb (Zg [])=Zb (Zg [])/\Zb (Zg [])=Zb (Zg [])/\86=86/\q=x.lo/\n<=N/\q=x.hi/\n<=N/\True)/\∀(x:AdX),JA Qt (Zj x.i l.tail) x.lo=JA Qt l.tail (hdR l)/\JA Q7 (Zj x.i l.tail) x.hi=JA Q7 l.tail (hdR l)/\x.i<=l.tail.length->OfNat.ofNat 0=0->bif decide (Zc x.i<Zc l.tail.length)then(0<=Zc x.i/\Zc x.i<Zc (lRb l.tail).length)/\∃(q:Rat),∃(n:Nat),ldE (lRb l.tail) (Zc x.i).toNat 0 3=some [Zh q n]/\N+n<=4294967296/\N+n<=4294967296/\∃(x':AdX),((JA Qt (Zj x'.i l.tail) x'.lo=JA Qt l.tail (hdR l)/\JA Q7 (Zj x'.i l.tail) x'.hi=JA Q7 l.tail (hdR l)/\x'.i<=l.tail.length)/\OfNat.ofNat 0=0/\l.tail.length-x'.i<l.tail.length-x.i)/\0=0/\0=0/\3=3/\lRb l.tail=lRb l.tail/\Zc l.tail.length=Zc l.tail.length/\Zf.wrap (Zc x.i+1)=Zc x'.i/\86=86/\false=false/\Zb (Zg [])=Zb (Zg [])/\Zb (Zg [])=Zb (Zg [])/\false=false/\Zb (Zg [])=Zb (Zg [])/\Zb (Zg [])=Zb (Zg [])/\86=86/\Qt x.lo q=x'.lo/\max N n<=N/\Q7 x.hi q=x'.hi/\max N n<=N/\True else K (AV.x true [Zh x.lo N,Zh x.hi N]))) ?_
 try simp only[Za,R0,R1,R4]
 obtain⟨⟨h0,hl,hN⟩,hb⟩:=hc;obtain⟨p0,ps,rfl⟩: ∃p ps,l=p::ps:=by
  cases l with
  | nil=>exact absurd rfl h0
  | cons p ps=>exact⟨p,ps,rfl⟩
 have hb0:=hb p0 (by simp);have hl':ps.length+1<=100:=hl;have ll:(lRb (p0::ps)).length=ps.length+1:=by simp[lRb]
 rw[ll];have e2:List.take ((((ps.length+1:Nat):Int)).toNat-1) (Zj 1 (lRb (p0::ps)))=lRb ps:=by
  rw[Int.toNat_natCast,Nat.add_sub_cancel];exact List.take_of_length_le (by simp[lRb])
 have lps:(lRb ps).length=ps.length:=by simp[lRb]
 refine⟨by omega,p0.1,p0.2,rfl,by omega,by omega,⟨⟨p0.1,p0.1,0⟩,⟨rfl,rfl,by simp⟩,e2,by rw[e2,lps];rfl,rfl,rfl,hb0,rfl,hb0⟩,fun x hx=>QF (fun hp=> ?_) (fun hp=> ?_)⟩
 ·have hp:x.i<ps.length:=by have:=R5 hp;simp only[Zk]at this;omega
  obtain⟨p,hpp⟩: ∃p,ps[x.i]? =some p:=⟨_,List.getElem?_eq_getElem hp⟩
  obtain⟨e1,e3,hxi⟩:=hx;simp only[Zk]at e1 e3 hxi⊢;have hd:ps.drop x.i=p::ps.drop (x.i+1):=by
   rw[List.drop_eq_getElem_cons hp];rw[List.getElem?_eq_getElem hp]at hpp;rw[Option.some.inj hpp]
  rw[hd]at e1 e3;have hbp:=hb p (by simp[List.mem_of_getElem? hpp]);exact⟨by rw[lps];omega,p.1,p.2,by simp only[ldE,lRb,List.getElem?_map,Int.toNat_natCast,hpp];rfl,by omega,by omega,⟨_,_,x.i+1⟩,⟨⟨e1,e3,hp⟩,by simp only;omega⟩,by rw[w64 (by omega)];simp,rfl,by omega,rfl,by omega⟩
 ·have hp:x.i=ps.length:=by have:=R6 hp;have:=hx.2.2;simp only[Zk]at*;omega
  obtain⟨e1,e3,hxi⟩:=hx;simp only[Zk]at e1 e3 hK;rw[hp,List.drop_length]at e1 e3;have e1:x.lo=_:=e1;have e3:x.hi=_:=e3;rw[e1,e3];exact hK
def GX:Ctr
 | [.x false [.s 3 xs]]=>some fun K=> ∃(l:List (Rat×Nat)) (N:Nat),xs=lRb l/\QDS l N K
 | _=>none
theorem QJL:QI 201 GX:=by
 refine okL Tryz.func201 fun l T hT K hK=> ?_
 unfold GX at hT;split at hT<;>cases hT
 obtain⟨l,N,rfl,hK⟩:=hK;exact spL (QP QP7 XN Qg) QM Tryz.func201 (QMt _ _ K hK)
def QYs:LC:=(201,GX)::QYr
theorem QP8:QG QYs:= .cons QJL QP7
abbrev QP9 (l:Rat)(a:Nat)(h:Rat)(b:Nat)(m:Rat)(c:Nat)(k:Rat)(d:Nat)(K:AV->Prop):Prop:=((a+b+c+d<=2000000000)/\(l<=h/\m<=k))/\(∀(s:Sp) n,s=JG ⟨l,h⟩ ⟨m,k⟩->n<=max a b+max c d->K (.x true [.r s.lo n,.r s.hi n]))
theorem QYt (l:Rat)(a:Nat)(h:Rat)(b:Nat)(m:Rat)(c:Nat)(k:Rat)(d:Nat)(K:AV->Prop)(hK:QP9 l a h b m c k d K):QK (QN (mkT QYs M79 X4) (oF Tryz.f159) noL Tryz.f159 [.x true [.r l a,.r h b],.x true [.r m c,.r k d]] K):=by
 obtain⟨hc,hK⟩:=hK;refine HV (((a+b<=4294967296/\l<=h)/\(c+d<=4294967296/\m<=k)/\a+c<=4294967296/\a+d<=4294967296/\b+c<=4294967296/\b+d<=4294967296/\∃(l_1:List (Rat×Nat)),∃(N:Nat),[[Zh (l*m) (a+c)],[Zh (l*k) (a+d)],[Zh (h*m) (b+c)],[Zh (h*k) (b+d)]]=lRb l_1/\((l_1≠[]/\l_1.length<=100/\N<=2000000000)/\∀(p:Rat×Nat),p∈l_1->p.snd<=N)/\K (AV.x true [Zh (JA Qt l_1.tail (hdR l_1)) N,Zh (JA Q7 l_1.tail (hdR l_1)) N]))) ?_
 try simp only[Za,R0,R1,Zd,Ze,R4,R2,R3]
 obtain⟨h1,h2,h3⟩:=hc;refine⟨⟨by omega,h2⟩,⟨by omega,h3⟩,by omega,by omega,by omega,by omega,[(l*m,a+c),(l*k,a+d),(h*m,b+c),(h*k,b+d)],max a b+max c d,rfl,⟨⟨by simp,by simp,by omega⟩,fun p hp=> ?_⟩,hK _ _ rfl (Ze _)⟩;simp only[List.mem_cons,List.not_mem_nil,or_false]at hp;rcases hp with rfl | rfl | rfl | rfl<;>simp only<;>omega
def QJM:Ctr
 | [.x true [.r l a,.r h b],.x true [.r m c,.r k d]]=>some fun K=>QP9 l a h b m c k d K
 | _=>none
theorem QUU:QI 159 QJM:=by
 refine okL Tryz.func159 fun l T hT K hK=> ?_
 unfold QJM at hT;split at hT<;>cases hT
 exact spL (QP QP8 XN Qg) QM Tryz.func159 (QYt _ _ _ _ _ _ _ _ K hK)
def QYu:LC:=(159,QJM)::QYs
theorem QQA:QG QYu:= .cons QUU QP8
theorem QUV (l:Rat)(a:Nat)(h:Rat)(b:Nat)(m:Rat)(c:Nat)(k:Rat)(d:Nat)(hc:(a+b+c+d<=4294967290)/\(l<=h/\m<=k))(K:AV->Prop)(hK:K (.x true [.r (Qt l m) (max a c),.r (Q7 h k) (max b d)])):QK (QN (mkT QYu M79 X4) (oF Tryz.f112) noL Tryz.f112 [.x true [.r l a,.r h b],.x true [.r m c,.r k d]] K):=by
 refine HV (((a+b<=4294967296/\l<=h)/\(c+d<=4294967296/\m<=k)/\a+c<=4294967296/\b+d<=4294967296/\K (AV.x true [Zh (Qt l m) (max a c),Zh (Q7 h k) (max b d)]))) ?_
 try simp only[Za,R0,R1,Zd,Ze,R4,R2,R3]
 obtain⟨h1,h2,h3⟩:=hc;exact⟨⟨by omega,h2⟩,⟨by omega,h3⟩,by omega,by omega,hK⟩
def QEw:Ctr
 | [.x true [.r l a,.r h b],.x true [.r m c,.r k d]]=>some fun K=>((a+b+c+d<=4294967290)/\(l<=h/\m<=k))/\(K (.x true [.r (Qt l m) (max a c),.r (Q7 h k) (max b d)]))
 | _=>none
theorem QQB:QI 112 QEw:=by
 refine okL Tryz.func112 fun l T hT K hK=> ?_
 unfold QEw at hT;split at hT<;>cases hT
 obtain⟨hc,hK⟩:=hK;exact spL (QP QQA XN Qg) QM Tryz.func112 (QUV _ _ _ _ _ _ _ _ hc K hK)
def QYv:LC:=(112,QEw)::QYu
theorem QQC:QG QYv:= .cons QQB QQA
theorem QYw (l:Rat)(a:Nat)(h:Rat)(b:Nat)(q:Rat)(c:Nat)(hc:(a+b+c<=4294967290)/\(l<=h))(K:AV->Prop)(hK:K (.x false [.v (.bool (XW ⟨l,h⟩ q))])):QK (QN (mkT QYv M79 X4) (oF Tryz.f40) noL Tryz.f40 [.x true [.r l a,.r h b],rA q c] K):=by
 refine HV (((a+b<=4294967296/\l<=h)/\a+c<=4294967296/\bif decide (JY l q<=0)then c+b<=4294967296/\K (AV.x false [Zo (Zl (decide (JY q h<=0)))])else K (AV.x false [Zo (Zl false)]))) ?_
 try simp only[Za,R0,R1,Zd,Ze,R4,R2,R3]
 refine⟨⟨by omega,hc.2⟩,by omega,?_⟩;unfold XW at hK;refine QF (fun h1=>⟨by omega,?_⟩) (fun h1=> ?_)
 ·have h1:=(J6 _ _).1 (R5 h1);rw[decide_eq_true h1,Bool.true_and]at hK;have e:decide (JY q h<=0)=decide (q<=h):=by
   by_cases e:q<=h
   ·rw[decide_eq_true e,decide_eq_true ((J6 _ _).2 e)]
   ·rw[decide_eq_false e,decide_eq_false (fun h=>e ((J6 _ _).1 h))]
  rw[e];exact hK
 ·have h1: ¬l<=q:=fun e=>R6 h1 ((J6 _ _).2 e);rw[decide_eq_false h1,Bool.false_and]at hK;exact hK
def QEx:Ctr
 | [.x true [.r l a,.r h b],.x true [.r q c]]=>some fun K=>((a+b+c<=4294967290)/\(l<=h))/\(K (.x false [.v (.bool (XW ⟨l,h⟩ q))]))
 | _=>none
theorem QKn:QI 40 QEx:=by
 refine okL Tryz.func40 fun l T hT K hK=> ?_
 unfold QEx at hT;split at hT<;>cases hT
 obtain⟨hc,hK⟩:=hK;exact spL (QP QQC XN Qg) QM Tryz.func40 (QYw _ _ _ _ _ _ hc K hK)
def QYx:LC:=(40,QEx)::QYv
theorem QQD:QG QYx:= .cons QKn QQC
abbrev QWg (l:Rat)(a:Nat)(h:Rat)(b:Nat)(K:AV->Prop):Prop:=((a+b<=1000000000)/\(l<=h))/\(∀(s:Sp) n m,s=QGp ⟨l,h⟩->n<=2*(a+b)+64->m<=2*(a+b)->K (.x true [.r s.lo n,.r s.hi m]))
theorem Qbj (l:Rat)(a:Nat)(h:Rat)(b:Nat)(K:AV->Prop)(hK:QWg l a h b K):QK (QN (mkT QYx M79 X4) (oF Tryz.f197) noL Tryz.f197 [.x true [.r l a,.r h b]] K):=by
 obtain⟨hc,hK⟩:=hK;refine HV (((a+b<=4294967296/\l<=h)/\a+a<=4294967296/\b+b<=4294967296/\∃(l_1:List (Rat×Nat)),∃(N:Nat),[[Zh (l*l) (a+a)],[Zh (h*h) (b+b)]]=lRb l_1/\((l_1≠[]/\l_1.length<=100/\N<=2000000000)/\∀(p:Rat×Nat),p∈l_1->p.snd<=N)/\((-9223372036854775808:Int)<=0/\(0:Int)<9223372036854775808)/\(a+b+64<=4294967290/\l<=h)/\bif XW (Sp.mk l h) ↑(0:Int)then((-9223372036854775808:Int)<=0/\(0:Int)<9223372036854775808)/\K (AV.x true [Zh (↑(0:Int)) 64,Zh (JA Q7 l_1.tail (hdR l_1)) N])else K (AV.x true [Zh (JA Qt l_1.tail (hdR l_1)) N,Zh (JA Q7 l_1.tail (hdR l_1)) N]))) ?_
 try simp only[Za,R0,R1,Zd,Ze,R4,R2,R3]
 obtain⟨h1,h2⟩:=hc;refine⟨⟨by omega,h2⟩,by omega,by omega,[(l*l,a+a),(h*h,b+b)],2*(a+b),rfl,⟨⟨by simp,by simp,by omega⟩,fun p hp=> ?_⟩,by omega,⟨by omega,h2⟩,QF (fun h=>⟨by omega,?_⟩) (fun h=> ?_)⟩
 ·simp only[List.mem_cons,List.not_mem_nil,or_false]at hp;rcases hp with rfl | rfl<;>simp only<;>omega
 ·have:=hK _ 64 (2*(a+b)) rfl (by omega) (by omega);have h':XW ⟨l,_⟩ 0=true:=h;simp only[QGp,h',R7]at this;exact this
 ·have:=hK _ (2*(a+b)) (2*(a+b)) rfl (by omega) (by omega);have h':XW ⟨l,_⟩ 0=false:=h;simp only[QGp,h',R8]at this;exact this
def QQE:Ctr
 | [.x true [.r l a,.r h b]]=>some fun K=>QWg l a h b K
 | _=>none
theorem QYy:QI 197 QQE:=by
 refine okL Tryz.func197 fun l T hT K hK=> ?_
 unfold QQE at hT;split at hT<;>cases hT
 exact spL (QP QQD XN Qg) QM Tryz.func197 (Qbj _ _ _ _ K hK)
def QYz:LC:=(197,QQE)::QYx
theorem QQF:QG QYz:= .cons QYy QQD
abbrev QQG (l:Rat)(a:Nat)(h:Rat)(b:Nat)(d:Int)(K:AV->Prop):Prop:=((a<=1000000000/\b<=1000000000)/\(l<=h)/\(1<=d/\d<9223372036854775808))/\(∀n m,n<=a+200->m<=b+200->K (.x true [.r (HQ l d.toNat) n,.r (upR h d.toNat) m]))
theorem QY0 (l:Rat)(a:Nat)(h:Rat)(b:Nat)(d:Int)(K:AV->Prop)(hK:QQG l a h b d K):QK (QN (mkT QYz M79 X4) (oF Tryz.f199) noL Tryz.f199 [.x true [.r l a,.r h b],iA .i64 d] K):=by
 obtain⟨hc,hK⟩:=hK;refine HV (((a+b<=4294967296/\l<=h)/\(a<=1000000000/\1<=d/\d<9223372036854775808)/\∀(m:Nat),m<=a+200->(b<=1000000000/\1<=d/\d<9223372036854775808)/\∀(m_1:Nat),m_1<=b+200->K (AV.x true [Zh (HQ l d.toNat) m,Zh (upR h d.toNat) m_1]))) ?_
 try simp only[Za,R0,R1,Zd,Ze,R4,R2,R3]
 obtain⟨h1,h2,h3⟩:=hc;exact⟨⟨by omega,h2⟩,⟨by omega,h3⟩,fun n hn=>⟨⟨by omega,h3⟩,fun m hm=>hK n m hn hm⟩⟩
def QJN:Ctr
 | [.x true [.r l a,.r h b],.x false [.v (.int .i64 d)]]=>some fun K=>QQG l a h b d K
 | _=>none
theorem QUW:QI 199 QJN:=by
 refine okL Tryz.func199 fun l T hT K hK=> ?_
 unfold QJN at hT;split at hT<;>cases hT
 exact spL (QP QQF XN Qg) QM Tryz.func199 (QY0 _ _ _ _ _ K hK)
def QY1:LC:=(199,QJN)::QYz
theorem QQH:QG QY1:= .cons QUW QQF
theorem QUX (p:Rat)(a:Nat)(hc:(a<=1000000000)/\(0<=p))(K:AV->Prop)(hK:K (rA (QAI p) (64+a+1+(64+a+1)))):QK (QN (mkT QY1 M79 X4) (oF Tryz.f198) noL Tryz.f198 [rA p a] K):=by
 refine HV ((((-9223372036854775808:Int)<=1/\(1:Int)<9223372036854775808)/\64+a+1<=4294967296/\((-9223372036854775808:Int)<=1/\(1:Int)<9223372036854775808)/\64+a+1<=4294967296/\64+a+1+(64+a+1)<=4294967296/\(↑(1:Int)+p≠OfNat.ofNat 0->K (AV.x true [Zh ((↑(1:Int)-p)/(↑(1:Int)+p)) (64+a+1+(64+a+1))]))/\(↑(1:Int)+p=OfNat.ofNat 0->K (AV.x true [Zo (Zl false),Zo (Value.string (Zb (Zg []))),Zo (Value.string (Zb (Zg [])))])))) ?_
 try simp only[Za,R0,R1,Zd,Ze,R4,R2,R3]
 exact⟨by omega,by omega,by omega,by omega,by omega,fun _=>hK,fun h=>by
  have h:(1:Rat)+p=0:=h;have:=hc.2;exfalso
  grind⟩
def QEy:Ctr
 | [.x true [.r p a]]=>some fun K=>((a<=1000000000)/\(0<=p))/\(K (rA (QAI p) (64+a+1+(64+a+1))))
 | _=>none
theorem QQI:QI 198 QEy:=by
 refine okL Tryz.func198 fun l T hT K hK=> ?_
 unfold QEy at hT;split at hT<;>cases hT
 obtain⟨hc,hK⟩:=hK;exact spL (QP QQH XN Qg) QM Tryz.func198 (QUX _ _ hc K hK)
def QY2:LC:=(198,QEy)::QY1
theorem QQJ:QG QY2:= .cons QQI QQH
abbrev QBw (l:Rat)(a:Nat)(h:Rat)(b:Nat)(K:AV->Prop):Prop:=((a+b<=200000000)/\(l<=h))/\(∀(s:Sp) n m,s=QDN ⟨l,h⟩->n<=4*(a+b)+400->m<=4*(a+b)+400->K (.x true [.r s.lo n,.r s.hi m]))
theorem QJO (l:Rat)(a:Nat)(h:Rat)(b:Nat)(K:AV->Prop)(hK:QBw l a h b K):QK (QN (mkT QY2 M79 X4) (oF Tryz.f155) noL Tryz.f155 [.x true [.r l a,.r h b]] K):=by
 obtain⟨hc,hK⟩:=hK;refine HV (((a+b<=1000000000/\l<=h)/\∀(s:Sp) (n m:Nat),s=QGp (Sp.mk l h)->n<=2*(a+b)+64->m<=2*(a+b)->(m<=1000000000/\OfNat.ofNat 0<=s.hi)/\(n<=1000000000/\OfNat.ofNat 0<=s.lo)/\K (AV.x true [Zh (QAI s.hi) (64+m+1+(64+m+1)),Zh (QAI s.lo) (64+n+1+(64+n+1))]))) ?_
 try simp only[Za,R0,R1,Zd,Ze,R4,R2,R3]
 refine⟨⟨by omega,hc.2⟩,fun s n m hs hn hm=> ?_⟩;subst hs;have h0:=QKl ⟨l,h⟩;have h1:=(QGq (s:=⟨l,h⟩) (x:=l) ⟨Rat.le_refl,hc.2⟩).ok;exact⟨⟨by omega,Rat.le_trans h0 h1⟩,⟨by omega,h0⟩,hK (QDN ⟨l,h⟩) _ _ rfl (by omega) (by omega)⟩
def Uw:Ctr
 | [.x true [.r l a,.r h b]]=>some fun K=>QBw l a h b K
 | _=>none
theorem QGy:QI 155 Uw:=by
 refine okL Tryz.func155 fun l T hT K hK=> ?_
 unfold Uw at hT;split at hT<;>cases hT
 exact spL (QP QQJ XN Qg) QM Tryz.func155 (QJO _ _ _ _ K hK)
def QY3:LC:=(155,Uw)::QY2
noncomputable def Qbk:QZ:=mkT QY3 M79 X4
theorem QQK:QG QY3:= .cons QGy QQJ
theorem QY4:XL Qbk:=QP QQK XN Qg
end Go.Proofs
