/- rat.whole, nat.Int, rat.Floor. -/
import Derived.Test.YtfhfenokfkenoaaGreatDoorPA
open Int renaming ofNat_eq_natCast → Za, ofNat → Zc, mul_comm → Zm, neg_mul → Zn
open ByteArray renaming mk → Zb
open Nat renaming zero_add → Zd, le_refl → Ze
open Go.IntKind renaming i64 → Zf
open Array renaming mk → Zg
open Go.Eng.Ch renaming r → Zh, v → Zo
open Go.Value renaming int → Zi, bool → Zl
open List renaming drop → Zj, tail_cons → Zk
namespace Go.Proofs
open Go Go.Eng
theorem QUC {a d q:Int}(hd:0<d)(h1:q*d<=a)(h2:a<(q+1)*d):a/d=q:=
 Int.le_antisymm (Int.le_of_lt_add_one (Int.ediv_lt_of_lt_mul hd h2)) (Int.le_ediv_of_mul_le hd h1)
theorem QPU (n:Int):mkRat n 1=(n:Rat):=by rw[Rat.mkRat_one]
theorem QGa (p:Rat):p.floor=p.num/(p.den:Int):=Rat.floor_def p
theorem QPV {p:Rat}(h: ¬p.num<0):XF (decide (p.num<0)) (p.num.natAbs/p.den) 1=((p.floor:Int):Rat):=by
 unfold XF;rw[decide_eq_false h,R8,QPU,QGa];congr 1;rw[Int.natCast_ediv];congr 1;omega
theorem QMR {p:Rat}(h:p.num<0):XF (decide (p.num<0)) (p.num.natAbs/p.den+(if p.num.natAbs % p.den=0 then 0 else 1)) 1=((p.floor:Int):Rat):=by
 unfold XF;rw[decide_eq_true h,R7,QPU,QGa];congr 1;have hd:0<p.den:=Nat.pos_of_ne_zero p.den_nz;have e:=Nat.div_add_mod p.num.natAbs p.den;have hm:=Nat.mod_lt p.num.natAbs hd;have hk:p.num= -(p.num.natAbs:Int):=by omega
 symm;generalize p.num.natAbs=k at*;generalize p.den=d at*;rw[hk];generalize k/d=q at*;generalize k % d=r at*;have e':(d:Int)*q+r=k:=by exact_mod_cast e
 refine QUC (by omega) ?_ ?_
 ·split
  ·have: -((q+0:Nat):Int)*(d:Int)= -((d:Int)*q):=by rw[Nat.add_zero,Zn,Zm]
   rw[this];omega
  ·have: -((q+1:Nat):Int)*(d:Int)= -((d:Int)*q)-d:=by rw[Zn,Int.natCast_add,Int.add_mul,Zm (q:Int)];omega
   rw[this];omega
 ·split
  ·have:(-((q+0:Nat):Int)+1)*(d:Int)= -((d:Int)*q)+d:=by rw[Nat.add_zero,Int.add_mul,Zn,Zm (q:Int)];omega
   rw[this];omega
  ·have:(-((q+1:Nat):Int)+1)*(d:Int)= -((d:Int)*q):=by
    have: -((q+1:Nat):Int)+1= -(q:Int):=by omega
    rw[this,Zn,Zm]
   rw[this];omega
theorem QPW (p:Rat)(a:Nat)(hc:(a<=2000000000))(K:AV->Prop)(hK: ∀m,m<=a+16->K (rA ((p.floor:Int):Rat) m)):QM (QR T49 (oF Tryz.f202) noL Tryz.f202 [rA p a] K):=by
 refine HV (((a<=549755813888/\a<=549755813888)/\bif decide (p.num<0)then bif !decide (QA (bif decide (p.den=0)then 0 else p.num.natAbs%p.den)=(Zb #[]).data.toList)then(a<=549755813888/\8<=549755813888)/\((max a 8+1<=4294967296/\8<=4294967296)/\1≠0)/\K (AV.x true [Zh (XF (decide (p.num<0)) (p.num.natAbs/p.den+1) 1) (max (max a 8+1) 8)])else((a<=4294967296/\8<=4294967296)/\1≠0)/\K (AV.x true [Zh (XF (decide (p.num<0)) (p.num.natAbs/p.den) 1) (max a 8)])else((a<=4294967296/\8<=4294967296)/\1≠0)/\K (AV.x true [Zh (XF (decide (p.num<0)) (p.num.natAbs/p.den) 1) (max a 8)]))) ?_
 try simp only[]
 have hd:p.den≠0:=p.den_nz;rw[decide_eq_false hd,R8];refine⟨by omega,QF (fun h=> ?_) (fun h=> ?_)⟩
 ·have h:=R5 h;have e:=QMR h;refine QF (fun h2=>⟨by omega,by omega,?_⟩) (fun h2=>⟨by omega,?_⟩)
  ·have h2: ¬QA (p.num.natAbs % p.den)=[]:=by simpa using h2
   rw[if_neg (fun e=>h2 (Ql.2 e))]at e;rw[e];exact hK _ (by omega)
  ·have h2:QA (p.num.natAbs % p.den)=[]:=by simpa using h2
   rw[if_pos (Ql.1 h2),Nat.add_zero]at e;rw[e];exact hK _ (by omega)
 ·refine⟨by omega,?_⟩;rw[QPV (R6 h)];exact hK _ (by omega)
def Vc:Ctr
 | [.x true [.r p a]]=>some fun K=>((a<=2000000000))/\(∀m,m<=a+16->K (rA ((p.floor:Int):Rat) m))
 | _=>none
theorem Hu:QI 202 Vc:=by
 refine okL Tryz.func202 fun l T hT K hK=> ?_
 unfold Vc at hT;split at hT<;>cases hT
 obtain⟨hc,hK⟩:=hK;exact spL QV2 QK Tryz.func202 (QPW _ _ hc K hK)
def QXu:LC:=(202,Vc)::L49
theorem QPX:QG QXu:= .cons Hu QO4
theorem QXv (m:Nat)(n:Nat)(hc:(m<9223372036854775808))(K:AV->Prop)(hK:K (.t [(false,[.v (.int .i64 m)]),(false,[.v (.int .i64 0)])])):QM (QR (mkT QXu M48 X4) (oF Tryz.f203) noL Tryz.f203 [bA m n] K):=by
 refine HV ((bif decide (Zc (QA m).length>8)then K (AV.t [(false,[Zo (Zi Zf 0)]),(false,[Zo (Zi Zf 2)])])else m<18446744073709551616/\bif decide (Zc m>9223372036854775807)then K (AV.t [(false,[Zo (Zi Zf 0)]),(false,[Zo (Zi Zf 2)])])else m<18446744073709551616/\K (AV.t [(false,[Zo (Zi Zf (Zf.wrap (Zc m)))]),(false,[Zo (Zi Zf 0)])]))) ?_
 try simp only[Za]
 exact QF (fun h=>by have:=R5 h;have:(QA m).length<=8:=Qc.2 (by omega);omega) (fun _=>⟨by omega,QF (fun h=>by have:=R5 h;omega) (fun _=>⟨by omega,by rw[w64 (by omega)];exact hK⟩)⟩)
def QEP:Ctr
 | [.x false [.b m _n]]=>some fun K=>((m<9223372036854775808))/\(K (.t [(false,[.v (.int .i64 m)]),(false,[.v (.int .i64 0)])]))
 | _=>none
theorem QKM:QI 203 QEP:=by
 refine okL Tryz.func203 fun l T hT K hK=> ?_
 unfold QEP at hT;split at hT<;>cases hT
 obtain⟨hc,hK⟩:=hK;exact spL (QW QPX GX Qg) QK Tryz.func203 (QXv _ _ hc K hK)
def QXw:LC:=(203,QEP)::QXu
theorem QXx:QG QXw:= .cons QKM QPX
theorem QPY (p:Rat)(a:Nat)(hc:(a<=2000000000)/\(-9223372036854775808<p.floor/\p.floor<9223372036854775808))(K:AV->Prop)(hK:K (.t [(false,[.v (.int .i64 p.floor)]),(false,[.v (.int .i64 0)])])):QM (QR (mkT QXw M48 X4) (oF Tryz.f162) noL Tryz.f162 [rA p a] K):=by
 refine HV ((a<=(4294967296:Nat)/\a<=(2000000000:Nat)/\∀(m:Nat),m<=a+(16:Nat)->Int.natAbs (Rat.num ↑(Rat.floor p))<(9223372036854775808:Nat)/\bif decide (Rat.num ↑(Rat.floor p)<(0:Int))then K (AV.t [(false,[Zo (Zi Zf (IntKind.wrap Zf ((0:Int)-Zc (Int.natAbs (Rat.num ↑(Rat.floor p))))))]),(false,[Zo (Zi Zf (0:Int))])])else K (AV.t [(false,[Zo (Zi Zf (Zc (Int.natAbs (Rat.num ↑(Rat.floor p)))))]),(false,[Zo (Zi Zf (0:Int))])]))) ?_
 try simp only[Za]
 obtain⟨ha,h1,h2⟩:=hc;simp only[Rat.num_intCast];refine⟨by omega,ha,fun m hm=>⟨by omega,QF (fun h=> ?_) (fun h=> ?_)⟩⟩
 ·have h:=R5 h;have e:Zf.wrap (0-(p.floor.natAbs:Int))=p.floor:=by rw[w64 (by omega)];omega
  rw[e];exact hK
 ·have h:=R6 h;have e:((p.floor.natAbs:Nat):Int)=p.floor:=by omega
  rw[e];exact hK
def U6:Ctr
 | [.x true [.r p a]]=>some fun K=>((a<=2000000000)/\(-9223372036854775808<p.floor/\p.floor<9223372036854775808))/\(K (.t [(false,[.v (.int .i64 p.floor)]),(false,[.v (.int .i64 0)])]))
 | _=>none
theorem QMS:QI 162 U6:=by
 refine okL Tryz.func162 fun l T hT K hK=> ?_
 unfold U6 at hT;split at hT<;>cases hT
 obtain⟨hc,hK⟩:=hK;exact spL (QW QXx GX Qg) QK Tryz.func162 (QPY _ _ hc K hK)
def Qbm:LC:=(162,U6)::QXw
noncomputable def Qb5:QZ:=mkT Qbm M48 X4
end Go.Proofs
namespace Go.Proofs
open Go Go.Eng
theorem QIv {w:World}{O:Nat->Prop}{ρ:Env}{m n:Nat}{v:Value}(h:ConcV w O ρ (.x true [.v (.bool false),.b m n,.v (.string ⟨⟨[1]⟩⟩)]) v):ConcV w O ρ (.x true [.r (m:Rat) (n+1)]) v:=by
 obtain⟨vals,h1,h2⟩:=h;cases h1 with
 | v _ h1=>cases h1 with
  | b hm h1=>cases h1 with
   | v _ h1=>
    cases h1
    refine⟨_,?_,h2⟩;have hn:((m:Nat):Rat).num=m:=rfl;have hd:((m:Nat):Rat).den=1:=rfl;have e:[Zl false,Y4 (QA m),Value.string ⟨⟨[1]⟩⟩]=[QB3 (m:Rat),numV (m:Rat),QFA (m:Rat)]:=by
     unfold QB3 numV QFA;rw[hn,hd];have:decide ((m:Int)<0)=false:=decide_eq_false (by omega);rw[this];rfl
    rw[e];refine .r ⟨?_,?_⟩ .nil
    ·rw[hn];have:2^n<=2^(n+1):=Nat.pow_le_pow_right (by decide) (by omega);show(m:Int).natAbs<_;rw[Int.natAbs_natCast];omega
    ·rw[hd];exact Nat.one_lt_two_pow (by omega)
def QEQ:Ctr:=fun as0=>match as0 with
 | [.x true [.r p a],.x true [.v (.bool false),.b m n,.v (.string ⟨⟨[1]⟩⟩)]]=>some fun K=>a+n+1<=4294967296/\K (rA (p*(m:Rat)) (a+n+1))
 | as0=>QD6 as0
theorem QPZ:QI 88 QEQ:=by
 refine⟨ok_rMul.enter,fun l T hT K hK=> ?_⟩;unfold QEQ at hT;split at hT
 ·rename_i p a m n;cases hT
  refine Eng.Spec.args (ok_rMul.sound [.x true [.r p a],.x true [.r (m:Rat) (n+1)]] _ rfl K hK) fun w O vals hc=> ?_
  cases hc with
  | cons h1 h2=>cases h2 with
   | cons h2 h3=>exact .cons h1 (.cons (QIv h2) h3)
 ·exact ok_rMul.sound _ T hT K hK
def Qap:LC:=(88,QEQ)::L95
theorem QXy:QG Qap:= .cons QPZ QWC
def QXz:LC:=(202,Vc)::Qap
theorem QPa:QG QXz:= .cons Hu QXy
abbrev QKN (p:Rat)(a:Nat)(d:Int)(K:AV->Prop):Prop:=((a<=1000000000)/\(1<=d/\d<9223372036854775808))/\(∀m,m<=a+200->K (rA (Ky p d.toNat) m))
theorem QUD (p:Rat)(a:Nat)(d:Int)(K:AV->Prop)(hK:QKN p a d K):QM (QR (mkT QXz M79 X4) (oF Tryz.f231) noL Tryz.f231 [rA p a,iA .i64 d] K):=by
 obtain⟨hc,hK⟩:=hK;refine HV (((bif true then if(1:Int)>d then(1:Int)else d else if(1:Int)<d then(1:Int)else d)<(9223372036854775808:Int)/\a+(63:Nat)+(1:Nat)<=(4294967296:Nat)/\a+(63:Nat)+(1:Nat)<=(2000000000:Nat)/\∀(m:Nat),m<=a+(63:Nat)+(1:Nat)+(16:Nat)->((m<=(4294967296:Nat)/\(63:Nat)<=(4294967296:Nat))/\Int.toNat (bif true then if(1:Int)>d then(1:Int)else d else if(1:Int)<d then(1:Int)else d)≠(0:Nat))/\K (AV.x true [Zh (XF (decide (Rat.num ↑(Rat.floor (p*↑(Int.toNat (bif true then if(1:Int)>d then(1:Int)else d else if(1:Int)<d then(1:Int)else d))))<(0:Int))) (Int.natAbs (Rat.num ↑(Rat.floor (p*↑(Int.toNat (bif true then if(1:Int)>d then(1:Int)else d else if(1:Int)<d then(1:Int)else d)))))) (Int.toNat (bif true then if(1:Int)>d then(1:Int)else d else if(1:Int)<d then(1:Int)else d))) (max m (63:Nat))]))) ?_
 try simp only[Za,R0,R1,Zd,Ze,R4,R2,R3]
 have e:(bif true then if 1>d then 1 else d else if 1<d then 1 else d)=d:=by
  show(if 1>d then 1 else d)=d
  rw[if_neg (by omega)]
 rw[e];refine⟨by omega,by omega,by omega,fun m hm=>⟨by omega,?_⟩⟩;have e2: ∀f:Int,XF (decide (((f:Int):Rat).num<0)) ((f:Int):Rat).num.natAbs d.toNat=mkRat f d.toNat:=fun f=>by
  rw[Rat.num_intCast];unfold XF;by_cases h:f<0
  ·rw[decide_eq_true h,R7];congr 1;omega
  ·rw[decide_eq_false h,R8];congr 1;omega
 rw[e2];exact hK _ (by omega)
def QER:Ctr
 | [.x true [.r p a],.x false [.v (.int .i64 d)]]=>some fun K=>QKN p a d K
 | _=>none
theorem QPb:QI 231 QER:=by
 refine okL Tryz.func231 fun l T hT K hK=> ?_
 unfold QER at hT;split at hT<;>cases hT
 exact spL (QW QPa Q8 Qg) QK Tryz.func231 (QUD _ _ _ K hK)
def QX0:LC:=(231,QER)::QXz
theorem QPc:QG QX0:= .cons QPb QPa
abbrev QWG (p:Rat)(a:Nat)(d:Int)(K:AV->Prop):Prop:=((a<=1000000000)/\(1<=d/\d<9223372036854775808))/\(∀m,m<=a+200->K (rA (upR p d.toNat) m))
theorem Qaq (p:Rat)(a:Nat)(d:Int)(K:AV->Prop)(hK:QWG p a d K):QM (QR (mkT QX0 M79 X4) (oF Tryz.f232) noL Tryz.f232 [rA p a,iA .i64 d] K):=by
 obtain⟨hc,hK⟩:=hK;refine HV ((a<=4294967296/\(a<=1000000000/\1<=d/\d<9223372036854775808)/\∀(m:Nat),m<=a+200->m<=4294967296/\K (AV.x true [Zh (-Ky (-p) d.toNat) m]))) ?_
 try simp only[Za,R0,R1,Zd,Ze,R4,R2,R3]
 exact⟨by omega,by omega,fun m hm=>⟨by omega,hK m hm⟩⟩
def QPd:Ctr
 | [.x true [.r p a],.x false [.v (.int .i64 d)]]=>some fun K=>QWG p a d K
 | _=>none
theorem QX1:QI 232 QPd:=by
 refine okL Tryz.func232 fun l T hT K hK=> ?_
 unfold QPd at hT;split at hT<;>cases hT
 exact spL (QW QPc Q8 Qg) QK Tryz.func232 (Qaq _ _ _ K hK)
def QX2:LC:=(232,QPd)::QX0
theorem QPe:QG QX2:= .cons QX1 QPc
theorem QUE (l:Rat)(a:Nat)(h:Rat)(b:Nat)(hc:(a+b<=4294967296)/\(l<=h))(K:AV->Prop)(hK:K (.x false [.v (.bool true)])):QM (QR (mkT QX2 M79 X4) (oF Tryz.f153) noL Tryz.f153 [.x true [.r l a,.r h b]] K):=by
 refine HV ((a<=4294967296/\b<=4294967296/\a+b<=4294967296/\K (AV.x false [Zo (Zl (decide (JZ l h<=0)))]))) ?_
 try simp only[Za,R0,R1,Zd,Ze,R4,R2,R3]
 rw[decide_eq_true ((W9 l h).2 hc.2)];exact⟨by omega,by omega,hc.1,hK⟩
def QES:Ctr
 | [.x true [.r l a,.r h b]]=>some fun K=>((a+b<=4294967296)/\(l<=h))/\(K (.x false [.v (.bool true)]))
 | _=>none
theorem QPf:QI 153 QES:=by
 refine okL Tryz.func153 fun l T hT K hK=> ?_
 unfold QES at hT;split at hT<;>cases hT
 obtain⟨hc,hK⟩:=hK;exact spL (QW QPe Q8 Qg) QK Tryz.func153 (QUE _ _ _ _ hc K hK)
def QX3:LC:=(153,QES)::QX2
theorem QPg:QG QX3:= .cons QPf QPe
theorem QX4 (l:Rat)(a:Nat)(h:Rat)(b:Nat)(hc:(a+b<=4294967296)/\(l<=h))(K:AV->Prop)(hK:K (.x true [.r l a,.r h b])):QM (QR (mkT QX3 M79 X4) (oF Tryz.f96) noL Tryz.f96 [.x true [.r l a,.r h b]] K):=by
 refine HV (((a+b<=4294967296/\l<=h)/\K (AV.x true [Zh l a,Zh h b]))) ?_
 try simp only[Za,R0,R1,Zd,Ze,R4,R2,R3]
 exact⟨hc,hK⟩
def QIw:Ctr
 | [.x true [.r l a,.r h b]]=>some fun K=>((a+b<=4294967296)/\(l<=h))/\(K (.x true [.r l a,.r h b]))
 | _=>none
theorem QUF:QI 96 QIw:=by
 refine okL Tryz.func96 fun l T hT K hK=> ?_
 unfold QIw at hT;split at hT<;>cases hT
 obtain⟨hc,hK⟩:=hK;exact spL (QW QPg Q8 Qg) QK Tryz.func96 (QX4 _ _ _ _ hc K hK)
def QX5:LC:=(96,QIw)::QX3
theorem QPh:QG QX5:= .cons QUF QPg
theorem Qar (p:Rat)(a:Nat)(hc:(a<=2000000000))(K:AV->Prop)(hK:K (.x true [.r p a,.r p a])):QM (QR (mkT QX5 M79 X4) (oF Tryz.f154) noL Tryz.f154 [rA p a] K):=by
 refine HV ((a+a<=4294967296/\K (AV.x true [Zh (XA p p) (max a a),Zh (XA p p) (max a a)]))) ?_
 try simp only[Za,R0,R1,Zd,Ze,R4,R2,R3]
 rw[KP,Nat.max_self];exact⟨by omega,hK⟩
def QPi:Ctr
 | [.x true [.r p a]]=>some fun K=>((a<=2000000000))/\(K (.x true [.r p a,.r p a]))
 | _=>none
theorem QX6:QI 154 QPi:=by
 refine okL Tryz.func154 fun l T hT K hK=> ?_
 unfold QPi at hT;split at hT<;>cases hT
 obtain⟨hc,hK⟩:=hK;exact spL (QW QPh Q8 Qg) QK Tryz.func154 (Qar _ _ hc K hK)
def QX7:LC:=(154,QPi)::QX5
theorem QPj:QG QX7:= .cons QX6 QPh
theorem QX8 (l:Rat)(a:Nat)(h:Rat)(b:Nat)(m:Rat)(c:Nat)(k:Rat)(d:Nat)(hc:(a+b+c+d<=4294967290)/\(l<=h/\m<=k))(K:AV->Prop)(hK:K (.x true [.r (l+m) (a+c+1),.r (h+k) (b+d+1)])):QM (QR (mkT QX7 M79 X4) (oF Tryz.f160) noL Tryz.f160 [.x true [.r l a,.r h b],.x true [.r m c,.r k d]] K):=by
 refine HV (((a+b<=4294967296/\l<=h)/\(c+d<=4294967296/\m<=k)/\a+c+1<=4294967296/\b+d+1<=4294967296/\K (AV.x true [Zh (l+m) (a+c+1),Zh (h+k) (b+d+1)]))) ?_
 try simp only[Za,R0,R1,Zd,Ze,R4,R2,R3]
 obtain⟨h1,h2,h3⟩:=hc;exact⟨⟨by omega,h2⟩,⟨by omega,h3⟩,by omega,by omega,hK⟩
def QIx:Ctr
 | [.x true [.r l a,.r h b],.x true [.r m c,.r k d]]=>some fun K=>((a+b+c+d<=4294967290)/\(l<=h/\m<=k))/\(K (.x true [.r (l+m) (a+c+1),.r (h+k) (b+d+1)]))
 | _=>none
theorem QUG:QI 160 QIx:=by
 refine okL Tryz.func160 fun l T hT K hK=> ?_
 unfold QIx at hT;split at hT<;>cases hT
 obtain⟨hc,hK⟩:=hK;exact spL (QW QPj Q8 Qg) QK Tryz.func160 (QX8 _ _ _ _ _ _ _ _ hc K hK)
def QX9:LC:=(160,QIx)::QX7
theorem QPk:QG QX9:= .cons QUG QPj
theorem QYA (l:Rat)(a:Nat)(h:Rat)(b:Nat)(m:Rat)(c:Nat)(k:Rat)(d:Nat)(hc:(a+b+c+d<=4294967290)/\(l<=h/\m<=k))(K:AV->Prop)(hK:K (.x true [.r (l-k) (a+d+1),.r (h-m) (b+c+1)])):QM (QR (mkT QX9 M79 X4) (oF Tryz.f158) noL Tryz.f158 [.x true [.r l a,.r h b],.x true [.r m c,.r k d]] K):=by
 refine HV (((a+b<=4294967296/\l<=h)/\(c+d<=4294967296/\m<=k)/\a+d+1<=4294967296/\b+c+1<=4294967296/\K (AV.x true [Zh (l-k) (a+d+1),Zh (h-m) (b+c+1)]))) ?_
 try simp only[Za,R0,R1,Zd,Ze,R4,R2,R3]
 obtain⟨h1,h2,h3⟩:=hc;exact⟨⟨by omega,h2⟩,⟨by omega,h3⟩,by omega,by omega,hK⟩
def QIy:Ctr
 | [.x true [.r l a,.r h b],.x true [.r m c,.r k d]]=>some fun K=>((a+b+c+d<=4294967290)/\(l<=h/\m<=k))/\(K (.x true [.r (l-k) (a+d+1),.r (h-m) (b+c+1)]))
 | _=>none
theorem QUH:QI 158 QIy:=by
 refine okL Tryz.func158 fun l T hT K hK=> ?_
 unfold QIy at hT;split at hT<;>cases hT
 obtain⟨hc,hK⟩:=hK;exact spL (QW QPk Q8 Qg) QK Tryz.func158 (QYA _ _ _ _ _ _ _ _ hc K hK)
def QYB:LC:=(158,QIy)::QX9
theorem QPl:QG QYB:= .cons QUH QPk
structure AdX where
 lo:Rat
 hi:Rat
 i:Nat
def YV (f:Rat->Rat->Rat)(ps:List (Rat×Nat))(q:Rat):Rat:=(ps.map (·.1)).foldl f q
def hdR (l:List (Rat×Nat)):Rat:=match l with
 | []=>0
 | p::_=>p.1
def QGb (l:List (Rat×Nat))(N:Nat):LI:=fun _=> .inv ⟨AdX,fun x=>⟨[(2,.x false [.p 2 0]),(3,.x false [.p 3 0]),(11,.x false [.s 3 (lRb l.tail)]),(12,iA .i64 l.tail.length),(13,iA .i64 x.i)],[(2,.box 86 (Xs++Xs)),(3,.box 86 [.r x.lo N,.r x.hi N])]⟩,
 fun x=>YV XA (l.tail.drop x.i) x.lo=YV XA l.tail (hdR l)/\YV XH (l.tail.drop x.i) x.hi=YV XH l.tail (hdR l)/\x.i<=l.tail.length,fun x=>l.tail.length-x.i,fun _=>0⟩
abbrev QCz (l:List (Rat×Nat))(N:Nat)(K:AV->Prop):Prop:=((l≠[]/\l.length<=100/\N<=2000000000)/\(∀p∈l,p.2<=N))/\(K (.x true [.r (YV XA l.tail (hdR l)) N,.r (YV XH l.tail (hdR l)) N]))
set_option maxHeartbeats 1000000 in
theorem QMT (l:List (Rat×Nat))(N:Nat)(K:AV->Prop)(hK:QCz l N K):QM (QR (mkT QYB M79 X4) (oF Tryz.f201) (QGb l N) Tryz.f201 [.x false [.s 3 (lRb l)]] K):=by
 obtain⟨hc,hK⟩:=hK;refine HV ((((0:Int)<=0/\0<Zc (lRb l).length)/\∃(q:Rat),∃(n:Nat),ldE (lRb l) 0 0 3=some [Zh q n]/\n<=2000000000/\((0:Int)<=1/\1<=Zc (lRb l).length/\Zc (lRb l).length<=Zc (lRb l).length)/\(∃(x:AdX),((YV XA (Zj x.i l.tail) x.lo=YV XA l.tail (hdR l)/\YV XH (Zj x.i l.tail) x.hi=YV XH l.tail (hdR l)/\x.i<=l.tail.length)/\OfNat.ofNat 0=0)/\0=0/\0=0/\3=3/\List.take ((Zc (lRb l).length).toNat-1) (Zj 1 (lRb l))=lRb l.tail/\Zc (List.take ((Zc (lRb l).length).toNat-1) (Zj 1 (lRb l))).length=Zc l.tail.length/\0=Zc x.i/\86=86/\false=false/\Zb (Zg [])=Zb (Zg [])/\Zb (Zg [])=Zb (Zg [])/\false=false/\Zb (Zg [])=Zb (Zg [])/\Zb (Zg [])=Zb (Zg [])/\86=86/\q=x.lo/\n<=N/\q=x.hi/\n<=N/\True)/\∀(x:AdX),YV XA (Zj x.i l.tail) x.lo=YV XA l.tail (hdR l)/\YV XH (Zj x.i l.tail) x.hi=YV XH l.tail (hdR l)/\x.i<=l.tail.length->OfNat.ofNat 0=0->bif decide (Zc x.i<Zc l.tail.length)then(0<=Zc x.i/\Zc x.i<Zc (lRb l.tail).length)/\∃(q:Rat),∃(n:Nat),ldE (lRb l.tail) (Zc x.i).toNat 0 3=some [Zh q n]/\N+n<=4294967296/\N+n<=4294967296/\∃(x':AdX),((YV XA (Zj x'.i l.tail) x'.lo=YV XA l.tail (hdR l)/\YV XH (Zj x'.i l.tail) x'.hi=YV XH l.tail (hdR l)/\x'.i<=l.tail.length)/\OfNat.ofNat 0=0/\l.tail.length-x'.i<l.tail.length-x.i)/\0=0/\0=0/\3=3/\lRb l.tail=lRb l.tail/\Zc l.tail.length=Zc l.tail.length/\Zf.wrap (Zc x.i+1)=Zc x'.i/\86=86/\false=false/\Zb (Zg [])=Zb (Zg [])/\Zb (Zg [])=Zb (Zg [])/\false=false/\Zb (Zg [])=Zb (Zg [])/\Zb (Zg [])=Zb (Zg [])/\86=86/\XA x.lo q=x'.lo/\max N n<=N/\XH x.hi q=x'.hi/\max N n<=N/\True else K (AV.x true [Zh x.lo N,Zh x.hi N]))) ?_
 try simp only[Za,R0,R1,R4]
 obtain⟨⟨h0,hl,hN⟩,hb⟩:=hc;obtain⟨p0,ps,rfl⟩: ∃p ps,l=p::ps:=by
  cases l with
  | nil=>exact absurd rfl h0
  | cons p ps=>exact⟨p,ps,rfl⟩
 have hb0:=hb p0 (by simp);have hl':ps.length+1<=100:=hl;have ll:(lRb (p0::ps)).length=ps.length+1:=by simp[lRb]
 rw[ll];have e2:List.take ((((ps.length+1:Nat):Int)).toNat-1) (Zj 1 (lRb (p0::ps)))=lRb ps:=by
  rw[Int.toNat_natCast,Nat.add_sub_cancel];exact List.take_of_length_le (by simp[lRb])
 have lps:(lRb ps).length=ps.length:=by simp[lRb]
 refine⟨by omega,p0.1,p0.2,rfl,by omega,by omega,⟨⟨p0.1,p0.1,0⟩,⟨rfl,rfl,by simp⟩,e2,by rw[e2,lps];rfl,rfl,rfl,hb0,rfl,hb0⟩,fun x hx=>QF (fun hp=> ?_) (fun hp=> ?_)⟩
 ·have hp:x.i<ps.length:=by have:=R5 hp;simp only[Zk]at this;omega
  obtain⟨p,hpp⟩: ∃p,ps[x.i]? =some p:=⟨_,List.getElem?_eq_getElem hp⟩
  obtain⟨e1,e3,hxi⟩:=hx;simp only[Zk]at e1 e3 hxi⊢;have hd:ps.drop x.i=p::ps.drop (x.i+1):=by
   rw[List.drop_eq_getElem_cons hp];rw[List.getElem?_eq_getElem hp]at hpp;rw[Option.some.inj hpp]
  rw[hd]at e1 e3;have hbp:=hb p (by simp[List.mem_of_getElem? hpp]);exact⟨by rw[lps];omega,p.1,p.2,by simp only[ldE,lRb,List.getElem?_map,Int.toNat_natCast,hpp];rfl,by omega,by omega,⟨_,_,x.i+1⟩,⟨⟨e1,e3,hp⟩,by simp only;omega⟩,by rw[w64 (by omega)];simp,rfl,by omega,rfl,by omega⟩
 ·have hp:x.i=ps.length:=by have:=R6 hp;have:=hx.2.2;simp only[Zk]at*;omega
  obtain⟨e1,e3,hxi⟩:=hx;simp only[Zk]at e1 e3 hK;rw[hp,List.drop_length]at e1 e3;have e1:x.lo=_:=e1;have e3:x.hi=_:=e3;rw[e1,e3];exact hK
def Hv:Ctr
 | [.x false [.s 3 xs]]=>some fun K=> ∃(l:List (Rat×Nat)) (N:Nat),xs=lRb l/\QCz l N K
 | _=>none
theorem QIz:QI 201 Hv:=by
 refine okL Tryz.func201 fun l T hT K hK=> ?_
 unfold Hv at hT;split at hT<;>cases hT
 obtain⟨l,N,rfl,hK⟩:=hK;exact spL (QW QPl Q8 Qg) QK Tryz.func201 (QMT _ _ K hK)
def QYC:LC:=(201,Hv)::QYB
theorem QPm:QG QYC:= .cons QIz QPl
abbrev QPn (l:Rat)(a:Nat)(h:Rat)(b:Nat)(m:Rat)(c:Nat)(k:Rat)(d:Nat)(K:AV->Prop):Prop:=((a+b+c+d<=2000000000)/\(l<=h/\m<=k))/\(∀(s:Sp) n,s=YO ⟨l,h⟩ ⟨m,k⟩->n<=max a b+max c d->K (.x true [.r s.lo n,.r s.hi n]))
theorem QYD (l:Rat)(a:Nat)(h:Rat)(b:Nat)(m:Rat)(c:Nat)(k:Rat)(d:Nat)(K:AV->Prop)(hK:QPn l a h b m c k d K):QM (QR (mkT QYC M79 X4) (oF Tryz.f159) noL Tryz.f159 [.x true [.r l a,.r h b],.x true [.r m c,.r k d]] K):=by
 obtain⟨hc,hK⟩:=hK;refine HV (((a+b<=4294967296/\l<=h)/\(c+d<=4294967296/\m<=k)/\a+c<=4294967296/\a+d<=4294967296/\b+c<=4294967296/\b+d<=4294967296/\∃(l_1:List (Rat×Nat)),∃(N:Nat),[[Zh (l*m) (a+c)],[Zh (l*k) (a+d)],[Zh (h*m) (b+c)],[Zh (h*k) (b+d)]]=lRb l_1/\((l_1≠[]/\l_1.length<=100/\N<=2000000000)/\∀(p:Rat×Nat),p∈l_1->p.snd<=N)/\K (AV.x true [Zh (YV XA l_1.tail (hdR l_1)) N,Zh (YV XH l_1.tail (hdR l_1)) N]))) ?_
 try simp only[Za,R0,R1,Zd,Ze,R4,R2,R3]
 obtain⟨h1,h2,h3⟩:=hc;refine⟨⟨by omega,h2⟩,⟨by omega,h3⟩,by omega,by omega,by omega,by omega,[(l*m,a+c),(l*k,a+d),(h*m,b+c),(h*k,b+d)],max a b+max c d,rfl,⟨⟨by simp,by simp,by omega⟩,fun p hp=> ?_⟩,hK _ _ rfl (Ze _)⟩;simp only[List.mem_cons,List.not_mem_nil,or_false]at hp;rcases hp with rfl | rfl | rfl | rfl<;>simp only<;>omega
def QI0:Ctr
 | [.x true [.r l a,.r h b],.x true [.r m c,.r k d]]=>some fun K=>QPn l a h b m c k d K
 | _=>none
theorem QUI:QI 159 QI0:=by
 refine okL Tryz.func159 fun l T hT K hK=> ?_
 unfold QI0 at hT;split at hT<;>cases hT
 exact spL (QW QPm Q8 Qg) QK Tryz.func159 (QYD _ _ _ _ _ _ _ _ K hK)
def QYE:LC:=(159,QI0)::QYC
theorem QPo:QG QYE:= .cons QUI QPm
theorem QUJ (l:Rat)(a:Nat)(h:Rat)(b:Nat)(m:Rat)(c:Nat)(k:Rat)(d:Nat)(hc:(a+b+c+d<=4294967290)/\(l<=h/\m<=k))(K:AV->Prop)(hK:K (.x true [.r (XA l m) (max a c),.r (XH h k) (max b d)])):QM (QR (mkT QYE M79 X4) (oF Tryz.f112) noL Tryz.f112 [.x true [.r l a,.r h b],.x true [.r m c,.r k d]] K):=by
 refine HV (((a+b<=4294967296/\l<=h)/\(c+d<=4294967296/\m<=k)/\a+c<=4294967296/\b+d<=4294967296/\K (AV.x true [Zh (XA l m) (max a c),Zh (XH h k) (max b d)]))) ?_
 try simp only[Za,R0,R1,Zd,Ze,R4,R2,R3]
 obtain⟨h1,h2,h3⟩:=hc;exact⟨⟨by omega,h2⟩,⟨by omega,h3⟩,by omega,by omega,hK⟩
def QET:Ctr
 | [.x true [.r l a,.r h b],.x true [.r m c,.r k d]]=>some fun K=>((a+b+c+d<=4294967290)/\(l<=h/\m<=k))/\(K (.x true [.r (XA l m) (max a c),.r (XH h k) (max b d)]))
 | _=>none
theorem QPp:QI 112 QET:=by
 refine okL Tryz.func112 fun l T hT K hK=> ?_
 unfold QET at hT;split at hT<;>cases hT
 obtain⟨hc,hK⟩:=hK;exact spL (QW QPo Q8 Qg) QK Tryz.func112 (QUJ _ _ _ _ _ _ _ _ hc K hK)
def QYF:LC:=(112,QET)::QYE
theorem QPq:QG QYF:= .cons QPp QPo
theorem QYG (l:Rat)(a:Nat)(h:Rat)(b:Nat)(q:Rat)(c:Nat)(hc:(a+b+c<=4294967290)/\(l<=h))(K:AV->Prop)(hK:K (.x false [.v (.bool (Jd ⟨l,h⟩ q))])):QM (QR (mkT QYF M79 X4) (oF Tryz.f40) noL Tryz.f40 [.x true [.r l a,.r h b],rA q c] K):=by
 refine HV (((a+b<=4294967296/\l<=h)/\a+c<=4294967296/\bif decide (JZ l q<=0)then c+b<=4294967296/\K (AV.x false [Zo (Zl (decide (JZ q h<=0)))])else K (AV.x false [Zo (Zl false)]))) ?_
 try simp only[Za,R0,R1,Zd,Ze,R4,R2,R3]
 refine⟨⟨by omega,hc.2⟩,by omega,?_⟩;unfold Jd at hK;refine QF (fun h1=>⟨by omega,?_⟩) (fun h1=> ?_)
 ·have h1:=(W9 _ _).1 (R5 h1);rw[decide_eq_true h1,Bool.true_and]at hK;have e:decide (JZ q h<=0)=decide (q<=h):=by
   by_cases e:q<=h
   ·rw[decide_eq_true e,decide_eq_true ((W9 _ _).2 e)]
   ·rw[decide_eq_false e,decide_eq_false (fun h=>e ((W9 _ _).1 h))]
  rw[e];exact hK
 ·have h1: ¬l<=q:=fun e=>R6 h1 ((W9 _ _).2 e);rw[decide_eq_false h1,Bool.false_and]at hK;exact hK
def QI1:Ctr
 | [.x true [.r l a,.r h b],.x true [.r q c]]=>some fun K=>((a+b+c<=4294967290)/\(l<=h))/\(K (.x false [.v (.bool (Jd ⟨l,h⟩ q))]))
 | _=>none
theorem QUK:QI 40 QI1:=by
 refine okL Tryz.func40 fun l T hT K hK=> ?_
 unfold QI1 at hT;split at hT<;>cases hT
 obtain⟨hc,hK⟩:=hK;exact spL (QW QPq Q8 Qg) QK Tryz.func40 (QYG _ _ _ _ _ _ hc K hK)
def QYH:LC:=(40,QI1)::QYF
theorem QPr:QG QYH:= .cons QUK QPq
abbrev QWH (l:Rat)(a:Nat)(h:Rat)(b:Nat)(K:AV->Prop):Prop:=((a+b<=1000000000)/\(l<=h))/\(∀(s:Sp) n m,s=QBT ⟨l,h⟩->n<=2*(a+b)+64->m<=2*(a+b)->K (.x true [.r s.lo n,.r s.hi m]))
theorem Qas (l:Rat)(a:Nat)(h:Rat)(b:Nat)(K:AV->Prop)(hK:QWH l a h b K):QM (QR (mkT QYH M79 X4) (oF Tryz.f197) noL Tryz.f197 [.x true [.r l a,.r h b]] K):=by
 obtain⟨hc,hK⟩:=hK;refine HV (((a+b<=4294967296/\l<=h)/\a+a<=4294967296/\b+b<=4294967296/\∃(l_1:List (Rat×Nat)),∃(N:Nat),[[Zh (l*l) (a+a)],[Zh (h*h) (b+b)]]=lRb l_1/\((l_1≠[]/\l_1.length<=100/\N<=2000000000)/\∀(p:Rat×Nat),p∈l_1->p.snd<=N)/\((-9223372036854775808:Int)<=0/\(0:Int)<9223372036854775808)/\(a+b+64<=4294967290/\l<=h)/\bif Jd (Sp.mk l h) ↑(0:Int)then((-9223372036854775808:Int)<=0/\(0:Int)<9223372036854775808)/\K (AV.x true [Zh (↑(0:Int)) 64,Zh (YV XH l_1.tail (hdR l_1)) N])else K (AV.x true [Zh (YV XA l_1.tail (hdR l_1)) N,Zh (YV XH l_1.tail (hdR l_1)) N]))) ?_
 try simp only[Za,R0,R1,Zd,Ze,R4,R2,R3]
 obtain⟨h1,h2⟩:=hc;refine⟨⟨by omega,h2⟩,by omega,by omega,[(l*l,a+a),(h*h,b+b)],2*(a+b),rfl,⟨⟨by simp,by simp,by omega⟩,fun p hp=> ?_⟩,by omega,⟨by omega,h2⟩,QF (fun h=>⟨by omega,?_⟩) (fun h=> ?_)⟩
 ·simp only[List.mem_cons,List.not_mem_nil,or_false]at hp;rcases hp with rfl | rfl<;>simp only<;>omega
 ·have:=hK _ 64 (2*(a+b)) rfl (by omega) (by omega);have h':Jd ⟨l,_⟩ 0=true:=h;simp only[QBT,h',R7]at this;exact this
 ·have:=hK _ (2*(a+b)) (2*(a+b)) rfl (by omega) (by omega);have h':Jd ⟨l,_⟩ 0=false:=h;simp only[QBT,h',R8]at this;exact this
def QPs:Ctr
 | [.x true [.r l a,.r h b]]=>some fun K=>QWH l a h b K
 | _=>none
theorem QYI:QI 197 QPs:=by
 refine okL Tryz.func197 fun l T hT K hK=> ?_
 unfold QPs at hT;split at hT<;>cases hT
 exact spL (QW QPr Q8 Qg) QK Tryz.func197 (Qas _ _ _ _ K hK)
def QYJ:LC:=(197,QPs)::QYH
theorem QPt:QG QYJ:= .cons QYI QPr
abbrev QPu (l:Rat)(a:Nat)(h:Rat)(b:Nat)(d:Int)(K:AV->Prop):Prop:=((a<=1000000000/\b<=1000000000)/\(l<=h)/\(1<=d/\d<9223372036854775808))/\(∀n m,n<=a+200->m<=b+200->K (.x true [.r (Ky l d.toNat) n,.r (upR h d.toNat) m]))
theorem QYK (l:Rat)(a:Nat)(h:Rat)(b:Nat)(d:Int)(K:AV->Prop)(hK:QPu l a h b d K):QM (QR (mkT QYJ M79 X4) (oF Tryz.f199) noL Tryz.f199 [.x true [.r l a,.r h b],iA .i64 d] K):=by
 obtain⟨hc,hK⟩:=hK;refine HV (((a+b<=4294967296/\l<=h)/\(a<=1000000000/\1<=d/\d<9223372036854775808)/\∀(m:Nat),m<=a+200->(b<=1000000000/\1<=d/\d<9223372036854775808)/\∀(m_1:Nat),m_1<=b+200->K (AV.x true [Zh (Ky l d.toNat) m,Zh (upR h d.toNat) m_1]))) ?_
 try simp only[Za,R0,R1,Zd,Ze,R4,R2,R3]
 obtain⟨h1,h2,h3⟩:=hc;exact⟨⟨by omega,h2⟩,⟨by omega,h3⟩,fun n hn=>⟨⟨by omega,h3⟩,fun m hm=>hK n m hn hm⟩⟩
def QI2:Ctr
 | [.x true [.r l a,.r h b],.x false [.v (.int .i64 d)]]=>some fun K=>QPu l a h b d K
 | _=>none
theorem QUL:QI 199 QI2:=by
 refine okL Tryz.func199 fun l T hT K hK=> ?_
 unfold QI2 at hT;split at hT<;>cases hT
 exact spL (QW QPt Q8 Qg) QK Tryz.func199 (QYK _ _ _ _ _ K hK)
def QYL:LC:=(199,QI2)::QYJ
theorem QPv:QG QYL:= .cons QUL QPt
theorem QUM (p:Rat)(a:Nat)(hc:(a<=1000000000)/\(0<=p))(K:AV->Prop)(hK:K (rA (Gl p) (64+a+1+(64+a+1)))):QM (QR (mkT QYL M79 X4) (oF Tryz.f198) noL Tryz.f198 [rA p a] K):=by
 refine HV ((((-9223372036854775808:Int)<=1/\(1:Int)<9223372036854775808)/\64+a+1<=4294967296/\((-9223372036854775808:Int)<=1/\(1:Int)<9223372036854775808)/\64+a+1<=4294967296/\64+a+1+(64+a+1)<=4294967296/\(↑(1:Int)+p≠OfNat.ofNat 0->K (AV.x true [Zh ((↑(1:Int)-p)/(↑(1:Int)+p)) (64+a+1+(64+a+1))]))/\(↑(1:Int)+p=OfNat.ofNat 0->K (AV.x true [Zo (Zl false),Zo (Value.string (Zb (Zg []))),Zo (Value.string (Zb (Zg [])))])))) ?_
 try simp only[Za,R0,R1,Zd,Ze,R4,R2,R3]
 exact⟨by omega,by omega,by omega,by omega,by omega,fun _=>hK,fun h=>by
  have h:(1:Rat)+p=0:=h;have:=hc.2;exfalso
  grind⟩
def QEU:Ctr
 | [.x true [.r p a]]=>some fun K=>((a<=1000000000)/\(0<=p))/\(K (rA (Gl p) (64+a+1+(64+a+1))))
 | _=>none
theorem QPw:QI 198 QEU:=by
 refine okL Tryz.func198 fun l T hT K hK=> ?_
 unfold QEU at hT;split at hT<;>cases hT
 obtain⟨hc,hK⟩:=hK;exact spL (QW QPv Q8 Qg) QK Tryz.func198 (QUM _ _ hc K hK)
def QYM:LC:=(198,QEU)::QYL
theorem QPx:QG QYM:= .cons QPw QPv
abbrev QBa (l:Rat)(a:Nat)(h:Rat)(b:Nat)(K:AV->Prop):Prop:=((a+b<=200000000)/\(l<=h))/\(∀(s:Sp) n m,s=GY ⟨l,h⟩->n<=4*(a+b)+400->m<=4*(a+b)+400->K (.x true [.r s.lo n,.r s.hi m]))
theorem QI3 (l:Rat)(a:Nat)(h:Rat)(b:Nat)(K:AV->Prop)(hK:QBa l a h b K):QM (QR (mkT QYM M79 X4) (oF Tryz.f155) noL Tryz.f155 [.x true [.r l a,.r h b]] K):=by
 obtain⟨hc,hK⟩:=hK;refine HV (((a+b<=1000000000/\l<=h)/\∀(s:Sp) (n m:Nat),s=QBT (Sp.mk l h)->n<=2*(a+b)+64->m<=2*(a+b)->(m<=1000000000/\OfNat.ofNat 0<=s.hi)/\(n<=1000000000/\OfNat.ofNat 0<=s.lo)/\K (AV.x true [Zh (Gl s.hi) (64+m+1+(64+m+1)),Zh (Gl s.lo) (64+n+1+(64+n+1))]))) ?_
 try simp only[Za,R0,R1,Zd,Ze,R4,R2,R3]
 refine⟨⟨by omega,hc.2⟩,fun s n m hs hn hm=> ?_⟩;subst hs;have h0:=G5 ⟨l,h⟩;have h1:=(KQ (s:=⟨l,h⟩) (x:=l) ⟨Rat.le_refl,hc.2⟩).ok;exact⟨⟨by omega,Rat.le_trans h0 h1⟩,⟨by omega,h0⟩,hK (GY ⟨l,h⟩) _ _ rfl (by omega) (by omega)⟩
def UX:Ctr
 | [.x true [.r l a,.r h b]]=>some fun K=>QBa l a h b K
 | _=>none
theorem QGc:QI 155 UX:=by
 refine okL Tryz.func155 fun l T hT K hK=> ?_
 unfold UX at hT;split at hT<;>cases hT
 exact spL (QW QPx Q8 Qg) QK Tryz.func155 (QI3 _ _ _ _ K hK)
def QYN:LC:=(155,UX)::QYM
noncomputable def Qat:QZ:=mkT QYN M79 X4
theorem QPy:QG QYN:= .cons QGc QPx
theorem QYO:Q7 Qat:=QW QPy Q8 Qg
end Go.Proofs
