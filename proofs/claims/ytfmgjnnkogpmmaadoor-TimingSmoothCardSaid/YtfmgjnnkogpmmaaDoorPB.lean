/- rat.whole, nat.Int, rat.Floor. -/
import Derived.Test.YtfmgjnnkogpmmaaDoorA1
open Go.IntKind renaming i64 → Za
open Go.Value renaming int → Zb
namespace Go.Proofs
open Go Go.Eng
theorem QNR {a d q:Int}(hd:0<d)(h1:q*d<=a)(h2:a<(q+1)*d):a/d=q:=
 Int.le_antisymm (Int.le_of_lt_add_one (Int.ediv_lt_of_lt_mul hd h2)) (Int.le_ediv_of_mul_le hd h1)
theorem QKr (n:Int):mkRat n 1=(n:Rat):=by rw[Rat.mkRat_one]
theorem QDi (p:Rat):p.floor=p.num/(p.den:Int):=Rat.floor_def p
theorem QKs {p:Rat}(h: ¬p.num<0):XF (decide (p.num<0)) (p.num.natAbs/p.den) 1=((p.floor:Int):Rat):=by
 unfold XF;rw[decide_eq_false h,R8,QKr,QDi];congr 1;rw[Int.natCast_ediv];congr 1;omega
theorem QIA {p:Rat}(h:p.num<0):XF (decide (p.num<0)) (p.num.natAbs/p.den+(if p.num.natAbs % p.den=0 then 0 else 1)) 1=((p.floor:Int):Rat):=by
 unfold XF;rw[decide_eq_true h,R7,QKr,QDi];congr 1;have hd:0<p.den:=Nat.pos_of_ne_zero p.den_nz;have e:=Nat.div_add_mod p.num.natAbs p.den;have hm:=Nat.mod_lt p.num.natAbs hd;have hk:p.num= -(p.num.natAbs:Int):=by omega
 symm;generalize p.num.natAbs=k at*;generalize p.den=d at*;rw[hk];generalize k/d=q at*;generalize k % d=r at*;have e':(d:Int)*q+r=k:=by exact_mod_cast e
 refine QNR (by omega) ?_ ?_
 ·split
  ·have: -((q+0:Nat):Int)*(d:Int)= -((d:Int)*q):=by rw[Nat.add_zero,Int.neg_mul,Int.mul_comm]
   rw[this];omega
  ·have: -((q+1:Nat):Int)*(d:Int)= -((d:Int)*q)-d:=by rw[Int.neg_mul,Int.natCast_add,Int.add_mul,Int.mul_comm (q:Int)];omega
   rw[this];omega
 ·split
  ·have:(-((q+0:Nat):Int)+1)*(d:Int)= -((d:Int)*q)+d:=by rw[Nat.add_zero,Int.add_mul,Int.neg_mul,Int.mul_comm (q:Int)];omega
   rw[this];omega
  ·have:(-((q+1:Nat):Int)+1)*(d:Int)= -((d:Int)*q):=by
    have: -((q+1:Nat):Int)+1= -(q:Int):=by omega
    rw[this,Int.neg_mul,Int.mul_comm]
   rw[this];omega
theorem QKt (p:Rat)(a:Nat)(hc:(a<=2000000000))(K:AV->Prop)(hK: ∀m,m<=a+16->K (rA ((p.floor:Int):Rat) m)):QU (Qc T49 (oF Tryd.f93) noL Tryd.f93 [rA p a] K):=by
 refine HV (((a<=549755813888/\a<=549755813888)/\bif decide (p.num<0)then bif !decide (QA (bif decide (p.den=0)then 0 else p.num.natAbs%p.den)=(ByteArray.mk #[]).data.toList)then(a<=549755813888/\8<=549755813888)/\((max a 8+1<=4294967296/\8<=4294967296)/\1≠0)/\K (AV.x true [Ch.r (XF (decide (p.num<0)) (p.num.natAbs/p.den+1) 1) (max (max a 8+1) 8)])else((a<=4294967296/\8<=4294967296)/\1≠0)/\K (AV.x true [Ch.r (XF (decide (p.num<0)) (p.num.natAbs/p.den) 1) (max a 8)])else((a<=4294967296/\8<=4294967296)/\1≠0)/\K (AV.x true [Ch.r (XF (decide (p.num<0)) (p.num.natAbs/p.den) 1) (max a 8)]))) ?_
 try simp only[]
 have hd:p.den≠0:=p.den_nz;rw[decide_eq_false hd,R8];refine⟨by omega,QE (fun h=> ?_) (fun h=> ?_)⟩
 ·have h:=R5 h;have e:=QIA h;refine QE (fun h2=>⟨by omega,by omega,?_⟩) (fun h2=>⟨by omega,?_⟩)
  ·have h2: ¬QA (p.num.natAbs % p.den)=[]:=by simpa using h2
   rw[if_neg (fun e=>h2 (Qk.2 e))]at e;rw[e];exact hK _ (by omega)
  ·have h2:QA (p.num.natAbs % p.den)=[]:=by simpa using h2
   rw[if_pos (Qk.1 h2),Nat.add_zero]at e;rw[e];exact hK _ (by omega)
 ·refine⟨by omega,?_⟩;rw[QKs (R6 h)];exact hK _ (by omega)
def Gh:Ctr
 | [.x true [.r p a]]=>some fun K=>((a<=2000000000))/\(∀m,m<=a+16->K (rA ((p.floor:Int):Rat) m))
 | _=>none
theorem QIB:QT 93 Gh:=by
 refine okL Tryd.func93 fun l T hT K hK=> ?_
 unfold Gh at hT;split at hT<;>cases hT
 obtain⟨hc,hK⟩:=hK;exact spL QKa QW Tryd.func93 (QKt _ _ hc K hK)
def QPx:LC:=(93,Gh)::L49
theorem QKu:QN QPx:= .cons QIB QGU
abbrev QKv (m:Nat)(n:Nat)(K:AV->Prop):Prop:=((m<9223372036854775808))/\(K (.t [(false,[.v (.int .i64 m)]),(false,[.v (.int .i64 0)])]))
theorem QPy (m:Nat)(n:Nat)(K:AV->Prop)(hK:QKv m n K):QU (Qc (mkT QPx M48 X4) (oF Tryd.f94) noL Tryd.f94 [bA m n] K):=by
 obtain⟨hc,hK⟩:=hK;refine HV ((bif decide (Int.ofNat (QA m).length>8)then K (AV.t [(false,[Ch.v (Zb Za 0)]),(false,[Ch.v (Zb Za 2)])])else m<18446744073709551616/\bif decide (Int.ofNat m>9223372036854775807)then K (AV.t [(false,[Ch.v (Zb Za 0)]),(false,[Ch.v (Zb Za 2)])])else m<18446744073709551616/\K (AV.t [(false,[Ch.v (Zb Za (Za.wrap (Int.ofNat m)))]),(false,[Ch.v (Zb Za 0)])]))) ?_
 try simp only[Int.ofNat_eq_natCast]
 exact QE (fun h=>by have:=R5 h;have:(QA m).length<=8:=Qa.2 (by omega);omega) (fun _=>⟨by omega,QE (fun h=>by have:=R5 h;omega) (fun _=>⟨by omega,by rw[w64 (by omega)];exact hK⟩)⟩)
def QFh:Ctr
 | [.x false [.b m n]]=>some fun K=>QKv m n K
 | _=>none
theorem QNS:QT 94 QFh:=by
 refine okL Tryd.func94 fun l T hT K hK=> ?_
 unfold QFh at hT;split at hT<;>cases hT
 exact spL (Qq QKu VA XP) QW Tryd.func94 (QPy _ _ K hK)
def QPz:LC:=(94,QFh)::QPx
theorem QP0:QN QPz:= .cons QNS QKu
theorem QKw (p:Rat)(a:Nat)(hc:(a<=2000000000)/\(-9223372036854775808<p.floor/\p.floor<9223372036854775808))(K:AV->Prop)(hK:K (.t [(false,[.v (.int .i64 p.floor)]),(false,[.v (.int .i64 0)])])):QU (Qc (mkT QPz M48 X4) (oF Tryd.f81) noL Tryd.f81 [rA p a] K):=by
 refine HV ((a<=(4294967296:Nat)/\a<=(2000000000:Nat)/\∀(m:Nat),m<=a+(16:Nat)->Int.natAbs (Rat.num ↑(Rat.floor p))<(9223372036854775808:Nat)/\bif decide (Rat.num ↑(Rat.floor p)<(0:Int))then K (AV.t [(false,[Ch.v (Zb Za (IntKind.wrap Za ((0:Int)-Int.ofNat (Int.natAbs (Rat.num ↑(Rat.floor p))))))]),(false,[Ch.v (Zb Za (0:Int))])])else K (AV.t [(false,[Ch.v (Zb Za (Int.ofNat (Int.natAbs (Rat.num ↑(Rat.floor p)))))]),(false,[Ch.v (Zb Za (0:Int))])]))) ?_
 try simp only[Int.ofNat_eq_natCast]
 obtain⟨ha,h1,h2⟩:=hc;simp only[Rat.num_intCast];refine⟨by omega,ha,fun m hm=>⟨by omega,QE (fun h=> ?_) (fun h=> ?_)⟩⟩
 ·have h:=R5 h;have e:Za.wrap (0-(p.floor.natAbs:Int))=p.floor:=by rw[w64 (by omega)];omega
  rw[e];exact hK
 ·have h:=R6 h;have e:((p.floor.natAbs:Nat):Int)=p.floor:=by omega
  rw[e];exact hK
def Vq:Ctr
 | [.x true [.r p a]]=>some fun K=>((a<=2000000000)/\(-9223372036854775808<p.floor/\p.floor<9223372036854775808))/\(K (.t [(false,[.v (.int .i64 p.floor)]),(false,[.v (.int .i64 0)])]))
 | _=>none
theorem QIC:QT 81 Vq:=by
 refine okL Tryd.func81 fun l T hT K hK=> ?_
 unfold Vq at hT;split at hT<;>cases hT
 obtain⟨hc,hK⟩:=hK;exact spL (Qq QP0 VA XP) QW Tryd.func81 (QKw _ _ hc K hK)
def QRh:LC:=(81,Vq)::QPz
noncomputable def QRm:Qh:=mkT QRh M48 X4
end Go.Proofs
