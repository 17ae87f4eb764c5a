/- rat.whole, nat.Int, rat.Floor. -/
import Derived.Test.YtnbkdgmgbaangaaGreatDoorPA
open Int renaming ofNat_eq_natCast → Za
namespace Go.Proofs
open Go Go.Eng
def Qdv:List (Nat×Ctr):=L49
def Qdw:List (Nat×Ctr):=Qdv
def Qdx:List (Nat×Ctr):=Qdw
noncomputable def QeD:QU:=mkT Qdx M48 X4
end Go.Proofs
namespace Go.Proofs
open Go Go.Eng
theorem QKh {w:World}{O:Nat->Prop}{ρ:Env}{m n:Nat}{v:Value}(h:ConcV w O ρ (.x true [.v (.bool false),.b m n,.v (.string ⟨⟨[1]⟩⟩)]) v):ConcV w O ρ (.x true [.r (m:Rat) (n+1)]) v:=by
 obtain⟨vals,h1,h2⟩:=h;cases h1 with
 | v _ h1=>cases h1 with
  | b hm h1=>cases h1 with
   | v _ h1=>
    cases h1
    refine⟨_,?_,h2⟩;have hn:((m:Nat):Rat).num=m:=rfl;have hd:((m:Nat):Rat).den=1:=rfl;have e:[Value.bool false,Y6 (QA m),Value.string ⟨⟨[1]⟩⟩]=[QCT (m:Rat),QGm (m:Rat),QGn (m:Rat)]:=by
     unfold QCT QGm QGn;rw[hn,hd];have:decide ((m:Int)<0)=false:=decide_eq_false (by omega);rw[this];rfl
    rw[e];refine .r ⟨?_,?_⟩ .nil
    ·rw[hn];have:2^n<=2^(n+1):=Nat.pow_le_pow_right (by decide) (by omega);show(m:Int).natAbs<_;rw[Int.natAbs_natCast];omega
    ·rw[hd];exact Nat.one_lt_two_pow (by omega)
def QF8:Ctr:=fun as0=>match as0 with
 | [.x true [.r p a],.x true [.v (.bool false),.b m n,.v (.string ⟨⟨[1]⟩⟩)]]=>some fun K=>a+n+1<=4294967296/\K (rA (p*(m:Rat)) (a+n+1))
 | as0=>QFX as0
theorem QQi:CtrOK Tryz.prog QH QG 92 QF8:=by
 refine⟨ok_rMul.enter,fun l T hT K hK=> ?_⟩;unfold QF8 at hT;split at hT
 ·rename_i p a m n;cases hT
  refine Eng.Spec.args (ok_rMul.sound [.x true [.r p a],.x true [.r (m:Rat) (n+1)]] _ rfl K hK) fun w O vals hc=> ?_
  cases hc with
  | cons h1 h2=>cases h2 with
   | cons h2 h3=>exact .cons h1 (.cons (QKh h2) h3)
 ·exact ok_rMul.sound _ T hT K hK
def Qcc:List (Nat×Ctr):=(92,QF8)::L95
theorem QZK:CtrsOK Tryz.prog QH QG Qcc:= .cons QQi QcY
def Qcd:List (Nat×Ctr):=Qcc
theorem QZL:CtrsOK Tryz.prog QH QG Qcd:=QZK
def Qce:List (Nat×Ctr):=Qcd
theorem QZM:CtrsOK Tryz.prog QH QG Qce:=QZL
def QZN:List (Nat×Ctr):=Qce
noncomputable def Qcf:QU:=mkT QZN M79 X4
theorem QQj:CtrsOK Tryz.prog QH QG QZN:=QZM
theorem QZO:QM Tryz.prog QH QG Qcf:=QY QQj YF Qp
def QQk:OT:=fun _=>([],[])
def QBo (l:Rat)(a:Nat)(h:Rat)(b:Nat)(K:AV->Prop):Prop:=QW Qcf QQk noL Tryz.f152 [.x true [.r l a,.r h b]] K
theorem QC3 (l:Rat)(a:Nat)(h:Rat)(b:Nat)(K:AV->Prop):QBo l a h b K=(a<=4294967296/\b<=4294967296/\a+b<=4294967296/\K (AV.x false [Ch.v (Value.bool (decide (J0 l h<=0)))])):=by kernel_rfl
theorem QUx (l:Rat)(a:Nat)(h:Rat)(b:Nat)(hc:(a+b<=4294967296)/\(l<=h))(K:AV->Prop)(hK:K (.x false [.v (.bool true)])):QR (QBo l a h b K):=by
 refine⟨?_⟩;rw[QC3];try simp only[Za,R0,R1,Nat.zero_add,Nat.le_refl,R4,R2,R3]
 rw[decide_eq_true ((WY l h).2 hc.2)];exact⟨by omega,by omega,hc.1,hK⟩
def QF9:Ctr:=fun as0=>match as0 with
 | [.x true [.r l a,.r h b]]=>some fun K=>((a+b<=4294967296)/\(l<=h))/\(K (.x false [.v (.bool true)]))
 | _=>none
theorem QQl:CtrOK Tryz.prog QH QG 152 QF9:=by
 refine⟨QJ Tryz.func152 (by kernel_rfl),fun l T hT K hK=> ?_⟩;unfold QF9 at hT;split at hT
 ·cases hT
  obtain⟨hc,hK⟩:=hK;exact QI QZO QP Tryz.func152 (by kernel_rfl) (by kernel_rfl) (by rfl) (QUx _ _ _ _ hc K hK)
 ·cases hT
def QZP:List (Nat×Ctr):=(152,QF9)::QZN
noncomputable def Qcg:QU:=mkT QZP M79 X4
theorem QQm:CtrsOK Tryz.prog QH QG QZP:= .cons QQl QQj
theorem QZQ:QM Tryz.prog QH QG Qcg:=QY QQm YF Qp
def QUy:OT:=fun _=>([],[])
def QEJ (l:Rat)(a:Nat)(h:Rat)(b:Nat)(K:AV->Prop):Prop:=QW Qcg QUy noL Tryz.f96 [.x true [.r l a,.r h b]] K
theorem QGA (l:Rat)(a:Nat)(h:Rat)(b:Nat)(K:AV->Prop):QEJ l a h b K=((a+b<=4294967296/\l<=h)/\K (AV.x true [Ch.r l a,Ch.r h b])):=by kernel_rfl
theorem QZR (l:Rat)(a:Nat)(h:Rat)(b:Nat)(hc:(a+b<=4294967296)/\(l<=h))(K:AV->Prop)(hK:K (.x true [.r l a,.r h b])):QR (QEJ l a h b K):=by
 refine⟨?_⟩;rw[QGA];try simp only[Za,R0,R1,Nat.zero_add,Nat.le_refl,R4,R2,R3]
 exact⟨hc,hK⟩
def QKi:Ctr:=fun as0=>match as0 with
 | [.x true [.r l a,.r h b]]=>some fun K=>((a+b<=4294967296)/\(l<=h))/\(K (.x true [.r l a,.r h b]))
 | _=>none
theorem QUz:CtrOK Tryz.prog QH QG 96 QKi:=by
 refine⟨QJ Tryz.func96 (by kernel_rfl),fun l T hT K hK=> ?_⟩;unfold QKi at hT;split at hT
 ·cases hT
  obtain⟨hc,hK⟩:=hK;exact QI QZQ QP Tryz.func96 (by kernel_rfl) (by kernel_rfl) (by rfl) (QZR _ _ _ _ hc K hK)
 ·cases hT
def QZS:List (Nat×Ctr):=(96,QKi)::QZP
noncomputable def Qch:QU:=mkT QZS M79 X4
theorem QQn:CtrsOK Tryz.prog QH QG QZS:= .cons QUz QQm
theorem QZT:QM Tryz.prog QH QG Qch:=QY QQn YF Qp
def QZU:OT:=fun _=>([],[])
def QIK (p:Rat)(a:Nat)(K:AV->Prop):Prop:=QW Qch QZU noL Tryz.f153 [rA p a] K
theorem QIL (p:Rat)(a:Nat)(K:AV->Prop):QIK p a K=(a+a<=4294967296/\K (AV.x true [Ch.r (Xi p p) (max a a),Ch.r (Xi p p) (max a a)])):=by kernel_rfl
theorem Qci (p:Rat)(a:Nat)(hc:(a<=2000000000))(K:AV->Prop)(hK:K (.x true [.r p a,.r p a])):QR (QIK p a K):=by
 refine⟨?_⟩;rw[QIL];try simp only[Za,R0,R1,Nat.zero_add,Nat.le_refl,R4,R2,R3]
 rw[JP,Nat.max_self];exact⟨by omega,hK⟩
def QQo:Ctr:=fun as0=>match as0 with
 | [.x true [.r p a]]=>some fun K=>((a<=2000000000))/\(K (.x true [.r p a,.r p a]))
 | _=>none
theorem QZV:CtrOK Tryz.prog QH QG 153 QQo:=by
 refine⟨QJ Tryz.func153 (by kernel_rfl),fun l T hT K hK=> ?_⟩;unfold QQo at hT;split at hT
 ·cases hT
  obtain⟨hc,hK⟩:=hK;exact QI QZT QP Tryz.func153 (by kernel_rfl) (by kernel_rfl) (by rfl) (Qci _ _ hc K hK)
 ·cases hT
def Qcj:List (Nat×Ctr):=(153,QQo)::QZS
theorem QZW:CtrsOK Tryz.prog QH QG Qcj:= .cons QZV QQn
def Qck:List (Nat×Ctr):=Qcj
theorem QZX:CtrsOK Tryz.prog QH QG Qck:=QZW
def Qcl:List (Nat×Ctr):=Qck
theorem QZY:CtrsOK Tryz.prog QH QG Qcl:=QZX
def Qcm:List (Nat×Ctr):=Qcl
theorem QZZ:CtrsOK Tryz.prog QH QG Qcm:=QZY
def QZa:List (Nat×Ctr):=Qcm
noncomputable def Qcn:QU:=mkT QZa M79 X4
theorem QQp:CtrsOK Tryz.prog QH QG QZa:=QZZ
theorem QZb:QM Tryz.prog QH QG Qcn:=QY QQp YF Qp
def QQq:OT:=fun id=>bif id.beq 1 then([0,2,1,3,4,5],[[],[0],[],[2,1,0],[1,0,3,2],[3,2,1,0,4]])else bif id.beq 2 then([0,1,2,3,5,6,7,8,4,9,10,11],[[],[0],[],[2],[1,0,3,2],[],[5],[],[7],[6,5,8,7,4,1,0,3,2],[4,1,0,3,2,9,6,5,8,7],[10,4,1,0,3,2,9,6,5,8,7]])else([],[])
def QBp (l:Rat)(a:Nat)(h:Rat)(b:Nat)(m:Rat)(c:Nat)(k:Rat)(d:Nat)(K:AV->Prop):Prop:=QW Qcn QQq noL Tryz.f116 [.x true [.r l a,.r h b],.x true [.r m c,.r k d]] K
theorem QC4 (l:Rat)(a:Nat)(h:Rat)(b:Nat)(m:Rat)(c:Nat)(k:Rat)(d:Nat)(K:AV->Prop):QBp l a h b m c k d K=((a+b<=4294967296/\l<=h)/\(c+d<=4294967296/\m<=k)/\a+c<=4294967296/\b+d<=4294967296/\K (AV.x true [Ch.r (Xi l m) (max a c),Ch.r (JE h k) (max b d)])):=by kernel_rfl
theorem QU0 (l:Rat)(a:Nat)(h:Rat)(b:Nat)(m:Rat)(c:Nat)(k:Rat)(d:Nat)(hc:(a+b+c+d<=4294967290)/\(l<=h/\m<=k))(K:AV->Prop)(hK:K (.x true [.r (Xi l m) (max a c),.r (JE h k) (max b d)])):QR (QBp l a h b m c k d K):=by
 refine⟨?_⟩;rw[QC4];try simp only[Za,R0,R1,Nat.zero_add,Nat.le_refl,R4,R2,R3]
 obtain⟨h1,h2,h3⟩:=hc;exact⟨⟨by omega,h2⟩,⟨by omega,h3⟩,by omega,by omega,hK⟩
def QGB:Ctr:=fun as0=>match as0 with
 | [.x true [.r l a,.r h b],.x true [.r m c,.r k d]]=>some fun K=>((a+b+c+d<=4294967290)/\(l<=h/\m<=k))/\(K (.x true [.r (Xi l m) (max a c),.r (JE h k) (max b d)]))
 | _=>none
theorem QQr:CtrOK Tryz.prog QH QG 116 QGB:=by
 refine⟨QJ Tryz.func116 (by kernel_rfl),fun l T hT K hK=> ?_⟩;unfold QGB at hT;split at hT
 ·cases hT
  obtain⟨hc,hK⟩:=hK;exact QI QZb QP Tryz.func116 (by kernel_rfl) (by kernel_rfl) (by rfl) (QU0 _ _ _ _ _ _ _ _ hc K hK)
 ·cases hT
def QZc:List (Nat×Ctr):=(116,QGB)::QZa
noncomputable def Qco:QU:=mkT QZc M79 X4
theorem QQs:CtrsOK Tryz.prog QH QG QZc:= .cons QQr QQp
theorem QZd:QM Tryz.prog QH QG Qco:=QY QQs YF Qp
def QU1:OT:=fun _=>([],[])
def QEK (l:Rat)(a:Nat)(h:Rat)(b:Nat)(q:Rat)(c:Nat)(K:AV->Prop):Prop:=QW Qco QU1 noL Tryz.f41 [.x true [.r l a,.r h b],rA q c] K
theorem QGC (l:Rat)(a:Nat)(h:Rat)(b:Nat)(q:Rat)(c:Nat)(K:AV->Prop):QEK l a h b q c K=((a+b<=4294967296/\l<=h)/\a+c<=4294967296/\bif decide (J0 l q<=0)then c+b<=4294967296/\K (AV.x false [Ch.v (Value.bool (decide (J0 q h<=0)))])else K (AV.x false [Ch.v (Value.bool false)])):=by kernel_rfl
theorem QZe (l:Rat)(a:Nat)(h:Rat)(b:Nat)(q:Rat)(c:Nat)(hc:(a+b+c<=4294967290)/\(l<=h))(K:AV->Prop)(hK:K (.x false [.v (.bool (WD ⟨l,h⟩ q))])):QR (QEK l a h b q c K):=by
 refine⟨?_⟩;rw[QGC];try simp only[Za,R0,R1,Nat.zero_add,Nat.le_refl,R4,R2,R3]
 refine⟨⟨by omega,hc.2⟩,by omega,?_⟩;unfold WD at hK;refine QF (fun h1=>⟨by omega,?_⟩) (fun h1=> ?_)
 ·have h1:=(WY _ _).1 (R5 h1);rw[decide_eq_true h1,Bool.true_and]at hK;have e:decide (J0 q h<=0)=decide (q<=h):=by
   by_cases e:q<=h
   ·rw[decide_eq_true e,decide_eq_true ((WY _ _).2 e)]
   ·rw[decide_eq_false e,decide_eq_false (fun h=>e ((WY _ _).1 h))]
  rw[e];exact hK
 ·have h1: ¬l<=q:=fun e=>R6 h1 ((WY _ _).2 e);rw[decide_eq_false h1,Bool.false_and]at hK;exact hK
def QGD:Ctr:=fun as0=>match as0 with
 | [.x true [.r l a,.r h b],.x true [.r q c]]=>some fun K=>((a+b+c<=4294967290)/\(l<=h))/\(K (.x false [.v (.bool (WD ⟨l,h⟩ q))]))
 | _=>none
theorem QLx:CtrOK Tryz.prog QH QG 41 QGD:=by
 refine⟨QJ Tryz.func41 (by kernel_rfl),fun l T hT K hK=> ?_⟩;unfold QGD at hT;split at hT
 ·cases hT
  obtain⟨hc,hK⟩:=hK;exact QI QZd QP Tryz.func41 (by kernel_rfl) (by kernel_rfl) (by rfl) (QZe _ _ _ _ _ _ hc K hK)
 ·cases hT
def Qcp:List (Nat×Ctr):=(41,QGD)::QZc
theorem QZf:CtrsOK Tryz.prog QH QG Qcp:= .cons QLx QQs
def Qcq:List (Nat×Ctr):=Qcp
theorem QZg:CtrsOK Tryz.prog QH QG Qcq:=QZf
def Qcr:List (Nat×Ctr):=Qcq
theorem QZh:CtrsOK Tryz.prog QH QG Qcr:=QZg
def Qcs:List (Nat×Ctr):=Qcr
theorem QZi:CtrsOK Tryz.prog QH QG Qcs:=QZh
def QZj:List (Nat×Ctr):=Qcs
noncomputable def QeE:QU:=mkT QZj M79 X4
theorem QZk:CtrsOK Tryz.prog QH QG QZj:=QZi
end Go.Proofs
