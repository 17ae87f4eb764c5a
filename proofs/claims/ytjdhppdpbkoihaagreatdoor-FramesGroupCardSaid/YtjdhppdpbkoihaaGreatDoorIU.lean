/- frame.Back; inverse: solve, inside, Two. -/
import Derived.Test.YtjdhppdpbkoihaaGreatDoorIT
namespace Go.Proofs
open Go Go.Eng
def Qu (f:FrV):FrV:=⟨(0-f.x)*Q7 f.h (-f.t)-(0-f.y)*XA f.h (-f.t),(0-f.x)*XA f.h (-f.t)+(0-f.y)*Q7 f.h (-f.t),f.h,-f.t⟩
theorem QOx (h:Bool)(t:Rat)(k:Nat)(hc:(h=true->t=0)/\(k<=100000000))(K:AV->Prop)(hK: ∀n,n<=k+64->K (.x true [.v (.bool h),.r (-t) n])):QN (QU QUR (oF Tryz.f39) noL Tryz.f39 [.x true [.v (.bool h),.r t k]] K):=by
 refine HV ((k<=1000000000/\∀(n:Nat),n<=k+64->n<=4294967296/\K (AV.x true [Ch.v (Value.bool h),Ch.r (-XD h t) n]))) ?_
 try simp only[Int.ofNat_eq_natCast,R0,R1,Nat.zero_add,Nat.le_refl,R4,R2,R3]
 have e:XD h t=t:=by
  cases h with
  | true=>rw[hc.1 rfl];rfl
  | false=>rfl
 rw[e];exact⟨by omega,fun n hn=>⟨by omega,hK n hn⟩⟩
def HA:Ctr
 | [.x true [.v (.bool h),.r t k]]=>some fun K=>((h=true->t=0)/\(k<=100000000))/\(∀n,n<=k+64->K (.x true [.v (.bool h),.r (-t) n]))
 | _=>none
theorem QDk:QH 39 HA:=by
 refine okL Tryz.func39 fun l T hT K hK=> ?_
 unfold HA at hT;split at hT<;>cases hT
 obtain⟨hc,hK⟩:=hK;exact spL QR3 QO Tryz.func39 (QOx _ _ _ hc K hK)
def QLq:LC:=(39,HA)::QK1
theorem QGs:QC QLq:= .cons QDk QBz
theorem QOy (_hc:True)(K:AV->Prop)(hK:K (.x true [.r ((0:Int):Rat) 64,.r ((0:Int):Rat) 64,.v (.bool false),.r ((0:Int):Rat) 64])):QN (QU (mkT QLq M79 X4) (oF Tryz.f11) noL Tryz.f11 [] K):=by
 refine HV ((((-9223372036854775808:Int)<=0/\(0:Int)<9223372036854775808)/\64<=1000000000/\K (AV.x true [Ch.r (↑(0:Int)) 64,Ch.r (↑(0:Int)) 64,Ch.v (Value.bool false),Ch.r (↑(0:Int)) 64]))) ?_
 try simp only[Int.ofNat_eq_natCast,R0,R1,Nat.zero_add,Nat.le_refl,R4,R2,R3]
 exact⟨by omega,by omega,hK⟩
def HB:Ctr
 | []=>some fun K=>(True)/\(K (.x true [.r ((0:Int):Rat) 64,.r ((0:Int):Rat) 64,.v (.bool false),.r ((0:Int):Rat) 64]))
 | _=>none
theorem QDl:QH 11 HB:=by
 refine okL Tryz.func11 fun l T hT K hK=> ?_
 unfold HB at hT;split at hT<;>cases hT
 obtain⟨hc,hK⟩:=hK;exact spL (QW QGs XC Q0) QO Tryz.func11 (QOy  hc K hK)
def QLr:LC:=(11,HB)::QLq
theorem QOz:QC QLr:= .cons QDl QGs
theorem QO0 (x:Rat)(i:Nat)(y:Rat)(j:Nat)(h:Bool)(t:Rat)(k:Nat)(hc:(h=true->t=0)/\(i+j+k<=1000))(K:AV->Prop)(hK: ∀n m o,n<=20000->m<=20000->o<=1064->K (.x true [.r (Qu ⟨x,y,h,t⟩).x n,.r (Qu ⟨x,y,h,t⟩).y m,.v (.bool h),.r (-t) o])):QN (QU (mkT QLr M79 X4) (oF Tryz.f14) noL Tryz.f14 [.x true [.r x i,.r y j,.v (.bool h),.r t k]] K):=by
 refine HV ((((h=true->t=OfNat.ofNat 0)/\k<=100000000)/\∀(n:Nat),n<=k+64->True/\(64+i<=4294967290/\64+j<=4294967290)/\64+i+1+(64+j+1)+n<=400000000/\∀(n_1 m:Nat),n_1<=64+i+1+(64+j+1)+8*n+1000->m<=64+i+1+(64+j+1)+8*n+1000->K (AV.x true [Ch.r ((↑(0:Int)-x)*Q7 h (-t)-(↑(0:Int)-y)*XA h (-t)) n_1,Ch.r ((↑(0:Int)-x)*XA h (-t)+(↑(0:Int)-y)*Q7 h (-t)) m,Ch.v (Value.bool h),Ch.r (-t) n]))) ?_
 try simp only[R0]
 refine⟨⟨hc.1,by omega⟩,fun o ho=>⟨⟨by omega,by omega⟩,by omega,fun n m hn hm=>hK n m o (by omega) (by omega) (by omega)⟩⟩
def HC:Ctr
 | [.x true [.r x i,.r y j,.v (.bool h),.r t k]]=>some fun K=>((h=true->t=0)/\(i+j+k<=1000))/\(∀n m o,n<=20000->m<=20000->o<=1064->K (.x true [.r (Qu ⟨x,y,h,t⟩).x n,.r (Qu ⟨x,y,h,t⟩).y m,.v (.bool h),.r (-t) o]))
 | _=>none
theorem QLs:QH 14 HC:=by
 refine okL Tryz.func14 fun l T hT K hK=> ?_
 unfold HC at hT;split at hT<;>cases hT
 obtain⟨hc,hK⟩:=hK;exact spL (QW QOz XC Q0) QO Tryz.func14 (QO0 _ _ _ _ _ _ _ hc K hK)
def QUq:LC:=(14,HC)::QLr
noncomputable def QVN:QY:=mkT QUq M79 X4
def QO1:LC:=(27,Vr)::(14,HC)::QLp
theorem QSW:QC QO1:= .cons QIW (.cons QLs QOw)
def QUr:LC:=QO1
noncomputable def QVO:QY:=mkT QUr QFs X4
def QVI:LC:=QO1
def QUs:LC:=QVI
noncomputable def QVP:QY:=mkT QUs QFs X4
end Go.Proofs
