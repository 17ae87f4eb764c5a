/- Outer boxes of shapes: ShapeInside. -/
import Derived.Test.YtfhfenokfkenoaaGreatDoorPD
import Derived.Test.YtfhfenokfkenoaaGreatDoorSE
namespace Go.Proofs
open Go Go.Eng
def atX (l:LoV)(p:Rat×Rat):Sp:=QCc l.x (QSd (Jm (HJ p.1) l.c) (Jm (HJ p.2) l.s))
def atY (l:LoV)(p:Rat×Rat):Sp:=QCc l.y (QCc (Jm (HJ p.1) l.s) (Jm (HJ p.2) l.c))
def hX (l:LoV):List (Rat×Rat)->Sp->Sp
 | [],x=>x
 | v::vs,x=>hX l vs (GK x (atX l v))
def hY (l:LoV):List (Rat×Rat)->Sp->Sp
 | [],y=>y
 | v::vs,y=>hY l vs (GK y (atY l v))
def QaL:List (Nat×Ctr):=QTN
theorem QX1:QH QaL:=QHT
def QdS:List (Nat×Ctr):=QaL
noncomputable def Qgb:QR:=mkT QdS M79 X4
theorem QTO:QH QdS:=QX1
theorem QdT:QJ Qgb:=QU QTO XE Ql
def QTP:OT:=fun _=>([],[])
def QCo (xl:Rat)(a:Nat)(xh:Rat)(b:Nat)(yl:Rat)(c:Nat)(yh:Rat)(d:Nat)(K:AV->Prop):Prop:=QS Qgb QTP noL Tryz.f98 [.x true ([.r xl a,.r xh b,.r yl c,.r yh d]++Jw++Jw++Jw++Jw)] K
theorem QD3 (xl:Rat)(a:Nat)(xh:Rat)(b:Nat)(yl:Rat)(c:Nat)(yh:Rat)(d:Nat)(K:AV->Prop):QCo xl a xh b yl c yh d K=(K (AV.x true [Ch.r xl a,Ch.r yl c,Ch.r xh b,Ch.r yh d])):=by kernel_rfl
theorem QX2 (xl:Rat)(a:Nat)(xh:Rat)(b:Nat)(yl:Rat)(c:Nat)(yh:Rat)(d:Nat)(_hc:True)(K:AV->Prop)(hK:K (.x true [.r xl a,.r yl c,.r xh b,.r yh d])):QO (QCo xl a xh b yl c yh d K):=by
 refine⟨?_⟩;rw[QD3];try simp only[Int.ofNat_eq_natCast,R0,R1,Nat.zero_add,Nat.le_refl,R4,R2,R3]
 exact hK
def QHU:Ctr
 | [.x true [.r xl a,.r xh b,.r yl c,.r yh d,.v (.bool false),.v (.string ⟨⟨[]⟩⟩),.v (.string ⟨⟨[]⟩⟩),.v (.bool false),.v (.string ⟨⟨[]⟩⟩),.v (.string ⟨⟨[]⟩⟩),.v (.bool false),.v (.string ⟨⟨[]⟩⟩),.v (.string ⟨⟨[]⟩⟩),.v (.bool false),.v (.string ⟨⟨[]⟩⟩),.v (.string ⟨⟨[]⟩⟩)]]=>some fun K=>(True)/\(K (.x true [.r xl a,.r yl c,.r xh b,.r yh d]))
 | _=>none
theorem QTQ:QI 98 QHU:=by
 refine⟨QK Tryz.func98 (by kernel_rfl),fun l T hT K hK=> ?_⟩;unfold QHU at hT;split at hT
 ·cases hT
  obtain⟨hc,hK⟩:=hK;exact QF QdT QP Tryz.func98 (by kernel_rfl) (by kernel_rfl) (by rfl) (QX2 _ _ _ _ _ _ _ _ hc K hK)
 ·cases hT
def Qgc:List (Nat×Ctr):=(98,QHU)::QdS
theorem QdU:QH Qgc:= .cons QTQ QTO
def QdV:List (Nat×Ctr):=Qgc
noncomputable def Qgd:QR:=mkT QdV M79 X4
theorem QdW:QH QdV:=QdU
theorem QdX:QJ Qgd:=QU QdW XE Ql
def QPo:OT:=fun _=>([],[])
def QAD (xl:Rat)(a:Nat)(yl:Rat)(b:Nat)(xh:Rat)(c:Nat)(yh:Rat)(d:Nat)(u:Rat)(e:Nat)(v:Rat)(g:Nat)(K:AV->Prop):Prop:=QS Qgd QPo noL Tryz.f44 [.x true [.r xl a,.r yl b,.r xh c,.r yh d],.x true [.r u e,.r v g]] K
theorem QCp (xl:Rat)(a:Nat)(yl:Rat)(b:Nat)(xh:Rat)(c:Nat)(yh:Rat)(d:Nat)(u:Rat)(e:Nat)(v:Rat)(g:Nat)(K:AV->Prop):QAD xl a yl b xh c yh d u e v g K=(((a+e<=4294967296/\b+g<=4294967296/\c+e<=4294967296/\d+g<=4294967296)/\(xl<=u/\yl<=v)/\u<=xh/\v<=yh)/\K (AV.x false [Ch.v (Value.bool true)])):=by kernel_rfl
theorem QTR (xl:Rat)(a:Nat)(yl:Rat)(b:Nat)(xh:Rat)(c:Nat)(yh:Rat)(d:Nat)(u:Rat)(e:Nat)(v:Rat)(g:Nat)(hc:(a+b+c+d+e+g<=4294967296)/\((xl<=u/\yl<=v)/\u<=xh/\v<=yh))(K:AV->Prop)(hK:K (.x false [.v (.bool true)])):QO (QAD xl a yl b xh c yh d u e v g K):=by
 refine⟨?_⟩;rw[QCp];try simp only[Int.ofNat_eq_natCast,R0,R1,Nat.zero_add,Nat.le_refl,R4,R2,R3]
 exact⟨⟨⟨by omega,by omega,by omega,by omega⟩,hc.2⟩,hK⟩
def HQ:Ctr
 | [.x true [.r xl a,.r yl b,.r xh c,.r yh d],.x true [.r u e,.r v g]]=>some fun K=>((a+b+c+d+e+g<=4294967296)/\((xl<=u/\yl<=v)/\u<=xh/\v<=yh))/\(K (.x false [.v (.bool true)]))
 | _=>none
theorem QPp:QI 44 HQ:=by
 refine⟨QK Tryz.func44 (by kernel_rfl),fun l T hT K hK=> ?_⟩;unfold HQ at hT;split at hT
 ·cases hT
  obtain⟨hc,hK⟩:=hK;exact QF QdX QP Tryz.func44 (by kernel_rfl) (by kernel_rfl) (by rfl) (QTR _ _ _ _ _ _ _ _ _ _ _ _ hc K hK)
 ·cases hT
def Qhi:List (Nat×Ctr):=(44,HQ)::QdV
noncomputable def Qh3:QR:=mkT Qhi M79 X4
end Go.Proofs
