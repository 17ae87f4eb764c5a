/- Configurations in eighths of the limits: conf, Conf. -/
import Derived.Test.YtmpfaflhpioaiaaGreatDoorA1
namespace Go.Proofs
open Go Go.Eng
def QkL (a:ArmV)(b:List Rat):Prop:= ∀(i:Nat) (L:QV) (q:Rat),a.za[i]? =some L->b[i]? =some q->(L.lo<=q/\q<=L.hi)/\ ∃r:Int,(0<=r/\r<=8)/\q=ZZ L.lo L.hi r
def QcR:XS:=fun b H d=>match b with
 | [.x true x,.x false [.p k o]]=>match o with
  | 0=>match H k with
   | some (.box t [.s 1 z])=>match H d with
    | none=>bif t.beq 70 then
     some fun K=> ∃a l,x=Qp a/\z=ints l/\QJ a/\l.length<=9223372036854775807/\ ∀(q:List Rat) (c:List Int),QkL a q->q.length=a.za.length->c.length<=l.length->
      K (.x false [.w d 0 q.length]) (XW [(1000,k),(500,d)] (QO [(1000,stB c),(500,YU 63 q)]) H)
     else none
    | some _=>none
   | _=>none
  | _+1=>none
 | _=>none
def QkM:List (Nat×XS):=(31,QcR)::M33
def QXj:Ctr
 | [.x true x,.x false [.s 1 y]]=>some fun K=> ∃(a:ArmV) (l:List Int),x=Qp a/\y=ints l/\((QJ a)/\(l.length<=9223372036854775807))/\(∀q:List Rat,QkL a q->q.length=a.za.length->K (sR 63 q))
 | _=>none
def QkN:LC:=(8,QXj)::L47
noncomputable def Qlg:Qd:=mkT QkN QkM X4
structure BT (x:Rat):Prop where
  bd:Bd 20000 x
def QlD:List (Nat×XS):=QkM
def QlE:LC:=QkN
noncomputable def Qlh:Qd:=mkT QlE QlD X4
end Go.Proofs
