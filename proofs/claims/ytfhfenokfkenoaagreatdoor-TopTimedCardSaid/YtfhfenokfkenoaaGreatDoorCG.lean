/- Configurations in eighths of the limits: conf, Conf. -/
import Derived.Test.YtfhfenokfkenoaaGreatDoorA1
namespace Go.Proofs
open Go Go.Eng
def QXp (a:ArmV)(qs:List Rat):Prop:= ∀(i:Nat) (L:QZ) (q:Rat),a.links[i]? =some L->qs[i]? =some q->(L.lo<=q/\q<=L.hi)/\ ∃r:Int,(0<=r/\r<=8)/\q=Gw L.lo L.hi r
def QRf:XW:=fun as0 H d=>match as0 with
 | [.x true xs,.x false [.p k o]]=>match o with
  | 0=>match H k with
   | some (.box t [.s 1 zs])=>match H d with
    | none=>bif t.beq 38 then
     some fun K=> ∃a l,xs=XY a/\zs=ints l/\QX a/\l.length<=9223372036854775807/\ ∀(qs:List Rat) (l':List Int),QXp a qs->qs.length=a.links.length->l'.length<=l.length->
      K (.x false [.w d 0 qs.length]) (XJ [(1000,k),(500,d)] (QS [(1000,stB l'),(500,Xs 63 qs)]) H)
     else none
    | some _=>none
   | _=>none
  | _+1=>none
 | _=>none
def QXq:List (Nat×XW):=(63,QRf)::M33
def QN1:Ctr
 | [.x true xs,.x false [.s 1 ys]]=>some fun K=> ∃(a:ArmV) (l:List Int),xs=XY a/\ys=ints l/\((QX a)/\(l.length<=9223372036854775807))/\(∀qs:List Rat,QXp a qs->qs.length=a.links.length->K (sR 63 qs))
 | _=>none
def QXr:LC:=(13,QN1)::L47
noncomputable def QY1:Qa:=mkT QXr QXq X4
end Go.Proofs
namespace Go.Proofs
open Go Go.Eng
def QYb:List (Nat×XW):=QXq
def QYc:LC:=QXr
noncomputable def QY2:Qa:=mkT QYc QYb X4
end Go.Proofs
