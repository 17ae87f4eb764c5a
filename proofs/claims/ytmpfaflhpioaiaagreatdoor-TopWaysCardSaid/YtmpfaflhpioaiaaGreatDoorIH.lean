/- InverseFinds: its parts. -/
import Derived.Test.YtmpfaflhpioaiaaGreatDoorIU
import Derived.Test.YtmpfaflhpioaiaaGreatDoorCG
namespace Go.Proofs
open Go Go.Eng
def dF:Ctr
 | [.x true b,.x true [.r x _n,.r y _m]]=>some fun K=> ∃(a:ArmV) (L L1:QV) (r R:List (RtV×RtV)) (O:List (List Sp)),b=Qp a/\((QJ a/\a.za=[L,L1])/\BT x/\BT y)/\((WK L.len L1.len (aK a x y) (aP a x y)=some r/\inF L.lo L.hi L1.lo L1.hi r []=some R)/\S3 R []=some O)/\
   (O=[]->K (.t [(false,[.v (.slice none 0 0)]),(false,[.v (.int .i64 17)])]))/\(O≠[]->K (.t [(false,[.s 1 (O.map Ui)]),(false,[.v (.int .i64 0)])]))
 | _=>none
theorem QiE {W:World}{O:Nat->Prop}{ρ:Env}{x y:Rat}{n m c b:Nat}(h1:Bd c x)(e:Bd b y){v:Value}(h:ConcV W O ρ (.x true [.r x n,.r y m]) v):ConcV W O ρ (.x true [.r x c,.r y b]) v:=by
 obtain⟨d,a,f⟩:=h;cases a with | r g a=>cases a with | r i a=>exact⟨_,.r h1 (.r e a),f⟩
theorem QYv:QH 18 dF:=by
 refine⟨ok_iTwo.enter,fun l T h K c=> ?_⟩;unfold dF at h;split at h
 ·rename_i o x n y m;cases h
  obtain⟨a,L,L1,r,R,O,rfl,⟨g,j,k⟩,i,c⟩:=c;refine Eng.Spec.args (ok_iTwo.sound [.x true (Qp a),.x true [.r x 20000,.r y 20000]] _ rfl K ⟨a,L,L1,r,R,O,rfl,⟨⟨g,Nat.le_refl _,Nat.le_refl _⟩,i⟩,c⟩) fun w O v f=> ?_
  cases f with
  | cons d b=>cases b with
   | cons b e=>exact .cons d (.cons (QiE j.bd k.bd b) e)
 ·cases h
def QlG:LC:=(18,dF)::ak
theorem QKM:(((WK (YK 3).len (YK 4).len (aK (XO [3,4]) (pt1 5 0).1 (pt1 5 0).2) (aP (XO [3,4]) (pt1 5 0).1 (pt1 5 0).2)).bind fun r=>(inF (YK 3).lo (YK 3).hi (YK 4).lo (YK 4).hi r []).bind fun R=>S3 R []).map (·.map List.length))=some [2,2]:=j5
theorem QiF:WB (YK 4):=by
 have h:=Wk (j5:HH (YK 4).shape=true);refine⟨⟨?_,?_,?_,?_,?_⟩,?_,?_,?_,?_,h,fun p h=> ?_⟩
 ·exact Q7 o3 o8
 ·exact Q7 o8 o8
 ·exact Q7 o8 o8
 ·exact Q7 o8 o8
 ·exact Q7 o8 o8
 ·exact YQ o3 o8
 ·show mkRat (-2) 1<mkRat 2 1
  decide+kernel
 ·exact YQ o8 o8
 ·exact YQ o8 o8
 ·have c: ∀x y:Int,x.natAbs<=1000000->y.natAbs<=1000000->YH (pt1 x y).1/\YH (pt1 x y).2:=fun x y a b=>⟨Q7 a o8,Q7 b o8⟩;simp only[YK,List.mem_cons,List.not_mem_nil,or_false]at h;rcases h with rfl | rfl | rfl | rfl<;>exact c _ _ o3 o3
theorem ig:QJ (XO [3,4]):=by
 have g:=QJU (ns:=[3]) o6 o6;refine⟨g.name,by simp[XO],g.small,g.half,fun L h=> ?_⟩;have h:L=YK 3\/L=YK 4:=by simpa [XO]using h
 rcases h with rfl | rfl
 ·exact xT o6
 ·exact QiF
theorem Qkg:BT (pt1 5 0).1/\BT (pt1 5 0).2:=by
 constructor
 ·exact⟨Bd.mono (n:=5) o3 ⟨j5,j5⟩⟩
 ·exact⟨Bd.mono (n:=5) o3 ⟨j5,j5⟩⟩
def Qkh:LC:=QlG
noncomputable def QlS:Qd:=mkT Qkh S5 X4
end Go.Proofs
