/- The sample arm; the length of an arm. -/
import Derived.Test.YtmpfaflhpioaiaaGreatDoorA1
namespace Go.Proofs
open Go Go.Eng
def pt1 (x y:Int):Rat×Rat:=(mkRat x 1,mkRat y 1)
def YK (n:Int):QV:=⟨mkRat n 1,mkRat (-2) 1,mkRat 2 1,mkRat 1 4,mkRat 1 10,[pt1 0 (-1),pt1 n (-1),pt1 n 1,pt1 0 1]⟩
def XO (ns:List Int):ArmV:=⟨a8,mkRat 0 1,mkRat 0 1,false,mkRat 0 1,ns.map YK⟩
structure SmX where
 i:Nat
 ls:List QV
theorem QUX {l:List Int}{i:Nat}{n:Int}(h:l[i]? =some n):ldE (ints l) i 0 1=some [.v (.int .i64 n)]:=by
 simp only[ldE,ints,List.getElem?_map,h];rfl
theorem QQu:([3,2,5,1]:List Int).all (fun n=>HH (YK n).shape)=true:=j5
theorem xT {n:Int}(h:n∈([3,2,5,1]:List Int)):WB (YK n):=by
 have a:=Wk (List.all_eq_true.1 QQu n h);have e:1<=n/\n<=1000:=by simp at h;omega
 refine⟨⟨?_,?_,?_,?_,?_⟩,?_,?_,?_,?_,a,fun p a=> ?_⟩
 ·exact Q7 o3 o8
 ·exact Q7 o8 o8
 ·exact Q7 o8 o8
 ·exact Q7 o8 o8
 ·exact Q7 o8 o8
 ·exact YQ o3 o8
 ·show mkRat (-2) 1<mkRat 2 1
  decide+kernel
 ·exact YQ o8 o8
 ·exact YQ o8 o8
 ·have c: ∀x y:Int,x.natAbs<=1000000->y.natAbs<=1000000->YH (pt1 x y).1/\YH (pt1 x y).2:=fun x y b d=>⟨Q7 b o8,Q7 d o8⟩;simp only[YK,List.mem_cons,List.not_mem_nil,or_false]at a;rcases a with rfl | rfl | rfl | rfl<;>exact c _ _ o3 o3
theorem QJU {ns:List Int}(h1:1<=ns.length/\ns.length<=3)(a: ∀n∈ns,n∈([3,2,5,1]:List Int)):QJ (XO ns):=by
 refine⟨zM,by simpa [XO]using h1,⟨?_,?_,?_⟩,fun h=>Bool.noConfusion h,fun L b=> ?_⟩
 ·exact Q7 o8 o8
 ·exact Q7 o8 o8
 ·exact Q7 o8 o8
 ·obtain⟨n,c,rfl⟩:=List.mem_map.1 b;exact xT (a n c)
def L50:LC:=L49
theorem QjJ:QF L50:=dH
def L51:LC:=L50
theorem QjK:QF L51:=QjJ
def L52:LC:=L51
noncomputable def T52:Qd:=mkT L52 M48 X4
theorem cd:QF L52:=QjK
theorem mT:Qr T52:=QP cd UR Qb
end Go.Proofs
