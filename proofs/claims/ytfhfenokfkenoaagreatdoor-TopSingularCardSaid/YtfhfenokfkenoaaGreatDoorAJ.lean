/- The sample arm; the length of an arm. -/
import Derived.Test.YtfhfenokfkenoaaGreatDoorA1
namespace Go.Proofs
open Go Go.Eng
def pt1 (x y:Int):Rat×Rat:=(mkRat x 1,mkRat y 1)
def X0 (n:Int):QY:=⟨mkRat n 1,mkRat (-2) 1,mkRat 2 1,mkRat 1 4,mkRat 1 10,[pt1 0 (-1),pt1 n (-1),pt1 n 1,pt1 0 1]⟩
def XC (ns:List Int):ArmV:=⟨QNu,mkRat 0 1,mkRat 0 1,false,mkRat 0 1,ns.map X0⟩
structure SmX where
 i:Nat
 ls:List QY
theorem QWM {l:List Int}{i:Nat}{n:Int}(h:l[i]? =some n):ldE (ints l) i 0 1=some [.v (.int .i64 n)]:=by
 simp only[ldE,ints,List.getElem?_map,h];rfl
theorem QLV:([3,2,5,1]:List Int).all (fun n=>QCW (X0 n).shape)=true:=by decide+kernel
theorem QA7 {n:Int}(h:n∈([3,2,5,1]:List Int)):Jm (X0 n):=by
 have hp:=Uo (List.all_eq_true.1 QLV n h);have hn:1<=n/\n<=1000:=by simp at h;omega
 refine⟨⟨?_,?_,?_,?_,?_⟩,?_,?_,?_,?_,hp,fun p hp=> ?_⟩
 ·exact Qy (by omega) (by decide)
 ·exact Qy (by decide) (by decide)
 ·exact Qy (by decide) (by decide)
 ·exact Qy (by decide) (by decide)
 ·exact Qy (by decide) (by decide)
 ·exact YA (by omega) (by decide)
 ·show mkRat (-2) 1<mkRat 2 1
  decide+kernel
 ·exact YA (by decide) (by decide)
 ·exact YA (by decide) (by decide)
 ·have c: ∀x y:Int,x.natAbs<=1000000->y.natAbs<=1000000->Xu (pt1 x y).1/\Xu (pt1 x y).2:=fun x y hx hy=>⟨Qy hx (by decide),Qy hy (by decide)⟩;simp only[X0,List.mem_cons,List.not_mem_nil,or_false]at hp;rcases hp with rfl | rfl | rfl | rfl<;>exact c _ _ (by omega) (by omega)
theorem QFr {ns:List Int}(h1:1<=ns.length/\ns.length<=3)(h2: ∀n∈ns,n∈([3,2,5,1]:List Int)):QU (XC ns):=by
 refine⟨QJM,by simpa [XC]using h1,⟨?_,?_,?_⟩,fun h=>Bool.noConfusion h,fun L hL=> ?_⟩
 ·exact Qy (by decide) (by decide)
 ·exact Qy (by decide) (by decide)
 ·exact Qy (by decide) (by decide)
 ·obtain⟨n,hn,rfl⟩:=List.mem_map.1 hL;exact QA7 (h2 n hn)
def L50:LC:=L49
theorem QZI:QF L50:=QN9
def L51:LC:=L50
theorem QZJ:QF L51:=QZI
def L52:LC:=L51
noncomputable def T52:Qb:=mkT L52 M48 X4
theorem QUn:QF L52:=QZJ
end Go.Proofs
