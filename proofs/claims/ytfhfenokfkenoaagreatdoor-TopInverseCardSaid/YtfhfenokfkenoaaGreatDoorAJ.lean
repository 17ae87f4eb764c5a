/- The sample arm; the length of an arm. -/
import Derived.Test.YtfhfenokfkenoaaGreatDoorA1
namespace Go.Proofs
open Go Go.Eng
def pt1 (x y:Int):Rat×Rat:=(mkRat x 1,mkRat y 1)
def X7 (n:Int):QT:=⟨mkRat n 1,mkRat (-2) 1,mkRat 2 1,mkRat 1 4,mkRat 1 10,[pt1 0 (-1),pt1 n (-1),pt1 n 1,pt1 0 1]⟩
def XH (ns:List Int):ArmV:=⟨QO9,mkRat 0 1,mkRat 0 1,false,mkRat 0 1,ns.map X7⟩
structure SmX where
 i:Nat
 ls:List QT
theorem QPU {l:List Int}{i:Nat}{n:Int}(h:l[i]? =some n):ldE (ints l) i 0 1=some [.v (.int .i64 n)]:=by
 simp only[ldE,ints,List.getElem?_map,h];rfl
theorem QMk:([3,2,5,1]:List Int).all (fun n=>QDH (X7 n).shape)=true:=by decide+kernel
theorem QBn {n:Int}(h:n∈([3,2,5,1]:List Int)):Jr (X7 n):=by
 have hp:=HN (List.all_eq_true.1 QMk n h);have hn:1<=n/\n<=1000:=by simp at h;omega
 refine⟨⟨?_,?_,?_,?_,?_⟩,?_,?_,?_,?_,hp,fun p hp=> ?_⟩
 ·exact Qz (by omega) (by decide)
 ·exact Qz (by decide) (by decide)
 ·exact Qz (by decide) (by decide)
 ·exact Qz (by decide) (by decide)
 ·exact Qz (by decide) (by decide)
 ·exact YG (by omega) (by decide)
 ·show mkRat (-2) 1<mkRat 2 1
  decide+kernel
 ·exact YG (by decide) (by decide)
 ·exact YG (by decide) (by decide)
 ·have c: ∀x y:Int,x.natAbs<=1000000->y.natAbs<=1000000->Xx (pt1 x y).1/\Xx (pt1 x y).2:=fun x y hx hy=>⟨Qz hx (by decide),Qz hy (by decide)⟩;simp only[X7,List.mem_cons,List.not_mem_nil,or_false]at hp;rcases hp with rfl | rfl | rfl | rfl<;>exact c _ _ (by omega) (by omega)
theorem QGm {ns:List Int}(h1:1<=ns.length/\ns.length<=3)(h2: ∀n∈ns,n∈([3,2,5,1]:List Int)):QX (XH ns):=by
 refine⟨QKa,by simpa [XH]using h1,⟨?_,?_,?_⟩,fun h=>Bool.noConfusion h,fun L hL=> ?_⟩
 ·exact Qz (by decide) (by decide)
 ·exact Qz (by decide) (by decide)
 ·exact Qz (by decide) (by decide)
 ·obtain⟨n,hn,rfl⟩:=List.mem_map.1 hL;exact QBn (h2 n hn)
def L50:LC:=L49
theorem QbE:QG L50:=QPO
def L51:LC:=L50
theorem QbF:QG L51:=QbE
def L52:LC:=L51
noncomputable def T52:QZ:=mkT L52 M48 X4
theorem QWO:QG L52:=QbF
end Go.Proofs
