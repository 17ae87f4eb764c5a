/- The sample arm; the length of an arm. -/
import Derived.Test.YtfhfenokfkenoaaGreatDoorA1
namespace Go.Proofs
open Go Go.Eng
def pt1 (x y:Int):Rat×Rat:=(mkRat x 1,mkRat y 1)
def Xi (n:Int):QZ:=⟨mkRat n 1,mkRat (-2) 1,mkRat 2 1,mkRat 1 4,mkRat 1 10,[pt1 0 (-1),pt1 n (-1),pt1 n 1,pt1 0 1]⟩
def Q9 (ns:List Int):ArmV:=⟨QMw,mkRat 0 1,mkRat 0 1,false,mkRat 0 1,ns.map Xi⟩
structure SmX where
 i:Nat
 ls:List QZ
theorem QUk {l:List Int}{i:Nat}{n:Int}(h:l[i]? =some n):ldE (ints l) i 0 1=some [.v (.int .i64 n)]:=by
 simp only[ldE,ints,List.getElem?_map,h];rfl
theorem QKb:([3,2,5,1]:List Int).all (fun n=>QBt (Xi n).shape)=true:=by decide+kernel
theorem QAW {n:Int}(h:n∈([3,2,5,1]:List Int)):JP (Xi n):=by
 have hp:=UE (List.all_eq_true.1 QKb n h);have hn:1<=n/\n<=1000:=by simp at h;omega
 refine⟨⟨?_,?_,?_,?_,?_⟩,?_,?_,?_,?_,hp,fun p hp=> ?_⟩
 ·exact Qv (by omega) (by decide)
 ·exact Qv (by decide) (by decide)
 ·exact Qv (by decide) (by decide)
 ·exact Qv (by decide) (by decide)
 ·exact Qv (by decide) (by decide)
 ·exact Xo (by omega) (by decide)
 ·show mkRat (-2) 1<mkRat 2 1
  decide+kernel
 ·exact Xo (by decide) (by decide)
 ·exact Xo (by decide) (by decide)
 ·have c: ∀x y:Int,x.natAbs<=1000000->y.natAbs<=1000000->Xp (pt1 x y).1/\Xp (pt1 x y).2:=fun x y hx hy=>⟨Qv hx (by decide),Qv hy (by decide)⟩;simp only[Xi,List.mem_cons,List.not_mem_nil,or_false]at hp;rcases hp with rfl | rfl | rfl | rfl<;>exact c _ _ (by omega) (by omega)
theorem QFD {ns:List Int}(h1:1<=ns.length/\ns.length<=3)(h2: ∀n∈ns,n∈([3,2,5,1]:List Int)):QX (Q9 ns):=by
 refine⟨QIU,by simpa [Q9]using h1,⟨?_,?_,?_⟩,fun h=>Bool.noConfusion h,fun L hL=> ?_⟩
 ·exact Qv (by decide) (by decide)
 ·exact Qv (by decide) (by decide)
 ·exact Qv (by decide) (by decide)
 ·obtain⟨n,hn,rfl⟩:=List.mem_map.1 hL;exact QAW (h2 n hn)
def L50:LC:=L49
theorem QXF:QG L50:=QE6
def L51:LC:=L50
theorem QXG:QG L51:=QXF
def L52:LC:=L51
noncomputable def T52:Qa:=mkT L52 M48 X4
theorem QS7:QG L52:=QXG
end Go.Proofs
