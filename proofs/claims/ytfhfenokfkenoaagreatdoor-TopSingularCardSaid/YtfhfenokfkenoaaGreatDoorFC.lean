/- reaches; plain laws of frames. -/
import Derived.Test.YtfhfenokfkenoaaGreatDoorF1
namespace Go.Proofs
open Go Go.Eng
def L95:LC:=L94
noncomputable def T95:Qb:=mkT L95 M79 X4
theorem QU3:QF L95:=QZO
theorem QOM {fs:List FrV}{f g:FrV}{m i:Nat}(hm:m<=120000000)(h:(fs++[f])[i]? =some g): ∃n,n<=120000000/\ldE (fs.map XL++[frN m f]) i 0 6=some [.r g.x n,.r g.y n]/\ldE (fs.map XL++[frN m f]) i 6 4=some [.v (.bool g.h),.r g.t n]:=by
 obtain⟨n,hn,h⟩:=QOL hm h;refine⟨n,hn,?_,?_⟩
 ·simp only[ldE,h];rfl
 ·simp only[ldE,h];rfl
theorem cs1 (h:Bool)(t:Rat):Qz h t*Qz h t+Qv h t*Qv h t=1:=by
 unfold Qz Qv;cases h with
 | true=>simp only[R7];grind
 | false=>
  simp only[R8];have:=sq1 t;grind
end Go.Proofs
