/- reaches; plain laws of frames. -/
import Derived.Test.YtdbkndfkgdbhpaaGreatDoorF1
/- reaches; plain laws of frames. -/
namespace Go.Proofs
open Go Go.Eng
def L95 : List (Nat × Ctr) := L94
def T95 : Tabs := mkT L95 M79 X4
theorem L95ok : CtrsOK Tryz.prog tabG debT L95 := L94ok
theorem frs_at {fs : List FrV} {f g : FrV} {m i : Nat} (hm : m ≤ 120000000) (h : (fs ++ [f])[i]? = some g) : ∃ n, n ≤ 120000000 ∧ ldE (fs.map frCh ++ [frN m f]) i 0 6 = some [.r g.x n, .r g.y n] ∧ ldE (fs.map frCh ++ [frN m f]) i 6 4 = some [.v (.bool g.h), .r g.t n] := by
  obtain ⟨n, hn, h⟩ := frs_ld hm h
  refine ⟨n, hn, ?_, ?_⟩
  · simp only [ldE, h]; rfl
  · simp only [ldE, h]; rfl
theorem put0x (b : FrV) : putX b 0 0 = b.x := by unfold putX; grind
theorem put0y (b : FrV) : putY b 0 0 = b.y := by unfold putY; grind
end Go.Proofs
