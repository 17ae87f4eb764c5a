/-
  NARROWER THAN 'FOR EVERY INPUT', by the rows' own cells (each row's printed sentence says how): ForceSums: laid · SingleSums: laid · SingleTwo: laid · ShapeRigid: laid · ForceWork: laid · SingleStill: laid · InverseRing: laid · ForeMoved: laid · TrackSums: laid.
  DERIVED. THE GIVEN ROWS OF THIS SEAT. 9 by the template 'for every input the law returns true; each argument reads behind the call as it read before'; 0 by the template 'total and deterministic' (their statements: YtdbkndfkgdbhpaaDoorTotals.lean).
  GIVEN WITH THE SEED: the statements are not yours to turn. If you find one false, say at which input.
  Laid BY PROGRAM, IN A SANDBOX (cutbox-rows.mjs): the forced cells as the released guide's own fill.sh prints them over the translation 2affd6cc986db4a9… (all of the seat's roots in one cut). By AI agents, Wed Nov 11 2026. No macro, syntax, notation, axiom, sorry.
-/
import Derived.Test.YtdbkndfkgdbhpaaDoorChecked
import GoSem.Claim
import GoSem.ClaimJoined
import GoSem.ClaimMapViews
import Derived.JoinedTies
import Derived.KernelRfl
namespace Go.Proofs.YtdbkndfkgdbhpaaDoor
/- THE CELL 'sum', in the pinned program and in every row, IS THE sha256 OF THE DUMP (.gsa) THAT YtdbkndfkgdbhpaaDoorProg.lean LOADS. Nothing in Lean hashes anything: it is a label: what it is worth is what the hold of that sum in a sandbox is worth. -/
noncomputable def Tryd.pinned : Pinned := { name := "ytdbkndfkgdbhpaadoor", sum := "2affd6cc986db4a96532232509b6c62834f164f673b1d72148b524cf34284b44", checked := Tryd.checked }
namespace Rows
def none {H : Type} : Left H := { results := [], args := [] }

/- WHAT THE LISTED PACKAGE-LEVEL VARIABLES READ AS WHEN THE CALL BEGINS. Each datum BY PROGRAM (the guide's laid-datum.mjs) off the statement by which the dump's own 'gosem.cut.vars' lays the variable. In a bare row this is a premise. The card (YtdbkndfkgdbhpaaDoorCards.lean) ties it to the program's text. -/
def laid_math_bits_deBruijn64tab {H : Type} : DataW H := .agg [.lit (.int .u8 0), .lit (.int .u8 1), .lit (.int .u8 56), .lit (.int .u8 2), .lit (.int .u8 57), .lit (.int .u8 49), .lit (.int .u8 28), .lit (.int .u8 3), .lit (.int .u8 61), .lit (.int .u8 58), .lit (.int .u8 42), .lit (.int .u8 50), .lit (.int .u8 38), .lit (.int .u8 29), .lit (.int .u8 17), .lit (.int .u8 4), .lit (.int .u8 62), .lit (.int .u8 47), .lit (.int .u8 59), .lit (.int .u8 36), .lit (.int .u8 45), .lit (.int .u8 43), .lit (.int .u8 51), .lit (.int .u8 22), .lit (.int .u8 53), .lit (.int .u8 39), .lit (.int .u8 33), .lit (.int .u8 30), .lit (.int .u8 24), .lit (.int .u8 18), .lit (.int .u8 12), .lit (.int .u8 5), .lit (.int .u8 63), .lit (.int .u8 55), .lit (.int .u8 48), .lit (.int .u8 27), .lit (.int .u8 60), .lit (.int .u8 41), .lit (.int .u8 37), .lit (.int .u8 16), .lit (.int .u8 46), .lit (.int .u8 35), .lit (.int .u8 44), .lit (.int .u8 21), .lit (.int .u8 52), .lit (.int .u8 32), .lit (.int .u8 23), .lit (.int .u8 11), .lit (.int .u8 54), .lit (.int .u8 26), .lit (.int .u8 40), .lit (.int .u8 15), .lit (.int .u8 34), .lit (.int .u8 20), .lit (.int .u8 31), .lit (.int .u8 10), .lit (.int .u8 25), .lit (.int .u8 14), .lit (.int .u8 19), .lit (.int .u8 9), .lit (.int .u8 13), .lit (.int .u8 8), .lit (.int .u8 7), .lit (.int .u8 6)]

/-- 'gantkeep3.ForceSums': WHATEVER THE INPUT: true; the input reads as it did. -/
def forceSumsSpec : ChangeSpec := { name := "forceSums", fn := fun _ => fun
  | [d1, d2, d3, d4, d5] => { results := [.lit (.bool true)], args := [d1, d2, d3, d4, d5] }
  | _ => none }
def forceSumsRow : OpenClaim := { program := "ytdbkndfkgdbhpaadoor", sum := "2affd6cc986db4a96532232509b6c62834f164f673b1d72148b524cf34284b44", func := "gantry/gantkeep3.ForceSums", spec := "forceSums", inPlace := ["math/bits.Sub64", "internal/bytealg.abigen_runtime_cmpstring"], named := ["math/bits.deBruijn64tab"], apart := false, laid := [("math/bits.deBruijn64tab", laid_math_bits_deBruijn64tab)] }
def ForceSumsSaid : Prop := forceSumsRow.holds Tryd.pinned (OpenSpec.ofChange forceSumsSpec)

/-- ITS FALSE NEIGHBOUR: 'it returns false'. Refute it at one input. -/
def forceSumsWrong : ChangeSpec := { name := "forceSums", fn := fun _ => fun
  | [d1, d2, d3, d4, d5] => { results := [.lit (.bool false)], args := [d1, d2, d3, d4, d5] }
  | _ => none }
def ForceSumsWrongFalsely : Prop := forceSumsRow.holds Tryd.pinned (OpenSpec.ofChange forceSumsWrong)

/-- 'gantkeep3.SingleSums': WHATEVER THE INPUT: true; the input reads as it did. -/
def singleSumsSpec : ChangeSpec := { name := "singleSums", fn := fun _ => fun
  | [d1, d2, d3, d4, d5] => { results := [.lit (.bool true)], args := [d1, d2, d3, d4, d5] }
  | _ => none }
def singleSumsRow : OpenClaim := { program := "ytdbkndfkgdbhpaadoor", sum := "2affd6cc986db4a96532232509b6c62834f164f673b1d72148b524cf34284b44", func := "gantry/gantkeep3.SingleSums", spec := "singleSums", inPlace := ["math/bits.Sub64", "internal/bytealg.abigen_runtime_cmpstring"], named := ["math/bits.deBruijn64tab"], apart := false, laid := [("math/bits.deBruijn64tab", laid_math_bits_deBruijn64tab)] }
def SingleSumsSaid : Prop := singleSumsRow.holds Tryd.pinned (OpenSpec.ofChange singleSumsSpec)

/-- ITS FALSE NEIGHBOUR: 'it returns false'. Refute it at one input. -/
def singleSumsWrong : ChangeSpec := { name := "singleSums", fn := fun _ => fun
  | [d1, d2, d3, d4, d5] => { results := [.lit (.bool false)], args := [d1, d2, d3, d4, d5] }
  | _ => none }
def SingleSumsWrongFalsely : Prop := singleSumsRow.holds Tryd.pinned (OpenSpec.ofChange singleSumsWrong)

/-- 'gantkeep3.SingleTwo': WHATEVER THE INPUT: true; the input reads as it did. -/
def singleTwoSpec : ChangeSpec := { name := "singleTwo", fn := fun _ => fun
  | [d1, d2] => { results := [.lit (.bool true)], args := [d1, d2] }
  | _ => none }
def singleTwoRow : OpenClaim := { program := "ytdbkndfkgdbhpaadoor", sum := "2affd6cc986db4a96532232509b6c62834f164f673b1d72148b524cf34284b44", func := "gantry/gantkeep3.SingleTwo", spec := "singleTwo", inPlace := ["math/bits.Sub64", "internal/bytealg.abigen_runtime_cmpstring"], named := ["math/bits.deBruijn64tab"], apart := false, laid := [("math/bits.deBruijn64tab", laid_math_bits_deBruijn64tab)] }
def SingleTwoSaid : Prop := singleTwoRow.holds Tryd.pinned (OpenSpec.ofChange singleTwoSpec)

/-- ITS FALSE NEIGHBOUR: 'it returns false'. Refute it at one input. -/
def singleTwoWrong : ChangeSpec := { name := "singleTwo", fn := fun _ => fun
  | [d1, d2] => { results := [.lit (.bool false)], args := [d1, d2] }
  | _ => none }
def SingleTwoWrongFalsely : Prop := singleTwoRow.holds Tryd.pinned (OpenSpec.ofChange singleTwoWrong)

/-- 'gantkeep3.ShapeRigid': WHATEVER THE INPUT: true; the input reads as it did. -/
def shapeRigidSpec : ChangeSpec := { name := "shapeRigid", fn := fun _ => fun
  | [d1, d2] => { results := [.lit (.bool true)], args := [d1, d2] }
  | _ => none }
def shapeRigidRow : OpenClaim := { program := "ytdbkndfkgdbhpaadoor", sum := "2affd6cc986db4a96532232509b6c62834f164f673b1d72148b524cf34284b44", func := "gantry/gantkeep3.ShapeRigid", spec := "shapeRigid", inPlace := ["math/bits.Sub64", "internal/bytealg.abigen_runtime_cmpstring"], named := ["math/bits.deBruijn64tab"], apart := false, laid := [("math/bits.deBruijn64tab", laid_math_bits_deBruijn64tab)] }
def ShapeRigidSaid : Prop := shapeRigidRow.holds Tryd.pinned (OpenSpec.ofChange shapeRigidSpec)

/-- ITS FALSE NEIGHBOUR: 'it returns false'. Refute it at one input. -/
def shapeRigidWrong : ChangeSpec := { name := "shapeRigid", fn := fun _ => fun
  | [d1, d2] => { results := [.lit (.bool false)], args := [d1, d2] }
  | _ => none }
def ShapeRigidWrongFalsely : Prop := shapeRigidRow.holds Tryd.pinned (OpenSpec.ofChange shapeRigidWrong)

/-- 'gantkeep3.ForceWork': WHATEVER THE INPUT: true; the input reads as it did. -/
def forceWorkSpec : ChangeSpec := { name := "forceWork", fn := fun _ => fun
  | [d1, d2, d3, d4] => { results := [.lit (.bool true)], args := [d1, d2, d3, d4] }
  | _ => none }
def forceWorkRow : OpenClaim := { program := "ytdbkndfkgdbhpaadoor", sum := "2affd6cc986db4a96532232509b6c62834f164f673b1d72148b524cf34284b44", func := "gantry/gantkeep3.ForceWork", spec := "forceWork", inPlace := ["math/bits.Sub64", "internal/bytealg.abigen_runtime_cmpstring"], named := ["math/bits.deBruijn64tab"], apart := false, laid := [("math/bits.deBruijn64tab", laid_math_bits_deBruijn64tab)] }
def ForceWorkSaid : Prop := forceWorkRow.holds Tryd.pinned (OpenSpec.ofChange forceWorkSpec)

/-- ITS FALSE NEIGHBOUR: 'it returns false'. Refute it at one input. -/
def forceWorkWrong : ChangeSpec := { name := "forceWork", fn := fun _ => fun
  | [d1, d2, d3, d4] => { results := [.lit (.bool false)], args := [d1, d2, d3, d4] }
  | _ => none }
def ForceWorkWrongFalsely : Prop := forceWorkRow.holds Tryd.pinned (OpenSpec.ofChange forceWorkWrong)

/-- 'gantkeep3.SingleStill': WHATEVER THE INPUT: true; the input reads as it did. -/
def singleStillSpec : ChangeSpec := { name := "singleStill", fn := fun _ => fun
  | [d1, d2] => { results := [.lit (.bool true)], args := [d1, d2] }
  | _ => none }
def singleStillRow : OpenClaim := { program := "ytdbkndfkgdbhpaadoor", sum := "2affd6cc986db4a96532232509b6c62834f164f673b1d72148b524cf34284b44", func := "gantry/gantkeep3.SingleStill", spec := "singleStill", inPlace := ["math/bits.Sub64", "internal/bytealg.abigen_runtime_cmpstring"], unfollowed := true, recurses := true, named := ["math/bits.deBruijn64tab"], apart := false, laid := [("math/bits.deBruijn64tab", laid_math_bits_deBruijn64tab)] }
def SingleStillSaid : Prop := singleStillRow.holds Tryd.pinned (OpenSpec.ofChange singleStillSpec)

/-- ITS FALSE NEIGHBOUR: 'it returns false'. Refute it at one input. -/
def singleStillWrong : ChangeSpec := { name := "singleStill", fn := fun _ => fun
  | [d1, d2] => { results := [.lit (.bool false)], args := [d1, d2] }
  | _ => none }
def SingleStillWrongFalsely : Prop := singleStillRow.holds Tryd.pinned (OpenSpec.ofChange singleStillWrong)

/-- 'gantkeep3.InverseRing': WHATEVER THE INPUT: true; the input reads as it did. -/
def inverseRingSpec : ChangeSpec := { name := "inverseRing", fn := fun _ => fun
  | [d1, d2] => { results := [.lit (.bool true)], args := [d1, d2] }
  | _ => none }
def inverseRingRow : OpenClaim := { program := "ytdbkndfkgdbhpaadoor", sum := "2affd6cc986db4a96532232509b6c62834f164f673b1d72148b524cf34284b44", func := "gantry/gantkeep3.InverseRing", spec := "inverseRing", inPlace := ["math/bits.Sub64", "internal/bytealg.abigen_runtime_cmpstring"], named := ["math/bits.deBruijn64tab"], apart := false, laid := [("math/bits.deBruijn64tab", laid_math_bits_deBruijn64tab)] }
def InverseRingSaid : Prop := inverseRingRow.holds Tryd.pinned (OpenSpec.ofChange inverseRingSpec)

/-- ITS FALSE NEIGHBOUR: 'it returns false'. Refute it at one input. -/
def inverseRingWrong : ChangeSpec := { name := "inverseRing", fn := fun _ => fun
  | [d1, d2] => { results := [.lit (.bool false)], args := [d1, d2] }
  | _ => none }
def InverseRingWrongFalsely : Prop := inverseRingRow.holds Tryd.pinned (OpenSpec.ofChange inverseRingWrong)

/-- 'gantkeep3.ForeMoved': WHATEVER THE INPUT: true; the input reads as it did. -/
def foreMovedSpec : ChangeSpec := { name := "foreMoved", fn := fun _ => fun
  | [d1, d2, d3, d4] => { results := [.lit (.bool true)], args := [d1, d2, d3, d4] }
  | _ => none }
def foreMovedRow : OpenClaim := { program := "ytdbkndfkgdbhpaadoor", sum := "2affd6cc986db4a96532232509b6c62834f164f673b1d72148b524cf34284b44", func := "gantry/gantkeep3.ForeMoved", spec := "foreMoved", inPlace := ["math/bits.Sub64", "internal/bytealg.abigen_runtime_cmpstring"], unfollowed := true, recurses := true, named := ["math/bits.deBruijn64tab"], apart := false, laid := [("math/bits.deBruijn64tab", laid_math_bits_deBruijn64tab)] }
def ForeMovedSaid : Prop := foreMovedRow.holds Tryd.pinned (OpenSpec.ofChange foreMovedSpec)

/-- ITS FALSE NEIGHBOUR: 'it returns false'. Refute it at one input. -/
def foreMovedWrong : ChangeSpec := { name := "foreMoved", fn := fun _ => fun
  | [d1, d2, d3, d4] => { results := [.lit (.bool false)], args := [d1, d2, d3, d4] }
  | _ => none }
def ForeMovedWrongFalsely : Prop := foreMovedRow.holds Tryd.pinned (OpenSpec.ofChange foreMovedWrong)

/-- 'gantkeep3.TrackSums': WHATEVER THE INPUT: true; the input reads as it did. -/
def trackSumsSpec : ChangeSpec := { name := "trackSums", fn := fun _ => fun
  | [d1, d2] => { results := [.lit (.bool true)], args := [d1, d2] }
  | _ => none }
def trackSumsRow : OpenClaim := { program := "ytdbkndfkgdbhpaadoor", sum := "2affd6cc986db4a96532232509b6c62834f164f673b1d72148b524cf34284b44", func := "gantry/gantkeep3.TrackSums", spec := "trackSums", inPlace := ["math/bits.Sub64", "internal/bytealg.abigen_runtime_cmpstring"], unfollowed := true, recurses := true, named := ["math/bits.deBruijn64tab"], apart := false, laid := [("math/bits.deBruijn64tab", laid_math_bits_deBruijn64tab)] }
def TrackSumsSaid : Prop := trackSumsRow.holds Tryd.pinned (OpenSpec.ofChange trackSumsSpec)

/-- ITS FALSE NEIGHBOUR: 'it returns false'. Refute it at one input. -/
def trackSumsWrong : ChangeSpec := { name := "trackSums", fn := fun _ => fun
  | [d1, d2] => { results := [.lit (.bool false)], args := [d1, d2] }
  | _ => none }
def TrackSumsWrongFalsely : Prop := trackSumsRow.holds Tryd.pinned (OpenSpec.ofChange trackSumsWrong)

/- THE SECOND FORM. 'bulk': how many values and letters a reading holds, each counted each time it is reached (what is shared counts as often as it is met; a slice's spare places count too). A statement '..UptoSaid' is the law's where the arguments, and the package variables that the reading takes, are together of bulk at most 1048576: NARROWER than '..Said'. Prove '..Said' where nothing that the law and all that it calls make is longer than what came in: it says more and counts as full. Else prove '..UptoSaid'. A law counts once. -/
mutual
def uptoBulk {H : Type} : DataW H → Nat
  | .lit (.string bytes) => bytes.length + 1
  | .lit _ => 1
  | .nil => 1
  | .ptr d => uptoBulk d + 1
  | .slice elems spare => uptoBulkAll elems + uptoBulkAll spare + 1
  | .agg parts => uptoBulkAll parts + 1
  | .iface _ d => uptoBulk d + 1
  | .map entries => uptoBulkEntries entries + 1
  | .held _ => 1
def uptoBulkAll {H : Type} : List (DataW H) → Nat
  | [] => 0
  | d :: r => uptoBulk d + uptoBulkAll r
def uptoBulkEntries {H : Type} : List (Lit × DataW H) → Nat
  | [] => 0
  | x :: r => uptoBulkEntry x + uptoBulkEntries r
def uptoBulkEntry {H : Type} : Lit × DataW H → Nat
  | (.string bytes, d) => bytes.length + uptoBulk d + 1
  | (_, d) => uptoBulk d + 1
 end
def uptoSmall : (H : Type) → List (DataW H) → Bool := fun _ ds => decide (uptoBulkAll ds ≤ 1048576)
def OpenSpec.upto (s : _root_.Go.ChangeSpec) : _root_.Go.OpenSpec := { _root_.Go.OpenSpec.ofChange s with cond := some uptoSmall }

/-- 'gantkeep3.ForceSums', WHERE WHAT IT READS IS OF BULK AT MOST 1048576: true; the input reads as it did. -/
def forceSumsUptoRow : OpenClaim := { program := "ytdbkndfkgdbhpaadoor", sum := "2affd6cc986db4a96532232509b6c62834f164f673b1d72148b524cf34284b44", func := "gantry/gantkeep3.ForceSums", spec := "forceSums", inPlace := ["math/bits.Sub64", "internal/bytealg.abigen_runtime_cmpstring"], named := ["math/bits.deBruijn64tab"], apart := false, laid := [("math/bits.deBruijn64tab", laid_math_bits_deBruijn64tab)], narrowed := true }
def ForceSumsUptoSaid : Prop := forceSumsUptoRow.holds Tryd.pinned (OpenSpec.upto forceSumsSpec)

/-- 'gantkeep3.SingleSums', WHERE WHAT IT READS IS OF BULK AT MOST 1048576: true; the input reads as it did. -/
def singleSumsUptoRow : OpenClaim := { program := "ytdbkndfkgdbhpaadoor", sum := "2affd6cc986db4a96532232509b6c62834f164f673b1d72148b524cf34284b44", func := "gantry/gantkeep3.SingleSums", spec := "singleSums", inPlace := ["math/bits.Sub64", "internal/bytealg.abigen_runtime_cmpstring"], named := ["math/bits.deBruijn64tab"], apart := false, laid := [("math/bits.deBruijn64tab", laid_math_bits_deBruijn64tab)], narrowed := true }
def SingleSumsUptoSaid : Prop := singleSumsUptoRow.holds Tryd.pinned (OpenSpec.upto singleSumsSpec)

/-- 'gantkeep3.SingleTwo', WHERE WHAT IT READS IS OF BULK AT MOST 1048576: true; the input reads as it did. -/
def singleTwoUptoRow : OpenClaim := { program := "ytdbkndfkgdbhpaadoor", sum := "2affd6cc986db4a96532232509b6c62834f164f673b1d72148b524cf34284b44", func := "gantry/gantkeep3.SingleTwo", spec := "singleTwo", inPlace := ["math/bits.Sub64", "internal/bytealg.abigen_runtime_cmpstring"], named := ["math/bits.deBruijn64tab"], apart := false, laid := [("math/bits.deBruijn64tab", laid_math_bits_deBruijn64tab)], narrowed := true }
def SingleTwoUptoSaid : Prop := singleTwoUptoRow.holds Tryd.pinned (OpenSpec.upto singleTwoSpec)

/-- 'gantkeep3.ShapeRigid', WHERE WHAT IT READS IS OF BULK AT MOST 1048576: true; the input reads as it did. -/
def shapeRigidUptoRow : OpenClaim := { program := "ytdbkndfkgdbhpaadoor", sum := "2affd6cc986db4a96532232509b6c62834f164f673b1d72148b524cf34284b44", func := "gantry/gantkeep3.ShapeRigid", spec := "shapeRigid", inPlace := ["math/bits.Sub64", "internal/bytealg.abigen_runtime_cmpstring"], named := ["math/bits.deBruijn64tab"], apart := false, laid := [("math/bits.deBruijn64tab", laid_math_bits_deBruijn64tab)], narrowed := true }
def ShapeRigidUptoSaid : Prop := shapeRigidUptoRow.holds Tryd.pinned (OpenSpec.upto shapeRigidSpec)

/-- 'gantkeep3.ForceWork', WHERE WHAT IT READS IS OF BULK AT MOST 1048576: true; the input reads as it did. -/
def forceWorkUptoRow : OpenClaim := { program := "ytdbkndfkgdbhpaadoor", sum := "2affd6cc986db4a96532232509b6c62834f164f673b1d72148b524cf34284b44", func := "gantry/gantkeep3.ForceWork", spec := "forceWork", inPlace := ["math/bits.Sub64", "internal/bytealg.abigen_runtime_cmpstring"], named := ["math/bits.deBruijn64tab"], apart := false, laid := [("math/bits.deBruijn64tab", laid_math_bits_deBruijn64tab)], narrowed := true }
def ForceWorkUptoSaid : Prop := forceWorkUptoRow.holds Tryd.pinned (OpenSpec.upto forceWorkSpec)

/-- 'gantkeep3.SingleStill', WHERE WHAT IT READS IS OF BULK AT MOST 1048576: true; the input reads as it did. -/
def singleStillUptoRow : OpenClaim := { program := "ytdbkndfkgdbhpaadoor", sum := "2affd6cc986db4a96532232509b6c62834f164f673b1d72148b524cf34284b44", func := "gantry/gantkeep3.SingleStill", spec := "singleStill", inPlace := ["math/bits.Sub64", "internal/bytealg.abigen_runtime_cmpstring"], unfollowed := true, recurses := true, named := ["math/bits.deBruijn64tab"], apart := false, laid := [("math/bits.deBruijn64tab", laid_math_bits_deBruijn64tab)], narrowed := true }
def SingleStillUptoSaid : Prop := singleStillUptoRow.holds Tryd.pinned (OpenSpec.upto singleStillSpec)

/-- 'gantkeep3.InverseRing', WHERE WHAT IT READS IS OF BULK AT MOST 1048576: true; the input reads as it did. -/
def inverseRingUptoRow : OpenClaim := { program := "ytdbkndfkgdbhpaadoor", sum := "2affd6cc986db4a96532232509b6c62834f164f673b1d72148b524cf34284b44", func := "gantry/gantkeep3.InverseRing", spec := "inverseRing", inPlace := ["math/bits.Sub64", "internal/bytealg.abigen_runtime_cmpstring"], named := ["math/bits.deBruijn64tab"], apart := false, laid := [("math/bits.deBruijn64tab", laid_math_bits_deBruijn64tab)], narrowed := true }
def InverseRingUptoSaid : Prop := inverseRingUptoRow.holds Tryd.pinned (OpenSpec.upto inverseRingSpec)

/-- 'gantkeep3.ForeMoved', WHERE WHAT IT READS IS OF BULK AT MOST 1048576: true; the input reads as it did. -/
def foreMovedUptoRow : OpenClaim := { program := "ytdbkndfkgdbhpaadoor", sum := "2affd6cc986db4a96532232509b6c62834f164f673b1d72148b524cf34284b44", func := "gantry/gantkeep3.ForeMoved", spec := "foreMoved", inPlace := ["math/bits.Sub64", "internal/bytealg.abigen_runtime_cmpstring"], unfollowed := true, recurses := true, named := ["math/bits.deBruijn64tab"], apart := false, laid := [("math/bits.deBruijn64tab", laid_math_bits_deBruijn64tab)], narrowed := true }
def ForeMovedUptoSaid : Prop := foreMovedUptoRow.holds Tryd.pinned (OpenSpec.upto foreMovedSpec)

/-- 'gantkeep3.TrackSums', WHERE WHAT IT READS IS OF BULK AT MOST 1048576: true; the input reads as it did. -/
def trackSumsUptoRow : OpenClaim := { program := "ytdbkndfkgdbhpaadoor", sum := "2affd6cc986db4a96532232509b6c62834f164f673b1d72148b524cf34284b44", func := "gantry/gantkeep3.TrackSums", spec := "trackSums", inPlace := ["math/bits.Sub64", "internal/bytealg.abigen_runtime_cmpstring"], unfollowed := true, recurses := true, named := ["math/bits.deBruijn64tab"], apart := false, laid := [("math/bits.deBruijn64tab", laid_math_bits_deBruijn64tab)], narrowed := true }
def TrackSumsUptoSaid : Prop := trackSumsUptoRow.holds Tryd.pinned (OpenSpec.upto trackSumsSpec)

end Rows
end Go.Proofs.YtdbkndfkgdbhpaaDoor
