/-
  DERIVED. GIVEN WITH THE SEED: THE CARDS: each row of YtfmgjnnkogpmmaaDoorRows.lean that lists a variable, with what it lists TIED to the program's text (the seventh form; the later family's looks); each row that meets fmt, with fmt's text TOLD by the authors' own Lean function (tested against real Go, not proved from fmt's source: count such statements apart). THE CARD IS WHAT COUNTS. Prove the row's statement (the work); the ties are given (YtfmgjnnkogpmmaaDoorTie.lean); close each card by the builder's one call (the guide's Derived/Test/ToyasCard.lean, 'card_holds'). Laid BY PROGRAM, IN A SANDBOX (cutbox-door.mjs). By AI agents, Wed Nov 11 2026. No macro, syntax, notation, axiom, sorry.
-/
import Derived.Test.YtfmgjnnkogpmmaaDoorRows
import GoSem.ClaimSeven
namespace Go.Proofs.YtfmgjnnkogpmmaaDoor
namespace Rows

/-- THE TIED CARD OF 'gantkeep3.TimingRests'. -/
def timingRestsCard : Claim7 := { stood := { row := timingRestsRow, standIns := [], harness := (true, "57a1edc9540510c2c4386685cc28c6cf45604fa52d71edf85b40c3d82f452e0f"), looks := false }, kinds := [], alts := [], laidByText := true, laidKinds := [.data], laidTests := true, laidLooks := .later }
def TimingRestsCardSaid : Prop := Claim7.holds Tryd.pinned (.plain (OpenSpec.ofChange timingRestsSpec)) timingRestsCard

/-- THE TIED CARD OF 'gantkeep3.TimingFits'. -/
def timingFitsCard : Claim7 := { stood := { row := timingFitsRow, standIns := [], harness := (true, "57a1edc9540510c2c4386685cc28c6cf45604fa52d71edf85b40c3d82f452e0f"), looks := false }, kinds := [], alts := [], laidByText := true, laidKinds := [.data], laidTests := true, laidLooks := .later }
def TimingFitsCardSaid : Prop := Claim7.holds Tryd.pinned (.plain (OpenSpec.ofChange timingFitsSpec)) timingFitsCard

/-- THE TIED CARD OF 'gantkeep3.TimingSmooth'. -/
def timingSmoothCard : Claim7 := { stood := { row := timingSmoothRow, standIns := [], harness := (true, "57a1edc9540510c2c4386685cc28c6cf45604fa52d71edf85b40c3d82f452e0f"), looks := false }, kinds := [], alts := [], laidByText := true, laidKinds := [.data], laidTests := true, laidLooks := .later }
def TimingSmoothCardSaid : Prop := Claim7.holds Tryd.pinned (.plain (OpenSpec.ofChange timingSmoothSpec)) timingSmoothCard

/-- THE SECOND FORM's CARD OF 'gantkeep3.TimingRests'. -/
def timingRestsUptoCard : Claim7 := { stood := { row := timingRestsUptoRow, standIns := [], harness := (true, "57a1edc9540510c2c4386685cc28c6cf45604fa52d71edf85b40c3d82f452e0f"), looks := false }, kinds := [], alts := [], laidByText := true, laidKinds := [.data], laidTests := true, laidLooks := .later }
def TimingRestsUptoCardSaid : Prop := Claim7.holds Tryd.pinned (.plain (OpenSpec.upto timingRestsSpec)) timingRestsUptoCard

/-- THE SECOND FORM's CARD OF 'gantkeep3.TimingFits'. -/
def timingFitsUptoCard : Claim7 := { stood := { row := timingFitsUptoRow, standIns := [], harness := (true, "57a1edc9540510c2c4386685cc28c6cf45604fa52d71edf85b40c3d82f452e0f"), looks := false }, kinds := [], alts := [], laidByText := true, laidKinds := [.data], laidTests := true, laidLooks := .later }
def TimingFitsUptoCardSaid : Prop := Claim7.holds Tryd.pinned (.plain (OpenSpec.upto timingFitsSpec)) timingFitsUptoCard

/-- THE SECOND FORM's CARD OF 'gantkeep3.TimingSmooth'. -/
def timingSmoothUptoCard : Claim7 := { stood := { row := timingSmoothUptoRow, standIns := [], harness := (true, "57a1edc9540510c2c4386685cc28c6cf45604fa52d71edf85b40c3d82f452e0f"), looks := false }, kinds := [], alts := [], laidByText := true, laidKinds := [.data], laidTests := true, laidLooks := .later }
def TimingSmoothUptoCardSaid : Prop := Claim7.holds Tryd.pinned (.plain (OpenSpec.upto timingSmoothSpec)) timingSmoothUptoCard
end Rows
end Go.Proofs.YtfmgjnnkogpmmaaDoor
