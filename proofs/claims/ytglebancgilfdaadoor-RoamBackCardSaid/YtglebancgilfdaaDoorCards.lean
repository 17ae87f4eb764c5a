/-
  DERIVED. GIVEN WITH THE SEED: THE CARDS: each row of YtglebancgilfdaaDoorRows.lean that lists a variable, with what it lists TIED to the program's text (the seventh form; the later family's looks); each row that meets fmt, with fmt's text TOLD by the authors' own Lean function (tested against real Go, not proved from fmt's source: count such statements apart). THE CARD IS WHAT COUNTS. Prove the row's statement (the work); the ties are given (YtglebancgilfdaaDoorTie.lean); close each card by the builder's one call (the guide's Derived/Test/ToyasCard.lean, 'card_holds'). Laid BY PROGRAM, IN A SANDBOX (cutbox-door.mjs). By AI agents, Wed Nov 11 2026. No macro, syntax, notation, axiom, sorry.
-/
import Derived.Test.YtglebancgilfdaaDoorRows
import GoSem.ClaimSeven
namespace Go.Proofs.YtglebancgilfdaaDoor
namespace Rows

/-- THE TIED CARD OF 'gantkeep3.TrackSums'. -/
def trackSumsCard : Claim7 := { stood := { row := trackSumsRow, standIns := [], harness := (true, "d125a4fa7c85b26fbb45c178b4092fa1081acb02bbdb775fcae08f31ecc51209"), looks := false }, kinds := [], alts := [], laidByText := true, laidKinds := [.data], laidTests := true, laidLooks := .later }
def TrackSumsCardSaid : Prop := Claim7.holds Tryd.pinned (.plain (OpenSpec.ofChange trackSumsSpec)) trackSumsCard

/-- THE TIED CARD OF 'gantkeep3.RoamBeside'. -/
def roamBesideCard : Claim7 := { stood := { row := roamBesideRow, standIns := [], harness := (true, "d125a4fa7c85b26fbb45c178b4092fa1081acb02bbdb775fcae08f31ecc51209"), looks := false }, kinds := [], alts := [], laidByText := true, laidKinds := [.data], laidTests := true, laidLooks := .later }
def RoamBesideCardSaid : Prop := Claim7.holds Tryd.pinned (.plain (OpenSpec.ofChange roamBesideSpec)) roamBesideCard

/-- THE TIED CARD OF 'gantkeep3.RoamNear'. -/
def roamNearCard : Claim7 := { stood := { row := roamNearRow, standIns := [], harness := (true, "d125a4fa7c85b26fbb45c178b4092fa1081acb02bbdb775fcae08f31ecc51209"), looks := false }, kinds := [], alts := [], laidByText := true, laidKinds := [.data], laidTests := true, laidLooks := .later }
def RoamNearCardSaid : Prop := Claim7.holds Tryd.pinned (.plain (OpenSpec.ofChange roamNearSpec)) roamNearCard

/-- THE TIED CARD OF 'gantkeep3.RoamBack'. -/
def roamBackCard : Claim7 := { stood := { row := roamBackRow, standIns := [], harness := (true, "d125a4fa7c85b26fbb45c178b4092fa1081acb02bbdb775fcae08f31ecc51209"), looks := false }, kinds := [], alts := [], laidByText := true, laidKinds := [.data], laidTests := true, laidLooks := .later }
def RoamBackCardSaid : Prop := Claim7.holds Tryd.pinned (.plain (OpenSpec.ofChange roamBackSpec)) roamBackCard

/-- THE TIED CARD OF 'gantkeep3.TimingFits'. -/
def timingFitsCard : Claim7 := { stood := { row := timingFitsRow, standIns := [], harness := (true, "d125a4fa7c85b26fbb45c178b4092fa1081acb02bbdb775fcae08f31ecc51209"), looks := false }, kinds := [], alts := [], laidByText := true, laidKinds := [.data], laidTests := true, laidLooks := .later }
def TimingFitsCardSaid : Prop := Claim7.holds Tryd.pinned (.plain (OpenSpec.ofChange timingFitsSpec)) timingFitsCard

/-- THE TIED CARD OF 'gantkeep3.TimingSmooth'. -/
def timingSmoothCard : Claim7 := { stood := { row := timingSmoothRow, standIns := [], harness := (true, "d125a4fa7c85b26fbb45c178b4092fa1081acb02bbdb775fcae08f31ecc51209"), looks := false }, kinds := [], alts := [], laidByText := true, laidKinds := [.data], laidTests := true, laidLooks := .later }
def TimingSmoothCardSaid : Prop := Claim7.holds Tryd.pinned (.plain (OpenSpec.ofChange timingSmoothSpec)) timingSmoothCard

/-- THE SECOND FORM's CARD OF 'gantkeep3.TrackSums'. -/
def trackSumsUptoCard : Claim7 := { stood := { row := trackSumsUptoRow, standIns := [], harness := (true, "d125a4fa7c85b26fbb45c178b4092fa1081acb02bbdb775fcae08f31ecc51209"), looks := false }, kinds := [], alts := [], laidByText := true, laidKinds := [.data], laidTests := true, laidLooks := .later }
def TrackSumsUptoCardSaid : Prop := Claim7.holds Tryd.pinned (.plain (OpenSpec.upto trackSumsSpec)) trackSumsUptoCard

/-- THE SECOND FORM's CARD OF 'gantkeep3.RoamBeside'. -/
def roamBesideUptoCard : Claim7 := { stood := { row := roamBesideUptoRow, standIns := [], harness := (true, "d125a4fa7c85b26fbb45c178b4092fa1081acb02bbdb775fcae08f31ecc51209"), looks := false }, kinds := [], alts := [], laidByText := true, laidKinds := [.data], laidTests := true, laidLooks := .later }
def RoamBesideUptoCardSaid : Prop := Claim7.holds Tryd.pinned (.plain (OpenSpec.upto roamBesideSpec)) roamBesideUptoCard

/-- THE SECOND FORM's CARD OF 'gantkeep3.RoamNear'. -/
def roamNearUptoCard : Claim7 := { stood := { row := roamNearUptoRow, standIns := [], harness := (true, "d125a4fa7c85b26fbb45c178b4092fa1081acb02bbdb775fcae08f31ecc51209"), looks := false }, kinds := [], alts := [], laidByText := true, laidKinds := [.data], laidTests := true, laidLooks := .later }
def RoamNearUptoCardSaid : Prop := Claim7.holds Tryd.pinned (.plain (OpenSpec.upto roamNearSpec)) roamNearUptoCard

/-- THE SECOND FORM's CARD OF 'gantkeep3.RoamBack'. -/
def roamBackUptoCard : Claim7 := { stood := { row := roamBackUptoRow, standIns := [], harness := (true, "d125a4fa7c85b26fbb45c178b4092fa1081acb02bbdb775fcae08f31ecc51209"), looks := false }, kinds := [], alts := [], laidByText := true, laidKinds := [.data], laidTests := true, laidLooks := .later }
def RoamBackUptoCardSaid : Prop := Claim7.holds Tryd.pinned (.plain (OpenSpec.upto roamBackSpec)) roamBackUptoCard

/-- THE SECOND FORM's CARD OF 'gantkeep3.TimingFits'. -/
def timingFitsUptoCard : Claim7 := { stood := { row := timingFitsUptoRow, standIns := [], harness := (true, "d125a4fa7c85b26fbb45c178b4092fa1081acb02bbdb775fcae08f31ecc51209"), looks := false }, kinds := [], alts := [], laidByText := true, laidKinds := [.data], laidTests := true, laidLooks := .later }
def TimingFitsUptoCardSaid : Prop := Claim7.holds Tryd.pinned (.plain (OpenSpec.upto timingFitsSpec)) timingFitsUptoCard

/-- THE SECOND FORM's CARD OF 'gantkeep3.TimingSmooth'. -/
def timingSmoothUptoCard : Claim7 := { stood := { row := timingSmoothUptoRow, standIns := [], harness := (true, "d125a4fa7c85b26fbb45c178b4092fa1081acb02bbdb775fcae08f31ecc51209"), looks := false }, kinds := [], alts := [], laidByText := true, laidKinds := [.data], laidTests := true, laidLooks := .later }
def TimingSmoothUptoCardSaid : Prop := Claim7.holds Tryd.pinned (.plain (OpenSpec.upto timingSmoothSpec)) timingSmoothUptoCard
end Rows
end Go.Proofs.YtglebancgilfdaaDoor
