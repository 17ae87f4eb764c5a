/-
  DERIVED. GIVEN WITH THE SEED: THE CARDS: each row of YtdkakhlabdoilaaDoorRows.lean that lists a variable, with what it lists TIED to the program's text (the seventh form; the later family's looks); each row that meets fmt, with fmt's text TOLD by the authors' own Lean function (tested against real Go, not proved from fmt's source: count such statements apart). THE CARD IS WHAT COUNTS. Prove the row's statement (the work); the ties are given (YtdkakhlabdoilaaDoorTie.lean); close each card by the builder's one call (the guide's Derived/Test/ToyasCard.lean, 'card_holds'). Laid BY PROGRAM, IN A SANDBOX (cutbox-door.mjs). By AI agents, Wed Nov 11 2026. No macro, syntax, notation, axiom, sorry.
-/
import Derived.Test.YtdkakhlabdoilaaDoorRows
import GoSem.ClaimSeven
namespace Go.Proofs.YtdkakhlabdoilaaDoor
namespace Rows

/-- THE TIED CARD OF 'gantkeep3.TimingFits'. -/
def timingFitsCard : Claim7 := { stood := { row := timingFitsRow, standIns := [], harness := (true, "67b854b577e033a3e53027bbb5971ff7d62a445e1c2fb3f33053ef140b2d7401"), looks := false }, kinds := [], alts := [], laidByText := true, laidKinds := [.data], laidTests := true, laidLooks := .later }
def TimingFitsCardSaid : Prop := Claim7.holds Tryd.pinned (.plain (OpenSpec.ofChange timingFitsSpec)) timingFitsCard

/-- THE TIED CARD OF 'gantkeep3.TimingSmooth'. -/
def timingSmoothCard : Claim7 := { stood := { row := timingSmoothRow, standIns := [], harness := (true, "67b854b577e033a3e53027bbb5971ff7d62a445e1c2fb3f33053ef140b2d7401"), looks := false }, kinds := [], alts := [], laidByText := true, laidKinds := [.data], laidTests := true, laidLooks := .later }
def TimingSmoothCardSaid : Prop := Claim7.holds Tryd.pinned (.plain (OpenSpec.ofChange timingSmoothSpec)) timingSmoothCard

/-- THE TIED CARD OF 'gantkeep3.ArmClamps'. -/
def armClampsCard : Claim7 := { stood := { row := armClampsRow, standIns := [], harness := (true, "67b854b577e033a3e53027bbb5971ff7d62a445e1c2fb3f33053ef140b2d7401"), looks := false }, kinds := [], alts := [], laidByText := true, laidKinds := [.data], laidTests := true, laidLooks := .later }
def ArmClampsCardSaid : Prop := Claim7.holds Tryd.pinned (.plain (OpenSpec.ofChange armClampsSpec)) armClampsCard

/-- THE TIED CARD OF 'gantkeep3.ForeLengths'. -/
def foreLengthsCard : Claim7 := { stood := { row := foreLengthsRow, standIns := [], harness := (true, "67b854b577e033a3e53027bbb5971ff7d62a445e1c2fb3f33053ef140b2d7401"), looks := false }, kinds := [], alts := [], laidByText := true, laidKinds := [.data], laidTests := true, laidLooks := .later }
def ForeLengthsCardSaid : Prop := Claim7.holds Tryd.pinned (.plain (OpenSpec.ofChange foreLengthsSpec)) foreLengthsCard

/-- THE TIED CARD OF 'gantkeep3.ShortPlain'. -/
def shortPlainCard : Claim7 := { stood := { row := shortPlainRow, standIns := [], harness := (true, "67b854b577e033a3e53027bbb5971ff7d62a445e1c2fb3f33053ef140b2d7401"), looks := false }, kinds := [], alts := [], laidByText := true, laidKinds := [.data], laidTests := true, laidLooks := .later }
def ShortPlainCardSaid : Prop := Claim7.holds Tryd.pinned (.plain (OpenSpec.ofChange shortPlainSpec)) shortPlainCard

/-- THE TIED CARD OF 'gantkeep3.ShortHalves'. -/
def shortHalvesCard : Claim7 := { stood := { row := shortHalvesRow, standIns := [], harness := (true, "67b854b577e033a3e53027bbb5971ff7d62a445e1c2fb3f33053ef140b2d7401"), looks := false }, kinds := [], alts := [], laidByText := true, laidKinds := [.data], laidTests := true, laidLooks := .later }
def ShortHalvesCardSaid : Prop := Claim7.holds Tryd.pinned (.plain (OpenSpec.ofChange shortHalvesSpec)) shortHalvesCard

/-- THE SECOND FORM's CARD OF 'gantkeep3.TimingFits'. -/
def timingFitsUptoCard : Claim7 := { stood := { row := timingFitsUptoRow, standIns := [], harness := (true, "67b854b577e033a3e53027bbb5971ff7d62a445e1c2fb3f33053ef140b2d7401"), looks := false }, kinds := [], alts := [], laidByText := true, laidKinds := [.data], laidTests := true, laidLooks := .later }
def TimingFitsUptoCardSaid : Prop := Claim7.holds Tryd.pinned (.plain (OpenSpec.upto timingFitsSpec)) timingFitsUptoCard

/-- THE SECOND FORM's CARD OF 'gantkeep3.TimingSmooth'. -/
def timingSmoothUptoCard : Claim7 := { stood := { row := timingSmoothUptoRow, standIns := [], harness := (true, "67b854b577e033a3e53027bbb5971ff7d62a445e1c2fb3f33053ef140b2d7401"), looks := false }, kinds := [], alts := [], laidByText := true, laidKinds := [.data], laidTests := true, laidLooks := .later }
def TimingSmoothUptoCardSaid : Prop := Claim7.holds Tryd.pinned (.plain (OpenSpec.upto timingSmoothSpec)) timingSmoothUptoCard

/-- THE SECOND FORM's CARD OF 'gantkeep3.ArmClamps'. -/
def armClampsUptoCard : Claim7 := { stood := { row := armClampsUptoRow, standIns := [], harness := (true, "67b854b577e033a3e53027bbb5971ff7d62a445e1c2fb3f33053ef140b2d7401"), looks := false }, kinds := [], alts := [], laidByText := true, laidKinds := [.data], laidTests := true, laidLooks := .later }
def ArmClampsUptoCardSaid : Prop := Claim7.holds Tryd.pinned (.plain (OpenSpec.upto armClampsSpec)) armClampsUptoCard

/-- THE SECOND FORM's CARD OF 'gantkeep3.ForeLengths'. -/
def foreLengthsUptoCard : Claim7 := { stood := { row := foreLengthsUptoRow, standIns := [], harness := (true, "67b854b577e033a3e53027bbb5971ff7d62a445e1c2fb3f33053ef140b2d7401"), looks := false }, kinds := [], alts := [], laidByText := true, laidKinds := [.data], laidTests := true, laidLooks := .later }
def ForeLengthsUptoCardSaid : Prop := Claim7.holds Tryd.pinned (.plain (OpenSpec.upto foreLengthsSpec)) foreLengthsUptoCard

/-- THE SECOND FORM's CARD OF 'gantkeep3.ShortPlain'. -/
def shortPlainUptoCard : Claim7 := { stood := { row := shortPlainUptoRow, standIns := [], harness := (true, "67b854b577e033a3e53027bbb5971ff7d62a445e1c2fb3f33053ef140b2d7401"), looks := false }, kinds := [], alts := [], laidByText := true, laidKinds := [.data], laidTests := true, laidLooks := .later }
def ShortPlainUptoCardSaid : Prop := Claim7.holds Tryd.pinned (.plain (OpenSpec.upto shortPlainSpec)) shortPlainUptoCard

/-- THE SECOND FORM's CARD OF 'gantkeep3.ShortHalves'. -/
def shortHalvesUptoCard : Claim7 := { stood := { row := shortHalvesUptoRow, standIns := [], harness := (true, "67b854b577e033a3e53027bbb5971ff7d62a445e1c2fb3f33053ef140b2d7401"), looks := false }, kinds := [], alts := [], laidByText := true, laidKinds := [.data], laidTests := true, laidLooks := .later }
def ShortHalvesUptoCardSaid : Prop := Claim7.holds Tryd.pinned (.plain (OpenSpec.upto shortHalvesSpec)) shortHalvesUptoCard
end Rows
end Go.Proofs.YtdkakhlabdoilaaDoor
