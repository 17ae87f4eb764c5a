/-
  DERIVED. GIVEN WITH THE SEED: THE CARDS: each row of YtmbpebgpiacppaaDoorRows.lean that lists a variable, with what it lists TIED to the program's text (the seventh form; the later family's looks); each row that meets fmt, with fmt's text TOLD by the authors' own Lean function (tested against real Go, not proved from fmt's source: count such statements apart). THE CARD IS WHAT COUNTS. Prove the row's statement (the work); the ties are given (YtmbpebgpiacppaaDoorTie.lean); close each card by the builder's one call (the guide's Derived/Test/ToyasCard.lean, 'card_holds'). Laid BY PROGRAM, IN A SANDBOX (cutbox-door.mjs). By AI agents, Wed Nov 11 2026. No macro, syntax, notation, axiom, sorry.
-/
import Derived.Test.YtmbpebgpiacppaaDoorRows
import GoSem.ClaimSeven
namespace Go.Proofs.YtmbpebgpiacppaaDoor
namespace Rows

/-- THE TIED CARD OF 'gantkeep3.TrackSums'. -/
def trackSumsCard : Claim7 := { stood := { row := trackSumsRow, standIns := [], harness := (true, "8060fc44d956318feb80bdaaf55e392457289c0ddd97d4100298f6790fbeee8e"), looks := false }, kinds := [], alts := [], laidByText := true, laidKinds := [.data], laidTests := true, laidLooks := .later }
def TrackSumsCardSaid : Prop := Claim7.holds Tryd.pinned (.plain (OpenSpec.ofChange trackSumsSpec)) trackSumsCard

/-- THE TIED CARD OF 'gantkeep3.TimingRests'. -/
def timingRestsCard : Claim7 := { stood := { row := timingRestsRow, standIns := [], harness := (true, "8060fc44d956318feb80bdaaf55e392457289c0ddd97d4100298f6790fbeee8e"), looks := false }, kinds := [], alts := [], laidByText := true, laidKinds := [.data], laidTests := true, laidLooks := .later }
def TimingRestsCardSaid : Prop := Claim7.holds Tryd.pinned (.plain (OpenSpec.ofChange timingRestsSpec)) timingRestsCard

/-- THE TIED CARD OF 'gantkeep3.ArmClamps'. -/
def armClampsCard : Claim7 := { stood := { row := armClampsRow, standIns := [], harness := (true, "8060fc44d956318feb80bdaaf55e392457289c0ddd97d4100298f6790fbeee8e"), looks := false }, kinds := [], alts := [], laidByText := true, laidKinds := [.data], laidTests := true, laidLooks := .later }
def ArmClampsCardSaid : Prop := Claim7.holds Tryd.pinned (.plain (OpenSpec.ofChange armClampsSpec)) armClampsCard

/-- THE TIED CARD OF 'gantkeep3.ForeLengths'. -/
def foreLengthsCard : Claim7 := { stood := { row := foreLengthsRow, standIns := [], harness := (true, "8060fc44d956318feb80bdaaf55e392457289c0ddd97d4100298f6790fbeee8e"), looks := false }, kinds := [], alts := [], laidByText := true, laidKinds := [.data], laidTests := true, laidLooks := .later }
def ForeLengthsCardSaid : Prop := Claim7.holds Tryd.pinned (.plain (OpenSpec.ofChange foreLengthsSpec)) foreLengthsCard

/-- THE TIED CARD OF 'gantkeep3.TrackLimits'. -/
def trackLimitsCard : Claim7 := { stood := { row := trackLimitsRow, standIns := [], harness := (true, "8060fc44d956318feb80bdaaf55e392457289c0ddd97d4100298f6790fbeee8e"), looks := false }, kinds := [], alts := [], laidByText := true, laidKinds := [.data], laidTests := true, laidLooks := .later }
def TrackLimitsCardSaid : Prop := Claim7.holds Tryd.pinned (.plain (OpenSpec.ofChange trackLimitsSpec)) trackLimitsCard

/-- THE TIED CARD OF 'gantkeep3.ShortPlain'. -/
def shortPlainCard : Claim7 := { stood := { row := shortPlainRow, standIns := [], harness := (true, "8060fc44d956318feb80bdaaf55e392457289c0ddd97d4100298f6790fbeee8e"), looks := false }, kinds := [], alts := [], laidByText := true, laidKinds := [.data], laidTests := true, laidLooks := .later }
def ShortPlainCardSaid : Prop := Claim7.holds Tryd.pinned (.plain (OpenSpec.ofChange shortPlainSpec)) shortPlainCard

/-- THE TIED CARD OF 'gantkeep3.ShortHalves'. -/
def shortHalvesCard : Claim7 := { stood := { row := shortHalvesRow, standIns := [], harness := (true, "8060fc44d956318feb80bdaaf55e392457289c0ddd97d4100298f6790fbeee8e"), looks := false }, kinds := [], alts := [], laidByText := true, laidKinds := [.data], laidTests := true, laidLooks := .later }
def ShortHalvesCardSaid : Prop := Claim7.holds Tryd.pinned (.plain (OpenSpec.ofChange shortHalvesSpec)) shortHalvesCard

/-- THE TIED CARD OF 'gantkeep3.TrackCuts'. -/
def trackCutsCard : Claim7 := { stood := { row := trackCutsRow, standIns := [], harness := (true, "8060fc44d956318feb80bdaaf55e392457289c0ddd97d4100298f6790fbeee8e"), looks := false }, kinds := [], alts := [], laidByText := true, laidKinds := [.data], laidTests := true, laidLooks := .later }
def TrackCutsCardSaid : Prop := Claim7.holds Tryd.pinned (.plain (OpenSpec.ofChange trackCutsSpec)) trackCutsCard

/-- THE TIED CARD OF 'gantkeep3.TrackDelays'. -/
def trackDelaysCard : Claim7 := { stood := { row := trackDelaysRow, standIns := [], harness := (true, "8060fc44d956318feb80bdaaf55e392457289c0ddd97d4100298f6790fbeee8e"), looks := false }, kinds := [], alts := [], laidByText := true, laidKinds := [.data], laidTests := true, laidLooks := .later }
def TrackDelaysCardSaid : Prop := Claim7.holds Tryd.pinned (.plain (OpenSpec.ofChange trackDelaysSpec)) trackDelaysCard

/-- THE TIED CARD OF 'gantkeep3.TrackJoins'. -/
def trackJoinsCard : Claim7 := { stood := { row := trackJoinsRow, standIns := [], harness := (true, "8060fc44d956318feb80bdaaf55e392457289c0ddd97d4100298f6790fbeee8e"), looks := false }, kinds := [], alts := [], laidByText := true, laidKinds := [.data], laidTests := true, laidLooks := .later }
def TrackJoinsCardSaid : Prop := Claim7.holds Tryd.pinned (.plain (OpenSpec.ofChange trackJoinsSpec)) trackJoinsCard

/-- THE SECOND FORM's CARD OF 'gantkeep3.TrackSums'. -/
def trackSumsUptoCard : Claim7 := { stood := { row := trackSumsUptoRow, standIns := [], harness := (true, "8060fc44d956318feb80bdaaf55e392457289c0ddd97d4100298f6790fbeee8e"), looks := false }, kinds := [], alts := [], laidByText := true, laidKinds := [.data], laidTests := true, laidLooks := .later }
def TrackSumsUptoCardSaid : Prop := Claim7.holds Tryd.pinned (.plain (OpenSpec.upto trackSumsSpec)) trackSumsUptoCard

/-- THE SECOND FORM's CARD OF 'gantkeep3.TimingRests'. -/
def timingRestsUptoCard : Claim7 := { stood := { row := timingRestsUptoRow, standIns := [], harness := (true, "8060fc44d956318feb80bdaaf55e392457289c0ddd97d4100298f6790fbeee8e"), looks := false }, kinds := [], alts := [], laidByText := true, laidKinds := [.data], laidTests := true, laidLooks := .later }
def TimingRestsUptoCardSaid : Prop := Claim7.holds Tryd.pinned (.plain (OpenSpec.upto timingRestsSpec)) timingRestsUptoCard

/-- THE SECOND FORM's CARD OF 'gantkeep3.ArmClamps'. -/
def armClampsUptoCard : Claim7 := { stood := { row := armClampsUptoRow, standIns := [], harness := (true, "8060fc44d956318feb80bdaaf55e392457289c0ddd97d4100298f6790fbeee8e"), looks := false }, kinds := [], alts := [], laidByText := true, laidKinds := [.data], laidTests := true, laidLooks := .later }
def ArmClampsUptoCardSaid : Prop := Claim7.holds Tryd.pinned (.plain (OpenSpec.upto armClampsSpec)) armClampsUptoCard

/-- THE SECOND FORM's CARD OF 'gantkeep3.ForeLengths'. -/
def foreLengthsUptoCard : Claim7 := { stood := { row := foreLengthsUptoRow, standIns := [], harness := (true, "8060fc44d956318feb80bdaaf55e392457289c0ddd97d4100298f6790fbeee8e"), looks := false }, kinds := [], alts := [], laidByText := true, laidKinds := [.data], laidTests := true, laidLooks := .later }
def ForeLengthsUptoCardSaid : Prop := Claim7.holds Tryd.pinned (.plain (OpenSpec.upto foreLengthsSpec)) foreLengthsUptoCard

/-- THE SECOND FORM's CARD OF 'gantkeep3.TrackLimits'. -/
def trackLimitsUptoCard : Claim7 := { stood := { row := trackLimitsUptoRow, standIns := [], harness := (true, "8060fc44d956318feb80bdaaf55e392457289c0ddd97d4100298f6790fbeee8e"), looks := false }, kinds := [], alts := [], laidByText := true, laidKinds := [.data], laidTests := true, laidLooks := .later }
def TrackLimitsUptoCardSaid : Prop := Claim7.holds Tryd.pinned (.plain (OpenSpec.upto trackLimitsSpec)) trackLimitsUptoCard

/-- THE SECOND FORM's CARD OF 'gantkeep3.ShortPlain'. -/
def shortPlainUptoCard : Claim7 := { stood := { row := shortPlainUptoRow, standIns := [], harness := (true, "8060fc44d956318feb80bdaaf55e392457289c0ddd97d4100298f6790fbeee8e"), looks := false }, kinds := [], alts := [], laidByText := true, laidKinds := [.data], laidTests := true, laidLooks := .later }
def ShortPlainUptoCardSaid : Prop := Claim7.holds Tryd.pinned (.plain (OpenSpec.upto shortPlainSpec)) shortPlainUptoCard

/-- THE SECOND FORM's CARD OF 'gantkeep3.ShortHalves'. -/
def shortHalvesUptoCard : Claim7 := { stood := { row := shortHalvesUptoRow, standIns := [], harness := (true, "8060fc44d956318feb80bdaaf55e392457289c0ddd97d4100298f6790fbeee8e"), looks := false }, kinds := [], alts := [], laidByText := true, laidKinds := [.data], laidTests := true, laidLooks := .later }
def ShortHalvesUptoCardSaid : Prop := Claim7.holds Tryd.pinned (.plain (OpenSpec.upto shortHalvesSpec)) shortHalvesUptoCard

/-- THE SECOND FORM's CARD OF 'gantkeep3.TrackCuts'. -/
def trackCutsUptoCard : Claim7 := { stood := { row := trackCutsUptoRow, standIns := [], harness := (true, "8060fc44d956318feb80bdaaf55e392457289c0ddd97d4100298f6790fbeee8e"), looks := false }, kinds := [], alts := [], laidByText := true, laidKinds := [.data], laidTests := true, laidLooks := .later }
def TrackCutsUptoCardSaid : Prop := Claim7.holds Tryd.pinned (.plain (OpenSpec.upto trackCutsSpec)) trackCutsUptoCard

/-- THE SECOND FORM's CARD OF 'gantkeep3.TrackDelays'. -/
def trackDelaysUptoCard : Claim7 := { stood := { row := trackDelaysUptoRow, standIns := [], harness := (true, "8060fc44d956318feb80bdaaf55e392457289c0ddd97d4100298f6790fbeee8e"), looks := false }, kinds := [], alts := [], laidByText := true, laidKinds := [.data], laidTests := true, laidLooks := .later }
def TrackDelaysUptoCardSaid : Prop := Claim7.holds Tryd.pinned (.plain (OpenSpec.upto trackDelaysSpec)) trackDelaysUptoCard

/-- THE SECOND FORM's CARD OF 'gantkeep3.TrackJoins'. -/
def trackJoinsUptoCard : Claim7 := { stood := { row := trackJoinsUptoRow, standIns := [], harness := (true, "8060fc44d956318feb80bdaaf55e392457289c0ddd97d4100298f6790fbeee8e"), looks := false }, kinds := [], alts := [], laidByText := true, laidKinds := [.data], laidTests := true, laidLooks := .later }
def TrackJoinsUptoCardSaid : Prop := Claim7.holds Tryd.pinned (.plain (OpenSpec.upto trackJoinsSpec)) trackJoinsUptoCard
end Rows
end Go.Proofs.YtmbpebgpiacppaaDoor
