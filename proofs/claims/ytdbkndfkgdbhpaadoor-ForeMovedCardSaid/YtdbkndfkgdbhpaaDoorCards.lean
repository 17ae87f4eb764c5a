/-
  DERIVED. GIVEN WITH THE SEED: THE CARDS: each row of YtdbkndfkgdbhpaaDoorRows.lean that lists a variable, with what it lists TIED to the program's text (the seventh form; the later family's looks); each row that meets fmt, with fmt's text TOLD by the authors' own Lean function (tested against real Go, not proved from fmt's source: count such statements apart). THE CARD IS WHAT COUNTS. Prove the row's statement (the work); the ties are given (YtdbkndfkgdbhpaaDoorTie.lean); close each card by the builder's one call (the guide's Derived/Test/ToyasCard.lean, 'card_holds'). Laid BY PROGRAM, IN A SANDBOX (cutbox-door.mjs). By AI agents, Wed Nov 11 2026. No macro, syntax, notation, axiom, sorry.
-/
import Derived.Test.YtdbkndfkgdbhpaaDoorRows
import GoSem.ClaimSeven
namespace Go.Proofs.YtdbkndfkgdbhpaaDoor
namespace Rows

/-- THE TIED CARD OF 'gantkeep3.ForceSums'. -/
def forceSumsCard : Claim7 := { stood := { row := forceSumsRow, standIns := [], harness := (true, "05ef117b523b1e70f6281ccbea1151ee2e2e637efa48756bae6d7dc27d0b0c36"), looks := false }, kinds := [], alts := [], laidByText := true, laidKinds := [.data], laidTests := true, laidLooks := .later }
def ForceSumsCardSaid : Prop := Claim7.holds Tryd.pinned (.plain (OpenSpec.ofChange forceSumsSpec)) forceSumsCard

/-- THE TIED CARD OF 'gantkeep3.SingleSums'. -/
def singleSumsCard : Claim7 := { stood := { row := singleSumsRow, standIns := [], harness := (true, "05ef117b523b1e70f6281ccbea1151ee2e2e637efa48756bae6d7dc27d0b0c36"), looks := false }, kinds := [], alts := [], laidByText := true, laidKinds := [.data], laidTests := true, laidLooks := .later }
def SingleSumsCardSaid : Prop := Claim7.holds Tryd.pinned (.plain (OpenSpec.ofChange singleSumsSpec)) singleSumsCard

/-- THE TIED CARD OF 'gantkeep3.SingleTwo'. -/
def singleTwoCard : Claim7 := { stood := { row := singleTwoRow, standIns := [], harness := (true, "05ef117b523b1e70f6281ccbea1151ee2e2e637efa48756bae6d7dc27d0b0c36"), looks := false }, kinds := [], alts := [], laidByText := true, laidKinds := [.data], laidTests := true, laidLooks := .later }
def SingleTwoCardSaid : Prop := Claim7.holds Tryd.pinned (.plain (OpenSpec.ofChange singleTwoSpec)) singleTwoCard

/-- THE TIED CARD OF 'gantkeep3.ShapeRigid'. -/
def shapeRigidCard : Claim7 := { stood := { row := shapeRigidRow, standIns := [], harness := (true, "05ef117b523b1e70f6281ccbea1151ee2e2e637efa48756bae6d7dc27d0b0c36"), looks := false }, kinds := [], alts := [], laidByText := true, laidKinds := [.data], laidTests := true, laidLooks := .later }
def ShapeRigidCardSaid : Prop := Claim7.holds Tryd.pinned (.plain (OpenSpec.ofChange shapeRigidSpec)) shapeRigidCard

/-- THE TIED CARD OF 'gantkeep3.ForceWork'. -/
def forceWorkCard : Claim7 := { stood := { row := forceWorkRow, standIns := [], harness := (true, "05ef117b523b1e70f6281ccbea1151ee2e2e637efa48756bae6d7dc27d0b0c36"), looks := false }, kinds := [], alts := [], laidByText := true, laidKinds := [.data], laidTests := true, laidLooks := .later }
def ForceWorkCardSaid : Prop := Claim7.holds Tryd.pinned (.plain (OpenSpec.ofChange forceWorkSpec)) forceWorkCard

/-- THE TIED CARD OF 'gantkeep3.SingleStill'. -/
def singleStillCard : Claim7 := { stood := { row := singleStillRow, standIns := [], harness := (true, "05ef117b523b1e70f6281ccbea1151ee2e2e637efa48756bae6d7dc27d0b0c36"), looks := false }, kinds := [], alts := [], laidByText := true, laidKinds := [.data], laidTests := true, laidLooks := .later }
def SingleStillCardSaid : Prop := Claim7.holds Tryd.pinned (.plain (OpenSpec.ofChange singleStillSpec)) singleStillCard

/-- THE TIED CARD OF 'gantkeep3.InverseRing'. -/
def inverseRingCard : Claim7 := { stood := { row := inverseRingRow, standIns := [], harness := (true, "05ef117b523b1e70f6281ccbea1151ee2e2e637efa48756bae6d7dc27d0b0c36"), looks := false }, kinds := [], alts := [], laidByText := true, laidKinds := [.data], laidTests := true, laidLooks := .later }
def InverseRingCardSaid : Prop := Claim7.holds Tryd.pinned (.plain (OpenSpec.ofChange inverseRingSpec)) inverseRingCard

/-- THE TIED CARD OF 'gantkeep3.ForeMoved'. -/
def foreMovedCard : Claim7 := { stood := { row := foreMovedRow, standIns := [], harness := (true, "05ef117b523b1e70f6281ccbea1151ee2e2e637efa48756bae6d7dc27d0b0c36"), looks := false }, kinds := [], alts := [], laidByText := true, laidKinds := [.data], laidTests := true, laidLooks := .later }
def ForeMovedCardSaid : Prop := Claim7.holds Tryd.pinned (.plain (OpenSpec.ofChange foreMovedSpec)) foreMovedCard

/-- THE TIED CARD OF 'gantkeep3.TrackSums'. -/
def trackSumsCard : Claim7 := { stood := { row := trackSumsRow, standIns := [], harness := (true, "05ef117b523b1e70f6281ccbea1151ee2e2e637efa48756bae6d7dc27d0b0c36"), looks := false }, kinds := [], alts := [], laidByText := true, laidKinds := [.data], laidTests := true, laidLooks := .later }
def TrackSumsCardSaid : Prop := Claim7.holds Tryd.pinned (.plain (OpenSpec.ofChange trackSumsSpec)) trackSumsCard

/-- THE SECOND FORM's CARD OF 'gantkeep3.ForceSums'. -/
def forceSumsUptoCard : Claim7 := { stood := { row := forceSumsUptoRow, standIns := [], harness := (true, "05ef117b523b1e70f6281ccbea1151ee2e2e637efa48756bae6d7dc27d0b0c36"), looks := false }, kinds := [], alts := [], laidByText := true, laidKinds := [.data], laidTests := true, laidLooks := .later }
def ForceSumsUptoCardSaid : Prop := Claim7.holds Tryd.pinned (.plain (OpenSpec.upto forceSumsSpec)) forceSumsUptoCard

/-- THE SECOND FORM's CARD OF 'gantkeep3.SingleSums'. -/
def singleSumsUptoCard : Claim7 := { stood := { row := singleSumsUptoRow, standIns := [], harness := (true, "05ef117b523b1e70f6281ccbea1151ee2e2e637efa48756bae6d7dc27d0b0c36"), looks := false }, kinds := [], alts := [], laidByText := true, laidKinds := [.data], laidTests := true, laidLooks := .later }
def SingleSumsUptoCardSaid : Prop := Claim7.holds Tryd.pinned (.plain (OpenSpec.upto singleSumsSpec)) singleSumsUptoCard

/-- THE SECOND FORM's CARD OF 'gantkeep3.SingleTwo'. -/
def singleTwoUptoCard : Claim7 := { stood := { row := singleTwoUptoRow, standIns := [], harness := (true, "05ef117b523b1e70f6281ccbea1151ee2e2e637efa48756bae6d7dc27d0b0c36"), looks := false }, kinds := [], alts := [], laidByText := true, laidKinds := [.data], laidTests := true, laidLooks := .later }
def SingleTwoUptoCardSaid : Prop := Claim7.holds Tryd.pinned (.plain (OpenSpec.upto singleTwoSpec)) singleTwoUptoCard

/-- THE SECOND FORM's CARD OF 'gantkeep3.ShapeRigid'. -/
def shapeRigidUptoCard : Claim7 := { stood := { row := shapeRigidUptoRow, standIns := [], harness := (true, "05ef117b523b1e70f6281ccbea1151ee2e2e637efa48756bae6d7dc27d0b0c36"), looks := false }, kinds := [], alts := [], laidByText := true, laidKinds := [.data], laidTests := true, laidLooks := .later }
def ShapeRigidUptoCardSaid : Prop := Claim7.holds Tryd.pinned (.plain (OpenSpec.upto shapeRigidSpec)) shapeRigidUptoCard

/-- THE SECOND FORM's CARD OF 'gantkeep3.ForceWork'. -/
def forceWorkUptoCard : Claim7 := { stood := { row := forceWorkUptoRow, standIns := [], harness := (true, "05ef117b523b1e70f6281ccbea1151ee2e2e637efa48756bae6d7dc27d0b0c36"), looks := false }, kinds := [], alts := [], laidByText := true, laidKinds := [.data], laidTests := true, laidLooks := .later }
def ForceWorkUptoCardSaid : Prop := Claim7.holds Tryd.pinned (.plain (OpenSpec.upto forceWorkSpec)) forceWorkUptoCard

/-- THE SECOND FORM's CARD OF 'gantkeep3.SingleStill'. -/
def singleStillUptoCard : Claim7 := { stood := { row := singleStillUptoRow, standIns := [], harness := (true, "05ef117b523b1e70f6281ccbea1151ee2e2e637efa48756bae6d7dc27d0b0c36"), looks := false }, kinds := [], alts := [], laidByText := true, laidKinds := [.data], laidTests := true, laidLooks := .later }
def SingleStillUptoCardSaid : Prop := Claim7.holds Tryd.pinned (.plain (OpenSpec.upto singleStillSpec)) singleStillUptoCard

/-- THE SECOND FORM's CARD OF 'gantkeep3.InverseRing'. -/
def inverseRingUptoCard : Claim7 := { stood := { row := inverseRingUptoRow, standIns := [], harness := (true, "05ef117b523b1e70f6281ccbea1151ee2e2e637efa48756bae6d7dc27d0b0c36"), looks := false }, kinds := [], alts := [], laidByText := true, laidKinds := [.data], laidTests := true, laidLooks := .later }
def InverseRingUptoCardSaid : Prop := Claim7.holds Tryd.pinned (.plain (OpenSpec.upto inverseRingSpec)) inverseRingUptoCard

/-- THE SECOND FORM's CARD OF 'gantkeep3.ForeMoved'. -/
def foreMovedUptoCard : Claim7 := { stood := { row := foreMovedUptoRow, standIns := [], harness := (true, "05ef117b523b1e70f6281ccbea1151ee2e2e637efa48756bae6d7dc27d0b0c36"), looks := false }, kinds := [], alts := [], laidByText := true, laidKinds := [.data], laidTests := true, laidLooks := .later }
def ForeMovedUptoCardSaid : Prop := Claim7.holds Tryd.pinned (.plain (OpenSpec.upto foreMovedSpec)) foreMovedUptoCard

/-- THE SECOND FORM's CARD OF 'gantkeep3.TrackSums'. -/
def trackSumsUptoCard : Claim7 := { stood := { row := trackSumsUptoRow, standIns := [], harness := (true, "05ef117b523b1e70f6281ccbea1151ee2e2e637efa48756bae6d7dc27d0b0c36"), looks := false }, kinds := [], alts := [], laidByText := true, laidKinds := [.data], laidTests := true, laidLooks := .later }
def TrackSumsUptoCardSaid : Prop := Claim7.holds Tryd.pinned (.plain (OpenSpec.upto trackSumsSpec)) trackSumsUptoCard
end Rows
end Go.Proofs.YtdbkndfkgdbhpaaDoor
