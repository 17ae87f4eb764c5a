/-
  DERIVED. GIVEN WITH THE SEED: THE CARDS: each row of YtdkakhlabdoilaaGreatDoorRows.lean that lists a variable, with what it lists TIED to the program's text (the seventh form; the later family's looks); each row that meets fmt, with fmt's text TOLD by the authors' own Lean function (tested against real Go, not proved from fmt's source: count such statements apart). THE CARD IS WHAT COUNTS. Prove the row's statement (the work); the ties are given (YtdkakhlabdoilaaGreatDoorTie.lean); close each card by the builder's one call (the guide's Derived/Test/ToyasCard.lean, 'card_holds'). Laid BY PROGRAM, IN A SANDBOX (cutbox-door.mjs). By AI agents, Wed Nov 11 2026. No macro, syntax, notation, axiom, sorry.
-/
import Derived.Test.YtdkakhlabdoilaaGreatDoorRows
import GoSem.ClaimSeven
namespace Go.Proofs.YtdkakhlabdoilaaGreatDoor
namespace Rows

/-- THE TIED CARD OF 'gantkeep3.ClearBoth'. -/
def clearBothCard : Claim7 := { stood := { row := clearBothRow, standIns := [], harness := (true, "55535865e4ea5bb742d81db460dc4ae1ab53261b490465189d11bbd565848af4"), looks := false }, kinds := [], alts := [], laidByText := true, laidKinds := [.data], laidTests := true, laidLooks := .later }
def ClearBothCardSaid : Prop := Claim7.holds Tryz.pinned (.plain (OpenSpec.ofChange clearBothSpec)) clearBothCard

/-- THE TIED CARD OF 'gantkeep3.ClearFewer'. -/
def clearFewerCard : Claim7 := { stood := { row := clearFewerRow, standIns := [], harness := (true, "55535865e4ea5bb742d81db460dc4ae1ab53261b490465189d11bbd565848af4"), looks := false }, kinds := [], alts := [], laidByText := true, laidKinds := [.data], laidTests := true, laidLooks := .later }
def ClearFewerCardSaid : Prop := Claim7.holds Tryz.pinned (.plain (OpenSpec.ofChange clearFewerSpec)) clearFewerCard

/-- THE TIED CARD OF 'gantkeep3.ClearProves'. -/
def clearProvesCard : Claim7 := { stood := { row := clearProvesRow, standIns := [], harness := (true, "55535865e4ea5bb742d81db460dc4ae1ab53261b490465189d11bbd565848af4"), looks := false }, kinds := [], alts := [], laidByText := true, laidKinds := [.data], laidTests := true, laidLooks := .later }
def ClearProvesCardSaid : Prop := Claim7.holds Tryz.pinned (.plain (OpenSpec.ofChange clearProvesSpec)) clearProvesCard

/-- THE TIED CARD OF 'gantkeep3.ClearBack'. -/
def clearBackCard : Claim7 := { stood := { row := clearBackRow, standIns := [], harness := (true, "55535865e4ea5bb742d81db460dc4ae1ab53261b490465189d11bbd565848af4"), looks := false }, kinds := [], alts := [], laidByText := true, laidKinds := [.data], laidTests := true, laidLooks := .later }
def ClearBackCardSaid : Prop := Claim7.holds Tryz.pinned (.plain (OpenSpec.ofChange clearBackSpec)) clearBackCard

/-- THE TIED CARD OF 'gantkeep3.ShortFree'. -/
def shortFreeCard : Claim7 := { stood := { row := shortFreeRow, standIns := [], harness := (true, "55535865e4ea5bb742d81db460dc4ae1ab53261b490465189d11bbd565848af4"), looks := false }, kinds := [], alts := [], laidByText := true, laidKinds := [.data], laidTests := true, laidLooks := .later }
def ShortFreeCardSaid : Prop := Claim7.holds Tryz.pinned (.plain (OpenSpec.ofChange shortFreeSpec)) shortFreeCard

/-- THE TIED CARD OF 'gantkeep3.InverseFinds'. -/
def inverseFindsCard : Claim7 := { stood := { row := inverseFindsRow, standIns := [], harness := (true, "55535865e4ea5bb742d81db460dc4ae1ab53261b490465189d11bbd565848af4"), looks := false }, kinds := [], alts := [], laidByText := true, laidKinds := [.data], laidTests := true, laidLooks := .later }
def InverseFindsCardSaid : Prop := Claim7.holds Tryz.pinned (.plain (OpenSpec.ofChange inverseFindsSpec)) inverseFindsCard

/-- THE TIED CARD OF 'gantkeep3.InverseThrice'. -/
def inverseThriceCard : Claim7 := { stood := { row := inverseThriceRow, standIns := [], harness := (true, "55535865e4ea5bb742d81db460dc4ae1ab53261b490465189d11bbd565848af4"), looks := false }, kinds := [], alts := [], laidByText := true, laidKinds := [.data], laidTests := true, laidLooks := .later }
def InverseThriceCardSaid : Prop := Claim7.holds Tryz.pinned (.plain (OpenSpec.ofChange inverseThriceSpec)) inverseThriceCard

/-- THE SECOND FORM's CARD OF 'gantkeep3.ClearBoth'. -/
def clearBothUptoCard : Claim7 := { stood := { row := clearBothUptoRow, standIns := [], harness := (true, "55535865e4ea5bb742d81db460dc4ae1ab53261b490465189d11bbd565848af4"), looks := false }, kinds := [], alts := [], laidByText := true, laidKinds := [.data], laidTests := true, laidLooks := .later }
def ClearBothUptoCardSaid : Prop := Claim7.holds Tryz.pinned (.plain (OpenSpec.upto clearBothSpec)) clearBothUptoCard

/-- THE SECOND FORM's CARD OF 'gantkeep3.ClearFewer'. -/
def clearFewerUptoCard : Claim7 := { stood := { row := clearFewerUptoRow, standIns := [], harness := (true, "55535865e4ea5bb742d81db460dc4ae1ab53261b490465189d11bbd565848af4"), looks := false }, kinds := [], alts := [], laidByText := true, laidKinds := [.data], laidTests := true, laidLooks := .later }
def ClearFewerUptoCardSaid : Prop := Claim7.holds Tryz.pinned (.plain (OpenSpec.upto clearFewerSpec)) clearFewerUptoCard

/-- THE SECOND FORM's CARD OF 'gantkeep3.ClearProves'. -/
def clearProvesUptoCard : Claim7 := { stood := { row := clearProvesUptoRow, standIns := [], harness := (true, "55535865e4ea5bb742d81db460dc4ae1ab53261b490465189d11bbd565848af4"), looks := false }, kinds := [], alts := [], laidByText := true, laidKinds := [.data], laidTests := true, laidLooks := .later }
def ClearProvesUptoCardSaid : Prop := Claim7.holds Tryz.pinned (.plain (OpenSpec.upto clearProvesSpec)) clearProvesUptoCard

/-- THE SECOND FORM's CARD OF 'gantkeep3.ClearBack'. -/
def clearBackUptoCard : Claim7 := { stood := { row := clearBackUptoRow, standIns := [], harness := (true, "55535865e4ea5bb742d81db460dc4ae1ab53261b490465189d11bbd565848af4"), looks := false }, kinds := [], alts := [], laidByText := true, laidKinds := [.data], laidTests := true, laidLooks := .later }
def ClearBackUptoCardSaid : Prop := Claim7.holds Tryz.pinned (.plain (OpenSpec.upto clearBackSpec)) clearBackUptoCard

/-- THE SECOND FORM's CARD OF 'gantkeep3.ShortFree'. -/
def shortFreeUptoCard : Claim7 := { stood := { row := shortFreeUptoRow, standIns := [], harness := (true, "55535865e4ea5bb742d81db460dc4ae1ab53261b490465189d11bbd565848af4"), looks := false }, kinds := [], alts := [], laidByText := true, laidKinds := [.data], laidTests := true, laidLooks := .later }
def ShortFreeUptoCardSaid : Prop := Claim7.holds Tryz.pinned (.plain (OpenSpec.upto shortFreeSpec)) shortFreeUptoCard

/-- THE SECOND FORM's CARD OF 'gantkeep3.InverseFinds'. -/
def inverseFindsUptoCard : Claim7 := { stood := { row := inverseFindsUptoRow, standIns := [], harness := (true, "55535865e4ea5bb742d81db460dc4ae1ab53261b490465189d11bbd565848af4"), looks := false }, kinds := [], alts := [], laidByText := true, laidKinds := [.data], laidTests := true, laidLooks := .later }
def InverseFindsUptoCardSaid : Prop := Claim7.holds Tryz.pinned (.plain (OpenSpec.upto inverseFindsSpec)) inverseFindsUptoCard

/-- THE SECOND FORM's CARD OF 'gantkeep3.InverseThrice'. -/
def inverseThriceUptoCard : Claim7 := { stood := { row := inverseThriceUptoRow, standIns := [], harness := (true, "55535865e4ea5bb742d81db460dc4ae1ab53261b490465189d11bbd565848af4"), looks := false }, kinds := [], alts := [], laidByText := true, laidKinds := [.data], laidTests := true, laidLooks := .later }
def InverseThriceUptoCardSaid : Prop := Claim7.holds Tryz.pinned (.plain (OpenSpec.upto inverseThriceSpec)) inverseThriceUptoCard
end Rows
end Go.Proofs.YtdkakhlabdoilaaGreatDoor
