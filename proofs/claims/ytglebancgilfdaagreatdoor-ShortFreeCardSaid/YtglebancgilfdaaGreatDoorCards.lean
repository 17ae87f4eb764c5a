/-
  DERIVED. GIVEN WITH THE SEED: THE CARDS: each row of YtglebancgilfdaaGreatDoorRows.lean that lists a variable, with what it lists TIED to the program's text (the seventh form; the later family's looks); each row that meets fmt, with fmt's text TOLD by the authors' own Lean function (tested against real Go, not proved from fmt's source: count such statements apart). THE CARD IS WHAT COUNTS. Prove the row's statement (the work); the ties are given (YtglebancgilfdaaGreatDoorTie.lean); close each card by the builder's one call (the guide's Derived/Test/ToyasCard.lean, 'card_holds'). Laid BY PROGRAM, IN A SANDBOX (cutbox-door.mjs). By AI agents, Wed Nov 11 2026. No macro, syntax, notation, axiom, sorry.
-/
import Derived.Test.YtglebancgilfdaaGreatDoorRows
import GoSem.ClaimSeven
namespace Go.Proofs.YtglebancgilfdaaGreatDoor
namespace Rows

/-- THE TIED CARD OF 'gantkeep3.ShortFree'. -/
def shortFreeCard : Claim7 := { stood := { row := shortFreeRow, standIns := [], harness := (true, "7149b46118198d4c451f8b72d1d67474b0089e38019fb53b3687e2d669830eb4"), looks := false }, kinds := [], alts := [], laidByText := true, laidKinds := [.data], laidTests := true, laidLooks := .later }
def ShortFreeCardSaid : Prop := Claim7.holds Tryz.pinned (.plain (OpenSpec.ofChange shortFreeSpec)) shortFreeCard

/-- THE TIED CARD OF 'gantkeep3.InverseFinds'. -/
def inverseFindsCard : Claim7 := { stood := { row := inverseFindsRow, standIns := [], harness := (true, "7149b46118198d4c451f8b72d1d67474b0089e38019fb53b3687e2d669830eb4"), looks := false }, kinds := [], alts := [], laidByText := true, laidKinds := [.data], laidTests := true, laidLooks := .later }
def InverseFindsCardSaid : Prop := Claim7.holds Tryz.pinned (.plain (OpenSpec.ofChange inverseFindsSpec)) inverseFindsCard

/-- THE TIED CARD OF 'gantkeep3.InverseThrice'. -/
def inverseThriceCard : Claim7 := { stood := { row := inverseThriceRow, standIns := [], harness := (true, "7149b46118198d4c451f8b72d1d67474b0089e38019fb53b3687e2d669830eb4"), looks := false }, kinds := [], alts := [], laidByText := true, laidKinds := [.data], laidTests := true, laidLooks := .later }
def InverseThriceCardSaid : Prop := Claim7.holds Tryz.pinned (.plain (OpenSpec.ofChange inverseThriceSpec)) inverseThriceCard

/-- THE TIED CARD OF 'gantkeep3.InverseBack'. -/
def inverseBackCard : Claim7 := { stood := { row := inverseBackRow, standIns := [], harness := (true, "7149b46118198d4c451f8b72d1d67474b0089e38019fb53b3687e2d669830eb4"), looks := false }, kinds := [], alts := [], laidByText := true, laidKinds := [.data], laidTests := true, laidLooks := .later }
def InverseBackCardSaid : Prop := Claim7.holds Tryz.pinned (.plain (OpenSpec.ofChange inverseBackSpec)) inverseBackCard

/-- THE TIED CARD OF 'gantkeep3.PathBack'. -/
def pathBackCard : Claim7 := { stood := { row := pathBackRow, standIns := [], harness := (true, "7149b46118198d4c451f8b72d1d67474b0089e38019fb53b3687e2d669830eb4"), looks := false }, kinds := [], alts := [], laidByText := true, laidKinds := [.data], laidTests := true, laidLooks := .later }
def PathBackCardSaid : Prop := Claim7.holds Tryz.pinned (.plain (OpenSpec.ofChange pathBackSpec)) pathBackCard

/-- THE TIED CARD OF 'gantkeep3.PathFewer'. -/
def pathFewerCard : Claim7 := { stood := { row := pathFewerRow, standIns := [], harness := (true, "7149b46118198d4c451f8b72d1d67474b0089e38019fb53b3687e2d669830eb4"), looks := false }, kinds := [], alts := [], laidByText := true, laidKinds := [.data], laidTests := true, laidLooks := .later }
def PathFewerCardSaid : Prop := Claim7.holds Tryz.pinned (.plain (OpenSpec.ofChange pathFewerSpec)) pathFewerCard

/-- THE TIED CARD OF 'gantkeep3.PathFree'. -/
def pathFreeCard : Claim7 := { stood := { row := pathFreeRow, standIns := [], harness := (true, "7149b46118198d4c451f8b72d1d67474b0089e38019fb53b3687e2d669830eb4"), looks := false }, kinds := [], alts := [], laidByText := true, laidKinds := [.data], laidTests := true, laidLooks := .later }
def PathFreeCardSaid : Prop := Claim7.holds Tryz.pinned (.plain (OpenSpec.ofChange pathFreeSpec)) pathFreeCard

/-- THE SECOND FORM's CARD OF 'gantkeep3.ShortFree'. -/
def shortFreeUptoCard : Claim7 := { stood := { row := shortFreeUptoRow, standIns := [], harness := (true, "7149b46118198d4c451f8b72d1d67474b0089e38019fb53b3687e2d669830eb4"), looks := false }, kinds := [], alts := [], laidByText := true, laidKinds := [.data], laidTests := true, laidLooks := .later }
def ShortFreeUptoCardSaid : Prop := Claim7.holds Tryz.pinned (.plain (OpenSpec.upto shortFreeSpec)) shortFreeUptoCard

/-- THE SECOND FORM's CARD OF 'gantkeep3.InverseFinds'. -/
def inverseFindsUptoCard : Claim7 := { stood := { row := inverseFindsUptoRow, standIns := [], harness := (true, "7149b46118198d4c451f8b72d1d67474b0089e38019fb53b3687e2d669830eb4"), looks := false }, kinds := [], alts := [], laidByText := true, laidKinds := [.data], laidTests := true, laidLooks := .later }
def InverseFindsUptoCardSaid : Prop := Claim7.holds Tryz.pinned (.plain (OpenSpec.upto inverseFindsSpec)) inverseFindsUptoCard

/-- THE SECOND FORM's CARD OF 'gantkeep3.InverseThrice'. -/
def inverseThriceUptoCard : Claim7 := { stood := { row := inverseThriceUptoRow, standIns := [], harness := (true, "7149b46118198d4c451f8b72d1d67474b0089e38019fb53b3687e2d669830eb4"), looks := false }, kinds := [], alts := [], laidByText := true, laidKinds := [.data], laidTests := true, laidLooks := .later }
def InverseThriceUptoCardSaid : Prop := Claim7.holds Tryz.pinned (.plain (OpenSpec.upto inverseThriceSpec)) inverseThriceUptoCard

/-- THE SECOND FORM's CARD OF 'gantkeep3.InverseBack'. -/
def inverseBackUptoCard : Claim7 := { stood := { row := inverseBackUptoRow, standIns := [], harness := (true, "7149b46118198d4c451f8b72d1d67474b0089e38019fb53b3687e2d669830eb4"), looks := false }, kinds := [], alts := [], laidByText := true, laidKinds := [.data], laidTests := true, laidLooks := .later }
def InverseBackUptoCardSaid : Prop := Claim7.holds Tryz.pinned (.plain (OpenSpec.upto inverseBackSpec)) inverseBackUptoCard

/-- THE SECOND FORM's CARD OF 'gantkeep3.PathBack'. -/
def pathBackUptoCard : Claim7 := { stood := { row := pathBackUptoRow, standIns := [], harness := (true, "7149b46118198d4c451f8b72d1d67474b0089e38019fb53b3687e2d669830eb4"), looks := false }, kinds := [], alts := [], laidByText := true, laidKinds := [.data], laidTests := true, laidLooks := .later }
def PathBackUptoCardSaid : Prop := Claim7.holds Tryz.pinned (.plain (OpenSpec.upto pathBackSpec)) pathBackUptoCard

/-- THE SECOND FORM's CARD OF 'gantkeep3.PathFewer'. -/
def pathFewerUptoCard : Claim7 := { stood := { row := pathFewerUptoRow, standIns := [], harness := (true, "7149b46118198d4c451f8b72d1d67474b0089e38019fb53b3687e2d669830eb4"), looks := false }, kinds := [], alts := [], laidByText := true, laidKinds := [.data], laidTests := true, laidLooks := .later }
def PathFewerUptoCardSaid : Prop := Claim7.holds Tryz.pinned (.plain (OpenSpec.upto pathFewerSpec)) pathFewerUptoCard

/-- THE SECOND FORM's CARD OF 'gantkeep3.PathFree'. -/
def pathFreeUptoCard : Claim7 := { stood := { row := pathFreeUptoRow, standIns := [], harness := (true, "7149b46118198d4c451f8b72d1d67474b0089e38019fb53b3687e2d669830eb4"), looks := false }, kinds := [], alts := [], laidByText := true, laidKinds := [.data], laidTests := true, laidLooks := .later }
def PathFreeUptoCardSaid : Prop := Claim7.holds Tryz.pinned (.plain (OpenSpec.upto pathFreeSpec)) pathFreeUptoCard
end Rows
end Go.Proofs.YtglebancgilfdaaGreatDoor
