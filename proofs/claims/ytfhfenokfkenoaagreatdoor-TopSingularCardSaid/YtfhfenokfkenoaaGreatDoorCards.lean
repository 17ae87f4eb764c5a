/-
  DERIVED. GIVEN WITH THE SEED: THE CARDS: each row of YtfhfenokfkenoaaGreatDoorRows.lean that lists a variable, with what it lists TIED to the program's text (the seventh form; the later family's looks); each row that meets fmt, with fmt's text TOLD by the authors' own Lean function (tested against real Go, not proved from fmt's source: count such statements apart). THE CARD IS WHAT COUNTS. Prove the row's statement (the work); the ties are given (YtfhfenokfkenoaaGreatDoorTie.lean); close each card by the builder's one call (the guide's Derived/Test/ToyasCard.lean, 'card_holds'). Laid BY PROGRAM, IN A SANDBOX (cutbox-door.mjs). By AI agents, Wed Nov 11 2026. No macro, syntax, notation, axiom, sorry.
-/
import Derived.Test.YtfhfenokfkenoaaGreatDoorRows
import GoSem.ClaimSeven
namespace Go.Proofs.YtfhfenokfkenoaaGreatDoor
namespace Rows

/-- THE TIED CARD OF 'ganttop.TopTimed'. -/
def topTimedCard : Claim7 := { stood := { row := topTimedRow, standIns := [], harness := (true, "aa3d4cece5758a1b3f3fda73f432c7faaf2c7c5be07884b2ef04a33733b039bf"), looks := false }, kinds := [], alts := [], laidByText := true, laidKinds := [.data], laidTests := true, laidLooks := .later }
def TopTimedCardSaid : Prop := Claim7.holds Tryz.pinned (.plain (OpenSpec.ofChange topTimedSpec)) topTimedCard

/-- THE TIED CARD OF 'ganttop.TopSingular'. -/
def topSingularCard : Claim7 := { stood := { row := topSingularRow, standIns := [], harness := (true, "aa3d4cece5758a1b3f3fda73f432c7faaf2c7c5be07884b2ef04a33733b039bf"), looks := false }, kinds := [], alts := [], laidByText := true, laidKinds := [.data], laidTests := true, laidLooks := .later }
def TopSingularCardSaid : Prop := Claim7.holds Tryz.pinned (.plain (OpenSpec.ofChange topSingularSpec)) topSingularCard

/-- THE TIED CARD OF 'gantkeep3.InverseThrice'. -/
def inverseThriceCard : Claim7 := { stood := { row := inverseThriceRow, standIns := [], harness := (true, "aa3d4cece5758a1b3f3fda73f432c7faaf2c7c5be07884b2ef04a33733b039bf"), looks := false }, kinds := [], alts := [], laidByText := true, laidKinds := [.data], laidTests := true, laidLooks := .later }
def InverseThriceCardSaid : Prop := Claim7.holds Tryz.pinned (.plain (OpenSpec.ofChange inverseThriceSpec)) inverseThriceCard

/-- THE TIED CARD OF 'gantkeep3.InverseBack'. -/
def inverseBackCard : Claim7 := { stood := { row := inverseBackRow, standIns := [], harness := (true, "aa3d4cece5758a1b3f3fda73f432c7faaf2c7c5be07884b2ef04a33733b039bf"), looks := false }, kinds := [], alts := [], laidByText := true, laidKinds := [.data], laidTests := true, laidLooks := .later }
def InverseBackCardSaid : Prop := Claim7.holds Tryz.pinned (.plain (OpenSpec.ofChange inverseBackSpec)) inverseBackCard

/-- THE TIED CARD OF 'gantkeep3.PathFree'. -/
def pathFreeCard : Claim7 := { stood := { row := pathFreeRow, standIns := [], harness := (true, "aa3d4cece5758a1b3f3fda73f432c7faaf2c7c5be07884b2ef04a33733b039bf"), looks := false }, kinds := [], alts := [], laidByText := true, laidKinds := [.data], laidTests := true, laidLooks := .later }
def PathFreeCardSaid : Prop := Claim7.holds Tryz.pinned (.plain (OpenSpec.ofChange pathFreeSpec)) pathFreeCard

/-- THE TIED CARD OF 'ganttop.TopInverse'. -/
def topInverseCard : Claim7 := { stood := { row := topInverseRow, standIns := [], harness := (true, "aa3d4cece5758a1b3f3fda73f432c7faaf2c7c5be07884b2ef04a33733b039bf"), looks := false }, kinds := [], alts := [], laidByText := true, laidKinds := [.data], laidTests := true, laidLooks := .later }
def TopInverseCardSaid : Prop := Claim7.holds Tryz.pinned (.plain (OpenSpec.ofChange topInverseSpec)) topInverseCard

/-- THE TIED CARD OF 'ganttop.TopWays'. -/
def topWaysCard : Claim7 := { stood := { row := topWaysRow, standIns := [], harness := (true, "aa3d4cece5758a1b3f3fda73f432c7faaf2c7c5be07884b2ef04a33733b039bf"), looks := false }, kinds := [], alts := [], laidByText := true, laidKinds := [.data], laidTests := true, laidLooks := .later }
def TopWaysCardSaid : Prop := Claim7.holds Tryz.pinned (.plain (OpenSpec.ofChange topWaysSpec)) topWaysCard

/-- THE SECOND FORM's CARD OF 'ganttop.TopTimed'. -/
def topTimedUptoCard : Claim7 := { stood := { row := topTimedUptoRow, standIns := [], harness := (true, "aa3d4cece5758a1b3f3fda73f432c7faaf2c7c5be07884b2ef04a33733b039bf"), looks := false }, kinds := [], alts := [], laidByText := true, laidKinds := [.data], laidTests := true, laidLooks := .later }
def TopTimedUptoCardSaid : Prop := Claim7.holds Tryz.pinned (.plain (OpenSpec.upto topTimedSpec)) topTimedUptoCard

/-- THE SECOND FORM's CARD OF 'ganttop.TopSingular'. -/
def topSingularUptoCard : Claim7 := { stood := { row := topSingularUptoRow, standIns := [], harness := (true, "aa3d4cece5758a1b3f3fda73f432c7faaf2c7c5be07884b2ef04a33733b039bf"), looks := false }, kinds := [], alts := [], laidByText := true, laidKinds := [.data], laidTests := true, laidLooks := .later }
def TopSingularUptoCardSaid : Prop := Claim7.holds Tryz.pinned (.plain (OpenSpec.upto topSingularSpec)) topSingularUptoCard

/-- THE SECOND FORM's CARD OF 'gantkeep3.InverseThrice'. -/
def inverseThriceUptoCard : Claim7 := { stood := { row := inverseThriceUptoRow, standIns := [], harness := (true, "aa3d4cece5758a1b3f3fda73f432c7faaf2c7c5be07884b2ef04a33733b039bf"), looks := false }, kinds := [], alts := [], laidByText := true, laidKinds := [.data], laidTests := true, laidLooks := .later }
def InverseThriceUptoCardSaid : Prop := Claim7.holds Tryz.pinned (.plain (OpenSpec.upto inverseThriceSpec)) inverseThriceUptoCard

/-- THE SECOND FORM's CARD OF 'gantkeep3.InverseBack'. -/
def inverseBackUptoCard : Claim7 := { stood := { row := inverseBackUptoRow, standIns := [], harness := (true, "aa3d4cece5758a1b3f3fda73f432c7faaf2c7c5be07884b2ef04a33733b039bf"), looks := false }, kinds := [], alts := [], laidByText := true, laidKinds := [.data], laidTests := true, laidLooks := .later }
def InverseBackUptoCardSaid : Prop := Claim7.holds Tryz.pinned (.plain (OpenSpec.upto inverseBackSpec)) inverseBackUptoCard

/-- THE SECOND FORM's CARD OF 'gantkeep3.PathFree'. -/
def pathFreeUptoCard : Claim7 := { stood := { row := pathFreeUptoRow, standIns := [], harness := (true, "aa3d4cece5758a1b3f3fda73f432c7faaf2c7c5be07884b2ef04a33733b039bf"), looks := false }, kinds := [], alts := [], laidByText := true, laidKinds := [.data], laidTests := true, laidLooks := .later }
def PathFreeUptoCardSaid : Prop := Claim7.holds Tryz.pinned (.plain (OpenSpec.upto pathFreeSpec)) pathFreeUptoCard

/-- THE SECOND FORM's CARD OF 'ganttop.TopInverse'. -/
def topInverseUptoCard : Claim7 := { stood := { row := topInverseUptoRow, standIns := [], harness := (true, "aa3d4cece5758a1b3f3fda73f432c7faaf2c7c5be07884b2ef04a33733b039bf"), looks := false }, kinds := [], alts := [], laidByText := true, laidKinds := [.data], laidTests := true, laidLooks := .later }
def TopInverseUptoCardSaid : Prop := Claim7.holds Tryz.pinned (.plain (OpenSpec.upto topInverseSpec)) topInverseUptoCard

/-- THE SECOND FORM's CARD OF 'ganttop.TopWays'. -/
def topWaysUptoCard : Claim7 := { stood := { row := topWaysUptoRow, standIns := [], harness := (true, "aa3d4cece5758a1b3f3fda73f432c7faaf2c7c5be07884b2ef04a33733b039bf"), looks := false }, kinds := [], alts := [], laidByText := true, laidKinds := [.data], laidTests := true, laidLooks := .later }
def TopWaysUptoCardSaid : Prop := Claim7.holds Tryz.pinned (.plain (OpenSpec.upto topWaysSpec)) topWaysUptoCard
end Rows
end Go.Proofs.YtfhfenokfkenoaaGreatDoor
