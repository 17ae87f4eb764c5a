/-
  DERIVED. GIVEN WITH THE SEED: THE CARDS: each row of YtagcmnmbgogljaaDoorRows.lean that lists a variable, with what it lists TIED to the program's text (the seventh form; the later family's looks); each row that meets fmt, with fmt's text TOLD by the authors' own Lean function (tested against real Go, not proved from fmt's source: count such statements apart). THE CARD IS WHAT COUNTS. Prove the row's statement (the work); the ties are given (YtagcmnmbgogljaaDoorTie.lean); close each card by the builder's one call (the guide's Derived/Test/ToyasCard.lean, 'card_holds'). Laid BY PROGRAM, IN A SANDBOX (cutbox-door.mjs). By AI agents, Wed Nov 11 2026. No macro, syntax, notation, axiom, sorry.
-/
import Derived.Test.YtagcmnmbgogljaaDoorRows
import GoSem.ClaimSeven
namespace Go.Proofs.YtagcmnmbgogljaaDoor
namespace Rows

/-- THE TIED CARD OF 'gantkeep3.RoamBeside'. -/
def roamBesideCard : Claim7 := { stood := { row := roamBesideRow, standIns := [], harness := (true, "bc0f8603cbf394209dbb5e36330feaf0b7d2c3295198bc6815c7818efbc2fc26"), looks := false }, kinds := [], alts := [], laidByText := true, laidKinds := [.data], laidTests := true, laidLooks := .later }
def RoamBesideCardSaid : Prop := Claim7.holds Tryd.pinned (.plain (OpenSpec.ofChange roamBesideSpec)) roamBesideCard

/-- THE SECOND FORM's CARD OF 'gantkeep3.RoamBeside'. -/
def roamBesideUptoCard : Claim7 := { stood := { row := roamBesideUptoRow, standIns := [], harness := (true, "bc0f8603cbf394209dbb5e36330feaf0b7d2c3295198bc6815c7818efbc2fc26"), looks := false }, kinds := [], alts := [], laidByText := true, laidKinds := [.data], laidTests := true, laidLooks := .later }
def RoamBesideUptoCardSaid : Prop := Claim7.holds Tryd.pinned (.plain (OpenSpec.upto roamBesideSpec)) roamBesideUptoCard
end Rows
end Go.Proofs.YtagcmnmbgogljaaDoor
