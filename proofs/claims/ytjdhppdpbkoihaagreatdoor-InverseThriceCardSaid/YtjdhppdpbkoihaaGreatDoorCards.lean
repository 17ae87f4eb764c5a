/-
  DERIVED. GIVEN WITH THE SEED: THE CARDS: each row of YtjdhppdpbkoihaaGreatDoorRows.lean that lists a variable, with what it lists TIED to the program's text (the seventh form; the later family's looks); each row that meets fmt, with fmt's text TOLD by the authors' own Lean function (tested against real Go, not proved from fmt's source: count such statements apart). THE CARD IS WHAT COUNTS. Prove the row's statement (the work); the ties are given (YtjdhppdpbkoihaaGreatDoorTie.lean); close each card by the builder's one call (the guide's Derived/Test/ToyasCard.lean, 'card_holds'). Laid BY PROGRAM, IN A SANDBOX (cutbox-door.mjs). By AI agents, Wed Nov 11 2026. No macro, syntax, notation, axiom, sorry.
-/
import Derived.Test.YtjdhppdpbkoihaaGreatDoorRows
import GoSem.ClaimSeven
namespace Go.Proofs.YtjdhppdpbkoihaaGreatDoor
namespace Rows

/-- THE TIED CARD OF 'ganttop.FramesGroup'. -/
def framesGroupCard : Claim7 := { stood := { row := framesGroupRow, standIns := [], harness := (true, "5060fa22539c720d290143786202087af43c6f19e41ccf7116c343835011222c"), looks := false }, kinds := [], alts := [], laidByText := true, laidKinds := [.data], laidTests := true, laidLooks := .later }
def FramesGroupCardSaid : Prop := Claim7.holds Tryz.pinned (.plain (OpenSpec.ofChange framesGroupSpec)) framesGroupCard

/-- THE TIED CARD OF 'gantkeep3.InverseThrice'. -/
def inverseThriceCard : Claim7 := { stood := { row := inverseThriceRow, standIns := [], harness := (true, "5060fa22539c720d290143786202087af43c6f19e41ccf7116c343835011222c"), looks := false }, kinds := [], alts := [], laidByText := true, laidKinds := [.data], laidTests := true, laidLooks := .later }
def InverseThriceCardSaid : Prop := Claim7.holds Tryz.pinned (.plain (OpenSpec.ofChange inverseThriceSpec)) inverseThriceCard

/-- THE SECOND FORM's CARD OF 'ganttop.FramesGroup'. -/
def framesGroupUptoCard : Claim7 := { stood := { row := framesGroupUptoRow, standIns := [], harness := (true, "5060fa22539c720d290143786202087af43c6f19e41ccf7116c343835011222c"), looks := false }, kinds := [], alts := [], laidByText := true, laidKinds := [.data], laidTests := true, laidLooks := .later }
def FramesGroupUptoCardSaid : Prop := Claim7.holds Tryz.pinned (.plain (OpenSpec.upto framesGroupSpec)) framesGroupUptoCard

/-- THE SECOND FORM's CARD OF 'gantkeep3.InverseThrice'. -/
def inverseThriceUptoCard : Claim7 := { stood := { row := inverseThriceUptoRow, standIns := [], harness := (true, "5060fa22539c720d290143786202087af43c6f19e41ccf7116c343835011222c"), looks := false }, kinds := [], alts := [], laidByText := true, laidKinds := [.data], laidTests := true, laidLooks := .later }
def InverseThriceUptoCardSaid : Prop := Claim7.holds Tryz.pinned (.plain (OpenSpec.upto inverseThriceSpec)) inverseThriceUptoCard
end Rows
end Go.Proofs.YtjdhppdpbkoihaaGreatDoor
