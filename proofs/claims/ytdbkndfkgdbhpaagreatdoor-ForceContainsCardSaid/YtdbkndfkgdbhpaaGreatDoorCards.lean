/-
  DERIVED. GIVEN WITH THE SEED: THE CARDS: each row of YtdbkndfkgdbhpaaGreatDoorRows.lean that lists a variable, with what it lists TIED to the program's text (the seventh form; the later family's looks); each row that meets fmt, with fmt's text TOLD by the authors' own Lean function (tested against real Go, not proved from fmt's source: count such statements apart). THE CARD IS WHAT COUNTS. Prove the row's statement (the work); the ties are given (YtdbkndfkgdbhpaaGreatDoorTie.lean); close each card by the builder's one call (the guide's Derived/Test/ToyasCard.lean, 'card_holds'). Laid BY PROGRAM, IN A SANDBOX (cutbox-door.mjs). By AI agents, Wed Nov 11 2026. No macro, syntax, notation, axiom, sorry.
-/
import Derived.Test.YtdbkndfkgdbhpaaGreatDoorRows
import GoSem.ClaimSeven
namespace Go.Proofs.YtdbkndfkgdbhpaaGreatDoor
namespace Rows

/-- THE TIED CARD OF 'ganttop.FramesGroup'. -/
def framesGroupCard : Claim7 := { stood := { row := framesGroupRow, standIns := [], harness := (true, "beb0cb66f64652fe11cdb92cef3b59479581033a56785ddec2260a046d011360"), looks := false }, kinds := [], alts := [], laidByText := true, laidKinds := [.data], laidTests := true, laidLooks := .later }
def FramesGroupCardSaid : Prop := Claim7.holds Tryz.pinned (.plain (OpenSpec.ofChange framesGroupSpec)) framesGroupCard

/-- THE TIED CARD OF 'gantkeep3.ForeContains'. -/
def foreContainsCard : Claim7 := { stood := { row := foreContainsRow, standIns := [], harness := (true, "beb0cb66f64652fe11cdb92cef3b59479581033a56785ddec2260a046d011360"), looks := false }, kinds := [], alts := [], laidByText := true, laidKinds := [.data], laidTests := true, laidLooks := .later }
def ForeContainsCardSaid : Prop := Claim7.holds Tryz.pinned (.plain (OpenSpec.ofChange foreContainsSpec)) foreContainsCard

/-- THE TIED CARD OF 'gantkeep3.ForeNarrow'. -/
def foreNarrowCard : Claim7 := { stood := { row := foreNarrowRow, standIns := [], harness := (true, "beb0cb66f64652fe11cdb92cef3b59479581033a56785ddec2260a046d011360"), looks := false }, kinds := [], alts := [], laidByText := true, laidKinds := [.data], laidTests := true, laidLooks := .later }
def ForeNarrowCardSaid : Prop := Claim7.holds Tryz.pinned (.plain (OpenSpec.ofChange foreNarrowSpec)) foreNarrowCard

/-- THE TIED CARD OF 'gantkeep3.ForceContains'. -/
def forceContainsCard : Claim7 := { stood := { row := forceContainsRow, standIns := [], harness := (true, "beb0cb66f64652fe11cdb92cef3b59479581033a56785ddec2260a046d011360"), looks := false }, kinds := [], alts := [], laidByText := true, laidKinds := [.data], laidTests := true, laidLooks := .later }
def ForceContainsCardSaid : Prop := Claim7.holds Tryz.pinned (.plain (OpenSpec.ofChange forceContainsSpec)) forceContainsCard

/-- THE TIED CARD OF 'gantkeep3.ShapeInside'. -/
def shapeInsideCard : Claim7 := { stood := { row := shapeInsideRow, standIns := [], harness := (true, "beb0cb66f64652fe11cdb92cef3b59479581033a56785ddec2260a046d011360"), looks := false }, kinds := [], alts := [], laidByText := true, laidKinds := [.data], laidTests := true, laidLooks := .later }
def ShapeInsideCardSaid : Prop := Claim7.holds Tryz.pinned (.plain (OpenSpec.ofChange shapeInsideSpec)) shapeInsideCard

/-- THE SECOND FORM's CARD OF 'ganttop.FramesGroup'. -/
def framesGroupUptoCard : Claim7 := { stood := { row := framesGroupUptoRow, standIns := [], harness := (true, "beb0cb66f64652fe11cdb92cef3b59479581033a56785ddec2260a046d011360"), looks := false }, kinds := [], alts := [], laidByText := true, laidKinds := [.data], laidTests := true, laidLooks := .later }
def FramesGroupUptoCardSaid : Prop := Claim7.holds Tryz.pinned (.plain (OpenSpec.upto framesGroupSpec)) framesGroupUptoCard

/-- THE SECOND FORM's CARD OF 'gantkeep3.ForeContains'. -/
def foreContainsUptoCard : Claim7 := { stood := { row := foreContainsUptoRow, standIns := [], harness := (true, "beb0cb66f64652fe11cdb92cef3b59479581033a56785ddec2260a046d011360"), looks := false }, kinds := [], alts := [], laidByText := true, laidKinds := [.data], laidTests := true, laidLooks := .later }
def ForeContainsUptoCardSaid : Prop := Claim7.holds Tryz.pinned (.plain (OpenSpec.upto foreContainsSpec)) foreContainsUptoCard

/-- THE SECOND FORM's CARD OF 'gantkeep3.ForeNarrow'. -/
def foreNarrowUptoCard : Claim7 := { stood := { row := foreNarrowUptoRow, standIns := [], harness := (true, "beb0cb66f64652fe11cdb92cef3b59479581033a56785ddec2260a046d011360"), looks := false }, kinds := [], alts := [], laidByText := true, laidKinds := [.data], laidTests := true, laidLooks := .later }
def ForeNarrowUptoCardSaid : Prop := Claim7.holds Tryz.pinned (.plain (OpenSpec.upto foreNarrowSpec)) foreNarrowUptoCard

/-- THE SECOND FORM's CARD OF 'gantkeep3.ForceContains'. -/
def forceContainsUptoCard : Claim7 := { stood := { row := forceContainsUptoRow, standIns := [], harness := (true, "beb0cb66f64652fe11cdb92cef3b59479581033a56785ddec2260a046d011360"), looks := false }, kinds := [], alts := [], laidByText := true, laidKinds := [.data], laidTests := true, laidLooks := .later }
def ForceContainsUptoCardSaid : Prop := Claim7.holds Tryz.pinned (.plain (OpenSpec.upto forceContainsSpec)) forceContainsUptoCard

/-- THE SECOND FORM's CARD OF 'gantkeep3.ShapeInside'. -/
def shapeInsideUptoCard : Claim7 := { stood := { row := shapeInsideUptoRow, standIns := [], harness := (true, "beb0cb66f64652fe11cdb92cef3b59479581033a56785ddec2260a046d011360"), looks := false }, kinds := [], alts := [], laidByText := true, laidKinds := [.data], laidTests := true, laidLooks := .later }
def ShapeInsideUptoCardSaid : Prop := Claim7.holds Tryz.pinned (.plain (OpenSpec.upto shapeInsideSpec)) shapeInsideUptoCard
end Rows
end Go.Proofs.YtdbkndfkgdbhpaaGreatDoor
