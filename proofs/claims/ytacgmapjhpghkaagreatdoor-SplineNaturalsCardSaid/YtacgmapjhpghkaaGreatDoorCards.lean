/-
  DERIVED. GIVEN WITH THE SEED: THE CARDS: each row of YtacgmapjhpghkaaGreatDoorRows.lean that lists a variable, with what it lists TIED to the program's text (the seventh form; the later family's looks); each row that meets fmt, with fmt's text TOLD by the authors' own Lean function (tested against real Go, not proved from fmt's source: count such statements apart). THE CARD IS WHAT COUNTS. Prove the row's statement (the work); the ties are given (YtacgmapjhpghkaaGreatDoorTie.lean); close each card by the builder's one call (the guide's Derived/Test/ToyasCard.lean, 'card_holds'). Laid BY PROGRAM, IN A SANDBOX (cutbox-door.mjs). By AI agents, Wed Nov 11 2026. No macro, syntax, notation, axiom, sorry.
-/
import Derived.Test.YtacgmapjhpghkaaGreatDoorRows
import GoSem.ClaimSeven
namespace Go.Proofs.YtacgmapjhpghkaaGreatDoor
namespace Rows

/-- THE TIED CARD OF 'ordinatelaw09.SplineValues'. -/
def splineValuesCard : Claim7 := { stood := { row := splineValuesRow, standIns := [], harness := (true, "4eef41b3e3a5c4df7023d4b445a664387776cc7c6f4477717ec38f3dc3770d88"), looks := false }, kinds := [], alts := [], laidByText := true, laidKinds := [.data, .data, .data], laidTests := true, laidLooks := .later }
def SplineValuesCardSaid : Prop := Claim7.holds Tryz.pinned (.plain (OpenSpec.ofChange splineValuesSpec)) splineValuesCard

/-- THE TIED CARD OF 'ordinatelaw09.SplineBases'. -/
def splineBasesCard : Claim7 := { stood := { row := splineBasesRow, standIns := [], harness := (true, "4eef41b3e3a5c4df7023d4b445a664387776cc7c6f4477717ec38f3dc3770d88"), looks := false }, kinds := [], alts := [], laidByText := true, laidKinds := [.data, .data, .data], laidTests := true, laidLooks := .later }
def SplineBasesCardSaid : Prop := Claim7.holds Tryz.pinned (.plain (OpenSpec.ofChange splineBasesSpec)) splineBasesCard

/-- THE TIED CARD OF 'ordinatelaw09.SplineHermites'. -/
def splineHermitesCard : Claim7 := { stood := { row := splineHermitesRow, standIns := [], harness := (true, "4eef41b3e3a5c4df7023d4b445a664387776cc7c6f4477717ec38f3dc3770d88"), looks := false }, kinds := [], alts := [], laidByText := true, laidKinds := [.data, .data, .data], laidTests := true, laidLooks := .later }
def SplineHermitesCardSaid : Prop := Claim7.holds Tryz.pinned (.plain (OpenSpec.ofChange splineHermitesSpec)) splineHermitesCard

/-- THE TIED CARD OF 'ordinatelaw09.SplineNaturals'. -/
def splineNaturalsCard : Claim7 := { stood := { row := splineNaturalsRow, standIns := [], harness := (true, "4eef41b3e3a5c4df7023d4b445a664387776cc7c6f4477717ec38f3dc3770d88"), looks := false }, kinds := [], alts := [], laidByText := true, laidKinds := [.data, .data, .data], laidTests := true, laidLooks := .later }
def SplineNaturalsCardSaid : Prop := Claim7.holds Tryz.pinned (.plain (OpenSpec.ofChange splineNaturalsSpec)) splineNaturalsCard

/-- THE TIED CARD OF 'ordinatelaw09.SplineShapes'. -/
def splineShapesCard : Claim7 := { stood := { row := splineShapesRow, standIns := [], harness := (true, "4eef41b3e3a5c4df7023d4b445a664387776cc7c6f4477717ec38f3dc3770d88"), looks := false }, kinds := [], alts := [], laidByText := true, laidKinds := [.data, .data, .data], laidTests := true, laidLooks := .later }
def SplineShapesCardSaid : Prop := Claim7.holds Tryz.pinned (.plain (OpenSpec.ofChange splineShapesSpec)) splineShapesCard

/-- THE TIED CARD OF 'ordinatelaw09.SplineSquares'. -/
def splineSquaresCard : Claim7 := { stood := { row := splineSquaresRow, standIns := [], harness := (true, "4eef41b3e3a5c4df7023d4b445a664387776cc7c6f4477717ec38f3dc3770d88"), looks := false }, kinds := [], alts := [], laidByText := true, laidKinds := [.data, .data, .data], laidTests := true, laidLooks := .later }
def SplineSquaresCardSaid : Prop := Claim7.holds Tryz.pinned (.plain (OpenSpec.ofChange splineSquaresSpec)) splineSquaresCard

/-- THE TIED CARD OF 'ordinatelaw09.SplineLeast'. -/
def splineLeastCard : Claim7 := { stood := { row := splineLeastRow, standIns := [], harness := (true, "4eef41b3e3a5c4df7023d4b445a664387776cc7c6f4477717ec38f3dc3770d88"), looks := false }, kinds := [], alts := [], laidByText := true, laidKinds := [.data, .data, .data], laidTests := true, laidLooks := .later }
def SplineLeastCardSaid : Prop := Claim7.holds Tryz.pinned (.plain (OpenSpec.ofChange splineLeastSpec)) splineLeastCard

/-- THE TIED CARD OF 'ordinatelaw09.SplineThrough'. -/
def splineThroughCard : Claim7 := { stood := { row := splineThroughRow, standIns := [], harness := (true, "4eef41b3e3a5c4df7023d4b445a664387776cc7c6f4477717ec38f3dc3770d88"), looks := false }, kinds := [], alts := [], laidByText := true, laidKinds := [.data, .data, .data], laidTests := true, laidLooks := .later }
def SplineThroughCardSaid : Prop := Claim7.holds Tryz.pinned (.plain (OpenSpec.ofChange splineThroughSpec)) splineThroughCard

/-- THE TIED CARD OF 'ordinatelaw09.SplineBest'. -/
def splineBestCard : Claim7 := { stood := { row := splineBestRow, standIns := [], harness := (true, "4eef41b3e3a5c4df7023d4b445a664387776cc7c6f4477717ec38f3dc3770d88"), looks := false }, kinds := [], alts := [], laidByText := true, laidKinds := [.data, .data, .data], laidTests := true, laidLooks := .later }
def SplineBestCardSaid : Prop := Claim7.holds Tryz.pinned (.plain (OpenSpec.ofChange splineBestSpec)) splineBestCard

/-- THE SECOND FORM's CARD OF 'ordinatelaw09.SplineValues'. -/
def splineValuesUptoCard : Claim7 := { stood := { row := splineValuesUptoRow, standIns := [], harness := (true, "4eef41b3e3a5c4df7023d4b445a664387776cc7c6f4477717ec38f3dc3770d88"), looks := false }, kinds := [], alts := [], laidByText := true, laidKinds := [.data, .data, .data], laidTests := true, laidLooks := .later }
def SplineValuesUptoCardSaid : Prop := Claim7.holds Tryz.pinned (.plain (OpenSpec.upto splineValuesSpec)) splineValuesUptoCard

/-- THE SECOND FORM's CARD OF 'ordinatelaw09.SplineBases'. -/
def splineBasesUptoCard : Claim7 := { stood := { row := splineBasesUptoRow, standIns := [], harness := (true, "4eef41b3e3a5c4df7023d4b445a664387776cc7c6f4477717ec38f3dc3770d88"), looks := false }, kinds := [], alts := [], laidByText := true, laidKinds := [.data, .data, .data], laidTests := true, laidLooks := .later }
def SplineBasesUptoCardSaid : Prop := Claim7.holds Tryz.pinned (.plain (OpenSpec.upto splineBasesSpec)) splineBasesUptoCard

/-- THE SECOND FORM's CARD OF 'ordinatelaw09.SplineHermites'. -/
def splineHermitesUptoCard : Claim7 := { stood := { row := splineHermitesUptoRow, standIns := [], harness := (true, "4eef41b3e3a5c4df7023d4b445a664387776cc7c6f4477717ec38f3dc3770d88"), looks := false }, kinds := [], alts := [], laidByText := true, laidKinds := [.data, .data, .data], laidTests := true, laidLooks := .later }
def SplineHermitesUptoCardSaid : Prop := Claim7.holds Tryz.pinned (.plain (OpenSpec.upto splineHermitesSpec)) splineHermitesUptoCard

/-- THE SECOND FORM's CARD OF 'ordinatelaw09.SplineNaturals'. -/
def splineNaturalsUptoCard : Claim7 := { stood := { row := splineNaturalsUptoRow, standIns := [], harness := (true, "4eef41b3e3a5c4df7023d4b445a664387776cc7c6f4477717ec38f3dc3770d88"), looks := false }, kinds := [], alts := [], laidByText := true, laidKinds := [.data, .data, .data], laidTests := true, laidLooks := .later }
def SplineNaturalsUptoCardSaid : Prop := Claim7.holds Tryz.pinned (.plain (OpenSpec.upto splineNaturalsSpec)) splineNaturalsUptoCard

/-- THE SECOND FORM's CARD OF 'ordinatelaw09.SplineShapes'. -/
def splineShapesUptoCard : Claim7 := { stood := { row := splineShapesUptoRow, standIns := [], harness := (true, "4eef41b3e3a5c4df7023d4b445a664387776cc7c6f4477717ec38f3dc3770d88"), looks := false }, kinds := [], alts := [], laidByText := true, laidKinds := [.data, .data, .data], laidTests := true, laidLooks := .later }
def SplineShapesUptoCardSaid : Prop := Claim7.holds Tryz.pinned (.plain (OpenSpec.upto splineShapesSpec)) splineShapesUptoCard

/-- THE SECOND FORM's CARD OF 'ordinatelaw09.SplineSquares'. -/
def splineSquaresUptoCard : Claim7 := { stood := { row := splineSquaresUptoRow, standIns := [], harness := (true, "4eef41b3e3a5c4df7023d4b445a664387776cc7c6f4477717ec38f3dc3770d88"), looks := false }, kinds := [], alts := [], laidByText := true, laidKinds := [.data, .data, .data], laidTests := true, laidLooks := .later }
def SplineSquaresUptoCardSaid : Prop := Claim7.holds Tryz.pinned (.plain (OpenSpec.upto splineSquaresSpec)) splineSquaresUptoCard

/-- THE SECOND FORM's CARD OF 'ordinatelaw09.SplineLeast'. -/
def splineLeastUptoCard : Claim7 := { stood := { row := splineLeastUptoRow, standIns := [], harness := (true, "4eef41b3e3a5c4df7023d4b445a664387776cc7c6f4477717ec38f3dc3770d88"), looks := false }, kinds := [], alts := [], laidByText := true, laidKinds := [.data, .data, .data], laidTests := true, laidLooks := .later }
def SplineLeastUptoCardSaid : Prop := Claim7.holds Tryz.pinned (.plain (OpenSpec.upto splineLeastSpec)) splineLeastUptoCard

/-- THE SECOND FORM's CARD OF 'ordinatelaw09.SplineThrough'. -/
def splineThroughUptoCard : Claim7 := { stood := { row := splineThroughUptoRow, standIns := [], harness := (true, "4eef41b3e3a5c4df7023d4b445a664387776cc7c6f4477717ec38f3dc3770d88"), looks := false }, kinds := [], alts := [], laidByText := true, laidKinds := [.data, .data, .data], laidTests := true, laidLooks := .later }
def SplineThroughUptoCardSaid : Prop := Claim7.holds Tryz.pinned (.plain (OpenSpec.upto splineThroughSpec)) splineThroughUptoCard

/-- THE SECOND FORM's CARD OF 'ordinatelaw09.SplineBest'. -/
def splineBestUptoCard : Claim7 := { stood := { row := splineBestUptoRow, standIns := [], harness := (true, "4eef41b3e3a5c4df7023d4b445a664387776cc7c6f4477717ec38f3dc3770d88"), looks := false }, kinds := [], alts := [], laidByText := true, laidKinds := [.data, .data, .data], laidTests := true, laidLooks := .later }
def SplineBestUptoCardSaid : Prop := Claim7.holds Tryz.pinned (.plain (OpenSpec.upto splineBestSpec)) splineBestUptoCard
end Rows
end Go.Proofs.YtacgmapjhpghkaaGreatDoor
