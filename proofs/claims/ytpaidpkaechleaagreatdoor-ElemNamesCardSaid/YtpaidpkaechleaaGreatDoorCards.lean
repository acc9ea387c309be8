/-
  DERIVED. GIVEN WITH THE SEED: THE CARDS: each row of YtpaidpkaechleaaGreatDoorRows.lean that lists a variable, with what it lists TIED to the program's text (the seventh form; the later family's looks); each row that meets fmt, with fmt's text TOLD by the authors' own Lean function (tested against real Go, not proved from fmt's source: count such statements apart). THE CARD IS WHAT COUNTS. Prove the row's statement (the work); the ties are given (YtpaidpkaechleaaGreatDoorTie.lean); close each card by the builder's one call (the guide's Derived/Test/ToyasCard.lean, 'card_holds'). Laid BY PROGRAM, IN A SANDBOX (cutbox-door.mjs). By AI agents, Wed Nov 11 2026. No macro, syntax, notation, axiom, sorry.
-/
import Derived.Test.YtpaidpkaechleaaGreatDoorRows
import GoSem.ClaimSeven
namespace Go.Proofs.YtpaidpkaechleaaGreatDoor
namespace Rows

/-- THE TIED CARD OF 'ordinatelaw03.ElemRoots'. -/
def elemRootsCard : Claim7 := { stood := { row := elemRootsRow, standIns := [], harness := (true, "c243036f70750e002499d83ba67f1b5887969333eef819636cf040659b85ed88"), looks := false }, kinds := [], alts := [], laidByText := true, laidKinds := [.data, .data, .data], laidTests := true, laidLooks := .later }
def ElemRootsCardSaid : Prop := Claim7.holds Tryz.pinned (.plain (OpenSpec.ofChange elemRootsSpec)) elemRootsCard

/-- THE TIED CARD OF 'ordinatelaw03.ElemSeries'. -/
def elemSeriesCard : Claim7 := { stood := { row := elemSeriesRow, standIns := [], harness := (true, "c243036f70750e002499d83ba67f1b5887969333eef819636cf040659b85ed88"), looks := false }, kinds := [], alts := [], laidByText := true, laidKinds := [.data, .data, .data], laidTests := true, laidLooks := .later }
def ElemSeriesCardSaid : Prop := Claim7.holds Tryz.pinned (.plain (OpenSpec.ofChange elemSeriesSpec)) elemSeriesCard

/-- THE TIED CARD OF 'ordinatelaw03.ElemNames'. -/
def elemNamesCard : Claim7 := { stood := { row := elemNamesRow, standIns := [], harness := (true, "c243036f70750e002499d83ba67f1b5887969333eef819636cf040659b85ed88"), looks := false }, kinds := [], alts := [], laidByText := true, laidKinds := [.data, .data, .data], laidTests := true, laidLooks := .later }
def ElemNamesCardSaid : Prop := Claim7.holds Tryz.pinned (.plain (OpenSpec.ofChange elemNamesSpec)) elemNamesCard

/-- THE SECOND FORM's CARD OF 'ordinatelaw03.ElemRoots'. -/
def elemRootsUptoCard : Claim7 := { stood := { row := elemRootsUptoRow, standIns := [], harness := (true, "c243036f70750e002499d83ba67f1b5887969333eef819636cf040659b85ed88"), looks := false }, kinds := [], alts := [], laidByText := true, laidKinds := [.data, .data, .data], laidTests := true, laidLooks := .later }
def ElemRootsUptoCardSaid : Prop := Claim7.holds Tryz.pinned (.plain (OpenSpec.upto elemRootsSpec)) elemRootsUptoCard

/-- THE SECOND FORM's CARD OF 'ordinatelaw03.ElemSeries'. -/
def elemSeriesUptoCard : Claim7 := { stood := { row := elemSeriesUptoRow, standIns := [], harness := (true, "c243036f70750e002499d83ba67f1b5887969333eef819636cf040659b85ed88"), looks := false }, kinds := [], alts := [], laidByText := true, laidKinds := [.data, .data, .data], laidTests := true, laidLooks := .later }
def ElemSeriesUptoCardSaid : Prop := Claim7.holds Tryz.pinned (.plain (OpenSpec.upto elemSeriesSpec)) elemSeriesUptoCard

/-- THE SECOND FORM's CARD OF 'ordinatelaw03.ElemNames'. -/
def elemNamesUptoCard : Claim7 := { stood := { row := elemNamesUptoRow, standIns := [], harness := (true, "c243036f70750e002499d83ba67f1b5887969333eef819636cf040659b85ed88"), looks := false }, kinds := [], alts := [], laidByText := true, laidKinds := [.data, .data, .data], laidTests := true, laidLooks := .later }
def ElemNamesUptoCardSaid : Prop := Claim7.holds Tryz.pinned (.plain (OpenSpec.upto elemNamesSpec)) elemNamesUptoCard
end Rows
end Go.Proofs.YtpaidpkaechleaaGreatDoor
