/-
  DERIVED. GIVEN WITH THE SEED: THE CARDS: each row of YtdmcadckdnnglaaGreatDoorRows.lean that lists a variable, with what it lists TIED to the program's text (the seventh form; the later family's looks); each row that meets fmt, with fmt's text TOLD by the authors' own Lean function (tested against real Go, not proved from fmt's source: count such statements apart). THE CARD IS WHAT COUNTS. Prove the row's statement (the work); the ties are given (YtdmcadckdnnglaaGreatDoorTie.lean); close each card by the builder's one call (the guide's Derived/Test/ToyasCard.lean, 'card_holds'). Laid BY PROGRAM, IN A SANDBOX (cutbox-door.mjs). By AI agents, Wed Nov 11 2026. No macro, syntax, notation, axiom, sorry.
-/
import Derived.Test.YtdmcadckdnnglaaGreatDoorRows
import GoSem.ClaimSeven
namespace Go.Proofs.YtdmcadckdnnglaaGreatDoor
namespace Rows

/-- THE TIED CARD OF 'ordinatelaw10.OdeChecks'. -/
def odeChecksCard : Claim7 := { stood := { row := odeChecksRow, standIns := [], harness := (true, "aae868a1f4119eb36f08869b9b0e1df4264995acabb1218c9218b2b61d2c29a0"), looks := true }, kinds := [], alts := [], laidByText := true, laidKinds := [.data, .data, .data], laidTests := true, laidLooks := .later }
def OdeChecksCardSaid : Prop := Claim7.holds Tryz.pinned (.plain (OpenSpec.ofChange odeChecksSpec)) odeChecksCard

/-- THE TIED CARD OF 'ordinatelaw10.OdeSeries'. -/
def odeSeriesCard : Claim7 := { stood := { row := odeSeriesRow, standIns := [], harness := (true, "aae868a1f4119eb36f08869b9b0e1df4264995acabb1218c9218b2b61d2c29a0"), looks := true }, kinds := [], alts := [], laidByText := true, laidKinds := [.data, .data, .data], laidTests := true, laidLooks := .later }
def OdeSeriesCardSaid : Prop := Claim7.holds Tryz.pinned (.plain (OpenSpec.ofChange odeSeriesSpec)) odeSeriesCard

/-- THE TIED CARD OF 'ordinatelaw10.OdeSolves'. -/
def odeSolvesCard : Claim7 := { stood := { row := odeSolvesRow, standIns := [], harness := (true, "aae868a1f4119eb36f08869b9b0e1df4264995acabb1218c9218b2b61d2c29a0"), looks := true }, kinds := [], alts := [], laidByText := true, laidKinds := [.data, .data, .data], laidTests := true, laidLooks := .later }
def OdeSolvesCardSaid : Prop := Claim7.holds Tryz.pinned (.plain (OpenSpec.ofChange odeSolvesSpec)) odeSolvesCard

/-- THE TIED CARD OF 'ordinatelaw10.OdeReaches'. -/
def odeReachesCard : Claim7 := { stood := { row := odeReachesRow, standIns := [], harness := (true, "aae868a1f4119eb36f08869b9b0e1df4264995acabb1218c9218b2b61d2c29a0"), looks := true }, kinds := [], alts := [], laidByText := true, laidKinds := [.data, .data, .data], laidTests := true, laidLooks := .later }
def OdeReachesCardSaid : Prop := Claim7.holds Tryz.pinned (.plain (OpenSpec.ofChange odeReachesSpec)) odeReachesCard

/-- THE TIED CARD OF 'ordinatelaw10.OdeFamilies'. -/
def odeFamiliesCard : Claim7 := { stood := { row := odeFamiliesRow, standIns := [], harness := (true, "aae868a1f4119eb36f08869b9b0e1df4264995acabb1218c9218b2b61d2c29a0"), looks := true }, kinds := [], alts := [], laidByText := true, laidKinds := [.data, .data, .data], laidTests := true, laidLooks := .later }
def OdeFamiliesCardSaid : Prop := Claim7.holds Tryz.pinned (.plain (OpenSpec.ofChange odeFamiliesSpec)) odeFamiliesCard

/-- THE TIED CARD OF 'ordinatelaw10.OdeSteps'. -/
def odeStepsCard : Claim7 := { stood := { row := odeStepsRow, standIns := [], harness := (true, "aae868a1f4119eb36f08869b9b0e1df4264995acabb1218c9218b2b61d2c29a0"), looks := true }, kinds := [], alts := [], laidByText := true, laidKinds := [.data, .data, .data], laidTests := true, laidLooks := .later }
def OdeStepsCardSaid : Prop := Claim7.holds Tryz.pinned (.plain (OpenSpec.ofChange odeStepsSpec)) odeStepsCard

/-- THE TIED CARD OF 'ordinatelaw10.OdeBack'. -/
def odeBackCard : Claim7 := { stood := { row := odeBackRow, standIns := [], harness := (true, "aae868a1f4119eb36f08869b9b0e1df4264995acabb1218c9218b2b61d2c29a0"), looks := true }, kinds := [], alts := [], laidByText := true, laidKinds := [.data, .data, .data], laidTests := true, laidLooks := .later }
def OdeBackCardSaid : Prop := Claim7.holds Tryz.pinned (.plain (OpenSpec.ofChange odeBackSpec)) odeBackCard

/-- THE TIED CARD OF 'ordinatelaw10.OdeLinear'. -/
def odeLinearCard : Claim7 := { stood := { row := odeLinearRow, standIns := [], harness := (true, "aae868a1f4119eb36f08869b9b0e1df4264995acabb1218c9218b2b61d2c29a0"), looks := true }, kinds := [], alts := [], laidByText := true, laidKinds := [.data, .data, .data], laidTests := true, laidLooks := .later }
def OdeLinearCardSaid : Prop := Claim7.holds Tryz.pinned (.plain (OpenSpec.ofChange odeLinearSpec)) odeLinearCard

/-- THE TIED CARD OF 'ordinatelaw10.OdeValues'. -/
def odeValuesCard : Claim7 := { stood := { row := odeValuesRow, standIns := [], harness := (true, "aae868a1f4119eb36f08869b9b0e1df4264995acabb1218c9218b2b61d2c29a0"), looks := true }, kinds := [], alts := [], laidByText := true, laidKinds := [.data, .data, .data], laidTests := true, laidLooks := .later }
def OdeValuesCardSaid : Prop := Claim7.holds Tryz.pinned (.plain (OpenSpec.ofChange odeValuesSpec)) odeValuesCard

/-- THE TIED CARD OF 'ordinatelaw10.OdeCovers'. -/
def odeCoversCard : Claim7 := { stood := { row := odeCoversRow, standIns := [], harness := (true, "aae868a1f4119eb36f08869b9b0e1df4264995acabb1218c9218b2b61d2c29a0"), looks := true }, kinds := [], alts := [], laidByText := true, laidKinds := [.data, .data, .data], laidTests := true, laidLooks := .later }
def OdeCoversCardSaid : Prop := Claim7.holds Tryz.pinned (.plain (OpenSpec.ofChange odeCoversSpec)) odeCoversCard

/-- THE TIED CARD OF 'ordinatelaw10.OdeOvers'. -/
def odeOversCard : Claim7 := { stood := { row := odeOversRow, standIns := [], harness := (true, "aae868a1f4119eb36f08869b9b0e1df4264995acabb1218c9218b2b61d2c29a0"), looks := true }, kinds := [], alts := [], laidByText := true, laidKinds := [.data, .data, .data], laidTests := true, laidLooks := .later }
def OdeOversCardSaid : Prop := Claim7.holds Tryz.pinned (.plain (OpenSpec.ofChange odeOversSpec)) odeOversCard

/-- THE TIED CARD OF 'ordinatelaw10.OdeChanges'. -/
def odeChangesCard : Claim7 := { stood := { row := odeChangesRow, standIns := [], harness := (true, "aae868a1f4119eb36f08869b9b0e1df4264995acabb1218c9218b2b61d2c29a0"), looks := true }, kinds := [], alts := [], laidByText := true, laidKinds := [.data, .data, .data], laidTests := true, laidLooks := .later }
def OdeChangesCardSaid : Prop := Claim7.holds Tryz.pinned (.plain (OpenSpec.ofChange odeChangesSpec)) odeChangesCard

/-- THE SECOND FORM's CARD OF 'ordinatelaw10.OdeChecks'. -/
def odeChecksUptoCard : Claim7 := { stood := { row := odeChecksUptoRow, standIns := [], harness := (true, "aae868a1f4119eb36f08869b9b0e1df4264995acabb1218c9218b2b61d2c29a0"), looks := true }, kinds := [], alts := [], laidByText := true, laidKinds := [.data, .data, .data], laidTests := true, laidLooks := .later }
def OdeChecksUptoCardSaid : Prop := Claim7.holds Tryz.pinned (.plain (OpenSpec.upto odeChecksSpec)) odeChecksUptoCard

/-- THE SECOND FORM's CARD OF 'ordinatelaw10.OdeSeries'. -/
def odeSeriesUptoCard : Claim7 := { stood := { row := odeSeriesUptoRow, standIns := [], harness := (true, "aae868a1f4119eb36f08869b9b0e1df4264995acabb1218c9218b2b61d2c29a0"), looks := true }, kinds := [], alts := [], laidByText := true, laidKinds := [.data, .data, .data], laidTests := true, laidLooks := .later }
def OdeSeriesUptoCardSaid : Prop := Claim7.holds Tryz.pinned (.plain (OpenSpec.upto odeSeriesSpec)) odeSeriesUptoCard

/-- THE SECOND FORM's CARD OF 'ordinatelaw10.OdeSolves'. -/
def odeSolvesUptoCard : Claim7 := { stood := { row := odeSolvesUptoRow, standIns := [], harness := (true, "aae868a1f4119eb36f08869b9b0e1df4264995acabb1218c9218b2b61d2c29a0"), looks := true }, kinds := [], alts := [], laidByText := true, laidKinds := [.data, .data, .data], laidTests := true, laidLooks := .later }
def OdeSolvesUptoCardSaid : Prop := Claim7.holds Tryz.pinned (.plain (OpenSpec.upto odeSolvesSpec)) odeSolvesUptoCard

/-- THE SECOND FORM's CARD OF 'ordinatelaw10.OdeReaches'. -/
def odeReachesUptoCard : Claim7 := { stood := { row := odeReachesUptoRow, standIns := [], harness := (true, "aae868a1f4119eb36f08869b9b0e1df4264995acabb1218c9218b2b61d2c29a0"), looks := true }, kinds := [], alts := [], laidByText := true, laidKinds := [.data, .data, .data], laidTests := true, laidLooks := .later }
def OdeReachesUptoCardSaid : Prop := Claim7.holds Tryz.pinned (.plain (OpenSpec.upto odeReachesSpec)) odeReachesUptoCard

/-- THE SECOND FORM's CARD OF 'ordinatelaw10.OdeFamilies'. -/
def odeFamiliesUptoCard : Claim7 := { stood := { row := odeFamiliesUptoRow, standIns := [], harness := (true, "aae868a1f4119eb36f08869b9b0e1df4264995acabb1218c9218b2b61d2c29a0"), looks := true }, kinds := [], alts := [], laidByText := true, laidKinds := [.data, .data, .data], laidTests := true, laidLooks := .later }
def OdeFamiliesUptoCardSaid : Prop := Claim7.holds Tryz.pinned (.plain (OpenSpec.upto odeFamiliesSpec)) odeFamiliesUptoCard

/-- THE SECOND FORM's CARD OF 'ordinatelaw10.OdeSteps'. -/
def odeStepsUptoCard : Claim7 := { stood := { row := odeStepsUptoRow, standIns := [], harness := (true, "aae868a1f4119eb36f08869b9b0e1df4264995acabb1218c9218b2b61d2c29a0"), looks := true }, kinds := [], alts := [], laidByText := true, laidKinds := [.data, .data, .data], laidTests := true, laidLooks := .later }
def OdeStepsUptoCardSaid : Prop := Claim7.holds Tryz.pinned (.plain (OpenSpec.upto odeStepsSpec)) odeStepsUptoCard

/-- THE SECOND FORM's CARD OF 'ordinatelaw10.OdeBack'. -/
def odeBackUptoCard : Claim7 := { stood := { row := odeBackUptoRow, standIns := [], harness := (true, "aae868a1f4119eb36f08869b9b0e1df4264995acabb1218c9218b2b61d2c29a0"), looks := true }, kinds := [], alts := [], laidByText := true, laidKinds := [.data, .data, .data], laidTests := true, laidLooks := .later }
def OdeBackUptoCardSaid : Prop := Claim7.holds Tryz.pinned (.plain (OpenSpec.upto odeBackSpec)) odeBackUptoCard

/-- THE SECOND FORM's CARD OF 'ordinatelaw10.OdeLinear'. -/
def odeLinearUptoCard : Claim7 := { stood := { row := odeLinearUptoRow, standIns := [], harness := (true, "aae868a1f4119eb36f08869b9b0e1df4264995acabb1218c9218b2b61d2c29a0"), looks := true }, kinds := [], alts := [], laidByText := true, laidKinds := [.data, .data, .data], laidTests := true, laidLooks := .later }
def OdeLinearUptoCardSaid : Prop := Claim7.holds Tryz.pinned (.plain (OpenSpec.upto odeLinearSpec)) odeLinearUptoCard

/-- THE SECOND FORM's CARD OF 'ordinatelaw10.OdeValues'. -/
def odeValuesUptoCard : Claim7 := { stood := { row := odeValuesUptoRow, standIns := [], harness := (true, "aae868a1f4119eb36f08869b9b0e1df4264995acabb1218c9218b2b61d2c29a0"), looks := true }, kinds := [], alts := [], laidByText := true, laidKinds := [.data, .data, .data], laidTests := true, laidLooks := .later }
def OdeValuesUptoCardSaid : Prop := Claim7.holds Tryz.pinned (.plain (OpenSpec.upto odeValuesSpec)) odeValuesUptoCard

/-- THE SECOND FORM's CARD OF 'ordinatelaw10.OdeCovers'. -/
def odeCoversUptoCard : Claim7 := { stood := { row := odeCoversUptoRow, standIns := [], harness := (true, "aae868a1f4119eb36f08869b9b0e1df4264995acabb1218c9218b2b61d2c29a0"), looks := true }, kinds := [], alts := [], laidByText := true, laidKinds := [.data, .data, .data], laidTests := true, laidLooks := .later }
def OdeCoversUptoCardSaid : Prop := Claim7.holds Tryz.pinned (.plain (OpenSpec.upto odeCoversSpec)) odeCoversUptoCard

/-- THE SECOND FORM's CARD OF 'ordinatelaw10.OdeOvers'. -/
def odeOversUptoCard : Claim7 := { stood := { row := odeOversUptoRow, standIns := [], harness := (true, "aae868a1f4119eb36f08869b9b0e1df4264995acabb1218c9218b2b61d2c29a0"), looks := true }, kinds := [], alts := [], laidByText := true, laidKinds := [.data, .data, .data], laidTests := true, laidLooks := .later }
def OdeOversUptoCardSaid : Prop := Claim7.holds Tryz.pinned (.plain (OpenSpec.upto odeOversSpec)) odeOversUptoCard

/-- THE SECOND FORM's CARD OF 'ordinatelaw10.OdeChanges'. -/
def odeChangesUptoCard : Claim7 := { stood := { row := odeChangesUptoRow, standIns := [], harness := (true, "aae868a1f4119eb36f08869b9b0e1df4264995acabb1218c9218b2b61d2c29a0"), looks := true }, kinds := [], alts := [], laidByText := true, laidKinds := [.data, .data, .data], laidTests := true, laidLooks := .later }
def OdeChangesUptoCardSaid : Prop := Claim7.holds Tryz.pinned (.plain (OpenSpec.upto odeChangesSpec)) odeChangesUptoCard
end Rows
end Go.Proofs.YtdmcadckdnnglaaGreatDoor
