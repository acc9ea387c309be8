/- OdeBack: the form of the card.
-/
import Derived.Test.YtdmcadckdnnglaaGreatDoorCards
import Derived.SevenTiedAt
import Derived.KernelRfl
set_option linter.unusedVariables false
set_option linter.unusedSimpArgs false
namespace Go.Sy
open Go Go.Proofs
open YtdmcadckdnnglaaGreatDoor
theorem Xh:Rows.odeBackRow.wfByText (OpenSpec.ofChange Rows.odeBackSpec)=true:=by kernel_rfl
theorem Pe:Tryz.pinned.checked.prog.mainIs=some (((true,"aae868a1f4119eb36f08869b9b0e1df4264995acabb1218c9218b2b61d2c29a0"):Bool×String).1,((true,"aae868a1f4119eb36f08869b9b0e1df4264995acabb1218c9218b2b61d2c29a0"):Bool×String).2.toList):=by kernel_rfl
end Go.Sy
