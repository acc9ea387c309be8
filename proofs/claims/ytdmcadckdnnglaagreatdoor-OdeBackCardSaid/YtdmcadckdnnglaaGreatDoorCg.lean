/- OdeBack: the walk of the card.
-/
import Derived.Test.YtdmcadckdnnglaaGreatDoorCards
import Derived.SevenTiedAt
import Derived.KernelRfl
set_option linter.unusedVariables false
set_option linter.unusedSimpArgs false
namespace Go.Sy
open Go Go.Proofs
open YtdmcadckdnnglaaGreatDoor
theorem Pn:false=Rows.odeBackRow.goesBy Tryz.pinned.checked.prog:=by kernel_rfl
end Go.Sy
