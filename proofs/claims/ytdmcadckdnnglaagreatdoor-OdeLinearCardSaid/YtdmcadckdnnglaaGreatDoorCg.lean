/- Part. -/
import Derived.Test.YtdmcadckdnnglaaGreatDoorCards
import Derived.SevenTiedAt
set_option linter.all false
namespace Go.Sy
open Go Go.Proofs
open YtdmcadckdnnglaaGreatDoor
theorem ON:false=Rows.odeLinearRow.goesBy Tryz.pinned.checked.prog:=by kernel_rfl
end Go.Sy
