/- Part. -/
import Derived.Test.YtdmcadckdnnglaaGreatDoorCards
import Derived.SevenTiedAt
set_option linter.all false
namespace Go.Sy
open Go Go.Proofs
open YtdmcadckdnnglaaGreatDoor
def an0:false=Rows.odeChangesRow.goesBy Tryz.pinned.checked.prog:=by kernel_rfl
end Go.Sy
