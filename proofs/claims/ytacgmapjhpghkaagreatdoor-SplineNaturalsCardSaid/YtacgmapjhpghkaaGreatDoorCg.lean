/- Part. -/
import Derived.Test.YtacgmapjhpghkaaGreatDoorCards
import Derived.SevenTiedAt
set_option linter.all false
namespace Go.Sy
open Go Go.Proofs
open YtacgmapjhpghkaaGreatDoor
def ax8:false=Rows.splineNaturalsRow.goesBy Tryz.pinned.checked.prog:=by kernel_rfl
end Go.Sy
