/- Part. -/
import Derived.Test.YtacgmapjhpghkaaGreatDoorCards
import Derived.SevenTiedAt
set_option linter.all false
namespace Go.Sy
open Go Go.Proofs
open YtacgmapjhpghkaaGreatDoor
theorem aj6:false=Rows.splineBasesRow.goesBy Tryz.pinned.checked.prog:=by kernel_rfl
end Go.Sy
