/- Part. -/
import Derived.Test.YtpaidpkaechleaaGreatDoorCards
import Derived.SevenTiedAt
set_option linter.all false
namespace Go.Sy
open Go Go.Proofs
open YtpaidpkaechleaaGreatDoor
theorem Pd:false=Rows.elemNamesRow.goesBy Tryz.pinned.checked.prog:=by kernel_rfl
end Go.Sy
