/- Part. -/
import Derived.Test.YtpaidpkaechleaaGreatDoorCards
import Derived.SevenTiedAt
set_option linter.all false
namespace Go.Sy
open Go Go.Proofs
open YtpaidpkaechleaaGreatDoor
theorem Qx:false=Rows.elemSeriesRow.goesBy Tryz.pinned.checked.prog:=by kernel_rfl
end Go.Sy
