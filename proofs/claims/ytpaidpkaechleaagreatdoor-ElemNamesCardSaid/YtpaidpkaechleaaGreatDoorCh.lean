/- Part. -/
import Derived.Test.YtpaidpkaechleaaGreatDoorCards
import Derived.SevenTiedAt
set_option linter.all false
namespace Go.Sy
open Go Go.Proofs
open YtpaidpkaechleaaGreatDoor
theorem UA:Rows.elemNamesRow.wfByText (OpenSpec.ofChange Rows.elemNamesSpec)=true:=by kernel_rfl
theorem OY:Tryz.pinned.checked.prog.mainIs=some (((true,"c243036f70750e002499d83ba67f1b5887969333eef819636cf040659b85ed88"):Bool×String).1,((true,"c243036f70750e002499d83ba67f1b5887969333eef819636cf040659b85ed88"):Bool×String).2.toList):=by kernel_rfl
end Go.Sy
