/- Part. -/
import Derived.Test.YtdmcadckdnnglaaGreatDoorCards
import Derived.SevenTiedAt
set_option linter.all false
namespace Go.Sy
open Go Go.Proofs
open YtdmcadckdnnglaaGreatDoor
def bj1:Rows.odeChangesRow.wfByText (OpenSpec.ofChange Rows.odeChangesSpec)=true:=by kernel_rfl
def al9:Tryz.pinned.checked.prog.mainIs=some (((true,"aae868a1f4119eb36f08869b9b0e1df4264995acabb1218c9218b2b61d2c29a0"):Bool×String).1,((true,"aae868a1f4119eb36f08869b9b0e1df4264995acabb1218c9218b2b61d2c29a0"):Bool×String).2.toList):=by kernel_rfl
end Go.Sy
