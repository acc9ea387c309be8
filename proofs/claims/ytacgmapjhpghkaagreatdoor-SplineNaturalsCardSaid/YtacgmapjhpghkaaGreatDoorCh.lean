/- Part. -/
import Derived.Test.YtacgmapjhpghkaaGreatDoorCards
import Derived.SevenTiedAt
set_option linter.all false
namespace Go.Sy
open Go Go.Proofs
open YtacgmapjhpghkaaGreatDoor
def bm6:Rows.splineNaturalsRow.wfByText (OpenSpec.ofChange Rows.splineNaturalsSpec)=true:=by kernel_rfl
def ax0:Tryz.pinned.checked.prog.mainIs=some (((true,"4eef41b3e3a5c4df7023d4b445a664387776cc7c6f4477717ec38f3dc3770d88"):Bool×String).1,((true,"4eef41b3e3a5c4df7023d4b445a664387776cc7c6f4477717ec38f3dc3770d88"):Bool×String).2.toList):=by kernel_rfl
end Go.Sy
