/- Facts about the types.
-/
import Derived.Test.YtdmcadckdnnglaaGreatDoorSe
import Derived.Test.YtdmcadckdnnglaaGreatDoorProg
import Derived.KernelRfl
import Derived.Lib.ItoaNum
set_option linter.unusedVariables false
set_option linter.unusedSimpArgs false
namespace Go.Sy
open Go Go.Proofs Tryz
theorem fo : prog.follows .mixedOrders = true := by kernel_rfl
theorem un2 : prog.underlying 2 = some (.int .i64) := by kernel_rfl
theorem un4 : prog.underlying 4 = some .bool := by kernel_rfl
theorem un9 : prog.underlying 9 = some .string := by kernel_rfl
theorem el22 : elemT prog 22 = some (27, 1, 24) := by kernel_rfl
theorem el27 : elemT prog 27 = some (26, 3, 24) := by kernel_rfl
theorem el31 : elemT prog 31 = some (72, 1, 24) := by kernel_rfl
theorem el32 : elemT prog 32 = some (72, 1, 24) := by kernel_rfl
theorem el33 : elemT prog 33 = some (255, 1, 4) := by kernel_rfl
theorem el40 : elemT prog 40 = some (39, 3, 56) := by kernel_rfl
theorem el44 : elemT prog 44 = some (167, 1, 24) := by kernel_rfl
theorem el45 : elemT prog 45 = some (3, 1, 8) := by kernel_rfl
theorem el50 : elemT prog 50 = some (49, 4, 64) := by kernel_rfl
theorem el72 : elemT prog 72 = some (39, 3, 56) := by kernel_rfl
theorem el167 : elemT prog 167 = some (49, 4, 64) := by kernel_rfl
theorem el242 : elemT prog 242 = some (2, 1, 8) := by kernel_rfl
theorem un254 : prog.underlying 254 = some (.int .u64) := by kernel_rfl
theorem un255 : prog.underlying 255 = some (.int .u32) := by kernel_rfl
theorem ag2 : aggT prog 2 = some (false, 1) := by kernel_rfl
theorem ag3 : aggT prog 3 = some (false, 1) := by kernel_rfl
theorem ag26 : aggT prog 26 = some (true, 3) := by kernel_rfl
theorem ag27 : aggT prog 27 = some (false, 1) := by kernel_rfl
theorem ag39 : aggT prog 39 = some (true, 3) := by kernel_rfl
theorem ag49 : aggT prog 49 = some (true, 4) := by kernel_rfl
theorem ag72 : aggT prog 72 = some (false, 1) := by kernel_rfl
theorem ag167 : aggT prog 167 = some (false, 1) := by kernel_rfl
theorem ag255 : aggT prog 255 = some (false, 1) := by kernel_rfl
end Go.Sy
