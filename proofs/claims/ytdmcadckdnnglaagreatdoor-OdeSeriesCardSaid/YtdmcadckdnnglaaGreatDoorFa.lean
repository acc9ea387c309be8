/- Facts about the types.
-/
import Derived.Test.YtdmcadckdnnglaaGreatDoorSe
import Derived.Test.YtdmcadckdnnglaaGreatDoorProg
import Derived.KernelRfl
import Derived.Lib.ItoaNum
set_option linter.unusedVariables false
set_option linter.unusedSimpArgs false
namespace Go.Sy
open Go Go.Proofs Tryz
theorem fo : prog.follows .mixedOrders = true := by kernel_rfl
theorem LP : prog.underlying 2 = some (.int .i64) := by kernel_rfl
theorem Za : prog.underlying 4 = some .bool := by kernel_rfl
theorem XZ : prog.underlying 9 = some .string := by kernel_rfl
theorem DT : cK prog 22 = some (27, 1, 24) := by kernel_rfl
theorem Dc : cK prog 27 = some (26, 3, 24) := by kernel_rfl
theorem EZ : cK prog 31 = some (72, 1, 24) := by kernel_rfl
theorem uZ : cK prog 32 = some (72, 1, 24) := by kernel_rfl
theorem cG : cK prog 33 = some (255, 1, 4) := by kernel_rfl
theorem nR : cK prog 40 = some (39, 3, 56) := by kernel_rfl
theorem qI : cK prog 44 = some (167, 1, 24) := by kernel_rfl
theorem dG : cK prog 45 = some (3, 1, 8) := by kernel_rfl
theorem Pa : cK prog 50 = some (49, 4, 64) := by kernel_rfl
theorem gL : cK prog 72 = some (39, 3, 56) := by kernel_rfl
theorem eJ : cK prog 167 = some (49, 4, 64) := by kernel_rfl
theorem Gv : cK prog 242 = some (2, 1, 8) := by kernel_rfl
theorem fJ : prog.underlying 254 = some (.int .u64) := by kernel_rfl
theorem eU : prog.underlying 255 = some (.int .u32) := by kernel_rfl
theorem Zg : nH prog 2 = some (false, 1) := by kernel_rfl
theorem HV : nH prog 3 = some (false, 1) := by kernel_rfl
theorem SD : nH prog 26 = some (true, 3) := by kernel_rfl
theorem OW : nH prog 27 = some (false, 1) := by kernel_rfl
theorem tT : nH prog 39 = some (true, 3) := by kernel_rfl
theorem uW : nH prog 49 = some (true, 4) := by kernel_rfl
theorem DH : nH prog 72 = some (false, 1) := by kernel_rfl
theorem wZ : nH prog 167 = some (false, 1) := by kernel_rfl
theorem rE : nH prog 255 = some (false, 1) := by kernel_rfl
end Go.Sy
