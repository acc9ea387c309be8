/- Facts about the types.
-/
import Derived.Test.YtdmcadckdnnglaaGreatDoorSe
import Derived.Test.YtdmcadckdnnglaaGreatDoorProg
import Derived.KernelRfl
import Derived.Lib.ItoaNum
set_option linter.unusedVariables false
set_option linter.unusedSimpArgs false
namespace Go.Sy
open Go Go.Proofs Tryz
theorem fo : prog.follows .mixedOrders = true := by kernel_rfl
theorem La : prog.underlying 2 = some (.int .i64) := by kernel_rfl
theorem Xq : prog.underlying 3 = some (.int .i64) := by kernel_rfl
theorem WX : prog.underlying 4 = some .bool := by kernel_rfl
theorem Xt : prog.underlying 5 = some (.int .u8) := by kernel_rfl
theorem EF : cS prog 22 = some (27, 1, 24) := by kernel_rfl
theorem BQ : cS prog 27 = some (26, 3, 24) := by kernel_rfl
theorem Ey : cS prog 31 = some (72, 1, 24) := by kernel_rfl
theorem rI : cS prog 32 = some (72, 1, 24) := by kernel_rfl
theorem cG : cS prog 33 = some (255, 1, 4) := by kernel_rfl
theorem qQ : cS prog 40 = some (39, 3, 56) := by kernel_rfl
theorem dI : cS prog 45 = some (3, 1, 8) := by kernel_rfl
theorem fB : cS prog 72 = some (39, 3, 56) := by kernel_rfl
theorem FT : cS prog 167 = some (49, 4, 64) := by kernel_rfl
theorem FO : cS prog 242 = some (2, 1, 8) := by kernel_rfl
theorem fF : prog.underlying 254 = some (.int .u64) := by kernel_rfl
theorem eV : prog.underlying 255 = some (.int .u32) := by kernel_rfl
theorem WZ : nJ prog 2 = some (false, 1) := by kernel_rfl
theorem Hy : nJ prog 3 = some (false, 1) := by kernel_rfl
theorem Pd : nJ prog 26 = some (true, 3) := by kernel_rfl
theorem Lo : nJ prog 27 = some (false, 1) := by kernel_rfl
theorem nW : nJ prog 39 = some (true, 3) := by kernel_rfl
theorem VT : nJ prog 49 = some (true, 4) := by kernel_rfl
theorem Ax : nJ prog 72 = some (false, 1) := by kernel_rfl
theorem rN : nJ prog 255 = some (false, 1) := by kernel_rfl
end Go.Sy
