/- Facts about the types.
-/
import Derived.Test.YtdmcadckdnnglaaGreatDoorSd
import Derived.Test.YtdmcadckdnnglaaGreatDoorProg
import Derived.KernelRfl
import Derived.Lib.ItoaNum
set_option linter.unusedVariables false
set_option linter.unusedSimpArgs false
namespace Go.Sy
open Go Go.Proofs Tryz
theorem fo:prog.follows .mixedOrders=true:=by kernel_rfl
theorem LJ:prog.underlying 2=some (.int .i64):=by kernel_rfl
theorem Wg:prog.underlying 3=some (.int .i64):=by kernel_rfl
theorem Vx:prog.underlying 4=some .bool:=by kernel_rfl
theorem TB:prog.underlying 5=some (.int .u8):=by kernel_rfl
theorem EE:dB prog 31=some (72,1,24):=by kernel_rfl
theorem uL:dB prog 32=some (72,1,24):=by kernel_rfl
theorem bZ:dB prog 33=some (255,1,4):=by kernel_rfl
theorem xI:dB prog 40=some (39,3,56):=by kernel_rfl
theorem eE:dB prog 72=some (39,3,56):=by kernel_rfl
theorem NR:dB prog 242=some (2,1,8):=by kernel_rfl
theorem eY:prog.underlying 254=some (.int .u64):=by kernel_rfl
theorem eM:prog.underlying 255=some (.int .u32):=by kernel_rfl
theorem VK:pP prog 2=some (false,1):=by kernel_rfl
theorem nP:pP prog 39=some (true,3):=by kernel_rfl
theorem CB:pP prog 72=some (false,1):=by kernel_rfl
theorem rJ:pP prog 255=some (false,1):=by kernel_rfl
end Go.Sy
