/- Facts about the types.
-/
import Derived.Test.YtdmcadckdnnglaaGreatDoorSe
import Derived.Test.YtdmcadckdnnglaaGreatDoorProg
import Derived.KernelRfl
import Derived.Lib.ItoaNum
set_option linter.unusedVariables false
set_option linter.unusedSimpArgs false
namespace Go.Sy
open Go Go.Proofs Tryz
theorem fo:prog.follows .mixedOrders = true:=by kernel_rfl
theorem SE:prog.underlying 2 = some (.int .i64):=by kernel_rfl
theorem un4:prog.underlying 4 = some .bool:=by kernel_rfl
theorem un9:prog.underlying 9 = some .string:=by kernel_rfl
theorem Jo:dG prog 22 = some (27,1,24):=by kernel_rfl
theorem Hr:dG prog 27 = some (26,3,24):=by kernel_rfl
theorem Kh:dG prog 31 = some (72,1,24):=by kernel_rfl
theorem AZ:dG prog 32 = some (72,1,24):=by kernel_rfl
theorem dE:dG prog 33 = some (255,1,4):=by kernel_rfl
theorem DN:dG prog 40 = some (39,3,56):=by kernel_rfl
theorem gU:dG prog 44 = some (167,1,24):=by kernel_rfl
theorem eI:dG prog 45 = some (3,1,8):=by kernel_rfl
theorem IK:dG prog 50 = some (49,4,64):=by kernel_rfl
theorem iY:dG prog 72 = some (39,3,56):=by kernel_rfl
theorem dZ:dG prog 167 = some (49,4,64):=by kernel_rfl
theorem Kx:dG prog 242 = some (2,1,8):=by kernel_rfl
theorem gV:prog.underlying 254 = some (.int .u64):=by kernel_rfl
theorem gG:prog.underlying 255 = some (.int .u32):=by kernel_rfl
theorem ag2:pA prog 2 = some (false,1):=by kernel_rfl
theorem Nt:pA prog 3 = some (false,1):=by kernel_rfl
theorem ac7:pA prog 26 = some (true,3):=by kernel_rfl
theorem TR:pA prog 27 = some (false,1):=by kernel_rfl
theorem sZ:pA prog 39 = some (true,3):=by kernel_rfl
theorem qK:pA prog 49 = some (true,4):=by kernel_rfl
theorem GG:pA prog 72 = some (false,1):=by kernel_rfl
theorem jK:pA prog 167 = some (false,1):=by kernel_rfl
theorem au1:pA prog 185 = some (true,9):=by kernel_rfl
theorem vL:pA prog 255 = some (false,1):=by kernel_rfl
theorem TP:kL prog 185 1 = some (39,5,3):=by kernel_rfl
theorem Li:kL prog 266 0 = some (185,0,9):=by kernel_rfl
theorem SQ:kL prog 266 3 = some (39,11,3):=by kernel_rfl
end Go.Sy
