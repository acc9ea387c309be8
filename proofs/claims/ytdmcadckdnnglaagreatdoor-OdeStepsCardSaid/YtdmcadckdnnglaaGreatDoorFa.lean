/- Facts about the types.
-/
import Derived.Test.YtdmcadckdnnglaaGreatDoorSe
import Derived.Test.YtdmcadckdnnglaaGreatDoorProg
import Derived.KernelRfl
import Derived.Lib.ItoaNum
set_option linter.unusedVariables false
set_option linter.unusedSimpArgs false
namespace Go.Sy
open Go Go.Proofs Tryz
theorem fo:prog.follows .mixedOrders=true:=by kernel_rfl
theorem Up:prog.underlying 2=some (.int .i64):=by kernel_rfl
theorem un4:prog.underlying 4=some .bool:=by kernel_rfl
theorem un9:prog.underlying 9=some .string:=by kernel_rfl
theorem JZ:cM prog 22=some (27,1,24):=by kernel_rfl
theorem Qd:cM prog 27=some (26,3,24):=by kernel_rfl
theorem Kb:cM prog 31=some (72,1,24):=by kernel_rfl
theorem Ar:cM prog 32=some (72,1,24):=by kernel_rfl
theorem dC:cM prog 33=some (255,1,4):=by kernel_rfl
theorem CJ:cM prog 40=some (39,3,56):=by kernel_rfl
theorem jN:cM prog 44=some (167,1,24):=by kernel_rfl
theorem eI:cM prog 45=some (3,1,8):=by kernel_rfl
theorem La:cM prog 50=some (49,4,64):=by kernel_rfl
theorem jF:cM prog 72=some (39,3,56):=by kernel_rfl
theorem Ae:cM prog 109=some (118,1,24):=by kernel_rfl
theorem ZE:cM prog 113=some (119,1,24):=by kernel_rfl
theorem PO:cM prog 118=some (123,6,112):=by kernel_rfl
theorem Zs:cM prog 119=some (140,8,128):=by kernel_rfl
theorem dX:cM prog 167=some (49,4,64):=by kernel_rfl
theorem Zk:cM prog 212=some (50,1,24):=by kernel_rfl
theorem Zg:cM prog 242=some (2,1,8):=by kernel_rfl
theorem hU:prog.underlying 254=some (.int .u64):=by kernel_rfl
theorem gB:prog.underlying 255=some (.int .u32):=by kernel_rfl
theorem Zp:cM prog 276=some (194,1,8):=by kernel_rfl
theorem ag2:jM prog 2=some (false,1):=by kernel_rfl
theorem LK:jM prog 3=some (false,1):=by kernel_rfl
theorem aS5:jM prog 26=some (true,3):=by kernel_rfl
theorem XN:jM prog 27=some (false,1):=by kernel_rfl
theorem sS:jM prog 39=some (true,3):=by kernel_rfl
theorem bc9:jM prog 40=some (false,1):=by kernel_rfl
theorem qG:jM prog 49=some (true,4):=by kernel_rfl
theorem bc6:jM prog 50=some (false,1):=by kernel_rfl
theorem JE:jM prog 72=some (false,1):=by kernel_rfl
theorem aP7:jM prog 118=some (false,1):=by kernel_rfl
theorem aE7:jM prog 119=some (false,1):=by kernel_rfl
theorem aH4:jM prog 123=some (true,6):=by kernel_rfl
theorem aG3:jM prog 140=some (true,8):=by kernel_rfl
theorem mI:jM prog 167=some (false,1):=by kernel_rfl
theorem Zq:jM prog 185=some (true,9):=by kernel_rfl
theorem aI8:jM prog 194=some (false,1):=by kernel_rfl
theorem xU:jM prog 255=some (false,1):=by kernel_rfl
theorem VD:iO prog 185 1=some (39,5,3):=by kernel_rfl
theorem ME:iO prog 266 0=some (185,0,9):=by kernel_rfl
theorem Wz:iO prog 266 2=some (40,10,1):=by kernel_rfl
theorem Xi:iO prog 266 3=some (39,11,3):=by kernel_rfl
end Go.Sy
