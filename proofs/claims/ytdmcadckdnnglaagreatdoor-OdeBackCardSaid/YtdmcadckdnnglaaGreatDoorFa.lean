/- Facts about the types.
-/
import Derived.Test.YtdmcadckdnnglaaGreatDoorSd
import Derived.Test.YtdmcadckdnnglaaGreatDoorProg
import Derived.KernelRfl
import Derived.Lib.ItoaNum
set_option linter.unusedVariables false
set_option linter.unusedSimpArgs false
namespace Go.Sy
open Go Go.Proofs Tryz
theorem fo:prog.follows .mixedOrders=true:=by kernel_rfl
theorem Vg:prog.underlying 2=some (.int .i64):=by kernel_rfl
theorem un4:prog.underlying 4=some .bool:=by kernel_rfl
theorem Mp:dB prog 22=some (27,1,24):=by kernel_rfl
theorem UD:dB prog 27=some (26,3,24):=by kernel_rfl
theorem KI:dB prog 31=some (72,1,24):=by kernel_rfl
theorem Bw:dB prog 32=some (72,1,24):=by kernel_rfl
theorem dE:dB prog 33=some (255,1,4):=by kernel_rfl
theorem zZ:dB prog 40=some (39,3,56):=by kernel_rfl
theorem xP:dB prog 44=some (167,1,24):=by kernel_rfl
theorem eI:dB prog 45=some (3,1,8):=by kernel_rfl
theorem jF:dB prog 72=some (39,3,56):=by kernel_rfl
theorem Kw:dB prog 109=some (118,1,24):=by kernel_rfl
theorem Zs:dB prog 118=some (123,6,112):=by kernel_rfl
theorem fB:dB prog 167=some (49,4,64):=by kernel_rfl
theorem Zv:dB prog 242=some (2,1,8):=by kernel_rfl
theorem gT:prog.underlying 254=some (.int .u64):=by kernel_rfl
theorem gF:prog.underlying 255=some (.int .u32):=by kernel_rfl
theorem Zj:dB prog 276=some (194,1,8):=by kernel_rfl
theorem ag2:kD prog 2=some (false,1):=by kernel_rfl
theorem Ov:kD prog 3=some (false,1):=by kernel_rfl
theorem aL8:kD prog 26=some (true,3):=by kernel_rfl
theorem Yn:kD prog 27=some (false,1):=by kernel_rfl
theorem rZ:kD prog 39=some (true,3):=by kernel_rfl
theorem aZ5:kD prog 40=some (false,1):=by kernel_rfl
theorem CN:kD prog 49=some (true,4):=by kernel_rfl
theorem JX:kD prog 72=some (false,1):=by kernel_rfl
theorem Zp:kD prog 118=some (false,1):=by kernel_rfl
theorem aa1:kD prog 123=some (true,6):=by kernel_rfl
theorem xC:kD prog 167=some (false,1):=by kernel_rfl
theorem ZT:kD prog 185=some (true,9):=by kernel_rfl
theorem aU1:kD prog 194=some (false,1):=by kernel_rfl
theorem yY:kD prog 255=some (false,1):=by kernel_rfl
theorem YI:iB prog 185 1=some (39,5,3):=by kernel_rfl
theorem NX:iB prog 266 0=some (185,0,9):=by kernel_rfl
theorem VG:iB prog 266 2=some (40,10,1):=by kernel_rfl
theorem XS:iB prog 266 3=some (39,11,3):=by kernel_rfl
end Go.Sy
