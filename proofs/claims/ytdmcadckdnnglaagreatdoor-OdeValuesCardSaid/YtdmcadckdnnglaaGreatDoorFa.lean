/- Part. -/
import Derived.Test.YtdmcadckdnnglaaGreatDoorSd
import Derived.Test.YtdmcadckdnnglaaGreatDoorProg
set_option linter.all false
namespace Go.Sy
open Go Go.Proofs Tryz
theorem fo:prog.follows .mixedOrders=true:=by kernel_rfl
theorem Oq:∀ ts:List aE,(ts.map In.v).map In.ty=ts∧(ts.map In.v).map In.env=ts
 | []=>⟨rfl,rfl⟩
 | t::ts=>⟨by rw [List.map_cons,List.map_cons,(Oq ts).1];rfl,by rw [List.map_cons,List.map_cons,(Oq ts).2];rfl⟩
theorem bZ {f:FuncId} {fn:Func} {args:List Arg} {ts:List aE} {out:Out} {tr:Tr} (hf:prog.funcs[f]? = some fn) (hx:aL prog fn (fun _=>none) args=tr) (h:vc prog (fun o=>jM o out) tr ts []) (hin:aY In.Is args (ts.map In.v):=by repeat (first | exact trivial | refine ⟨rfl,?_⟩)) (hok:uF prog f=true:=by kernel_rfl):aM prog f ts out:=by
 have h2:=cT (hints:=fun _=>none) (out:=out) fo hok hf hin (by rw [hx,(Oq ts).2];exact h)
 rwa [(Oq ts).1] at h2
theorem dvr {f:FuncId} {fn:Func} {args:List Arg} {ins:List In} {env:List aE} {out:Out} {tr:Tr} (hf:prog.funcs[f]? = some fn) (hx:aL prog fn (fun _=>none) args=tr) (h:vc prog (fun o=>jM o out) tr env []) (he:ins.map In.env=env:=by dsimp only [List.map,In.env,List.cons_append,List.nil_append]<;>rfl) (hin:aY In.Is args ins:=by repeat (first | exact trivial | refine ⟨rfl,?_⟩)) (hok:uF prog f=true:=by kernel_rfl):aM prog f (ins.map In.ty) out:=
 cT (hints:=fun _=>none) fo hok hf hin (by rw [hx,he];exact h)
theorem XC:prog.underlying 2=some (.int .i64):=by kernel_rfl
theorem un4:prog.underlying 4=some .bool:=by kernel_rfl
theorem un9:prog.underlying 9=some .string:=by kernel_rfl
theorem MZ:dD prog 22=some (27,1,24):=by kernel_rfl
theorem Ls:dD prog 27=some (26,3,24):=by kernel_rfl
theorem MA:dD prog 31=some (72,1,24):=by kernel_rfl
theorem Cb:dD prog 32=some (72,1,24):=by kernel_rfl
theorem dU:dD prog 33=some (255,1,4):=by kernel_rfl
theorem wV:dD prog 40=some (39,3,56):=by kernel_rfl
theorem kC:dD prog 44=some (167,1,24):=by kernel_rfl
theorem fL:dD prog 45=some (3,1,8):=by kernel_rfl
theorem yW:dD prog 50=some (49,4,64):=by kernel_rfl
theorem kN:dD prog 72=some (39,3,56):=by kernel_rfl
theorem aw7:dD prog 109=some (118,1,24):=by kernel_rfl
theorem aw8:dD prog 113=some (119,1,24):=by kernel_rfl
theorem tL:dD prog 118=some (123,6,112):=by kernel_rfl
theorem Vk:dD prog 119=some (140,8,128):=by kernel_rfl
theorem fA:dD prog 167=some (49,4,64):=by kernel_rfl
theorem au8:dD prog 212=some (50,1,24):=by kernel_rfl
theorem Of:dD prog 242=some (2,1,8):=by kernel_rfl
theorem jE:prog.underlying 254=some (.int .u64):=by kernel_rfl
theorem iJ:prog.underlying 255=some (.int .u32):=by kernel_rfl
theorem au7:dD prog 276=some (194,1,8):=by kernel_rfl
theorem ag2:kU prog 2=some (false,1):=by kernel_rfl
theorem Pr:kU prog 3=some (false,1):=by kernel_rfl
theorem bd6:kU prog 26=some (true,3):=by kernel_rfl
theorem aq7:kU prog 27=some (false,1):=by kernel_rfl
theorem tA:kU prog 39=some (true,3):=by kernel_rfl
theorem bF8:kU prog 40=some (false,1):=by kernel_rfl
theorem mR:kU prog 49=some (true,4):=by kernel_rfl
theorem bF6:kU prog 50=some (false,1):=by kernel_rfl
theorem Kj:kU prog 72=some (false,1):=by kernel_rfl
theorem bA5:kU prog 118=some (false,1):=by kernel_rfl
theorem bu1:kU prog 119=some (false,1):=by kernel_rfl
theorem Gz:kU prog 123=some (true,6):=by kernel_rfl
theorem av5:kU prog 140=some (true,8):=by kernel_rfl
theorem oA:kU prog 167=some (false,1):=by kernel_rfl
theorem at7:kU prog 185=some (true,9):=by kernel_rfl
theorem bf6:kU prog 194=some (false,1):=by kernel_rfl
theorem yE:kU prog 255=some (false,1):=by kernel_rfl
theorem al9:jL prog 185 1=some (39,5,3):=by kernel_rfl
theorem Pk:jL prog 266 0=some (185,0,9):=by kernel_rfl
theorem aq9:jL prog 266 2=some (40,10,1):=by kernel_rfl
theorem YH:jL prog 266 3=some (39,11,3):=by kernel_rfl
end Go.Sy
