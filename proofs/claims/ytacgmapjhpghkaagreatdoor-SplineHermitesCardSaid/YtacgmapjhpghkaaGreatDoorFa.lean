/- Part. -/
import Derived.Test.YtacgmapjhpghkaaGreatDoorSd
import Derived.Test.YtacgmapjhpghkaaGreatDoorProg
set_option linter.all false
namespace Go.Sy
open Go Go.Proofs Tryz
theorem fo:prog.follows .mixedOrders=true:=by kernel_rfl
theorem Ze:∀ts:List aK,(ts.map In.v).map In.ty=ts/\(ts.map In.v).map In.env=ts
 | []=>⟨rfl,rfl⟩
 | t::ts=>⟨by rw[ep,ep,(Ze ts).1];rfl,by rw[ep,ep,(Ze ts).2];rfl⟩
theorem eB{f:FuncId}{fn:Func}{args:List Arg}{ts:List aK}{out:Out}{tr:Tr}(hf:prog.funcs[f]?=some fn)(hx:aV prog fn (fun _=>none) args=tr)(h:vc prog (fun o=>bC o out) tr ts [])(hin:aj In.Is args (ts.map In.v):=by repeat (first | exact trivial | refine⟨rfl,?_⟩))(hok:pV prog f=true:=by kernel_rfl):aW prog f ts out:=by
 have h2:=dK (hints:=fun _=>none) (out:=out) fo hok hf hin (by rw[hx,(Ze ts).2];exact h)
 rwa[(Ze ts).1]at h2
theorem dvr{f:FuncId}{fn:Func}{args:List Arg}{ins:List In}{env:List aK}{out:Out}{tr:Tr}(hf:prog.funcs[f]?=some fn)(hx:aV prog fn (fun _=>none) args=tr)(h:vc prog (fun o=>bC o out) tr env [])(he:ins.map In.env=env:=by dsimp only[List.map,In.env,List.cons_append,List.nil_append]<;>rfl)(hin:aj In.Is args ins:=by repeat (first | exact trivial | refine⟨rfl,?_⟩))(hok:pV prog f=true:=by kernel_rfl):aW prog f (ins.map In.ty) out:=
 dK (hints:=fun _=>none) fo hok hf hin (by rw[hx,he];exact h)
theorem un2:prog.underlying 2=some (.int .i64):=by kernel_rfl
theorem un4:prog.underlying 4=some .bool:=by kernel_rfl
theorem un9:prog.underlying 9=some .string:=by kernel_rfl
theorem aH5:dB prog 22=some (27,3,24):=by kernel_rfl
theorem bK:dB prog 28=some (46,3,56):=by kernel_rfl
theorem yO:dB prog 29=some (98,1,24):=by kernel_rfl
theorem rb:dB prog 32=some (51,4,64):=by kernel_rfl
theorem eG:dB prog 40=some (237,1,4):=by kernel_rfl
theorem fG:dB prog 47=some (3,1,8):=by kernel_rfl
theorem ac1:dB prog 89=some (93,4,48):=by kernel_rfl
theorem vK:dB prog 90=some (97,4,80):=by kernel_rfl
theorem ag1:dB prog 91=some (95,5,88):=by kernel_rfl
theorem jj:dB prog 98=some (46,3,56):=by kernel_rfl
theorem yP:dB prog 102=some (51,4,64):=by kernel_rfl
theorem uw:dB prog 177=some (32,1,24):=by kernel_rfl
theorem rl:dB prog 197=some (28,1,24):=by kernel_rfl
theorem bi8:dB prog 205=some (2,1,8):=by kernel_rfl
theorem jP:prog.underlying 236=some (.int .u64):=by kernel_rfl
theorem ia:prog.underlying 237=some (.int .u32):=by kernel_rfl
theorem ag2:ko prog 2=some (false,1):=by kernel_rfl
theorem ag3:ko prog 3=some (false,1):=by kernel_rfl
theorem bP8:ko prog 22=some (false,1):=by kernel_rfl
theorem aZ7:ko prog 27=some (true,3):=by kernel_rfl
theorem aE5:ko prog 28=some (false,1):=by kernel_rfl
theorem Xl:ko prog 32=some (false,1):=by kernel_rfl
theorem cn:ko prog 46=some (true,3):=by kernel_rfl
theorem Iz:ko prog 51=some (true,4):=by kernel_rfl
theorem ag6:ko prog 97=some (true,4):=by kernel_rfl
theorem aj2:ko prog 98=some (false,1):=by kernel_rfl
theorem wJ:ko prog 237=some (false,1):=by kernel_rfl
theorem aJ5:lL prog 93 0=some (27,0,3):=by kernel_rfl
theorem an2:lL prog 93 1=some (22,3,1):=by kernel_rfl
theorem bB8:lL prog 95 0=some (51,0,4):=by kernel_rfl
theorem VJ:lL prog 95 1=some (32,4,1):=by kernel_rfl
end Go.Sy
