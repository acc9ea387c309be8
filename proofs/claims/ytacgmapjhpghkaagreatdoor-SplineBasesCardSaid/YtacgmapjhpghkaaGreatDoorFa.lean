/- Part. -/
import Derived.Test.YtacgmapjhpghkaaGreatDoorSd
import Derived.Test.YtacgmapjhpghkaaGreatDoorProg
set_option linter.all false
namespace Go.Sy
open Go Go.Proofs Tryz
theorem fo:prog.follows .mixedOrders=true:=by kernel_rfl
theorem ZA:∀ts:List aN,(ts.map In.v).map In.ty=ts/\(ts.map In.v).map In.env=ts
 | []=>⟨rfl,rfl⟩
 | t::ts=>⟨by rw[en,en,(ZA ts).1];rfl,by rw[en,en,(ZA ts).2];rfl⟩
theorem dL{f:FuncId}{fn:Func}{args:List Arg}{ts:List aN}{out:Out}{tr:Tr}(hf:prog.funcs[f]?=some fn)(hx:aV prog fn (fun _=>none) args=tr)(h:vc prog (fun o=>az o out) tr ts [])(hin:ak In.Is args (ts.map In.v):=by repeat (first | exact trivial | refine⟨rfl,?_⟩))(hok:pb prog f=true:=by kernel_rfl):aU prog f ts out:=by
 have h2:=dF (hints:=fun _=>none) (out:=out) fo hok hf hin (by rw[hx,(ZA ts).2];exact h)
 rwa[(ZA ts).1]at h2
theorem dvr{f:FuncId}{fn:Func}{args:List Arg}{ins:List In}{env:List aN}{out:Out}{tr:Tr}(hf:prog.funcs[f]?=some fn)(hx:aV prog fn (fun _=>none) args=tr)(h:vc prog (fun o=>az o out) tr env [])(he:ins.map In.env=env:=by dsimp only[List.map,In.env,List.cons_append,List.nil_append]<;>rfl)(hin:ak In.Is args ins:=by repeat (first | exact trivial | refine⟨rfl,?_⟩))(hok:pb prog f=true:=by kernel_rfl):aU prog f (ins.map In.ty) out:=
 dF (hints:=fun _=>none) fo hok hf hin (by rw[hx,he];exact h)
theorem un2:prog.underlying 2=some (.int .i64):=by kernel_rfl
theorem un4:prog.underlying 4=some .bool:=by kernel_rfl
theorem un9:prog.underlying 9=some .string:=by kernel_rfl
theorem Yq:dY prog 22=some (27,3,24):=by kernel_rfl
theorem ay:dY prog 28=some (46,3,56):=by kernel_rfl
theorem sO:dY prog 29=some (98,1,24):=by kernel_rfl
theorem eG:dY prog 32=some (51,4,64):=by kernel_rfl
theorem bh7:dY prog 33=some (102,1,24):=by kernel_rfl
theorem eC:dY prog 40=some (237,1,4):=by kernel_rfl
theorem fT:dY prog 47=some (3,1,8):=by kernel_rfl
theorem kg:dY prog 98=some (46,3,56):=by kernel_rfl
theorem jv:dY prog 102=some (51,4,64):=by kernel_rfl
theorem sC:dY prog 197=some (28,1,24):=by kernel_rfl
theorem bn5:dY prog 205=some (2,1,8):=by kernel_rfl
theorem jL:prog.underlying 236=some (.int .u64):=by kernel_rfl
theorem ib:prog.underlying 237=some (.int .u32):=by kernel_rfl
theorem ag2:oX prog 2=some (false,1):=by kernel_rfl
theorem ag3:oX prog 3=some (false,1):=by kernel_rfl
theorem cg4:oX prog 27=some (true,3):=by kernel_rfl
theorem aI4:oX prog 28=some (false,1):=by kernel_rfl
theorem cM:oX prog 46=some (true,3):=by kernel_rfl
theorem gB:oX prog 51=some (true,4):=by kernel_rfl
theorem Yd:oX prog 98=some (false,1):=by kernel_rfl
theorem bk8:oX prog 102=some (false,1):=by kernel_rfl
theorem vr:oX prog 237=some (false,1):=by kernel_rfl
end Go.Sy
