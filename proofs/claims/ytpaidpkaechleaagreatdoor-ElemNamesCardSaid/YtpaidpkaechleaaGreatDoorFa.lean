/- Part. -/
import Derived.Test.YtpaidpkaechleaaGreatDoorSd
import Derived.Test.YtpaidpkaechleaaGreatDoorProg
set_option linter.all false
namespace Go.Sy
open Go Go.Proofs Tryz
theorem fo:prog.follows .mixedOrders=true:=by kernel_rfl
theorem Nu:∀ ts:List aE,(ts.map In.v).map In.ty=ts∧(ts.map In.v).map In.env=ts
 | []=>⟨rfl,rfl⟩
 | t::ts=>⟨by rw [List.map_cons,List.map_cons,(Nu ts).1];rfl,by rw [List.map_cons,List.map_cons,(Nu ts).2];rfl⟩
theorem bU {f:FuncId} {fn:Func} {args:List Arg} {ts:List aE} {out:Out} {tr:Tr} (hf:prog.funcs[f]? = some fn) (hx:aN prog fn (fun _=>none) args=tr) (h:vc prog (fun o=>oY o out) tr ts []) (hin:aU In.Is args (ts.map In.v):=by repeat (first | exact trivial | refine ⟨rfl,?_⟩)) (hok:mG prog f=true:=by kernel_rfl):aD prog f ts out:=by
 have h2:=bM (hints:=fun _=>none) (out:=out) fo hok hf hin (by rw [hx,(Nu ts).2];exact h)
 rwa [(Nu ts).1] at h2
theorem dvr {f:FuncId} {fn:Func} {args:List Arg} {ins:List In} {env:List aE} {out:Out} {tr:Tr} (hf:prog.funcs[f]? = some fn) (hx:aN prog fn (fun _=>none) args=tr) (h:vc prog (fun o=>oY o out) tr env []) (he:ins.map In.env=env:=by dsimp only [List.map,In.env,List.cons_append,List.nil_append]<;>rfl) (hin:aU In.Is args ins:=by repeat (first | exact trivial | refine ⟨rfl,?_⟩)) (hok:mG prog f=true:=by kernel_rfl):aD prog f (ins.map In.ty) out:=
 bM (hints:=fun _=>none) fo hok hf hin (by rw [hx,he];exact h)
theorem PX:prog.underlying 2=some (.int .i64):=by kernel_rfl
theorem un4:prog.underlying 4=some .bool:=by kernel_rfl
theorem VB:prog.underlying 9=some .string:=by kernel_rfl
theorem cI:fI prog 24=some (167,1,4):=by kernel_rfl
theorem Ll:fI prog 52=some (30,3,56):=by kernel_rfl
theorem fL:prog.underlying 153=some (.int .u64):=by kernel_rfl
theorem eO:prog.underlying 167=some (.int .u32):=by kernel_rfl
theorem Rf:fI prog 201=some (39,6,112):=by kernel_rfl
theorem Tz:pB prog 30=some (true,3):=by kernel_rfl
theorem as1:pB prog 39=some (true,6):=by kernel_rfl
theorem lP:pB prog 167=some (false,1):=by kernel_rfl
end Go.Sy
