/- Part. -/
import Derived.Test.YtpaidpkaechleaaGreatDoorSd
import Derived.Test.YtpaidpkaechleaaGreatDoorProg
set_option linter.all false
namespace Go.Sy
open Go Go.Proofs Tryz
theorem fo:prog.follows .mixedOrders=true:=by kernel_rfl
theorem Gl:∀ ts:List aD,(ts.map In.v).map In.ty=ts∧(ts.map In.v).map In.env=ts
 | []=>⟨rfl,rfl⟩
 | t::ts=>⟨by rw [List.map_cons,List.map_cons,(Gl ts).1];rfl,by rw [List.map_cons,List.map_cons,(Gl ts).2];rfl⟩
theorem bO {f:FuncId} {fn:Func} {args:List Arg} {ts:List aD} {out:Out} {tr:Tr} (hf:prog.funcs[f]? = some fn) (hx:aI prog fn (fun _=>none) args=tr) (h:vc prog (fun o=>pJ o out) tr ts []) (hin:aV In.Is args (ts.map In.v):=by repeat (first | exact trivial | refine ⟨rfl,?_⟩)) (hok:mJ prog f=true:=by kernel_rfl):aJ prog f ts out:=by
 have h2:=bP (hints:=fun _=>none) (out:=out) fo hok hf hin (by rw [hx,(Gl ts).2];exact h)
 rwa [(Gl ts).1] at h2
theorem ZV {f:FuncId} {fn:Func} {args:List Arg} {ins:List In} {env:List aD} {out:Out} {tr:Tr} (hf:prog.funcs[f]? = some fn) (hx:aI prog fn (fun _=>none) args=tr) (h:vc prog (fun o=>pJ o out) tr env []) (he:ins.map In.env=env:=by dsimp only [List.map,In.env,List.cons_append,List.nil_append]<;>rfl) (hin:aV In.Is args ins:=by repeat (first | exact trivial | refine ⟨rfl,?_⟩)) (hok:mJ prog f=true:=by kernel_rfl):aJ prog f (ins.map In.ty) out:=
 bP (hints:=fun _=>none) fo hok hf hin (by rw [hx,he];exact h)
theorem JS:prog.underlying 2=some (.int .i64):=by kernel_rfl
theorem ZX:prog.underlying 4=some .bool:=by kernel_rfl
theorem GW:prog.underlying 9=some .string:=by kernel_rfl
theorem cF:eS prog 24=some (167,1,4):=by kernel_rfl
theorem dM:eS prog 31=some (3,1,8):=by kernel_rfl
theorem OS:eS prog 52=some (30,3,56):=by kernel_rfl
theorem fQ:prog.underlying 153=some (.int .u64):=by kernel_rfl
theorem eR:prog.underlying 167=some (.int .u32):=by kernel_rfl
theorem JR:eS prog 201=some (39,6,112):=by kernel_rfl
theorem Iy:oP prog 3=some (false,1):=by kernel_rfl
theorem Vd:oP prog 30=some (true,3):=by kernel_rfl
theorem YZ:oP prog 39=some (true,6):=by kernel_rfl
theorem mL:oP prog 167=some (false,1):=by kernel_rfl
end Go.Sy
