/- Part. -/
import Derived.Test.YtpaidpkaechleaaGreatDoorSd
import Derived.Test.YtpaidpkaechleaaGreatDoorProg
set_option linter.all false
namespace Go.Sy
open Go Go.Proofs Tryz
theorem fo:prog.follows .mixedOrders=true:=by kernel_rfl
theorem Pb:∀ ts:List aI,(ts.map In.v).map In.ty=ts∧(ts.map In.v).map In.env=ts
 | []=>⟨rfl,rfl⟩
 | t::ts=>⟨by rw [List.map_cons,List.map_cons,(Pb ts).1];rfl,by rw [List.map_cons,List.map_cons,(Pb ts).2];rfl⟩
theorem bV {f:FuncId} {fn:Func} {args:List Arg} {ts:List aI} {out:Out} {tr:Tr} (hf:prog.funcs[f]? = some fn) (hx:aK prog fn (fun _=>none) args=tr) (h:vc prog (fun o=>pX o out) tr ts []) (hin:aV In.Is args (ts.map In.v):=by repeat (first | exact trivial | refine ⟨rfl,?_⟩)) (hok:nA prog f=true:=by kernel_rfl):aL prog f ts out:=by
 have h2:=bU (hints:=fun _=>none) (out:=out) fo hok hf hin (by rw [hx,(Pb ts).2];exact h)
 rwa [(Pb ts).1] at h2
theorem dvr {f:FuncId} {fn:Func} {args:List Arg} {ins:List In} {env:List aI} {out:Out} {tr:Tr} (hf:prog.funcs[f]? = some fn) (hx:aK prog fn (fun _=>none) args=tr) (h:vc prog (fun o=>pX o out) tr env []) (he:ins.map In.env=env:=by dsimp only [List.map,In.env,List.cons_append,List.nil_append]<;>rfl) (hin:aV In.Is args ins:=by repeat (first | exact trivial | refine ⟨rfl,?_⟩)) (hok:nA prog f=true:=by kernel_rfl):aL prog f (ins.map In.ty) out:=
 bU (hints:=fun _=>none) fo hok hf hin (by rw [hx,he];exact h)
theorem SH:prog.underlying 2=some (.int .i64):=by kernel_rfl
theorem un3:prog.underlying 3=some (.int .i64):=by kernel_rfl
theorem un4:prog.underlying 4=some .bool:=by kernel_rfl
theorem un5:prog.underlying 5=some (.int .u8):=by kernel_rfl
theorem PI:prog.underlying 9=some .string:=by kernel_rfl
theorem cM:fE prog 24=some (167,1,4):=by kernel_rfl
theorem dW:fE prog 31=some (3,1,8):=by kernel_rfl
theorem jW:fE prog 52=some (30,3,56):=by kernel_rfl
theorem gB:prog.underlying 153=some (.int .u64):=by kernel_rfl
theorem fD:prog.underlying 167=some (.int .u32):=by kernel_rfl
theorem SG:fE prog 201=some (39,6,112):=by kernel_rfl
theorem Rh:pB prog 3=some (false,1):=by kernel_rfl
theorem RE:pB prog 30=some (true,3):=by kernel_rfl
theorem aN3:pB prog 39=some (true,6):=by kernel_rfl
theorem nE:pB prog 167=some (false,1):=by kernel_rfl
end Go.Sy
