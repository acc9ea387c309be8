/- Part. -/
import Derived.Test.YtacgmapjhpghkaaGreatDoorSd
import Derived.Test.YtacgmapjhpghkaaGreatDoorProg
set_option linter.all false
namespace Go.Sy
open Go Go.Proofs Tryz
theorem fo:prog.follows .mixedOrders=true:=by kernel_rfl
theorem Ss:∀ ts:List aK,(ts.map In.v).map In.ty=ts∧(ts.map In.v).map In.env=ts
 | []=>⟨rfl,rfl⟩
 | t::ts=>⟨by rw [List.map_cons,List.map_cons,(Ss ts).1];rfl,by rw [List.map_cons,List.map_cons,(Ss ts).2];rfl⟩
theorem cW {f:FuncId} {fn:Func} {args:List Arg} {ts:List aK} {out:Out} {tr:Tr} (hf:prog.funcs[f]? = some fn) (hx:aM prog fn (fun _=>none) args=tr) (h:vc prog (fun o=>cJ o out) tr ts []) (hin:bG In.Is args (ts.map In.v):=by repeat (first | exact trivial | refine ⟨rfl,?_⟩)) (hok:oP prog f=true:=by kernel_rfl):aN prog f ts out:=by
 have h2:=dC (hints:=fun _=>none) (out:=out) fo hok hf hin (by rw [hx,(Ss ts).2];exact h)
 rwa [(Ss ts).1] at h2
theorem ZZ {f:FuncId} {fn:Func} {args:List Arg} {ins:List In} {env:List aK} {out:Out} {tr:Tr} (hf:prog.funcs[f]? = some fn) (hx:aM prog fn (fun _=>none) args=tr) (h:vc prog (fun o=>cJ o out) tr env []) (he:ins.map In.env=env:=by dsimp only [List.map,In.env,List.cons_append,List.nil_append]<;>rfl) (hin:bG In.Is args ins:=by repeat (first | exact trivial | refine ⟨rfl,?_⟩)) (hok:oP prog f=true:=by kernel_rfl):aN prog f (ins.map In.ty) out:=
 dC (hints:=fun _=>none) fo hok hf hin (by rw [hx,he];exact h)
theorem ZL:prog.underlying 2=some (.int .i64):=by kernel_rfl
theorem un3:prog.underlying 3=some (.int .i64):=by kernel_rfl
theorem un4:prog.underlying 4=some .bool:=by kernel_rfl
theorem un9:prog.underlying 9=some .string:=by kernel_rfl
theorem Ff:dU prog 22=some (27,3,24):=by kernel_rfl
theorem mI:dU prog 23=some (22,1,24):=by kernel_rfl
theorem bP:dU prog 28=some (46,3,56):=by kernel_rfl
theorem jT:dU prog 29=some (98,1,24):=by kernel_rfl
theorem pY:dU prog 32=some (51,4,64):=by kernel_rfl
theorem nP:dU prog 33=some (102,1,24):=by kernel_rfl
theorem eC:dU prog 40=some (237,1,4):=by kernel_rfl
theorem eT:dU prog 47=some (3,1,8):=by kernel_rfl
theorem jV:dU prog 98=some (46,3,56):=by kernel_rfl
theorem gE:dU prog 102=some (51,4,64):=by kernel_rfl
theorem rL:dU prog 197=some (28,1,24):=by kernel_rfl
theorem aw2:dU prog 205=some (2,1,8):=by kernel_rfl
theorem iG:prog.underlying 236=some (.int .u64):=by kernel_rfl
theorem gQ:prog.underlying 237=some (.int .u32):=by kernel_rfl
theorem at2:prog.underlying 251=some (.int .u64):=by kernel_rfl
theorem ag2:mF prog 2=some (false,1):=by kernel_rfl
theorem Vm:mF prog 3=some (false,1):=by kernel_rfl
theorem Am:mF prog 22=some (false,1):=by kernel_rfl
theorem bo2:mF prog 27=some (true,3):=by kernel_rfl
theorem YN:mF prog 28=some (false,1):=by kernel_rfl
theorem cK:mF prog 46=some (true,3):=by kernel_rfl
theorem mG:mF prog 51=some (true,4):=by kernel_rfl
theorem AA:mF prog 98=some (false,1):=by kernel_rfl
theorem qY:mF prog 102=some (false,1):=by kernel_rfl
theorem wC:mF prog 237=some (false,1):=by kernel_rfl
end Go.Sy
