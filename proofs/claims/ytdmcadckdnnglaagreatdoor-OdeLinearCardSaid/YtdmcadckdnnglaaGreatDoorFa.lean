/- Part. -/
import Derived.Test.YtdmcadckdnnglaaGreatDoorSd
import Derived.Test.YtdmcadckdnnglaaGreatDoorProg
set_option linter.all false
namespace Go.Sy
open Go Go.Proofs Tryz
theorem fo:prog.follows .mixedOrders=true:=by kernel_rfl
theorem MV:∀ ts:List aF,(ts.map In.v).map In.ty=ts∧(ts.map In.v).map In.env=ts
 | []=>⟨rfl,rfl⟩
 | t::ts=>⟨by rw [List.map_cons,List.map_cons,(MV ts).1];rfl,by rw [List.map_cons,List.map_cons,(MV ts).2];rfl⟩
theorem cM {f:FuncId} {fn:Func} {args:List Arg} {ts:List aF} {out:Out} {tr:Tr} (hf:prog.funcs[f]? = some fn) (hx:aL prog fn (fun _=>none) args=tr) (h:vc prog (fun o=>jX o out) tr ts []) (hin:aU In.Is args (ts.map In.v):=by repeat (first | exact trivial | refine ⟨rfl,?_⟩)) (hok:sW prog f=true:=by kernel_rfl):aN prog f ts out:=by
 have h2:=cP (hints:=fun _=>none) (out:=out) fo hok hf hin (by rw [hx,(MV ts).2];exact h)
 rwa [(MV ts).1] at h2
theorem dvr {f:FuncId} {fn:Func} {args:List Arg} {ins:List In} {env:List aF} {out:Out} {tr:Tr} (hf:prog.funcs[f]? = some fn) (hx:aL prog fn (fun _=>none) args=tr) (h:vc prog (fun o=>jX o out) tr env []) (he:ins.map In.env=env:=by dsimp only [List.map,In.env,List.cons_append,List.nil_append]<;>rfl) (hin:aU In.Is args ins:=by repeat (first | exact trivial | refine ⟨rfl,?_⟩)) (hok:sW prog f=true:=by kernel_rfl):aN prog f (ins.map In.ty) out:=
 cP (hints:=fun _=>none) fo hok hf hin (by rw [hx,he];exact h)
theorem UU:prog.underlying 2=some (.int .i64):=by kernel_rfl
theorem un4:prog.underlying 4=some .bool:=by kernel_rfl
theorem un9:prog.underlying 9=some .string:=by kernel_rfl
theorem LU:dI prog 22=some (27,1,24):=by kernel_rfl
theorem DN:dI prog 27=some (26,3,24):=by kernel_rfl
theorem Kc:dI prog 31=some (72,1,24):=by kernel_rfl
theorem AZ:dI prog 32=some (72,1,24):=by kernel_rfl
theorem dJ:dI prog 33=some (255,1,4):=by kernel_rfl
theorem rL:dI prog 40=some (39,3,56):=by kernel_rfl
theorem zL:dI prog 44=some (167,1,24):=by kernel_rfl
theorem eW:dI prog 45=some (3,1,8):=by kernel_rfl
theorem jT:dI prog 72=some (39,3,56):=by kernel_rfl
theorem aa6:dI prog 109=some (118,1,24):=by kernel_rfl
theorem vG:dI prog 118=some (123,6,112):=by kernel_rfl
theorem fS:dI prog 167=some (49,4,64):=by kernel_rfl
theorem MF:dI prog 242=some (2,1,8):=by kernel_rfl
theorem iA:prog.underlying 254=some (.int .u64):=by kernel_rfl
theorem gP:prog.underlying 255=some (.int .u32):=by kernel_rfl
theorem Zn:dI prog 276=some (194,1,8):=by kernel_rfl
theorem ag2:kX prog 2=some (false,1):=by kernel_rfl
theorem NT:kX prog 3=some (false,1):=by kernel_rfl
theorem WM:kX prog 26=some (true,3):=by kernel_rfl
theorem Yk:kX prog 27=some (false,1):=by kernel_rfl
theorem pO:kX prog 39=some (true,3):=by kernel_rfl
theorem ba3:kX prog 40=some (false,1):=by kernel_rfl
theorem Cw:kX prog 49=some (true,4):=by kernel_rfl
theorem Jt:kX prog 72=some (false,1):=by kernel_rfl
theorem aF4:kX prog 118=some (false,1):=by kernel_rfl
theorem NI:kX prog 123=some (true,6):=by kernel_rfl
theorem xF:kX prog 167=some (false,1):=by kernel_rfl
theorem ZV:kX prog 185=some (true,9):=by kernel_rfl
theorem aU3:kX prog 194=some (false,1):=by kernel_rfl
theorem yT:kX prog 255=some (false,1):=by kernel_rfl
theorem YI:iM prog 185 1=some (39,5,3):=by kernel_rfl
theorem Ny:iM prog 266 0=some (185,0,9):=by kernel_rfl
theorem Vy:iM prog 266 2=some (40,10,1):=by kernel_rfl
theorem XO:iM prog 266 3=some (39,11,3):=by kernel_rfl
end Go.Sy
