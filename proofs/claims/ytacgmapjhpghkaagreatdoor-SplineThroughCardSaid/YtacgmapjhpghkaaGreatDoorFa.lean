/- Part. -/
import Derived.Test.YtacgmapjhpghkaaGreatDoorSd
import Derived.Test.YtacgmapjhpghkaaGreatDoorProg
set_option linter.all false
namespace Go.Sy
open Go Go.Proofs Tryz
theorem fo:prog.follows .mixedOrders=true:=by kernel_rfl
theorem Wh:∀ ts:List aJ,(ts.map In.v).map In.ty=ts/\(ts.map In.v).map In.env=ts
 | []=>⟨rfl,rfl⟩
 | t::ts=>⟨by rw [List.map_cons,List.map_cons,(Wh ts).1];rfl,by rw [List.map_cons,List.map_cons,(Wh ts).2];rfl⟩
theorem eF {f:FuncId} {fn:Func} {args:List Arg} {ts:List aJ} {out:Out} {tr:Tr} (hf:prog.funcs[f]? = some fn) (hx:aV prog fn (fun _=>none) args=tr) (h:vc prog (fun o=>cB o out) tr ts []) (hin:bC In.Is args (ts.map In.v):=by repeat (first | exact trivial | refine ⟨rfl,?_⟩)) (hok:pA prog f=true:=by kernel_rfl):aQ prog f ts out:=by
 have h2:=cW (hints:=fun _=>none) (out:=out) fo hok hf hin (by rw [hx,(Wh ts).2];exact h)
 rwa [(Wh ts).1] at h2
theorem dvr {f:FuncId} {fn:Func} {args:List Arg} {ins:List In} {env:List aJ} {out:Out} {tr:Tr} (hf:prog.funcs[f]? = some fn) (hx:aV prog fn (fun _=>none) args=tr) (h:vc prog (fun o=>cB o out) tr env []) (he:ins.map In.env=env:=by dsimp only [List.map,In.env,List.cons_append,List.nil_append]<;>rfl) (hin:bC In.Is args ins:=by repeat (first | exact trivial | refine ⟨rfl,?_⟩)) (hok:pA prog f=true:=by kernel_rfl):aQ prog f (ins.map In.ty) out:=
 cW (hints:=fun _=>none) fo hok hf hin (by rw [hx,he];exact h)
theorem un2:prog.underlying 2=some (.int .i64):=by kernel_rfl
theorem un3:prog.underlying 3=some (.int .i64):=by kernel_rfl
theorem un4:prog.underlying 4=some .bool:=by kernel_rfl
theorem PT:eB prog 22=some (27,3,24):=by kernel_rfl
theorem aZ:eB prog 28=some (46,3,56):=by kernel_rfl
theorem pX:eB prog 29=some (98,1,24):=by kernel_rfl
theorem UT:eB prog 32=some (51,4,64):=by kernel_rfl
theorem eD:eB prog 40=some (237,1,4):=by kernel_rfl
theorem eV:eB prog 47=some (3,1,8):=by kernel_rfl
theorem OB:eB prog 90=some (97,4,80):=by kernel_rfl
theorem kH:eB prog 98=some (46,3,56):=by kernel_rfl
theorem sA:eB prog 197=some (28,1,24):=by kernel_rfl
theorem aM3:eB prog 205=some (2,1,8):=by kernel_rfl
theorem iP:prog.underlying 236=some (.int .u64):=by kernel_rfl
theorem gY:prog.underlying 237=some (.int .u32):=by kernel_rfl
theorem aJ3:prog.underlying 251=some (.int .u64):=by kernel_rfl
theorem ag2:nU prog 2=some (false,1):=by kernel_rfl
theorem YP:nU prog 3=some (false,1):=by kernel_rfl
theorem bB0:nU prog 27=some (true,3):=by kernel_rfl
theorem aj8:nU prog 28=some (false,1):=by kernel_rfl
theorem bU:nU prog 46=some (true,3):=by kernel_rfl
theorem bt4:nU prog 51=some (true,4):=by kernel_rfl
theorem az1:nU prog 97=some (true,4):=by kernel_rfl
theorem PK:nU prog 98=some (false,1):=by kernel_rfl
theorem xO:nU prog 237=some (false,1):=by kernel_rfl
end Go.Sy
