/- Part. -/
import Derived.Test.YtacgmapjhpghkaaGreatDoorSd
import Derived.Test.YtacgmapjhpghkaaGreatDoorProg
set_option linter.all false
namespace Go.Sy
open Go Go.Proofs Tryz
theorem fo:prog.follows .mixedOrders=true:=by kernel_rfl
theorem WX:∀ ts:List aJ,(ts.map In.v).map In.ty=ts/\(ts.map In.v).map In.env=ts
 | []=>⟨rfl,rfl⟩
 | t::ts=>⟨by rw [List.map_cons,List.map_cons,(WX ts).1];rfl,by rw [List.map_cons,List.map_cons,(WX ts).2];rfl⟩
theorem eH {f:FuncId} {fn:Func} {args:List Arg} {ts:List aJ} {out:Out} {tr:Tr} (hf:prog.funcs[f]? = some fn) (hx:aV prog fn (fun _=>none) args=tr) (h:vc prog (fun o=>cG o out) tr ts []) (hin:bB In.Is args (ts.map In.v):=by repeat (first | exact trivial | refine ⟨rfl,?_⟩)) (hok:pJ prog f=true:=by kernel_rfl):aQ prog f ts out:=by
 have h2:=cW (hints:=fun _=>none) (out:=out) fo hok hf hin (by rw [hx,(WX ts).2];exact h)
 rwa [(WX ts).1] at h2
theorem dvr {f:FuncId} {fn:Func} {args:List Arg} {ins:List In} {env:List aJ} {out:Out} {tr:Tr} (hf:prog.funcs[f]? = some fn) (hx:aV prog fn (fun _=>none) args=tr) (h:vc prog (fun o=>cG o out) tr env []) (he:ins.map In.env=env:=by dsimp only [List.map,In.env,List.cons_append,List.nil_append]<;>rfl) (hin:bB In.Is args ins:=by repeat (first | exact trivial | refine ⟨rfl,?_⟩)) (hok:pJ prog f=true:=by kernel_rfl):aQ prog f (ins.map In.ty) out:=
 cW (hints:=fun _=>none) fo hok hf hin (by rw [hx,he];exact h)
theorem un2:prog.underlying 2=some (.int .i64):=by kernel_rfl
theorem un4:prog.underlying 4=some .bool:=by kernel_rfl
theorem QD:eA prog 22=some (27,3,24):=by kernel_rfl
theorem bG:eA prog 28=some (46,3,56):=by kernel_rfl
theorem sM:eA prog 29=some (98,1,24):=by kernel_rfl
theorem VC:eA prog 32=some (51,4,64):=by kernel_rfl
theorem eB:eA prog 40=some (237,1,4):=by kernel_rfl
theorem eX:eA prog 47=some (3,1,8):=by kernel_rfl
theorem Pa:eA prog 90=some (97,4,80):=by kernel_rfl
theorem kH:eA prog 98=some (46,3,56):=by kernel_rfl
theorem sC:eA prog 197=some (28,1,24):=by kernel_rfl
theorem aN9:eA prog 205=some (2,1,8):=by kernel_rfl
theorem iU:prog.underlying 236=some (.int .u64):=by kernel_rfl
theorem gU:prog.underlying 237=some (.int .u32):=by kernel_rfl
theorem ag2:oE prog 2=some (false,1):=by kernel_rfl
theorem Zz:oE prog 3=some (false,1):=by kernel_rfl
theorem bz2:oE prog 27=some (true,3):=by kernel_rfl
theorem am6:oE prog 28=some (false,1):=by kernel_rfl
theorem cF:oE prog 46=some (true,3):=by kernel_rfl
theorem br5:oE prog 51=some (true,4):=by kernel_rfl
theorem aB0:oE prog 97=some (true,4):=by kernel_rfl
theorem TK:oE prog 98=some (false,1):=by kernel_rfl
theorem xU:oE prog 237=some (false,1):=by kernel_rfl
end Go.Sy
