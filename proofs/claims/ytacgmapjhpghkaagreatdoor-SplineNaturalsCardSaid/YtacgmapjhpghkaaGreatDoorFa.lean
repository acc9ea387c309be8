/- Part. -/
import Derived.Test.YtacgmapjhpghkaaGreatDoorSd
import Derived.Test.YtacgmapjhpghkaaGreatDoorProg
set_option linter.all false
theorem aS{p:Prop}(h:p:=by kernel_rfl):p:=h
namespace Go.Sy
open Go Go.Proofs Tryz
def fo:prog.follows .mixedOrders=true:=aS
theorem am2:∀ts:List aQ,(ts.map In.v).map In.ty=ts/\(ts.map In.v).map In.env=ts
 | []=>⟨rfl,rfl⟩
 | t::ts=>⟨by rw[fj,fj,(am2 ts).1];rfl,by rw[fj,fj,(am2 ts).2];rfl⟩
def eD{f:FuncId}{fn:Func}{args:List Arg}{ts:List aQ}{out:Out}{tr:Tr}(hf:prog.funcs[f]?=some fn)(hx:af prog fn (fun _=>none) args=tr)(h:vc prog (fun o=>bD o out) tr ts [])(hin:az In.Is args (ts.map In.v):=by repeat (first | exact trivial | refine⟨rfl,?_⟩))(hok:rZ prog f=true:=by kernel_rfl):aX prog f ts out:=by
 have h2:=dh (hints:=fun _=>none) (out:=out) fo hok hf hin (by rw[hx,(am2 ts).2];exact h)
 rwa[(am2 ts).1]at h2
def dvr{f:FuncId}{fn:Func}{args:List Arg}{ins:List In}{env:List aQ}{out:Out}{tr:Tr}(hf:prog.funcs[f]?=some fn)(hx:af prog fn (fun _=>none) args=tr)(h:vc prog (fun o=>bD o out) tr env [])(he:ins.map In.env=env:=by dsimp only[List.map,In.env,List.cons_append,List.nil_append]<;>rfl)(hin:az In.Is args ins:=by repeat (first | exact trivial | refine⟨rfl,?_⟩))(hok:rZ prog f=true:=by kernel_rfl):aX prog f (ins.map In.ty) out:=
 dh (hints:=fun _=>none) fo hok hf hin (by rw[hx,he];exact h)
def un2:prog.underlying 2=some (.int .i64):=aS
def un4:prog.underlying 4=some .bool:=aS
def un9:prog.underlying 9=some .string:=aS
def Ud:dZ prog 22=some (27,3,24):=aS
def bX:dZ prog 28=some (46,3,56):=aS
def uE:dZ prog 29=some (98,1,24):=aS
def jK:dZ prog 32=some (51,4,64):=aS
def cz3:dZ prog 33=some (102,1,24):=aS
def eY:dZ prog 40=some (237,1,4):=aS
def gG:dZ prog 47=some (3,1,8):=aS
def mG:dZ prog 98=some (46,3,56):=aS
def zk:dZ prog 102=some (51,4,64):=aS
def vC:dZ prog 177=some (32,1,24):=aS
def tw:dZ prog 197=some (28,1,24):=aS
def bC1:dZ prog 205=some (2,1,8):=aS
def jx:prog.underlying 236=some (.int .u64):=aS
def jZ:prog.underlying 237=some (.int .u32):=aS
def ag2:mF prog 2=some (false,1):=aS
def ag3:mF prog 3=some (false,1):=aS
def cv5:mF prog 27=some (true,3):=aS
def aW5:mF prog 28=some (false,1):=aS
def aT3:mF prog 32=some (false,1):=aS
def cb:mF prog 46=some (true,3):=aS
def nH:mF prog 51=some (true,4):=aS
def ae1:mF prog 98=some (false,1):=aS
def cn5:mF prog 102=some (false,1):=aS
def xj:mF prog 237=some (false,1):=aS
end Go.Sy
