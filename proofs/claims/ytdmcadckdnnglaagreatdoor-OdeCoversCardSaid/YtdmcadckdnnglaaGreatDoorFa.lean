/- Part. -/
import Derived.Test.YtdmcadckdnnglaaGreatDoorSd
import Derived.Test.YtdmcadckdnnglaaGreatDoorProg
set_option linter.all false
namespace Go.Sy
open Go Go.Proofs Tryz
def fo:prog.follows .mixedOrders=true:=by kernel_rfl
theorem Tf:∀ts:List aG,(ts.map In.v).map In.ty=ts/\(ts.map In.v).map In.env=ts
 | []=>⟨rfl,rfl⟩
 | t::ts=>⟨by rw[dY,dY,(Tf ts).1];rfl,by rw[dY,dY,(Tf ts).2];rfl⟩
def bw{f:FuncId}{fn:Func}{args:List Arg}{ts:List aG}{out:Out}{tr:Tr}(hf:prog.funcs[f]?=some fn)(hx:aM prog fn (fun _=>none) args=tr)(h:vc prog (fun o=>ep o out) tr ts [])(hin:ae In.Is args (ts.map In.v):=by repeat (first | exact trivial | refine⟨rfl,?_⟩))(hok:rX prog f=true:=by kernel_rfl):aL prog f ts out:=by
 have h2:=cI (hints:=fun _=>none) (out:=out) fo hok hf hin (by rw[hx,(Tf ts).2];exact h)
 rwa[(Tf ts).1]at h2
def dvr{f:FuncId}{fn:Func}{args:List Arg}{ins:List In}{env:List aG}{out:Out}{tr:Tr}(hf:prog.funcs[f]?=some fn)(hx:aM prog fn (fun _=>none) args=tr)(h:vc prog (fun o=>ep o out) tr env [])(he:ins.map In.env=env:=by dsimp only[List.map,In.env,List.cons_append,List.nil_append]<;>rfl)(hin:ae In.Is args ins:=by repeat (first | exact trivial | refine⟨rfl,?_⟩))(hok:rX prog f=true:=by kernel_rfl):aL prog f (ins.map In.ty) out:=
 cI (hints:=fun _=>none) fo hok hf hin (by rw[hx,he];exact h)
def YD:prog.underlying 2=some (.int .i64):=by kernel_rfl
def un4:prog.underlying 4=some .bool:=by kernel_rfl
def un5:prog.underlying 5=some (.int .u8):=by kernel_rfl
def un9:prog.underlying 9=some .string:=by kernel_rfl
def RH:dI prog 22=some (27,1,24):=by kernel_rfl
def OY:dI prog 27=some (26,3,24):=by kernel_rfl
def Pv:dI prog 31=some (72,1,24):=by kernel_rfl
def AH:dI prog 32=some (72,1,24):=by kernel_rfl
def dS:dI prog 33=some (255,1,4):=by kernel_rfl
def sD:dI prog 40=some (39,3,56):=by kernel_rfl
def yM:dI prog 44=some (167,1,24):=by kernel_rfl
def ef:dI prog 45=some (3,1,8):=by kernel_rfl
def jq:dI prog 72=some (39,3,56):=by kernel_rfl
def aP1:dI prog 109=some (118,1,24):=by kernel_rfl
def ju:dI prog 118=some (123,6,112):=by kernel_rfl
def fg:dI prog 167=some (49,4,64):=by kernel_rfl
def SB:dI prog 242=some (2,1,8):=by kernel_rfl
def ia:prog.underlying 254=some (.int .u64):=by kernel_rfl
def gx:prog.underlying 255=some (.int .u32):=by kernel_rfl
def HL:dI prog 276=some (194,1,8):=by kernel_rfl
def ag2:lD prog 2=some (false,1):=by kernel_rfl
def Uv:lD prog 3=some (false,1):=by kernel_rfl
def bd0:lD prog 26=some (true,3):=by kernel_rfl
def aE5:lD prog 27=some (false,1):=by kernel_rfl
def ov:lD prog 39=some (true,3):=by kernel_rfl
def bb1:lD prog 40=some (false,1):=by kernel_rfl
def DV:lD prog 49=some (true,4):=by kernel_rfl
def Ov:lD prog 72=some (false,1):=by kernel_rfl
def bw0:lD prog 118=some (false,1):=by kernel_rfl
def sq:lD prog 123=some (true,6):=by kernel_rfl
def wC:lD prog 167=some (false,1):=by kernel_rfl
def aO0:lD prog 185=some (true,9):=by kernel_rfl
def ag6:lD prog 194=some (false,1):=by kernel_rfl
def xW:lD prog 255=some (false,1):=by kernel_rfl
def aG8:jA prog 185 1=some (39,5,3):=by kernel_rfl
def TV:jA prog 266 0=some (185,0,9):=by kernel_rfl
def JK:jA prog 266 2=some (40,10,1):=by kernel_rfl
def aB5:jA prog 266 3=some (39,11,3):=by kernel_rfl
end Go.Sy
