/- Part. -/
import Derived.Test.YtdmcadckdnnglaaGreatDoorSd
import Derived.Test.YtdmcadckdnnglaaGreatDoorProg
set_option linter.all false
theorem aT{p:Prop}(h:p:=by kernel_rfl):p:=h
namespace Go.Sy
open Go Go.Proofs Tryz
def fo:prog.follows .mixedOrders=true:=aT
theorem ZV:∀ts:List aF,(ts.map In.v).map In.ty=ts/\(ts.map In.v).map In.env=ts
 | []=>⟨rfl,rfl⟩
 | t::ts=>⟨by rw[dy,dy,(ZV ts).1];rfl,by rw[dy,dy,(ZV ts).2];rfl⟩
def dB{f:FuncId}{fn:Func}{args:List Arg}{ts:List aF}{out:Out}{tr:Tr}(hf:prog.funcs[f]?=some fn)(hx:aO prog fn (fun _=>none) args=tr)(h:vc prog (fun o=>ey o out) tr ts [])(hin:au In.Is args (ts.map In.v):=by repeat (first | exact trivial | refine⟨rfl,?_⟩))(hok:vX prog f=true:=by kernel_rfl):aK prog f ts out:=by
 have h2:=dQ (hints:=fun _=>none) (out:=out) fo hok hf hin (by rw[hx,(ZV ts).2];exact h)
 rwa[(ZV ts).1]at h2
def dvr{f:FuncId}{fn:Func}{args:List Arg}{ins:List In}{env:List aF}{out:Out}{tr:Tr}(hf:prog.funcs[f]?=some fn)(hx:aO prog fn (fun _=>none) args=tr)(h:vc prog (fun o=>ey o out) tr env [])(he:ins.map In.env=env:=by dsimp only[List.map,In.env,List.cons_append,List.nil_append]<;>rfl)(hin:au In.Is args ins:=by repeat (first | exact trivial | refine⟨rfl,?_⟩))(hok:vX prog f=true:=by kernel_rfl):aK prog f (ins.map In.ty) out:=
 dQ (hints:=fun _=>none) fo hok hf hin (by rw[hx,he];exact h)
def un2:prog.underlying 2=some (.int .i64):=aT
def un4:prog.underlying 4=some .bool:=aT
def un9:prog.underlying 9=some .string:=aT
def Yw:eP prog 22=some (27,1,24):=aT
def VJ:eP prog 27=some (26,3,24):=aT
def We:eP prog 31=some (72,1,24):=aT
def En:eP prog 32=some (72,1,24):=aT
def ec:eP prog 33=some (255,1,4):=aT
def vv:eP prog 40=some (39,3,56):=aT
def BZ:eP prog 44=some (167,1,24):=aT
def gZ:eP prog 45=some (3,1,8):=aT
def mh:eP prog 72=some (39,3,56):=aT
def bB8:eP prog 109=some (118,1,24):=aT
def gV:eP prog 118=some (123,6,112):=aT
def iy:eP prog 167=some (49,4,64):=aT
def Zs:eP prog 242=some (2,1,8):=aT
def lB:prog.underlying 254=some (.int .u64):=aT
def kI:prog.underlying 255=some (.int .u32):=aT
def Ok:eP prog 276=some (194,1,8):=aT
def ag2:oC prog 2=some (false,1):=aT
def YF:oC prog 3=some (false,1):=aT
def bQ3:oC prog 26=some (true,3):=aT
def bq4:oC prog 27=some (false,1):=aT
def mq:oC prog 39=some (true,3):=aT
def bO3:oC prog 40=some (false,1):=aT
def Iz:oC prog 49=some (true,4):=aT
def Vf:oC prog 72=some (false,1):=aT
def cj1:oC prog 118=some (false,1):=aT
def kK:oC prog 123=some (true,6):=aT
def zp:oC prog 167=some (false,1):=aT
def bA7:oC prog 185=some (true,9):=aT
def aS7:oC prog 194=some (false,1):=aT
def Bl:oC prog 255=some (false,1):=aT
def Qv:kF prog 123 0=some (39,0,3):=aT
def Qu:kF prog 123 1=some (39,3,3):=aT
def bt0:kF prog 185 1=some (39,5,3):=aT
def ae3:kF prog 266 0=some (185,0,9):=aT
def Qo:kF prog 266 2=some (40,10,1):=aT
def bn8:kF prog 266 3=some (39,11,3):=aT
end Go.Sy
