/- Part. -/
import Derived.Test.YtdmcadckdnnglaaGreatDoorIa
set_option linter.all false
namespace Go.Sy
open Go Go.Proofs Tryz Ord
open Go Go.Proofs Tryz Ord
theorem UA (k:Int):Gi k≤256:=by unfold Gi;split<;>omega
abbrev ML (Y:List Rat):VS:=Y.map fun y=>(y,y)
section
variable {c:bJ}
theorem Qg (hC:Hm c) (hok:okF c.E c.X c.Y=true):aN prog 21 [fT c.E c.X c.Y] (.ret [.one (.int .i64 0)]):=by
 have h:=mB c.E c.X c.Y hC.e1 hC.xf (by have:=hC.yl;omega)
 rwa [if_pos hok] at h
theorem Oy (hC:Hm c) (hok:okF c.E c.X c.Y=false):aN prog 21 [fT c.E c.X c.Y] (.ret [.one (.int .i64 2)]):=by
 have h:=mB c.E c.X c.Y hC.e1 hC.xf (by have:=hC.yl;omega)
 rwa [if_neg (by rw [hok];decide)] at h
end
end Go.Sy
