/- Part. -/
import Derived.Test.YtdmcadckdnnglaaGreatDoorIa
set_option linter.all false
namespace Go.Sy
open Go Go.Proofs Tryz Ord
def aj2(k:Int):Jo k<=256:=by unfold Jo;split<;>omega
abbrev Ww(Y:List Rat):VS:=Y.map fun y=>(y,y)
section
variable{c:bA}
def CE(hC:Lz c)(hok:okF c.E c.X c.Y=true):aL prog 21 [fT c.E c.X c.Y] (.ret [.one (.int .i64 0)]):=by
 have h:=vi c.E c.X c.Y hC.e1 hC.xf (by have:=hC.yl;omega)
 rwa[if_pos hok]at h
def Vc(hC:Lz c)(hok:okF c.E c.X c.Y=false):aL prog 21 [fT c.E c.X c.Y] (.ret [.one (.int .i64 2)]):=by
 have h:=vi c.E c.X c.Y hC.e1 hC.xf (by have:=hC.yl;omega)
 rwa[if_neg (by rw[hok];decide)]at h
end
end Go.Sy
