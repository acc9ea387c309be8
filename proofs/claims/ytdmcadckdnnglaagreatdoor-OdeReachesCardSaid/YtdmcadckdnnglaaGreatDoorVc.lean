/- OdeSeries. The derivative; falling factors of the law; the sums of OdeSolves.
-/
import Derived.Test.YtdmcadckdnnglaaGreatDoorVb
import Derived.Test.YtdmcadckdnnglaaGreatDoorPc
set_option linter.unusedVariables false
set_option linter.unusedSimpArgs false
namespace Go.Sy
open Go Go.Proofs Tryz Ord
theorem Rg (l:List Rat):(l.map RQ.of).map RQ.q = l:=by
 rw [List.map_map]; exact (List.map_congr_left fun x _=>rfl).trans (List.map_id l)
theorem Hs {c:bI} (h:jT c):aL prog 22 [fR c.ER c.XR c.YR] (.ret [.one (.bool (okF c.E c.X c.Y))]):=by
 have hd:=Qt c.ER c.XR c.YR h.e2 (by rw [h.x]; exact h.xf) (by have:=congrArg List.length h.y; rw [List.length_map] at this; have:=h.yl; omega)
 have e:okF (eC c.ER) c.XR.q (c.YR.map RQ.q) = okF c.E c.X c.Y:=by rw [h.y,h.x,h.sim.okF]
 rw [e] at hd
 exact hd
end Go.Sy
namespace Go.Sy
open Go Go.Proofs Tryz Ord
end Go.Sy
