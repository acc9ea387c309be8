/- Part. -/
import Derived.Test.YtacgmapjhpghkaaGreatDoorXd
import Derived.Test.YtacgmapjhpghkaaGreatDoorWg
set_option linter.all false
namespace Go.Sy
open Go Go.Proofs Tryz Ord
section
variable{x y:List Rat}(D:Dat x y)
include D
end
section
variable{x y m:List Rat}(D:Dat x y)(he:bg7 x y m)
include D
end
theorem Yr{l:List eo}{m:Int}(h:qh l m=true):(l.length:Int)<=m/\∀a∈cE l,Fit 40 a:=by
 rw[qh,bR,eu,jd]at h;refine⟨h.2,fun a ha=>?_⟩;obtain⟨x,hx,rfl⟩:=dn.1 ha;exact aD6 (h.1 x hx)
instance (l:List Rat) (x:Rat):Decidable (inD l x):=inferInstanceAs (Decidable (_/\_))
end Go.Sy
