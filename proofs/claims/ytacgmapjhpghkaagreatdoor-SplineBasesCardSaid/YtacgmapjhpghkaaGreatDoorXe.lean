/- Part. -/
import Derived.Test.YtacgmapjhpghkaaGreatDoorXd
set_option linter.all false
namespace Go.Sy
open Go Go.Proofs Tryz Ord
section
variable{x y:List Rat}(D:Dat x y)
include D
end
section
variable{x y m:List Rat}(D:Dat x y)(he:bl3 x y m)
include D
end
end Go.Sy
