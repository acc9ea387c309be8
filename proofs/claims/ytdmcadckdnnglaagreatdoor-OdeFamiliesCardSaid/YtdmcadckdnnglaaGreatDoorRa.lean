/- The reference's integers: digits to the base 2^15, the highest first. The reference's integers: the operations. The reference's integers: division, common divisors. The reference's rational numbers.
-/
import Derived.Test.YtdmcadckdnnglaaGreatDoorNb
import Derived.Test.YtdmcadckdnnglaaGreatDoorPa
set_option linter.unusedVariables false
set_option linter.unusedSimpArgs false
namespace Go.Sy
open Go Go.Proofs Tryz Ord
open Go Go.Proofs Tryz Ord
open Go Go.Proofs Tryz Ord
open Go Go.Proofs Tryz Ord
structure RQ where
 q:Rat
 z:Bool
 h:z=true→q=0
def RQ.of (q:Rat):RQ:=⟨q,false,fun h=>by cases h⟩
def RQ.nil:RQ:=⟨0,true,fun _=>rfl⟩
theorem GM {n B:Nat} (h:n<2^B):(bd n).length≤B:=Ir (Nat.lt_of_lt_of_le h (Nat.pow_le_pow_left (by omega) B))
theorem Fit.bd {B:Nat} {q:Rat} (h:Fit B q):(bd q.num.natAbs).length≤B∧(bd q.den).length≤B:=⟨GM h.1,GM h.2⟩
end Go.Sy
