/- Part. -/
import Derived.Test.YtpaidpkaechleaaGreatDoorNb
set_option linter.all false
namespace Go.Sy
open Go Go.Proofs Tryz Ord
open Go Go.Proofs Tryz Ord
open Go Go.Proofs Tryz Ord
open Go Go.Proofs Tryz Ord
structure RQ where
 q:Rat
 z:Bool
 h:z=true→q=0
def RQ.of (q:Rat):RQ:=⟨q,false,fun h=>by cases h⟩
def RQ.nil:RQ:=⟨0,true,fun _=>rfl⟩
theorem NL {n B:Nat} (h:n<2^B):(bd n).length≤B:=PQ (Nat.lt_of_lt_of_le h (Nat.pow_le_pow_left (by omega) B))
theorem Fit.bd {B:Nat} {q:Rat} (h:Fit B q):(bd q.num.natAbs).length≤B∧(bd q.den).length≤B:=⟨NL h.1,NL h.2⟩
end Go.Sy
