/- Solutions, tails, shares. A panic on the way is caught. Reach where there is none: by hand. Tail's closure. Tail, by hand: the closure writes what it has found.
-/
import Derived.Test.YtdmcadckdnnglaaGreatDoorVb
import Derived.Test.YtdmcadckdnnglaaGreatDoorQf
import Derived.Test.YtdmcadckdnnglaaGreatDoorOa
import Derived.Test.YtdmcadckdnnglaaGreatDoorSd
set_option linter.unusedVariables false
set_option linter.unusedSimpArgs false
namespace Go.Sy
open Go Go.Proofs Tryz Ord
def Ot (fP:Rat) (n d:Int) (r:Rat):Rat:=((n+1:Int):Rat)/((n+1-d:Int):Rat)*(r/fP)
structure Bu (B:Nat) (fP:Rat) (n d:Nat) (r:Rat):Prop where
 ff:∀ j,j≤d→Fit B ((dC n j:Int):Rat)
 fr:∀ j,j≤2*n+1→Fit B (r^j)
 fo:∀ j,j≤2*n+1→Fit B (fP^j)
theorem Bu.r1 {B:Nat} {fP:Rat} {n d:Nat} {r:Rat} (h:Bu B fP n d r):Fit B r:=by have:=h.fr 1 (by omega);rwa [Rat.pow_succ,Rat.pow_zero,Rat.one_mul] at this
theorem Bu.o1 {B:Nat} {fP:Rat} {n d:Nat} {r:Rat} (h:Bu B fP n d r):Fit B fP:=by have:=h.fo 1 (by omega);rwa [Rat.pow_succ,Rat.pow_zero,Rat.one_mul] at this
theorem Bu.sh {B:Nat} {fP:Rat} {n d:Nat} {r:Rat} (h:Bu B fP n d r) (hn:n<4611686018427387904) (hd:d<4611686018427387904):Fit (128+(B+B)) (Ot fP n d r):=
 ((iA (n:=(n:Int)+1) (by omega) (by omega)).div (iA (n:=(n:Int)+1-d) (by omega) (by omega))).mul (h.r1.div h.o1)
open Go Go.Proofs Go.RowKit Tryz Ord
attribute [local go_sem] Oper.semAt_some
end Go.Sy
namespace Go.Sy
open Go Go.Proofs Go.RowKit Tryz Ord
attribute [local go_sem] Oper.semAt_some
end Go.Sy
namespace Go.Sy
open Go Go.Proofs Tryz Ord
def Rd (fP:Rat) (st:Int) (n d:Int) (r:Rat):Prop:=0≤d∧d≤4∧0≤r.num.sign∧AI (r+r) fP≤0∧st≤n∧n≤1500∧d<n
instance (fP:Rat) (st n d:Int) (r:Rat):Decidable (Rd fP st n d r):=inferInstanceAs (Decidable (_∧_))
abbrev fC (e:List (List Rat)) (c:Rat) (y:List Rat):List aF:=[eQ e]++qC c ++ [sQ y]
open Go Go.Proofs Go.RowKit Tryz Ord
attribute [local go_sem] Oper.semAt_some
end Go.Sy
