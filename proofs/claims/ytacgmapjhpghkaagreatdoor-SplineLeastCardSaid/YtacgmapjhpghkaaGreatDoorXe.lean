/- Part. -/
import Derived.Test.YtacgmapjhpghkaaGreatDoorXd
import Derived.Test.YtacgmapjhpghkaaGreatDoorWg
set_option linter.all false
namespace Go.Sy
open Go Go.Proofs Tryz Ord
section
variable {x y:List Rat} (D:Ar x y)
include D
end
def lD (x:List Rat) (P:Nat->List Rat):List (List Rat):=(List.range (x.length-1)).map P
theorem sO (x:List Rat) (P:Nat->List Rat):(lD x P).length=x.length-1:=by simp [lD]
theorem am3 {x:List Rat} {P:Nat->List Rat} {i:Nat} (hi:i+1<x.length):(lD x P).getD i []=P i:=by
 rw [lD,fV,dL,List.getElem?_range (by omega)];rfl
theorem ad8 (x:List Rat) (P:Nat->List Rat):mW (lD x P)=lD x fun i=>cM (P i):=by rw [mW,lD,List.map_map];rfl
section
variable {x y m:List Rat} (D:Ar x y) (he:AM x y m)
include D
end
theorem wne {x:List Rat} (hr:kE true x=true) {i:Nat} (hi:i+1<x.length:=by omega):x.getD (i+1) 0-x.getD i 0≠0:=by
 have:=Cc hr (Nat.lt_succ_self i) hi;intro e;grind
theorem av0 (x y:List Rat) (i:Nat):(mX x y i).length<=4:=tL _ _ _ _
theorem au1 {x y:List Rat} (D:Ar x y) (i:Nat):∀ a∈mX x y i,Fit 20000 a:=
 TR (aC D.hx i) (aC D.hx (i+1)) (aC D.hy i) (aC D.hy (i+1)) (aC (Ej D.h D.d) i) (aC (Ej D.h D.d) (i+1))
open Go Go.Proofs Tryz Ord
theorem pG {l:List dJ} {m:Int} (h:eU l m=true):(l.length:Int)<=m/\∀ a∈aU l,Fit 40 a:=by
 rw [eU,Bool.and_eq_true,List.all_eq_true,decide_eq_true_eq] at h;refine ⟨h.2,fun a ha=>?_⟩;obtain ⟨x,hx,rfl⟩:=eM.1 ha;exact al7 (h.1 x hx)
instance (l:List Rat) (x:Rat):Decidable (inD l x):=inferInstanceAs (Decidable (_/\_))
end Go.Sy
