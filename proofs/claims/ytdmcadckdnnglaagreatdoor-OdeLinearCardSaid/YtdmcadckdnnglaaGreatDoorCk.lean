/- OdeLinear: the card, shut.
-/
import Derived.Test.YtdmcadckdnnglaaGreatDoorCi
import Derived.Test.YtdmcadckdnnglaaGreatDoorCg
import Derived.Test.YtdmcadckdnnglaaGreatDoorCh
set_option linter.all false
namespace Go.Proofs.YtdmcadckdnnglaaGreatDoor
open Go
theorem odeLinear_card:Rows.OdeLinearCardSaid:=
 Claim7.holds_tied_plain_at .later [] _ _ _ _ Go.Sy.ID (fun _ h=>by cases h) Go.Sy.Xa (fun _ h=>by cases h) odeLinear_row_tie rfl ⟨rfl,rfl⟩ Go.Sy.OF rfl Go.Sy.GM Go.Sy.ON
end Go.Proofs.YtdmcadckdnnglaaGreatDoor
