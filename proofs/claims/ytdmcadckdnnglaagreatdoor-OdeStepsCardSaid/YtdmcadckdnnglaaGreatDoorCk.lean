/- OdeSteps: the card, shut.
-/
import Derived.Test.YtdmcadckdnnglaaGreatDoorCi
import Derived.Test.YtdmcadckdnnglaaGreatDoorCg
import Derived.Test.YtdmcadckdnnglaaGreatDoorCh
set_option linter.unusedVariables false
set_option linter.unusedSimpArgs false
namespace Go.Proofs.YtdmcadckdnnglaaGreatDoor
open Go
theorem odeSteps_card:Rows.OdeStepsCardSaid:=
 Claim7.holds_tied_plain_at .later [] _ _ _ _ Go.Sy.HE (fun _ h=>by cases h) Go.Sy.VC (fun _ h=>by cases h) odeSteps_row_tie rfl ⟨rfl,rfl⟩ Go.Sy.OT rfl Go.Sy.Gp Go.Sy.NX
end Go.Proofs.YtdmcadckdnnglaaGreatDoor
