/- OdeBack: the card, shut.
-/
import Derived.Test.YtdmcadckdnnglaaGreatDoorCi
import Derived.Test.YtdmcadckdnnglaaGreatDoorCg
import Derived.Test.YtdmcadckdnnglaaGreatDoorCh
set_option linter.unusedVariables false
set_option linter.unusedSimpArgs false
namespace Go.Proofs.YtdmcadckdnnglaaGreatDoor
open Go
theorem odeBack_card:Rows.OdeBackCardSaid:=
 Claim7.holds_tied_plain_at .later [] _ _ _ _ Go.Sy.Jj (fun _ h=>by cases h) Go.Sy.Xh (fun _ h=>by cases h) odeBack_row_tie rfl ⟨rfl,rfl⟩ Go.Sy.Pe rfl Go.Sy.He Go.Sy.Pn
end Go.Proofs.YtdmcadckdnnglaaGreatDoor
