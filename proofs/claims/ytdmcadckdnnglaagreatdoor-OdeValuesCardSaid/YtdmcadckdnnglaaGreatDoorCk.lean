/- OdeValues: the card, shut.
-/
import Derived.Test.YtdmcadckdnnglaaGreatDoorCi
import Derived.Test.YtdmcadckdnnglaaGreatDoorCg
import Derived.Test.YtdmcadckdnnglaaGreatDoorCh
set_option linter.all false
namespace Go.Proofs.YtdmcadckdnnglaaGreatDoor
open Go
theorem odeValues_card:Rows.OdeValuesCardSaid:=
 Claim7.holds_tied_plain_at .later [] _ _ _ _ Go.Sy.Lf (fun _ h=>by cases h) Go.Sy.ad1 (fun _ h=>by cases h) odeValues_row_tie rfl ⟨rfl,rfl⟩ Go.Sy.QW rfl Go.Sy.Ih Go.Sy.Ri
end Go.Proofs.YtdmcadckdnnglaaGreatDoor
