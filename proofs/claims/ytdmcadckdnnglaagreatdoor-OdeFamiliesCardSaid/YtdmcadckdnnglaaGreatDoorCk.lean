/- OdeFamilies: the card, shut.
-/
import Derived.Test.YtdmcadckdnnglaaGreatDoorCi
import Derived.Test.YtdmcadckdnnglaaGreatDoorCg
import Derived.Test.YtdmcadckdnnglaaGreatDoorCh
set_option linter.unusedVariables false
set_option linter.unusedSimpArgs false
namespace Go.Proofs.YtdmcadckdnnglaaGreatDoor
open Go
theorem odeFamilies_card:Rows.OdeFamiliesCardSaid:=
 Claim7.holds_tied_plain_at .later [] _ _ _ _ Go.Sy.Dz (fun _ h=>by cases h) Go.Sy.MG (fun _ h=>by cases h) odeFamilies_row_tie rfl ⟨rfl,rfl⟩ Go.Sy.HE rfl Go.Sy.Ci Go.Sy.HJ
end Go.Proofs.YtdmcadckdnnglaaGreatDoor
