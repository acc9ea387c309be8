/- The given program's OdeChanges (ordinatelaw10) returns true of every case and gap, and leaves its arguments as they were: the tied card. Conditions: none beyond the given statement's own. -/
import Derived.Test.YtdmcadckdnnglaaGreatDoorCi
import Derived.Test.YtdmcadckdnnglaaGreatDoorCg
import Derived.Test.YtdmcadckdnnglaaGreatDoorCh
set_option linter.all false
namespace Go.Proofs.YtdmcadckdnnglaaGreatDoor
open Go
theorem odeChanges_card:Rows.OdeChangesCardSaid:=
 Claim7.holds_tied_plain_at .later [] _ _ _ _ Go.Sy.Ug (fun _ h=>by cases h) Go.Sy.bj1 (fun _ h=>by cases h) odeChanges_row_tie rfl ⟨rfl,rfl⟩ Go.Sy.al9 rfl Go.Sy.Ri Go.Sy.an0
end Go.Proofs.YtdmcadckdnnglaaGreatDoor
