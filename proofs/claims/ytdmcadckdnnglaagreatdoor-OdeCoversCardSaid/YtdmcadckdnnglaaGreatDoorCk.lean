/- The given program's OdeCovers (ordinatelaw10) returns true of every case, gap, part and k, and leaves its arguments as they were: the tied card. Conditions: none beyond the given statement's own. -/
import Derived.Test.YtdmcadckdnnglaaGreatDoorCi
import Derived.Test.YtdmcadckdnnglaaGreatDoorCg
import Derived.Test.YtdmcadckdnnglaaGreatDoorCh
set_option linter.all false
namespace Go.Proofs.YtdmcadckdnnglaaGreatDoor
open Go
theorem odeCovers_card:Rows.OdeCoversCardSaid:=
 Claim7.holds_tied_plain_at .later [] _ _ _ _ Go.Sy.Nv (fun _ h=>by cases h) Go.Sy.ax2 (fun _ h=>by cases h) odeCovers_row_tie rfl ⟨rfl,rfl⟩ Go.Sy.Vj rfl Go.Sy.Ky Go.Sy.Vr
end Go.Proofs.YtdmcadckdnnglaaGreatDoor
