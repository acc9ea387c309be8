/- SplineNaturals: the card, shut.
-/
import Derived.Test.YtacgmapjhpghkaaGreatDoorCi
import Derived.Test.YtacgmapjhpghkaaGreatDoorCg
import Derived.Test.YtacgmapjhpghkaaGreatDoorCh
set_option linter.all false
namespace Go.Proofs.YtacgmapjhpghkaaGreatDoor
open Go
theorem splineNaturals_card:Rows.SplineNaturalsCardSaid:=
 Claim7.holds_tied_plain_at .later [] _ _ _ _ Go.Sy.Wx (fun _ h=>by cases h) Go.Sy.bm6 (fun _ h=>by cases h) splineNaturals_row_tie rfl ⟨rfl,rfl⟩ Go.Sy.ax0 rfl Go.Sy.RJ Go.Sy.ax8
end Go.Proofs.YtacgmapjhpghkaaGreatDoor
