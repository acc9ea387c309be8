/- SplineValues: the card, shut.
-/
import Derived.Test.YtacgmapjhpghkaaGreatDoorCi
import Derived.Test.YtacgmapjhpghkaaGreatDoorCg
import Derived.Test.YtacgmapjhpghkaaGreatDoorCh
set_option linter.all false
namespace Go.Proofs.YtacgmapjhpghkaaGreatDoor
open Go
theorem splineValues_card:Rows.SplineValuesCardSaid:=
 Claim7.holds_tied_plain_at .later [] _ _ _ _ Go.Sy.NV (fun _ h=>by cases h) Go.Sy.ai3 (fun _ h=>by cases h) splineValues_row_tie rfl ⟨rfl,rfl⟩ Go.Sy.Ua rfl Go.Sy.Lg Go.Sy.Ug
end Go.Proofs.YtacgmapjhpghkaaGreatDoor
