/- SplineBases: the card, shut.
-/
import Derived.Test.YtacgmapjhpghkaaGreatDoorCi
import Derived.Test.YtacgmapjhpghkaaGreatDoorCg
import Derived.Test.YtacgmapjhpghkaaGreatDoorCh
set_option linter.all false
namespace Go.Proofs.YtacgmapjhpghkaaGreatDoor
open Go
theorem splineBases_card:Rows.SplineBasesCardSaid:=
 Claim7.holds_tied_plain_at .later [] _ _ _ _ Go.Sy.TM (fun _ h=>by cases h) Go.Sy.aX4 (fun _ h=>by cases h) splineBases_row_tie rfl ⟨rfl,rfl⟩ Go.Sy.ai8 rfl Go.Sy.OT Go.Sy.aj6
end Go.Proofs.YtacgmapjhpghkaaGreatDoor
