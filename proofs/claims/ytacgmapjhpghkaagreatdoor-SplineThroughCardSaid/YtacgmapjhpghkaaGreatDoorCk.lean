/- SplineThrough: the card, shut.
-/
import Derived.Test.YtacgmapjhpghkaaGreatDoorCi
import Derived.Test.YtacgmapjhpghkaaGreatDoorCg
import Derived.Test.YtacgmapjhpghkaaGreatDoorCh
set_option linter.all false
namespace Go.Proofs.YtacgmapjhpghkaaGreatDoor
open Go
theorem splineThrough_card:Rows.SplineThroughCardSaid:=
 Claim7.holds_tied_plain_at .later [] _ _ _ _ Go.Sy.RD (fun _ h=>by cases h) Go.Sy.ay1 (fun _ h=>by cases h) splineThrough_row_tie rfl ⟨rfl,rfl⟩ Go.Sy.XB rfl Go.Sy.OQ Go.Sy.XL
end Go.Proofs.YtacgmapjhpghkaaGreatDoor
