/- SplineHermites: the card, shut.
-/
import Derived.Test.YtacgmapjhpghkaaGreatDoorCi
import Derived.Test.YtacgmapjhpghkaaGreatDoorCg
import Derived.Test.YtacgmapjhpghkaaGreatDoorCh
set_option linter.all false
namespace Go.Proofs.YtacgmapjhpghkaaGreatDoor
open Go
theorem splineHermites_card:Rows.SplineHermitesCardSaid:=
 Claim7.holds_tied_plain_at .later [] _ _ _ _ Go.Sy.Tj (fun _ h=>by cases h) Go.Sy.aT6 (fun _ h=>by cases h) splineHermites_row_tie rfl ⟨rfl,rfl⟩ Go.Sy.ae8 rfl Go.Sy.OQ Go.Sy.af3
end Go.Proofs.YtacgmapjhpghkaaGreatDoor
