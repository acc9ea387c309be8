/- SplineLeast: the card, shut.
-/
import Derived.Test.YtacgmapjhpghkaaGreatDoorCi
import Derived.Test.YtacgmapjhpghkaaGreatDoorCg
import Derived.Test.YtacgmapjhpghkaaGreatDoorCh
set_option linter.all false
namespace Go.Proofs.YtacgmapjhpghkaaGreatDoor
open Go
theorem splineLeast_card:Rows.SplineLeastCardSaid:=
 Claim7.holds_tied_plain_at .later [] _ _ _ _ Go.Sy.Sv (fun _ h=>by cases h) Go.Sy.aA2 (fun _ h=>by cases h) splineLeast_row_tie rfl ⟨rfl,rfl⟩ Go.Sy.Ys rfl Go.Sy.Pt Go.Sy.YA
end Go.Proofs.YtacgmapjhpghkaaGreatDoor
