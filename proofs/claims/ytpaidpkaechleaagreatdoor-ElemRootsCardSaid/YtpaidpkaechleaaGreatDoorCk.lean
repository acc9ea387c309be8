/- ElemRoots: the card, shut.
-/
import Derived.Test.YtpaidpkaechleaaGreatDoorCi
import Derived.Test.YtpaidpkaechleaaGreatDoorCg
import Derived.Test.YtpaidpkaechleaaGreatDoorCh
set_option linter.all false
namespace Go.Proofs.YtpaidpkaechleaaGreatDoor
open Go
theorem elemRoots_card:Rows.ElemRootsCardSaid:=
 Claim7.holds_tied_plain_at .later [] _ _ _ _ Go.Sy.Dk (fun _ h=>by cases h) Go.Sy.NZ (fun _ h=>by cases h) elemRoots_row_tie rfl ⟨rfl,rfl⟩ Go.Sy.HE rfl Go.Sy.AP Go.Sy.HI
end Go.Proofs.YtpaidpkaechleaaGreatDoor
