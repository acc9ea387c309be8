/- ElemNames: the card, shut.
-/
import Derived.Test.YtpaidpkaechleaaGreatDoorCi
import Derived.Test.YtpaidpkaechleaaGreatDoorCg
import Derived.Test.YtpaidpkaechleaaGreatDoorCh
set_option linter.all false
namespace Go.Proofs.YtpaidpkaechleaaGreatDoor
open Go
theorem elemNames_card:Rows.ElemNamesCardSaid:=
 Claim7.holds_tied_plain_at .later [] _ _ _ _ Go.Sy.KB (fun _ h=>by cases h) Go.Sy.UA (fun _ h=>by cases h) elemNames_row_tie rfl ⟨rfl,rfl⟩ Go.Sy.OY rfl Go.Sy.Ic Go.Sy.Pd
end Go.Proofs.YtpaidpkaechleaaGreatDoor
