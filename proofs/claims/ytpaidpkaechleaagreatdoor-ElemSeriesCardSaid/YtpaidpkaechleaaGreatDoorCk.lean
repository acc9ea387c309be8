/- ElemSeries: the card, shut.
-/
import Derived.Test.YtpaidpkaechleaaGreatDoorCi
import Derived.Test.YtpaidpkaechleaaGreatDoorCg
import Derived.Test.YtpaidpkaechleaaGreatDoorCh
set_option linter.all false
namespace Go.Proofs.YtpaidpkaechleaaGreatDoor
open Go
theorem elemSeries_card:Rows.ElemSeriesCardSaid:=
 Claim7.holds_tied_plain_at .later [] _ _ _ _ Go.Sy.LP (fun _ h=>by cases h) Go.Sy.Xa (fun _ h=>by cases h) elemSeries_row_tie rfl ⟨rfl,rfl⟩ Go.Sy.Qs rfl Go.Sy.Jm Go.Sy.Qx
end Go.Proofs.YtpaidpkaechleaaGreatDoor
