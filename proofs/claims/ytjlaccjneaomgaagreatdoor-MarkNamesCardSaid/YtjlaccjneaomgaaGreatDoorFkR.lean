/- Closed runs. -/
import Derived.Test.YtjlaccjneaomgaaGreatDoorFkTz
namespace Go.Proofs.YtjlaccjneaomgaaGreatDoor
open Go Go.Fk
set_option maxRecDepth 1000000
theorem live_ev : okB (evF pr 60 (.func (.func 7) [] []) [] .empty) = true := by kernel_rfl
end Go.Proofs.YtjlaccjneaomgaaGreatDoor
