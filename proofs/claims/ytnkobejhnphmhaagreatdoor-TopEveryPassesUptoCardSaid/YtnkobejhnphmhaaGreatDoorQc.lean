/- A fact of the tie. -/
import Derived.Test.YtnkobejhnphmhaaGreatDoorQa
set_option linter.all false
namespace Go.Proofs.YtnkobejhnphmhaaGreatDoor
open Go
theorem tie_n:varsNamedLaterB Tryz.prog (varsId Tryz.prog) L6=true:=by kernel_rfl
end Go.Proofs.YtnkobejhnphmhaaGreatDoor
