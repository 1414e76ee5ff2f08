/- A fact of the tie. -/
import Derived.Test.YtnkobejhnphmhaaGreatDoorQa
set_option linter.all false
namespace Go.Proofs.YtnkobejhnphmhaaGreatDoor
open Go
theorem tie_d:∀ os tape,varsDone Tryz.prog 400 (varsId Tryz.prog) os tape=true:=λ_ _=>by kernel_rfl
end Go.Proofs.YtnkobejhnphmhaaGreatDoor
