/- A fact of the tie. -/
import Derived.Test.YtnkobejhnphmhaaGreatDoorQa
set_option linter.all false
namespace Go.Proofs.YtnkobejhnphmhaaGreatDoor
open Go
theorem tie_1:∀ os tape,(DataW.laidRun Tryz.prog (varsWorld Tryz.prog 400 (varsId Tryz.prog) os tape).memory 8 (L6.map (·.1))).map (·.1)=some L6:=λ_ _=>by kernel_rfl
end Go.Proofs.YtnkobejhnphmhaaGreatDoor
