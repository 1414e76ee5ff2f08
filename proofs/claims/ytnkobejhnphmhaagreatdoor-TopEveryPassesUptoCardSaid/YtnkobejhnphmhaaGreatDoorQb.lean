/- A fact of the tie. -/
import Derived.Test.YtnkobejhnphmhaaGreatDoorQa
set_option linter.all false
namespace Go.Proofs.YtnkobejhnphmhaaGreatDoor
open Go
theorem tie_k:L6.map (λx=>Tryz.prog.kindOfLater x.1)=K6.map some:=by kernel_rfl
end Go.Proofs.YtnkobejhnphmhaaGreatDoor
