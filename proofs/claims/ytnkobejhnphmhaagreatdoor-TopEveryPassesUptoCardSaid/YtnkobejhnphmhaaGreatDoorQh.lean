/- The tie, of its nine facts. -/
import Derived.Test.YtnkobejhnphmhaaGreatDoorQb
import Derived.Test.YtnkobejhnphmhaaGreatDoorQc
import Derived.Test.YtnkobejhnphmhaaGreatDoorQd
import Derived.Test.YtnkobejhnphmhaaGreatDoorQe
import Derived.Test.YtnkobejhnphmhaaGreatDoorQf
import Derived.Test.YtnkobejhnphmhaaGreatDoorQg
set_option linter.all false
namespace Go.Proofs.YtnkobejhnphmhaaGreatDoor
open Go
theorem tieL:Tryz.prog.laidByTextLater L6 K6 true:=
 Program.laidByTextLater_by_run 400 8 tie_w tie_w2 tie_root tie_k tie_g tie_n tie_d tie_1 tie_2
theorem upto_tie:Rows.topEveryPassesUptoRow.laidByTextAt .later Tryz.pinned Rows.topEveryPassesUptoCard.laidKinds true:=
 OpenClaim.laidByTextAt_pinned rfl rfl tieL rfl rfl rfl rfl pins fitsL
end Go.Proofs.YtnkobejhnphmhaaGreatDoor
