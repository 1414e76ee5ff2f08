/- TopEveryPasses, within the bound: the card. For every request and reply and every list of texts of bulk at most 2 to the 20th. -/
import Derived.Test.YtnkobejhnphmhaaGreatDoorQi
import Derived.Test.YtnkobejhnphmhaaGreatDoorQn
set_option linter.all false
namespace Go.Proofs.YtnkobejhnphmhaaGreatDoor
open Go
theorem proved:Rows.TopEveryPassesUptoCardSaid:=cardOf said
end Go.Proofs.YtnkobejhnphmhaaGreatDoor
