/- A fact of the tie. -/
import Derived.Test.YtnkobejhnphmhaaGreatDoorRows
import Derived.Test.YtnkobejhnphmhaaGreatDoorCards
import Derived.LaidByTextLater
import Derived.SevenTiedAt
set_option linter.all false
namespace Go.Proofs.YtnkobejhnphmhaaGreatDoor
open Go
noncomputable abbrev LA:List (String×DataW Unit):=Rows.topEveryPassesUptoRow.laid
noncomputable abbrev KC:List LaidKind:=Rows.topEveryPassesUptoCard.laidKinds
noncomputable def L6:List (String×DataW Unit):=((LA.zip KC).filter (·.2 != .pinned)).map (·.1)
noncomputable def K6:List LaidKind:=KC.filter (· != .pinned)
def rowsG:Nat→List (Nat×Nat)
 | 0=>[(0,256)]
 | 1=>[(1,1),(15,3),(14,21)]
 | 3=>[(3,20)]
 | 4=>[(4,256)]
 | 5=>[(5,32)]
 | 6=>[(6,32)]
 | 7=>[(7,64)]
 | _=>[]
noncomputable def RS (l:List (String×DataW Unit)):List (Nat×Nat):=l.flatMap λx=>match Tryz.prog.globalNamed x.1 with
 | some g=>rowsG g
 | none=>[]
theorem tie_w:Tryz.prog.worded (varsWordLater true)=true:=by kernel_rfl
theorem tie_w2:Tryz.prog.worded (varsWordLater !true)=false:=by kernel_rfl
theorem tie_root:Tryz.prog.worded rootWordLater=true:=by kernel_rfl
theorem tie_g:(Tryz.prog.funcNamed "gosem.cut.vars").isSome=true:=by kernel_rfl
end Go.Proofs.YtnkobejhnphmhaaGreatDoor
