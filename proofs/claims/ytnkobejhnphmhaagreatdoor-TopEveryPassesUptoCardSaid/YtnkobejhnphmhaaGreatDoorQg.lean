/- What is pinned, and what is listed, fits. -/
import Derived.Test.YtnkobejhnphmhaaGreatDoorQa
set_option linter.all false
namespace Go.Proofs.YtnkobejhnphmhaaGreatDoor
open Go
theorem noOwn:Tryz.pinned.checked.prog.headLifts.contains "ownunsafe" = false:=by kernel_rfl
theorem fitsL:Tryz.pinned.checked.prog.listedFits LA=true:=by
 unfold Program.listedFits
 rw [noOwn]
 kernel_rfl
theorem pins:∀ y ∈ LA.zip KC,y.2=.pinned→Tryz.pinned.checked.prog.pinnedFits y.1.1=true∧Pinned.datum y.1.1=some y.1.2:=by
 intro y hy e
 simp only [LA,KC,Rows.topEveryPassesUptoRow,Rows.topEveryPassesUptoCard,List.zip_cons_cons,List.zip_nil_right,List.mem_cons,List.mem_nil_iff,or_false] at hy
 rcases hy with rfl | rfl | rfl | rfl | rfl | rfl | rfl
 all_goals first
  | (cases e;done)
  | exact⟨by kernel_rfl,by kernel_rfl⟩
end Go.Proofs.YtnkobejhnphmhaaGreatDoor
