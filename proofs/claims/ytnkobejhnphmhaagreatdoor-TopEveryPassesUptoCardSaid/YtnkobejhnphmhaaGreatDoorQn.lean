/- What is said of TopEveryPasses, within the bound. -/
import Derived.Test.YtnkobejhnphmhaaGreatDoorQl
import Derived.Test.YtnkobejhnphmhaaGreatDoorQm
import Derived.Test.YtnkobejhnphmhaaGreatDoorQp
import Derived.Deep.DeepHandedRow
set_option linter.all false
namespace Go.Proofs.YtnkobejhnphmhaaGreatDoor
open Go Go.ChangeShapes Go.WideShapes Go.ChangeAt Go.RowKit
theorem own:ownKnob Tryz.prog.godebug=none:=by kernel_rfl
theorem no_init:Tryz.checked.prog.inits.idxOf? 3=none:=by kernel_rfl
set_option maxRecDepth 100000 in
theorem lifted (os:Os) (started:os.Started) (H:Type) (enc:TypeId×Value→H) (F:Stop.Interp) :
  ReturnsInHanded {} Tryz.checked os 3 .any ((Rows.OpenSpec.upto Rows.topEveryPassesSpec).preRow enc Tryz.prog Tryz.f3 Rows.topEveryPassesUptoRow.domain false Rows.topEveryPassesUptoRow.laid) (((Rows.OpenSpec.upto Rows.topEveryPassesSpec).at F).post enc Tryz.prog Tryz.f3 false true false false):=by
 refine returnsInHanded_of_row (C:=Tryz.checked) (s:=Rows.OpenSpec.upto Rows.topEveryPassesSpec) own started no_init Tryz.func3
  (witness_row_atRef (enc:=enc) (C:=Tryz.checked) false (laidWorld os) wArgs rfl (wv os) (wr0 os) (wok os) (w_row os enc)) ?_
 intro W base args ds gs before hval hW _ hcond _ hL _ _
 exact contract H enc W base args ds gs before hval hW (hcond _ rfl) hL
theorem named3:Tryz.pinned.checked.prog.funcNamed Rows.topEveryPassesUptoRow.func=some 3:=by kernel_rfl
theorem said:Rows.TopEveryPassesUptoSaid:=
 OpenClaim.holds_of_cond 3 Tryz.f3 rfl rfl rfl rfl rfl rfl rfl ⟨rfl,rfl,rfl,rfl,rfl⟩ rfl rfl rfl rfl rfl named3 Tryz.func3 joined
  (of_decide_eq_true (by kernel_rfl)) (by unfold Func.isWrapper;first | (rw [if_pos (by decide +kernel)];kernel_rfl) | (rw [if_neg (by decide +kernel)];exact⟨rfl,rfl⟩))
  (λos started H enc _ F=>by rw [OpenClaim.pre_eq_preRow];exact lifted os started H enc F)
end Go.Proofs.YtnkobejhnphmhaaGreatDoor
