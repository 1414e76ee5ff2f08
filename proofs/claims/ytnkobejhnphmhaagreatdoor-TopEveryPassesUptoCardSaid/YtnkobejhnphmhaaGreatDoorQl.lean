/- The witness: its row. -/
import Derived.Test.YtnkobejhnphmhaaGreatDoorQk
set_option linter.all false
namespace Go.Proofs.YtnkobejhnphmhaaGreatDoor
open Go Go.ChangeShapes Go.WideShapes Go.ChangeAt Go.RowKit
set_option maxRecDepth 100000 in
theorem w_row (os:Os) {H:Type} (enc:TypeId×Value→H) :
  (Rows.OpenSpec.upto Rows.topEveryPassesSpec).preRow enc Tryz.prog Tryz.f3 Rows.topEveryPassesUptoRow.domain false Rows.topEveryPassesUptoRow.laid (wMem os) wArgs:=by
 have hw:(DataW.whole enc Tryz.prog (wMem os) Tryz.f3.params.toList Rows.topEveryPassesSpec.vars false wArgs.toList 8).map (λx=>(x.1,x.2.1)) =
   some ([.agg [.agg [.lit (.bool false),.lit (.int .i64 0),.lit (.int .i64 0)],.agg [.lit (.string []),.lit (.bool false),.lit (.bool false),.lit (.int .i64 0)],.agg [.lit (.int .i64 0),.nil],.lit (.bool false)],.nil],[]):=by kernel_rfl
 obtain⟨⟨x1,x2,x3⟩,hx,hx1⟩:=Option.map_eq_some_iff.1 hw
 simp only [Prod.mk.injEq] at hx1
 obtain⟨rfl,rfl⟩:=hx1
 exact OpenSpec.preRow_of_cond 8 hx (by kernel_rfl) (λk hk=>by cases hk;kernel_rfl) (by kernel_rfl) (wt_met os)
end Go.Proofs.YtnkobejhnphmhaaGreatDoor
