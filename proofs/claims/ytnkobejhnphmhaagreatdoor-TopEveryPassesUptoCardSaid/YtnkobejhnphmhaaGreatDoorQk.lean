/- The witness: what else is asked. -/
import Derived.Test.YtnkobejhnphmhaaGreatDoorQj
set_option linter.all false
namespace Go.Proofs.YtnkobejhnphmhaaGreatDoor
open Go Go.ChangeShapes Go.WideShapes Go.ChangeAt Go.RowKit
theorem wv (os:Os):((laidWorld os).forCall (λ_ _=>0) ⟨#[],wArgs,[]⟩).variablesRefB Tryz.checked.prog=true:=by kernel_rfl
theorem wr0 (os:Os):(((laidWorld os).forCall (λ_ _=>0) ⟨#[],wArgs,[]⟩).heap.toList.drop Tryz.checked.prog.globals.size).take ((begin Tryz.checked.prog (λ_ _=>0) default).world.heap.size - Tryz.checked.prog.globals.size) =
  (begin Tryz.checked.prog (λ_ _=>0) default).world.heap.toList.drop Tryz.checked.prog.globals.size:=by kernel_rfl
theorem wok (os:Os):Input.okWideB Tryz.checked.prog ((laidWorld os).forCall (λ_ _=>0) ⟨#[],wArgs,[]⟩) 3 ⟨#[],wArgs,[]⟩=true:=by kernel_rfl
end Go.Proofs.YtnkobejhnphmhaaGreatDoor
