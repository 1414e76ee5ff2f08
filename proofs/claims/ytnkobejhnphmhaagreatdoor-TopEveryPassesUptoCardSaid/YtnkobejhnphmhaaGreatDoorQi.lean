/- The card of what is said. -/
import Derived.Test.YtnkobejhnphmhaaGreatDoorCards
import Derived.Test.YtnkobejhnphmhaaGreatDoorQh
set_option linter.all false
namespace Go.Proofs.YtnkobejhnphmhaaGreatDoor
open Go
theorem none_goes:Tryz.prog.funcs.toList.all (λfn=>!fn.goes)=true:=by kernel_rfl
theorem no_goes (g:Nat):(Tryz.prog.funcs[g]?).any Func.goes=false:=by
 cases h:Tryz.prog.funcs[g]? with
 | none=>rfl
 | some fn=>
  have hm:fn ∈ Tryz.prog.funcs.toList:=by rw [Array.mem_toList_iff];exact Array.mem_of_getElem? h
  have:=List.all_eq_true.1 none_goes fn hm
  simpa using this
theorem any_goes:Tryz.prog.funcs.any Func.goes=false:=by
 rw [Bool.eq_false_iff]
 intro h
 rw [Array.any_eq_true] at h
 obtain⟨i,hi,h2⟩:=h
 have:=no_goes i
 rw [Array.getElem?_eq_getElem hi] at this
 rw [Option.any_some,h2] at this
 cases this
theorem prog_goes (f:FuncId):Tryz.prog.goes f=false:=by
 unfold Program.goes
 rw [any_goes,Bool.and_false,Bool.or_false,Bool.eq_false_iff]
 intro h
 rw [List.any_eq_true] at h
 obtain⟨g,_,h2⟩:=h
 rw [no_goes g] at h2
 cases h2
theorem any_none {P:Program} (h:∀ f,P.goes f=false) (o:Option FuncId):o.any P.goes=false:=by
 cases o with
 | none=>rfl
 | some f=>exact h f
theorem goesBy_of {P:Program} {c:OpenClaim} (hs:c.start=.entering) (h:∀ f,P.goes f=false):false=c.goesBy P:=by
 unfold OpenClaim.goesBy Program.goesAt Program.goesFrom
 rw [hs,any_none h]
 rfl
theorem c_start:Rows.topEveryPassesUptoRow.start=.entering:=rfl
theorem c_goes:false=Rows.topEveryPassesUptoRow.goesBy Tryz.pinned.checked.prog:=goesBy_of c_start prog_goes
theorem c_wf:Rows.topEveryPassesUptoRow.wfByText (Rows.OpenSpec.upto Rows.topEveryPassesSpec)=true:=by kernel_rfl
set_option maxRecDepth 100000 in
theorem c_main:Tryz.pinned.checked.prog.mainIs=some (true, "d9a8915858e4b87e24bd1a1866b6a13dc4711e5859fe0a83000cc987ad299a6b".toList):=by kernel_rfl
theorem c_func:Tryz.prog.funcNamed "tidegate/tidegatetop.TopEveryPasses" = some 3:=by kernel_rfl
set_option maxRecDepth 100000 in
theorem c_plain (f:FuncId) (fn:Func) (hf:Tryz.pinned.checked.prog.funcNamed "tidegate/tidegatetop.TopEveryPasses" = some f) (hfn:Tryz.pinned.checked.prog.funcs[f]? = some fn) :
  true=Tryz.pinned.checked.prog.looks []∧∀ (j:Nat) t,fn.params[j]? = some t→Tryz.pinned.checked.prog.wantsStandIn t=false:=by
 obtain rfl:f=3:=Option.some.inj (c_func.symm.trans hf) |>.symm
 obtain rfl:fn=Tryz.f3:=(Option.some.inj (Tryz.func3.symm.trans hfn)).symm
 refine⟨by kernel_rfl,λj t ht=>?_⟩
 rw [Tryz.params3] at ht
 have hm:=Array.mem_of_getElem? ht
 simp only [List.mem_toArray,List.mem_cons,List.mem_nil_iff,or_false] at hm
 have h1:Tryz.prog.wantsStandIn 30=false:=by kernel_rfl
 have h2:Tryz.prog.wantsStandIn 31=false:=by kernel_rfl
 rcases hm with h | h
 ·rw [h];exact h1
 ·rw [h];exact h2
set_option maxRecDepth 100000 in
theorem cardOf (said:Rows.TopEveryPassesUptoSaid):Rows.TopEveryPassesUptoCardSaid:=
 Claim7.holds_tied_plain_at .later [] _ _ _ _ said (λ_ h=>by cases h) c_wf (λ_ h=>by cases h) upto_tie rfl ⟨rfl,rfl⟩ c_main rfl c_plain c_goes
end Go.Proofs.YtnkobejhnphmhaaGreatDoor
