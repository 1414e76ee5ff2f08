/- A world for the witness: the tables as they are laid. -/
import Derived.Test.YtnkobejhnphmhaaGreatDoorQf
import Derived.Deep.DeepWitnessRowRef
import Derived.WalkKit
import Derived.ProofKit
import Derived.OpenShut
set_option linter.all false
namespace Go.Proofs.YtnkobejhnphmhaaGreatDoor
open Go Go.ChangeShapes Go.WideShapes Go.ChangeAt Go.RowKit
def tbFirst:Array Value:=(([240,240,240,240,240,240,240,240,240,240,240,240,240,240,240,240,240,240,240,240,240,240,240,240,240,240,240,240,240,240,240,240,240,240,240,240,240,240,240,240,240,240,240,240,240,240,240,240,240,240,240,240,240,240,240,240,240,240,240,240,240,240,240,240,240,240,240,240,240,240,240,240,240,240,240,240,240,240,240,240,240,240,240,240,240,240,240,240,240,240,240,240,240,240,240,240,240,240,240,240,240,240,240,240,240,240,240,240,240,240,240,240,240,240,240,240,240,240,240,240,240,240,240,240,240,240,240,240,241,241,241,241,241,241,241,241,241,241,241,241,241,241,241,241,241,241,241,241,241,241,241,241,241,241,241,241,241,241,241,241,241,241,241,241,241,241,241,241,241,241,241,241,241,241,241,241,241,241,241,241,241,241,241,241,241,241,241,241,241,241,241,241,241,241,2,2,2,2,2,2,2,2,2,2,2,2,2,2,2,2,2,2,2,2,2,2,2,2,2,2,2,2,2,2,19,3,3,3,3,3,3,3,3,3,3,3,3,35,3,3,52,4,4,4,68,241,241,241,241,241,241,241,241,241,241,241]:List Int).map λz=>Value.int .u8 z).toArray
def tbAcc:Array Value:=(([128,191,160,191,128,159,144,191,128,143,0,0,0,0,0,0,0,0,0,0,0,0,0,0,0,0,0,0,0,0,0,0]:List Int).map λz=>Value.int .u8 z).toArray
def tbPow:Array Value:=(([1,10,100,1000,10000,100000,1000000,10000000,100000000,1000000000,10000000000,100000000000,1000000000000,10000000000000,100000000000000,1000000000000000,10000000000000000,100000000000000000,1000000000000000000,10000000000000000000]:List Int).map λz=>Value.int .u64 z).toArray
def tb32:Array Value:=(([0,1,28,2,29,14,24,3,30,22,20,15,25,17,4,8,31,27,13,23,21,19,16,7,26,12,18,6,11,5,10,9]:List Int).map λz=>Value.int .u8 z).toArray
def tb64:Array Value:=(([0,1,56,2,57,49,28,3,61,58,42,50,38,29,17,4,62,47,59,36,45,43,51,22,53,39,33,30,24,18,12,5,63,55,48,27,60,41,37,16,46,35,44,21,52,32,23,11,54,26,40,15,34,20,31,10,25,14,19,9,13,8,7,6]:List Int).map λz=>Value.int .u8 z).toArray
def tbAsp:Array Value:=(([0,0,0,0,0,0,0,0,0,1,1,1,1,1,0,0,0,0,0,0,0,0,0,0,0,0,0,0,0,0,0,0,1,0,0,0,0,0,0,0,0,0,0,0,0,0,0,0,0,0,0,0,0,0,0,0,0,0,0,0,0,0,0,0,0,0,0,0,0,0,0,0,0,0,0,0,0,0,0,0,0,0,0,0,0,0,0,0,0,0,0,0,0,0,0,0,0,0,0,0,0,0,0,0,0,0,0,0,0,0,0,0,0,0,0,0,0,0,0,0,0,0,0,0,0,0,0,0,0,0,0,0,0,0,0,0,0,0,0,0,0,0,0,0,0,0,0,0,0,0,0,0,0,0,0,0,0,0,0,0,0,0,0,0,0,0,0,0,0,0,0,0,0,0,0,0,0,0,0,0,0,0,0,0,0,0,0,0,0,0,0,0,0,0,0,0,0,0,0,0,0,0,0,0,0,0,0,0,0,0,0,0,0,0,0,0,0,0,0,0,0,0,0,0,0,0,0,0,0,0,0,0,0,0,0,0,0,0,0,0,0,0,0,0,0,0,0,0,0,0,0,0,0,0,0,0]:List Int).map λz=>Value.int .u8 z).toArray
def tbWs:Array Value:=(([9,13,1,32,133,101,160,5760,5600,8192,8202,1,8232,8233,1,8239,8287,48,12288,12288,1]:List Int).map λz=>Value.int .u16 z).toArray
noncomputable def laidWorld (os:Os):World:=
 let w0:=World.holding Tryz.prog os ⟨#[.cells tbWs 345,.cells #[.slice (some ⟨14,0,none⟩) 7 7,.slice none 0 0,.int .i64 2] 342],#[],[]⟩
 let put (h:Array Obj) (g:Nat) (cs:Array Value):Array Obj:=h.modify g fun
  | .cells _ t frozen=>.cells cs t frozen
  | o=>o
 let h0:=put (put w0.heap 0 tbAsp) 1 #[.pointer (some ⟨15,0,none⟩)]
 let h1:=put (put h0 3 tbPow) 4 tbFirst
 let h2:=put (put (put h1 5 tbAcc) 6 tb32) 7 tb64
 {w0 with heap:=h2 }
def wArgs:Array Value:=#[.agg #[.bool false,.int .i64 0,.int .i64 0,.string ⟨#[]⟩,.bool false,.bool false,.int .i64 0,.int .i64 0,.slice none 0 0,.bool false],.slice none 0 0]
noncomputable abbrev wMem (os:Os):World:=((laidWorld os).forCall (λ_ _=>0) ⟨#[],wArgs,[]⟩).memory
theorem wt_1 (os:Os):(DataW.laidRun Tryz.prog (wMem os) 8 (Rows.topEveryPassesUptoRow.laid.map (·.1))).map (·.1)=some Rows.topEveryPassesUptoRow.laid:=by kernel_rfl
theorem wt_p (os:Os):(DataW.laidRun Tryz.prog (wMem os) 8 (Rows.topEveryPassesUptoRow.laid.map (·.1))).map (·.2)=some (rowsOf (RS LA)):=by kernel_rfl
theorem wt_b (os:Os):(RS LA).all (λp=>plainB (wMem os) p.1)=true:=by kernel_rfl
theorem wt_u:decide ((RS LA).map (·.1)).Nodup=true:=by kernel_rfl
theorem wt_2 (os:Os):(DataW.laidRun Tryz.prog (wMem os) 8 (Rows.topEveryPassesUptoRow.laid.map (·.1))).map (λx=>decide x.2.Nodup && laidRowsB Tryz.prog (wMem os) x.2)=some true:=by
 have hp:=wt_p os
 rw [Option.map_eq_some_iff] at hp
 obtain⟨x,hx,h2⟩:=hp
 rw [hx,Option.map_some,h2]
 have h1:decide ((rowsOf (RS LA)).Nodup)=true:=decide_eq_true (rowsOf_nodup _ (of_decide_eq_true wt_u))
 rw [h1,rowsB (wt_b os)]
 rfl
theorem wt_met (os:Os):laidMet Tryz.prog Rows.topEveryPassesUptoRow.laid (wMem os):=laidMet_of_run' 8 (wt_1 os) (wt_2 os)
end Go.Proofs.YtnkobejhnphmhaaGreatDoor
