/- trap.told and the deferred function of trap.catch: walks. -/
import Derived.Test.YtnkobejhnphmhaaGreatDoorProg
import Derived.Tactics
import Derived.Tactics2
import Derived.Defers
import Derived.Recover
import Derived.Below
import Derived.Laws.Pointers
import Derived.KernelRfl
import Derived.RowKit3
import Derived.Laws.NewBlocks
import Derived.Laws.Entries
import Derived.Test.YtnkobejhnphmhaaGreatDoorDa
set_option linter.all false
namespace Go.Proofs
open Go.RowKit
attribute [local go_sem] frozen?_alloc_cells
@[local go_sem] theorem fz_one (w:World) (o:Nat):w.frozen? ⟨w.heap.size+1,o,none⟩=false:=by simp [World.frozen?]
@[local go_sem] theorem fz_zero (w:World) (o:Nat):w.frozen? ⟨w.heap.size,o,none⟩=false:=by simp [World.frozen?]
@[go_sem] theorem Tryz.as177 (v:Value) (w:World):(Instr.typeAssert (.iface 177 v) 20 177 true).run Tryz.prog w=.ok (.tuple #[v,.bool true]) w:=by kernel_rfl
set_option maxRecDepth 100000 in
theorem Tryz.told_fault (a b:Int) (w:World):Calls Tryz.prog 228 #[.iface 177 (.agg #[.int .i64 a,.int .i64 b])] w λe w'=>e=.returned (.agg #[.int .i64 a,.int .i64 b])∧w'=(w.alloc (.cells #[.int .i64 a,.int .i64 b] 177)).alloc (.cells #[.int .i64 a,.int .i64 b] 177):=by
 go_enter Tryz.func228,Tryz.ntmps228
 go_wp2
 simp [bodyPost,results,Tryz.results228,go_sem]
end Go.Proofs
namespace Go.Proofs
open Go.RowKit
theorem Tryz.defer_idle (p q:Addr) (w:World) :
  CallsD Tryz.prog 227 #[.pointer (some p),.pointer (some q)] .returning w λe u' w'=>e=.returned (.tuple #[])∧u'=.returning∧w'=w:=by
 refine callsD_of_wpS Tryz.func227 rfl λc₀ cs hu=>?_
 apply wpS_seq
 apply wpS_region
 simp [wpOpsS,go_sem,recoverD,hu,Tryz.ntmps227,Exit.thenS]
 refine wpS_of_wp ?_
 simp only [Array.replicate,List.replicate]
 go_wp2
 cases c₀
 simp_all [bodyPostS,results,Tryz.results227]
set_option maxRecDepth 100000 in
theorem Tryz.defer_panicking (p q:Nat) (x y a c:Int) (z:Value) (w:World) (hne:q≠p) (k0:w.cell? ⟨p,0,none⟩=some (.int .i64 x)) (k1:w.cell? ⟨p,1,none⟩=some (.int .i64 y)) (k2:w.cell? ⟨q,0,none⟩=some z) (g0:∀ o,w.frozen? ⟨p,o,none⟩=false) (g2:∀ o,w.frozen? ⟨q,o,none⟩=false) :
  CallsD Tryz.prog 227 #[.pointer (some ⟨p,0,none⟩),.pointer (some ⟨q,0,none⟩)] (.panicking ({ v:=.iface 177 (.agg #[.int .i64 a,.int .i64 c]),recovered:=false }::[])) w λe u' w'=>
   e=.returned (.tuple #[])∧u'=.panicking ({ v:=.iface 177 (.agg #[.int .i64 a,.int .i64 c]),recovered:=true }::[]) ∧
   w'=(((((w.alloc (.cells #[.int .i64 a,.int .i64 c] 177)).alloc (.cells #[.int .i64 a,.int .i64 c] 177)).setCell ⟨p,0,none⟩ (.int .i64 a)).setCell ⟨p,1,none⟩ (.int .i64 c)).setCell ⟨q,0,none⟩ (.bool true)):=by
 refine callsD_of_wpS Tryz.func227 rfl λc₀ cs hu=>?_
 apply wpS_seq
 apply wpS_region
 simp [wpOpsS,go_sem,recoverD,hu,Tryz.ntmps227,Exit.thenS]
 refine wpS_of_wp ?_
 simp only [Array.replicate,List.replicate]
 go_wp2_with (go_at_call 228;refine (Tryz.told_fault a c w).mono ?_)
 rintro e w' ⟨rfl,rfl⟩
 have lp:p<w.heap.size:=w.block_lt_of_cell? (a:=⟨p,0,none⟩) k0
 have lq:q<w.heap.size:=w.block_lt_of_cell? (a:=⟨q,0,none⟩) k2
 generalize hW:((w.alloc (Obj.cells #[Value.int IntKind.i64 a,Value.int IntKind.i64 c] 177)).alloc (Obj.cells #[Value.int IntKind.i64 a,Value.int IntKind.i64 c] 177))=W
 have hp':W.heap[p]? = w.heap[p]?:=by
  rw [← hW];simp only [World.alloc,Array.getElem?_push,Array.size_push];rw [if_neg (by omega),if_neg (by omega)]
 have hq':W.heap[q]? = w.heap[q]?:=by
  rw [← hW];simp only [World.alloc,Array.getElem?_push,Array.size_push];rw [if_neg (by omega),if_neg (by omega)]
 have c0:W.cell? ⟨p,0,none⟩=some (.int .i64 x):=by rw [← k0];simp only [World.cell?,hp']
 have c1:W.cell? ⟨p,1,none⟩=some (.int .i64 y):=by rw [← k1];simp only [World.cell?,hp']
 have c2:W.cell? ⟨q,0,none⟩=some z:=by rw [← k2];simp only [World.cell?,hq']
 have f0:∀ o,W.frozen? ⟨p,o,none⟩=false:=by intro o;rw [← g0 o];simp only [World.frozen?,hp']
 have f2:∀ o,W.frozen? ⟨q,o,none⟩=false:=by intro o;rw [← g2 o];simp only [World.frozen?,hq']
 have hq3:((W.setCell ⟨p,0,none⟩ (.int .i64 a)).setCell ⟨p,1,none⟩ (.int .i64 c)).heap[q]? = W.heap[q]?:=by
  rw [Below.heap_setCell _ _ _ _ hne,Below.heap_setCell _ _ _ _ hne]
 have c3:((W.setCell ⟨p,0,none⟩ (.int .i64 a)).setCell ⟨p,1,none⟩ (.int .i64 c)).cell? ⟨q,0,none⟩=some z:=by rw [← c2];simp only [World.cell?,hq3]
 have f3:((W.setCell ⟨p,0,none⟩ (.int .i64 a)).setCell ⟨p,1,none⟩ (.int .i64 c)).frozen? ⟨q,0,none⟩=false:=by rw [← f2 0];simp only [World.frozen?,hq3]
 go_wp2
 rw [hW]
 simp [bodyPostS,results,Tryz.results227]
end Go.Proofs
namespace Go.Proofs
open Go.RowKit
@[local go_sem] theorem Tryz.fn_eql (g:Nat) (v1 v2:Array Value) (w:World):(binOp .eql 1 (.func (.func g) v1 v2) .nilFunc).run Tryz.prog w=.ok (.bool false) w:=by kernel_rfl
@[local go_sem] theorem Tryz.build177 (w:World):(Instr.build 177 #[]).run Tryz.prog w=.ok (.agg #[.int .i64 0,.int .i64 0]) w:=by kernel_rfl
def CatchPost (n:Nat) (R:Ending→World→Prop) (e:Ending) (w1:World):Prop:=
 (w1.cell? ⟨n,0,none⟩=some (.int .i64 0)∧w1.cell? ⟨n,1,none⟩=some (.int .i64 0)∧w1.cell? ⟨n+1,0,none⟩=some (.bool false)∧(∀ o,w1.frozen? ⟨n,o,none⟩=false)∧∀ o,w1.frozen? ⟨n+1,o,none⟩=false) ∧
 (
  (∃ v,e=.returned v∧R (.returned (.tuple #[.agg #[.int .i64 0,.int .i64 0],.bool false])) (((w1.setCell ⟨n,0,none⟩ (.int .i64 0)).setCell ⟨n,1,none⟩ (.int .i64 0)).setCell ⟨n+1,0,none⟩ (.bool false))) ∨
  ∃ a c,e=.panicked [{ v:=.iface 177 (.agg #[.int .i64 a,.int .i64 c]),recovered:=false }] ∧
   R (.returned (.tuple #[.agg #[.int .i64 a,.int .i64 c],.bool true])) (((((w1.alloc (.cells #[.int .i64 a,.int .i64 c] 177)).alloc (.cells #[.int .i64 a,.int .i64 c] 177)).setCell ⟨n,0,none⟩ (.int .i64 a)).setCell ⟨n,1,none⟩ (.int .i64 c)).setCell ⟨n+1,0,none⟩ (.bool true)))
theorem cset_same {w:World} {g i:Nat} {u:Value} (v:Value) (h:w.cell? ⟨g,i,none⟩=some u):(w.setCell ⟨g,i,none⟩ v).cell? ⟨g,i,none⟩=some v:=World.cell?_setCell_same' w _ v (by rw [h];rfl)
theorem cset_blk {w:World} {g i k o:Nat} (v:Value) (h:k≠g):(w.setCell ⟨g,i,none⟩ v).cell? ⟨k,o,none⟩=w.cell? ⟨k,o,none⟩:=by simp only [World.cell?,Below.heap_setCell w ⟨g,i,none⟩ v k h]
theorem cset_off {w:World} {g i o:Nat} {u:Value} (v:Value) (h:o≠i) (hc:w.cell? ⟨g,o,none⟩=some u):(w.setCell ⟨g,i,none⟩ v).cell? ⟨g,o,none⟩=some u:=by
 rw [← hc]
 simp only [World.cell?,World.setCell,Array.getElem?_modify,if_true]
 cases hq:w.heap[g]? with
 | none=>rfl
 | some x=>cases x <;> simp [Ne.symm h]
set_option maxRecDepth 100000 in
theorem Tryz.catch_walk (g:Nat) (v1 v2:Array Value) (w:World) (R:Ending→World→Prop)
  (h1:(callFunc g (v1++v2)).run Tryz.prog ((w.alloc (.cells #[.int .i64 0,.int .i64 0] 177)).alloc (.cells #[.bool false] 4))=.ok (.enter g (v1++v2)) ((w.alloc (.cells #[.int .i64 0,.int .i64 0] 177)).alloc (.cells #[.bool false] 4)))
  (h2:Calls Tryz.prog g (v1++v2) ((w.alloc (.cells #[.int .i64 0,.int .i64 0] 177)).alloc (.cells #[.bool false] 4)) (CatchPost w.heap.size R)) :
  Calls Tryz.prog 169 #[.func (.func g) v1 v2] w R:=by
 have hmf:∀ (fn:Fn) (first cap:Array Value) (w:World),(Instr.makeFunc fn first cap).run Tryz.prog w=.ok (.func fn first cap) w:=λ_ _ _ _=>rfl
 go_enter_defers Tryz.func169,Tryz.ntmps169
 go_wp2
 refine h2.mono ?_
 have hne:w.heap.size+1≠w.heap.size:=by omega
 rintro e w1 ⟨⟨c0,c1,c2,f0,f2⟩,⟨v,rfl,hR⟩ | ⟨a,c,rfl,hR⟩⟩
 ·have hq3:((w1.setCell ⟨w.heap.size,0,none⟩ (.int .i64 0)).setCell ⟨w.heap.size,1,none⟩ (.int .i64 0)).heap[w.heap.size+1]? = w1.heap[w.heap.size+1]?:=by
   rw [Below.heap_setCell _ _ _ _ hne,Below.heap_setCell _ _ _ _ hne]
  have c3:((w1.setCell ⟨w.heap.size,0,none⟩ (.int .i64 0)).setCell ⟨w.heap.size,1,none⟩ (.int .i64 0)).cell? ⟨w.heap.size+1,0,none⟩=some (.bool false):=by rw [← c2];simp only [World.cell?,hq3]
  have f3:((w1.setCell ⟨w.heap.size,0,none⟩ (.int .i64 0)).setCell ⟨w.heap.size,1,none⟩ (.int .i64 0)).frozen? ⟨w.heap.size+1,0,none⟩=false:=by rw [← f2 0];simp only [World.frozen?,hq3]
  have e0:(((w1.setCell ⟨w.heap.size,0,none⟩ (.int .i64 0)).setCell ⟨w.heap.size,1,none⟩ (.int .i64 0)).setCell ⟨w.heap.size+1,0,none⟩ (.bool false)).cell? ⟨w.heap.size,0,none⟩=some (.int .i64 0):=by
   rw [cset_blk _ (by omega)];exact cset_off _ (by omega) (cset_same _ c0)
  have e1:(((w1.setCell ⟨w.heap.size,0,none⟩ (.int .i64 0)).setCell ⟨w.heap.size,1,none⟩ (.int .i64 0)).setCell ⟨w.heap.size+1,0,none⟩ (.bool false)).cell? ⟨w.heap.size,1,none⟩=some (.int .i64 0):=by
   rw [cset_blk _ (by omega)];exact cset_same _ (cset_off _ (by omega) c1)
  have e2:=cset_same (.bool false) c3
  go_wp2
  refine leaves_cons (f:=227) (args:=#[.pointer (some ⟨w.heap.size,0,none⟩),.pointer (some ⟨w.heap.size+1,0,none⟩)]) (by simp) (by simp [go_sem]) ?_
  refine (Tryz.defer_idle _ _ _).mono ?_
  rintro e u' w'' ⟨rfl,rfl,rfl⟩
  generalize (((w1.setCell ⟨w.heap.size,0,none⟩ (.int .i64 0)).setCell ⟨w.heap.size,1,none⟩ (.int .i64 0)).setCell ⟨w.heap.size+1,0,none⟩ (.bool false))=W at e0 e1 e2 hR ⊢
  simp [Leaves,settle,results,Tryz.results169,go_sem,e0,e1,e2]
  exact hR
 ·refine leaves_cons (f:=227) (args:=#[.pointer (some ⟨w.heap.size,0,none⟩),.pointer (some ⟨w.heap.size+1,0,none⟩)]) (by simp) (by simp [go_sem]) ?_
  refine (Tryz.defer_panicking _ _ 0 0 a c _ _ hne c0 c1 c2 f0 f2).mono ?_
  rintro e u' w'' ⟨rfl,rfl,rfl⟩
  have lp:w.heap.size<w1.heap.size:=w1.block_lt_of_cell? (a:=⟨w.heap.size,0,none⟩) c0
  have lq:w.heap.size+1<w1.heap.size:=w1.block_lt_of_cell? (a:=⟨w.heap.size+1,0,none⟩) c2
  generalize hW:((w1.alloc (Obj.cells #[Value.int IntKind.i64 a,Value.int IntKind.i64 c] 177)).alloc (Obj.cells #[Value.int IntKind.i64 a,Value.int IntKind.i64 c] 177))=w2 at hR ⊢
  have hp':w2.heap[w.heap.size]? = w1.heap[w.heap.size]?:=by
   rw [← hW];simp only [World.alloc,Array.getElem?_push,Array.size_push];rw [if_neg (by omega),if_neg (by omega)]
  have hq':w2.heap[w.heap.size+1]? = w1.heap[w.heap.size+1]?:=by
   rw [← hW];simp only [World.alloc,Array.getElem?_push,Array.size_push];rw [if_neg (by omega),if_neg (by omega)]
  have d0:w2.cell? ⟨w.heap.size,0,none⟩=some (.int .i64 0):=by rw [← c0];simp only [World.cell?,hp']
  have d1:w2.cell? ⟨w.heap.size,1,none⟩=some (.int .i64 0):=by rw [← c1];simp only [World.cell?,hp']
  have d2:w2.cell? ⟨w.heap.size+1,0,none⟩=some (.bool false):=by rw [← c2];simp only [World.cell?,hq']
  have e0:(((w2.setCell ⟨w.heap.size,0,none⟩ (.int .i64 a)).setCell ⟨w.heap.size,1,none⟩ (.int .i64 c)).setCell ⟨w.heap.size+1,0,none⟩ (.bool true)).cell? ⟨w.heap.size,0,none⟩=some (.int .i64 a):=by
   rw [cset_blk _ (by omega)];exact cset_off _ (by omega) (cset_same _ d0)
  have e1:(((w2.setCell ⟨w.heap.size,0,none⟩ (.int .i64 a)).setCell ⟨w.heap.size,1,none⟩ (.int .i64 c)).setCell ⟨w.heap.size+1,0,none⟩ (.bool true)).cell? ⟨w.heap.size,1,none⟩=some (.int .i64 c):=by
   rw [cset_blk _ (by omega)];exact cset_same _ (cset_off _ (by omega) d1)
  have e2:(((w2.setCell ⟨w.heap.size,0,none⟩ (.int .i64 a)).setCell ⟨w.heap.size,1,none⟩ (.int .i64 c)).setCell ⟨w.heap.size+1,0,none⟩ (.bool true)).cell? ⟨w.heap.size+1,0,none⟩=some (.bool true):=
   cset_same _ (by rw [cset_blk _ hne,cset_blk _ hne];exact d2)
  generalize (((w2.setCell ⟨w.heap.size,0,none⟩ (.int .i64 a)).setCell ⟨w.heap.size,1,none⟩ (.int .i64 c)).setCell ⟨w.heap.size+1,0,none⟩ (.bool true))=W at e0 e1 e2 hR ⊢
  simp [Leaves,settle,results,Tryz.results169,go_sem,e0,e1,e2]
  exact hR
set_option maxRecDepth 100000 in
theorem Tryz.catch_walk_now (g:Nat) (v1 v2:Array Value) (w w1:World) (v:Value) (R:Ending→World→Prop)
  (h1:(callFunc g (v1++v2)).run Tryz.prog ((w.alloc (.cells #[.int .i64 0,.int .i64 0] 177)).alloc (.cells #[.bool false] 4))=.ok (.value v) w1)
  (h2:CatchPost w.heap.size R (.returned v) w1) :
  Calls Tryz.prog 169 #[.func (.func g) v1 v2] w R:=by
 have hmf:∀ (fn:Fn) (first cap:Array Value) (w:World),(Instr.makeFunc fn first cap).run Tryz.prog w=.ok (.func fn first cap) w:=λ_ _ _ _=>rfl
 go_enter_defers Tryz.func169,Tryz.ntmps169
 have hne:w.heap.size+1≠w.heap.size:=by omega
 obtain⟨⟨c0,c1,c2,f0,f2⟩,hor⟩:=h2
 have hR:R (.returned (.tuple #[.agg #[.int .i64 0,.int .i64 0],.bool false])) (((w1.setCell ⟨w.heap.size,0,none⟩ (.int .i64 0)).setCell ⟨w.heap.size,1,none⟩ (.int .i64 0)).setCell ⟨w.heap.size+1,0,none⟩ (.bool false)):=by
  rcases hor with ⟨v,_,hR⟩ | ⟨a,c,h,_⟩
  ·exact hR
  ·cases h
 have hq3:((w1.setCell ⟨w.heap.size,0,none⟩ (.int .i64 0)).setCell ⟨w.heap.size,1,none⟩ (.int .i64 0)).heap[w.heap.size+1]? = w1.heap[w.heap.size+1]?:=by
  rw [Below.heap_setCell _ _ _ _ hne,Below.heap_setCell _ _ _ _ hne]
 have c3:((w1.setCell ⟨w.heap.size,0,none⟩ (.int .i64 0)).setCell ⟨w.heap.size,1,none⟩ (.int .i64 0)).cell? ⟨w.heap.size+1,0,none⟩=some (.bool false):=by rw [← c2];simp only [World.cell?,hq3]
 have f3:((w1.setCell ⟨w.heap.size,0,none⟩ (.int .i64 0)).setCell ⟨w.heap.size,1,none⟩ (.int .i64 0)).frozen? ⟨w.heap.size+1,0,none⟩=false:=by rw [← f2 0];simp only [World.frozen?,hq3]
 have e0:(((w1.setCell ⟨w.heap.size,0,none⟩ (.int .i64 0)).setCell ⟨w.heap.size,1,none⟩ (.int .i64 0)).setCell ⟨w.heap.size+1,0,none⟩ (.bool false)).cell? ⟨w.heap.size,0,none⟩=some (.int .i64 0):=by
  rw [cset_blk _ (by omega)];exact cset_off _ (by omega) (cset_same _ c0)
 have e1:(((w1.setCell ⟨w.heap.size,0,none⟩ (.int .i64 0)).setCell ⟨w.heap.size,1,none⟩ (.int .i64 0)).setCell ⟨w.heap.size+1,0,none⟩ (.bool false)).cell? ⟨w.heap.size,1,none⟩=some (.int .i64 0):=by
  rw [cset_blk _ (by omega)];exact cset_same _ (cset_off _ (by omega) c1)
 have e2:=cset_same (.bool false) c3
 go_wp2
 refine leaves_cons (f:=227) (args:=#[.pointer (some ⟨w.heap.size,0,none⟩),.pointer (some ⟨w.heap.size+1,0,none⟩)]) (by simp) (by simp [go_sem]) ?_
 refine (Tryz.defer_idle _ _ _).mono ?_
 rintro e u' w'' ⟨rfl,rfl,rfl⟩
 generalize (((w1.setCell ⟨w.heap.size,0,none⟩ (.int .i64 0)).setCell ⟨w.heap.size,1,none⟩ (.int .i64 0)).setCell ⟨w.heap.size+1,0,none⟩ (.bool false))=W at e0 e1 e2 hR ⊢
 simp [Leaves,settle,results,Tryz.results169,go_sem,e0,e1,e2]
 exact hR
end Go.Proofs
namespace Go.Tg
open Go.Proofs
variable [Globs]
theorem frozen_row {F:Fz} {r:Rm} {n b T:Nat} {w:World} {cs:List IV} (h:BRel F r n w b (.cells T cs)) (hs:(r b).str=false) (o:Nat):w.frozen? ⟨(r b).blk,o,none⟩=false:=by
 obtain⟨c,z,h1,h2,h3,h4,h5,h6⟩:=h
 have:=h5 o (.inl hs)
 obtain⟨z1,z2⟩:=z
 simp [World.frozen?,h1]
 intro hz
 simp at this
 omega
set_option maxRecDepth 4000 in
theorem says_pCatch {call:Oracle} (hS:Sound P call) {lim ro:Nat} {args:List IV} {H H':Hp} {out:Out} (h:pCatch call lim ro args H=some (out,H')):Says P lim ro 169 args H out H':=by
 unfold pCatch at h
 split at h
 ·rename_i g fst cap
  cases hcall:call lim ro g (fst++cap) (H++[.cells 355 [.d (.int .i64 0),.d (.int .i64 0)],.cells 9 [.d (.bool false)]]) with
  | none=>rw [hcall] at h;cases h
  | some rr=>
   obtain⟨o2,G⟩:=rr
   rw [hcall,Option.bind_some] at h
   simp only at h
   split at h
   ·rename_i hn hm
    intro B W0 L F r w args' hw hL hlim hro ha
    obtain⟨x',rfl,hx⟩:=vs_one ha
    have hc:Callable P 169:=callable_of (fn:=fnOf 169) (by kernel_rfl) (by kernel_rfl)
    refine .inl ⟨run_callFunc hc _,?_⟩
    cases hx with
    | fn _ _ _ v1 v2 s1 s2 g1 g2=>
    have hL1:∀ m,L m→m≤H.length:=λm hm=>Nat.le_trans (hL m hm) hlim
    have hp1:=hw.pushVar hL1 (cs:=[.d (.int .i64 0),.d (.int .i64 0)]) (c:=#[.int .i64 0,.int .i64 0]) 177 (Nat.le_refl _) (λj hj=>by
     match j,hj with
     | 0,_=>exact .d (.int _ _)
     | 1,_=>exact .d (.int _ _)) (λj hj=>by
     match j,hj with
     | 0,_=>rfl
     | 1,_=>rfl)
    have hp2:=hp1.pushVar (λm hm=>by have:=hL1 m hm;rw [List.length_append];omega) (cs:=[.d (.bool false)]) (c:=#[.bool false]) 4 (Nat.le_refl _) (λj hj=>by
     match j,hj with
     | 0,_=>exact .d (.bool _)) (λj hj=>by
     match j,hj with
     | 0,_=>rfl)
    have hsz:(w.alloc (.cells #[.int .i64 0,.int .i64 0] 177)).heap.size=w.heap.size+1:=Array.size_push _
    have e2:(H++[Blk.cells (2*177+1) [.d (.int .i64 0),.d (.int .i64 0)]])++[Blk.cells (2*4+1) [.d (.bool false)]]=H++[.cells 355 [.d (.int .i64 0),.d (.int .i64 0)],.cells 9 [.d (.bool false)]]:=List.append_assoc _ _ _
    rw [e2] at hp2
    have hl2:(H++[Blk.cells 355 [.d (.int .i64 0),.d (.int .i64 0)],.cells 9 [.d (.bool false)]]).length=H.length+2:=List.length_append
    have hl1:(H++[Blk.cells (2*177+1) [.d (.int .i64 0),.d (.int .i64 0)]]).length=H.length+1:=List.length_append
    rw [hl1,hsz] at hp2
    generalize hr2:upd (upd r H.length ⟨w.heap.size,0,(#[Value.int .i64 0,.int .i64 0]:Array Value).size,false⟩) (H.length+1) ⟨w.heap.size+1,0,(#[Value.bool false]:Array Value).size,false⟩=r2 at hp2
    have r2n:r2 H.length=⟨w.heap.size,0,2,false⟩:=by rw [← hr2,upd_other _ _ (by omega),upd_same];rfl
    have r2m:r2 (H.length+1)=⟨w.heap.size+1,0,1,false⟩:=by rw [← hr2,upd_same];rfl
    have r2le:Rm.le H.length r r2:=λb hb=>by rw [← hr2,upd_other _ _ (by omega),upd_other _ _ (by omega)]
    have hvs:Vs F r2 (H.length+2) (fst++cap) (v1++v2):=vs_append ⟨s1,λi hi=>(g1 i hi).mono (Fz.le_refl _) r2le (by omega)⟩ ⟨s2,λi hi=>(g2 i hi).mono (Fz.le_refl _) r2le (by omega)⟩
    have key:=hS.says lim ro g (fst++cap) _ o2 G hcall B W0 L F r2 _ (v1++v2) hp2 hL (by omega) (by omega) (by rw [hl2];exact hvs)
    have post:∀ e w1,CPost B W0 L ro F r2 (H++[Blk.cells 355 [.d (.int .i64 0),.d (.int .i64 0)],.cells 9 [.d (.bool false)]]) o2 G e w1→CatchPost w.heap.size (CPost B W0 L ro F r H out H') e w1:=by
     rintro e w1 ⟨F',r',hx,hw',ho⟩
     have rn:r' H.length=⟨w.heap.size,0,2,false⟩:=(hx.r _ (by omega)).trans r2n
     have rm:r' (H.length+1)=⟨w.heap.size+1,0,1,false⟩:=(hx.r _ (by omega)).trans r2m
     have rle:Rm.le H.length r r':=λb hb=>(hx.r b (by omega)).trans (r2le b hb)
     have hGl:=hx.len
     rw [hl2] at hGl
     obtain⟨x0,a0,b0,_,_⟩:=hw'.cell hn (off:=0) (by simp)
     obtain⟨x1,a1,b1,_,_⟩:=hw'.cell hn (off:=1) (by simp)
     obtain⟨x2,a2,b2,_,_⟩:=hw'.cell hm (off:=0) (by simp)
     have:=rel_int b0;subst this
     have:=rel_int b1;subst this
     have:=rel_bool b2;subst this
     rw [rn] at a0 a1
     rw [rm] at a2
     simp only [Nat.zero_add] at a0 a1 a2
     obtain⟨hn1,hn2⟩:=getElem_of_get? hn
     obtain⟨hm1,hm2⟩:=getElem_of_get? hm
     have fn0:=λo=>frozen_row (hn2 ▸ hw'.blk _ hn1) (by rw [rn]) o
     have fm0:=λo=>frozen_row (hm2 ▸ hw'.blk _ hm1) (by rw [rm]) o
     rw [rn] at fn0
     rw [rm] at fm0
     have wr:∀ (w2:World) (a c:Int) (z:Bool),WRel B W0 L F' r' G w2 →
       WRel B W0 L F' r' ((G.set H.length .dead).set (H.length+1) .dead) (((w2.setCell ⟨w.heap.size,0,none⟩ (.int .i64 a)).setCell ⟨w.heap.size,1,none⟩ (.int .i64 c)).setCell ⟨w.heap.size+1,0,none⟩ (.bool z)):=by
      intro w2 a c z h2
      have q1:=h2.set1 hn (off:=0) (by simp) (v:=.d (.int .i64 a)) (.d (.int _ _)) rfl (λ_ _ _=>.d (.int _ _))
      have hn':(G.set H.length (.cells 355 [.d (.int .i64 a),.d (.int .i64 0)]))[H.length]? = some (.cells 355 [.d (.int .i64 a),.d (.int .i64 0)]):=by simp [hn1]
      have q2:=q1.set1 hn' (off:=1) (by simp) (v:=.d (.int .i64 c)) (.d (.int _ _)) rfl (λ_ _ _=>.d (.int _ _))
      have hm':((G.set H.length (.cells 355 [.d (.int .i64 a),.d (.int .i64 0)])).set H.length (.cells 355 [.d (.int .i64 a),.d (.int .i64 c)]))[H.length+1]? = some (.cells 9 [.d (.bool false)]):=by
       rw [List.getElem?_set_ne (by omega),List.getElem?_set_ne (by omega)];exact hm
      have q3:=q2.set1 hm' (off:=0) (by simp) (v:=.d (.bool z)) (.d (.bool _)) rfl (λ_ _ _=>.d (.bool _))
      have q4:=(q3.kill H.length).kill (H.length+1)
      rw [rn,rm] at q4
      simp only [Nat.zero_add] at q4
      have eq:(((((G.set H.length (.cells 355 [.d (.int .i64 a),.d (.int .i64 0)])).set H.length (.cells 355 [.d (.int .i64 a),.d (.int .i64 c)])).set (H.length+1) (.cells 9 [.d (.bool z)])).set H.length .dead).set (H.length+1) .dead)=(G.set H.length .dead).set (H.length+1) .dead:=by
       rw [List.set_comm _ _ (show H.length+1≠H.length by omega),List.set_set,List.set_set,List.set_set]
      exact eq ▸ q4
     have ext:Ext ro F r H F' r' ((G.set H.length .dead).set (H.length+1) .dead):=by
      refine⟨hx.F,rle,by simp;omega,λb hb=>?_⟩
      rw [List.getElem?_set_ne (by omega),List.getElem?_set_ne (by omega),hx.ro b hb,List.getElem?_append_left (by omega)]
     have tup:∀ (a c:Int) (z:Bool) n,VRel F' r' n (.tup [.agg [.d (.int .i64 a),.d (.int .i64 c)],.d (.bool z)]) (.tuple #[.agg #[.int .i64 a,.int .i64 c],.bool z]):=by
      intro a c z n
      refine .tup _ _ rfl λi hi=>?_
      match i,hi with
      | 0,_=>
       refine .agg _ _ rfl λj hj=>?_
       match j,hj with
       | 0,_=>exact .d (.int _ _)
       | 1,_=>exact .d (.int _ _)
      | 1,_=>exact .d (.bool _)
     refine⟨⟨a0,a1,a2,fn0,fm0⟩,?_⟩
     split at h
     ·simp only [Option.some.injEq,Prod.mk.injEq] at h
      obtain⟨rfl,rfl⟩:=h
      obtain⟨v',he,_⟩:=ho
      exact .inl ⟨v',he,F',r',ext,wr w1 0 0 false hw',_,rfl,tup 0 0 false _⟩
     ·rename_i a b
      simp only [Option.some.injEq,Prod.mk.injEq] at h
      obtain⟨rfl,rfl⟩:=h
      obtain⟨v',he,hv⟩:=ho
      refine .inr ⟨a,b,?_,F',r',ext,wr _ a b true ((hw'.later (Later.alloc _ _)).later (Later.alloc _ _)),_,rfl,tup a b true _⟩
      rw [he]
      cases hv with
      | ifc _ hv=>
      cases hv with
      | d hv=>
      cases hv with
      | agg _ vs hlen hh=>
      have h0:=hh 0 (by simp)
      have h1:=hh 1 (by simp)
      obtain⟨l⟩:=vs
      match l,hlen with
      | [y0,y1],_=>
       cases h0
       cases h1
       rfl
     ·cases h
    rcases key with ⟨k1,k2⟩ | ⟨v,w1,k1,k2⟩
    ·exact Tryz.catch_walk g v1 v2 w _ k1 (k2.mono post)
    ·exact Tryz.catch_walk_now g v1 v2 w w1 v _ k1 (post _ _ k2)
   ·cases h
 ·cases h
end Go.Tg
