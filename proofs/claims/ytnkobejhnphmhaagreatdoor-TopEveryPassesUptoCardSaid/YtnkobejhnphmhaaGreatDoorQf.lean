/- The tie's last fact: the places of what is listed, none twice, all in rows that may be written. -/
import Derived.Test.YtnkobejhnphmhaaGreatDoorQa
set_option linter.all false
namespace Go.Proofs.YtnkobejhnphmhaaGreatDoor
open Go
def rowsOf (l:List (Nat×Nat)):List MemPlace:=l.flatMap λp=>MemPlace.row ⟨p.1,0,none⟩ p.2
theorem rowsOf_mem {l:List (Nat×Nat)} {x:MemPlace} (h:x ∈ rowsOf l):∃ p ∈ l,∃ i,x=.cell p.1 i:=by
 obtain⟨p,hp,hx⟩:=List.mem_flatMap.1 h
 obtain⟨i,_,rfl⟩:=List.mem_map.1 hx
 exact⟨p,hp,0+i,rfl⟩
theorem row_nodup (b n:Nat):(MemPlace.row ⟨b,0,none⟩ n).Nodup:=by
 unfold MemPlace.row
 rw [List.Nodup,List.pairwise_map]
 exact (List.nodup_range (n:=n)).imp fun {x y} hne e=>hne (by simpa using e)
theorem rowsOf_nodup:∀ (l:List (Nat×Nat)),(l.map (·.1)).Nodup→(rowsOf l).Nodup:=by
 intro l
 induction l with
 | nil=>intro _;exact List.Pairwise.nil
 | cons p l ih=>
  intro h
  rw [List.map_cons,List.nodup_cons] at h
  have e:rowsOf (p::l)=MemPlace.row ⟨p.1,0,none⟩ p.2++rowsOf l:=rfl
  rw [e,List.nodup_append]
  refine⟨row_nodup _ _,ih h.2,λa ha b hb hab=>?_⟩
  obtain⟨i,_,rfl⟩:=List.mem_map.1 ha
  obtain⟨q,hq,j,rfl⟩:=rowsOf_mem hb
  have e1:p.1=q.1:=by
   have:=hab
   simp only [MemPlace.cell.injEq] at this
   exact this.1
  exact h.1 (List.mem_map.2 ⟨q,hq,e1.symm⟩)
def plainV:Value→Bool
 | .iface _ _=>false
 | _=>true
def plainB (w:World) (b:Nat):Bool:=match w.heap[b]? with
 | some (.cells cs _ (0,0))=>cs.toList.all plainV
 | _=>false
theorem rowsB {P:Program} {w:World} {l:List (Nat×Nat)} (h:l.all (λp=>plainB w p.1)=true):laidRowsB P w (rowsOf l)=true:=by
 unfold laidRowsB
 rw [List.all_eq_true]
 intro x hx
 obtain⟨p,hp,i,rfl⟩:=rowsOf_mem hx
 have hb:=List.all_eq_true.1 h p hp
 unfold plainB at hb
 split at hb
 ·rename_i cs t hh
  have hc:w.cell? ⟨p.1,i,none⟩=cs[i]?:=by simp [World.cell?,hh]
  simp only [hh,hc,Bool.true_and]
  cases hi:cs[i]? with
  | none=>rfl
  | some v=>
   have hv:plainV v=true:=by
    refine List.all_eq_true.1 hb v ?_
    rw [Array.mem_toList_iff]
    exact Array.mem_of_getElem? hi
   cases v <;> first | rfl | (simp [plainV] at hv)
 ·cases hb
theorem tie_p:∀ os tape,(DataW.laidRun Tryz.prog (varsWorld Tryz.prog 400 (varsId Tryz.prog) os tape).memory 8 (L6.map (·.1))).map (·.2)=some (rowsOf (RS L6)):=λ_ _=>by kernel_rfl
theorem tie_b:∀ os tape,(RS L6).all (λp=>plainB (varsWorld Tryz.prog 400 (varsId Tryz.prog) os tape).memory p.1)=true:=λ_ _=>by kernel_rfl
theorem tie_u:decide ((RS L6).map (·.1)).Nodup=true:=by kernel_rfl
theorem tie_2:∀ os tape,(DataW.laidRun Tryz.prog (varsWorld Tryz.prog 400 (varsId Tryz.prog) os tape).memory 8 (L6.map (·.1))).map (λx=>decide x.2.Nodup && laidRowsB Tryz.prog (varsWorld Tryz.prog 400 (varsId Tryz.prog) os tape).memory x.2)=some true:=by
 intro os tape
 have hp:=tie_p os tape
 rw [Option.map_eq_some_iff] at hp
 obtain⟨x,hx,h2⟩:=hp
 rw [hx,Option.map_some,h2]
 have h1:decide ((rowsOf (RS L6)).Nodup)=true:=decide_eq_true (rowsOf_nodup _ (of_decide_eq_true tie_u))
 rw [h1,rowsB (tie_b os tape)]
 rfl
end Go.Proofs.YtnkobejhnphmhaaGreatDoor
