/- mime.With: its region, in whatever order. -/
import Derived.Test.YtnkobejhnphmhaaGreatDoorCd
import Derived.Test.YtnkobejhnphmhaaGreatDoorCe
set_option linter.all false
namespace Go.Tg
variable [Globs] {lim ro:Nat} {H:Hp}
attribute [local congr] bindC liftRC br3C brN3C
theorem ib_mimV (t s:List UInt8) (b n:Nat):iBuild P 34 [(0,.d (.str t)),(1,.d (.str s)),(2,.vec b 2 0 n)]=some (.agg [.d (.str t),.d (.str s),.vec b 2 0 n]):=by kernel_rfl
section
variable {t s nm w:List UInt8} {ps:List D}
structure With (t s nm w:List UInt8) (ps:List D) (l:Nat→Bool) (σ:Nat→IV) (G:Hp):Prop where
 b0:G[0]? = some (mimC t s (.d (.lst ps)))
 b1:G[1]? = some (mimC [] [] .vnil)
 v0:l 0=true→σ 0=.ptr 0 0
 v1:l 1=true→σ 1=.d (.str t)
 v2:l 2=true→σ 2=.ptr 0 1
 v3:l 3=true→σ 3=.d (.str s)
 v4:l 4=true→σ 4=.ptr 0 2
 v5:l 5=true→σ 5=.d (.lst ps)
 v7:l 7=true→σ 7=.d (.str nm)
 v8:l 8=true→σ 8=.d (.str w)
 v9:l 9=true→σ 9=.agg [.d (.str nm),.d (.str w)]
 c6:l 6=true→l 11=false→(σ 6=.emp∧ps=[])∨∃ b,2≤b∧σ 6=.vec b 2 0 ps.length∧G[b]? = some (.cells 220 (cellsOf ps))
 c10:l 10=true→l 11=false→∃ b,2≤b∧σ 10=.vec b 2 0 1∧G[b]? = some (.cells 220 [.d (.str nm),.d (.str w)])
 d:l 6=true→l 10=true→l 11=false→sameBlk (σ 6) (σ 10)=false
 c11:l 11=true→∃ b,2≤b∧σ 11=.vec b 2 0 (ps.length+1)∧G[b]? = some (.cells 220 (cellsOf (ps++[.agg [.str nm,.str w]])))
 v12:l 12=true→σ 12=.agg [.d (.str t),.d (.str s),σ 11]
 c13:l 13=true→∃ b,2≤b∧σ 13=.ptr b 0∧∃ c,G[b]? = some (.cells 69 c)∧c.length=3∧(l 14=true→c=[.d (.str t),.d (.str s),σ 11])
theorem With.len {l:Nat→Bool} {σ:Nat→IV} {G:Hp} (h:With t s nm w ps l σ G):2≤G.length:=by have:=get_lt h.b1;omega
theorem With.val {l:Nat→Bool} {σ:Nat→IV} {G:Hp} (h:With t s nm w ps l σ G) (i:Nat) (v:IV) (hi:i≠6∧i≠10∧i≠11∧i≠13∧i≠14)
  (hv:∀ x,(match i with | 0=>some (IV.ptr 0 0) | 1=>some (.d (.str t)) | 2=>some (.ptr 0 1) | 3=>some (.d (.str s)) | 4=>some (.ptr 0 2) | 5=>some (.d (.lst ps)) | 7=>some (.d (.str nm)) | 8=>some (.d (.str w)) | 9=>some (.agg [.d (.str nm),.d (.str w)]) | 12=>some (.agg [.d (.str t),.d (.str s),σ 11]) | _=>none)=some x→v=x) :
  With t s nm w ps (λj=>decide (j=i) || l j) (λj=>if j=i then v else σ j) G:=by
 obtain⟨h6,h10,h11,h13,h14⟩:=hi
 have ne:∀ {j:Nat},i≠j→(decide (j=i) || l j)=l j:=fun {j} hj=>by rw [decide_eq_false (λe=>hj e.symm)];rfl
 have sg:∀ {j:Nat},i≠j→(if j=i then v else σ j)=σ j:=λhj=>if_neg λe=>hj e.symm
 have at_:∀ (j:Nat) (x:IV),(l j=true→σ j=x)→(i=j→v=x)→(decide (j=i) || l j)=true→(if j=i then v else σ j)=x:=by
  intro j x h1 h2 h3
  by_cases e:j=i
  ·rw [if_pos e];exact h2 e.symm
  ·rw [if_neg e];exact h1 (by simpa [e] using h3)
 refine⟨h.b0,h.b1,at_ 0 _ h.v0 ?_,at_ 1 _ h.v1 ?_,at_ 2 _ h.v2 ?_,at_ 3 _ h.v3 ?_,at_ 4 _ h.v4 ?_,at_ 5 _ h.v5 ?_,at_ 7 _ h.v7 ?_,at_ 8 _ h.v8 ?_,at_ 9 _ h.v9 ?_,?_,?_,?_,?_,?_,?_⟩
 ·rintro rfl;exact hv _ rfl
 ·rintro rfl;exact hv _ rfl
 ·rintro rfl;exact hv _ rfl
 ·rintro rfl;exact hv _ rfl
 ·rintro rfl;exact hv _ rfl
 ·rintro rfl;exact hv _ rfl
 ·rintro rfl;exact hv _ rfl
 ·rintro rfl;exact hv _ rfl
 ·rintro rfl;exact hv _ rfl
 ·simp only [ne h6,ne h11,sg h6];exact h.c6
 ·simp only [ne h10,ne h11,sg h10];exact h.c10
 ·simp only [ne h6,ne h10,ne h11,sg h6,sg h10];exact h.d
 ·simp only [ne h11,sg h11];exact h.c11
 ·simp only [sg h11]
  exact at_ 12 _ h.v12 (by rintro rfl;exact hv _ rfl)
 ·simp only [ne h13,ne h14,sg h13,sg h11];exact h.c13
theorem with_sq (hS:SysOK sys) (hp:ParL ps) (hl:ps.length<2 ^ 26) (a0:IV) {res:Out×Hp}
  (hend:∀ (G:Hp) (b bv:Nat) (z9 z10 z11 z12 z13 z14 z15 z16 z17 z18 z19 z20 z21:IV),G[0]? = some (mimC t s (.d (.lst ps)))→G[1]? = some (mimC [] [] .vnil)→2≤b→2≤bv→G[b]? = some (mimC t s (.vec bv 2 0 (ps.length+1)))→G[bv]? = some (.cells 220 (cellsOf (ps++[.agg [.str nm,.str w]]))) →
   (q414_0 (run sys) 0 0 []) .nor (en414_1 a0 nm w (.ptr 0 0,[mimC t s (.d (.lst ps))]) (.ptr b 0) z9 z10 z11 z12 z13 z14 z15 z16 z17 z18 z19 z20 z21) G=some res) :
  sqK (C414 (run sys) 0 0 []) (rg 414 [1,0]) (en414_0 a0 nm w (.ptr 0 0,[mimC t s (.d (.lst ps))])) [mimC t s (.d (.lst ps)),mimC [] [] .vnil] (q414_0 (run sys) 0 0 [])=some res:=by
 have hsz:((rg 414 [1,0]).size:Nat)=15:=by kernel_rfl
 refine sqK_inv (by kernel_rfl) (With t s nm w ps) (λ_=>.un) ⟨rfl,rfl,by simp,by simp,by simp,by simp,by simp,by simp,by simp,by simp,by simp,by simp,by simp,by simp,by simp,by simp,by simp⟩ ?_ ?_
 ·intro l σ G i o h ho hl0 hdep hnot
  have hi:i<15:=by
   rcases Nat.lt_or_ge i 15 with h | h
   ·exact h
   ·rw [Array.getElem?_eq_none (by omega)] at ho;cases ho
  have g0:ld1 (.ptr 0 0) G=some (.d (.str t)):=by rw [ld1_cells h.b0];rfl
  have g1:ld1 (.ptr 0 1) G=some (.d (.str s)):=by rw [ld1_cells h.b0];rfl
  have g2:ld1 (.ptr 0 2) G=some (.d (.lst ps)):=by rw [ld1_cells h.b0];rfl
  have ne:∀ {j k:Nat},j≠k→(decide (k=j) || l k)=l k:=fun {j k} hj=>by rw [decide_eq_false (λe=>hj e.symm)];rfl
  have sg:∀ {j k:Nat} {v:IV},j≠k→(if k=j then v else σ k)=σ k:=λhj=>if_neg λe=>hj e.symm
  have grow:∀ (X:Hp) (j:Nat) (v:IV),(∀ k,k≠j→True)→True:=λ_ _ _ _=>trivial
  rcases (by omega:i=0∨i=1∨i=2∨i=3∨i=4∨i=5∨i=6∨i=7∨i=8∨i=9∨i=10∨i=11∨i=12∨i=13∨i=14) with rfl | rfl | rfl | rfl | rfl | rfl | rfl | rfl | rfl | rfl | rfl | rfl | rfl | rfl | rfl
  ·exact⟨_,_,val2_at (i:=0) (O414_0_0 ..) ho,h.val 0 _ (by decide) (λx hx=>by cases hx;rfl)⟩
  ·have e:=h.v0 (hdep 0 (by kernel_rfl))
   refine⟨_,_,val2_at (i:=1) ((O414_0_1 ..).trans ?_) ho,h.val 1 (.d (.str t)) (by decide) (λx hx=>by cases hx;rfl)⟩
   rw [e,g0];rfl
  ·exact⟨_,_,val2_at (i:=2) (O414_0_2 ..) ho,h.val 2 _ (by decide) (λx hx=>by cases hx;rfl)⟩
  ·have e:=h.v2 (hdep 2 (by kernel_rfl))
   refine⟨_,_,val2_at (i:=3) ((O414_0_3 ..).trans ?_) ho,h.val 3 (.d (.str s)) (by decide) (λx hx=>by cases hx;rfl)⟩
   rw [e,g1];rfl
  ·exact⟨_,_,val2_at (i:=4) (O414_0_4 ..) ho,h.val 4 _ (by decide) (λx hx=>by cases hx;rfl)⟩
  ·have e:=h.v4 (hdep 4 (by kernel_rfl))
   refine⟨_,_,val2_at (i:=5) ((O414_0_5 ..).trans ?_) ho,h.val 5 (.d (.lst ps)) (by decide) (λx hx=>by cases hx;rfl)⟩
   rw [e,g2];rfl
  ·
   have e:=h.v5 (hdep 5 (by kernel_rfl))
   have hl11:l 11=false:=by
    cases hq:l 11 with
    | false=>rfl
    | true=>have:=hnot 11 hq;rw [show ahead (rg 414 [1,0]) 11 6=true by kernel_rfl] at this;cases this
   have r:=s444 (lim:=([]:Hp).length) (ro:=([]:Hp).length) (H:=G) hS hp.ok (by omega)
   refine⟨if ps=[] then .emp else .vec G.length 2 0 ps.length,if ps=[] then G else G++[.cells 220 (cellsOf ps)],val2_at (i:=6) ((O414_0_6 ..).trans ?_) ho,?_⟩
   ·rw [e,r];rfl
   have hG:∀ (b:Nat) (x:Blk),G[b]? = some x→(if ps=[] then G else G++[.cells 220 (cellsOf ps)])[b]? = some x:=by
    intro b x hb
    split
    ·exact hb
    ·exact get_app _ hb
   refine⟨hG _ _ h.b0,hG _ _ h.b1,?_,?_,?_,?_,?_,?_,?_,?_,?_,?_,?_,?_,?_,?_,?_⟩
   ·simpa [ne,sg] using h.v0
   ·simpa [ne,sg] using h.v1
   ·simpa [ne,sg] using h.v2
   ·simpa [ne,sg] using h.v3
   ·simpa [ne,sg] using h.v4
   ·simpa [ne,sg] using h.v5
   ·simpa [ne,sg] using h.v7
   ·simpa [ne,sg] using h.v8
   ·simpa [ne,sg] using h.v9
   ·intro _ _
    rw [if_pos rfl]
    by_cases hps:ps=[]
    ·rw [if_pos hps];exact .inl ⟨rfl,hps⟩
    ·simp only [if_neg hps]
     exact .inr ⟨G.length,h.len,rfl,by simp⟩
   ·intro h10 _
    obtain⟨b,q1,q2,q3⟩:=h.c10 (by simpa using h10) hl11
    exact⟨b,q1,by simpa using q2,hG _ _ q3⟩
   ·intro _ h10 _
    obtain⟨b,q1,q2,q3⟩:=h.c10 (by simpa using h10) hl11
    simp only [if_true,show ((10:Nat)=6)=False by simp,if_false,q2]
    split
    ·rfl
    ·have:=get_lt q3
     simp [sameBlk];omega
   ·intro h11;rw [show (decide ((11:Nat)=6) || l 11)=l 11 from rfl,hl11] at h11;cases h11
   ·simpa [ne,sg] using h.v12
   ·intro h13
    obtain⟨b,q1,q2,c,q3,q4,q5⟩:=h.c13 (by simpa using h13)
    exact⟨b,q1,by simpa using q2,c,hG _ _ q3,q4,by simpa using q5⟩
  ·exact⟨_,_,val2_at (i:=7) (O414_0_7 ..) ho,h.val 7 _ (by decide) (λx hx=>by cases hx;rfl)⟩
  ·exact⟨_,_,val2_at (i:=8) (O414_0_8 ..) ho,h.val 8 _ (by decide) (λx hx=>by cases hx;rfl)⟩
  ·have e7:=h.v7 (hdep 7 (by kernel_rfl))
   have e8:=h.v8 (hdep 8 (by kernel_rfl))
   refine⟨_,_,val2_at (i:=9) ((O414_0_9 ..).trans ?_) ho,h.val 9 (.agg [.d (.str nm),.d (.str w)]) (by decide) (λx hx=>by cases hx;rfl)⟩
   rw [e7,e8,ib_par2];rfl
  ·
   have e:=h.v9 (hdep 9 (by kernel_rfl))
   have hl11:l 11=false:=by
    cases hq:l 11 with
    | false=>rfl
    | true=>have:=hnot 11 hq;rw [show ahead (rg 414 [1,0]) 11 10=true by kernel_rfl] at this;cases this
   refine⟨.vec G.length 2 0 1,G++[.cells 220 [.d (.str nm),.d (.str w)]],val2_at (i:=10) ((O414_0_10 ..).trans ?_) ho,?_⟩
   ·rw [e,bs_par];rfl
   have hG:∀ (b:Nat) (x:Blk),G[b]? = some x→(G++[.cells 220 [.d (.str nm),.d (.str w)]])[b]? = some x:=λb x hb=>get_app _ hb
   refine⟨hG _ _ h.b0,hG _ _ h.b1,?_,?_,?_,?_,?_,?_,?_,?_,?_,?_,?_,?_,?_,?_,?_⟩
   ·simpa [ne,sg] using h.v0
   ·simpa [ne,sg] using h.v1
   ·simpa [ne,sg] using h.v2
   ·simpa [ne,sg] using h.v3
   ·simpa [ne,sg] using h.v4
   ·simpa [ne,sg] using h.v5
   ·simpa [ne,sg] using h.v7
   ·simpa [ne,sg] using h.v8
   ·simpa [ne,sg] using h.v9
   ·intro h6 _
    rcases h.c6 (by simpa using h6) hl11 with ⟨q1,q2⟩ | ⟨b,q1,q2,q3⟩
    ·exact .inl ⟨by simpa using q1,q2⟩
    ·exact .inr ⟨b,q1,by simpa using q2,hG _ _ q3⟩
   ·intro _ _
    exact⟨G.length,h.len,by simp,by simp⟩
   ·intro h6 _ _
    rcases h.c6 (by simpa using h6) hl11 with ⟨q1,q2⟩ | ⟨b,q1,q2,q3⟩
    ·simp only [show ((6:Nat)=10)=False by simp,if_false,if_true,q1];rfl
    ·simp only [show ((6:Nat)=10)=False by simp,if_false,if_true,q2]
     have:=get_lt q3
     simp [sameBlk];omega
   ·intro h11;rw [show (decide ((11:Nat)=10) || l 11)=l 11 from rfl,hl11] at h11;cases h11
   ·simpa [ne,sg] using h.v12
   ·intro h13
    obtain⟨b,q1,q2,c,q3,q4,q5⟩:=h.c13 (by simpa using h13)
    exact⟨b,q1,by simpa using q2,c,hG _ _ q3,q4,by simpa using q5⟩
  ·
   have h6:=hdep 6 (by kernel_rfl)
   have h10:=hdep 10 (by kernel_rfl)
   have hl14:l 14=false:=by
    cases hq:l 14 with
    | false=>rfl
    | true=>have:=hnot 14 hq;rw [show ahead (rg 414 [1,0]) 14 11=true by kernel_rfl] at this;cases this
   have hl12:l 12=false:=by
    cases hq:l 12 with
    | false=>rfl
    | true=>have:=hnot 12 hq;rw [show ahead (rg 414 [1,0]) 12 11=true by kernel_rfl] at this;cases this
   obtain⟨b,q1,q2,q3⟩:=h.c10 h10 hl0
   have hd:=h.d h6 h10 hl0
   have hsrc:srcCells 2 (.vec b 2 0 1) G=some (1,[.d (.str nm),.d (.str w)]):=by
    unfold srcCells
    simp only [q3]
    rfl
   have fin:∀ (G':Hp),G.length<G'.length→(∀ (j:Nat) (x:List IV),G[j]? = some (Blk.cells 69 x)→G'[j]? = some (Blk.cells 69 x))→G'[G.length]? = some (.cells 220 (cellsOf (ps++[.agg [.str nm,.str w]])))→app 110 2 ([]:Hp).length (σ 6) (σ 10) G=some (.vec G.length 2 0 (ps.length+1),G') →
     ∃ v G',valO (C414 (run sys) 0 0 []) (rg 414 [1,0]) o (fullE (rg 414 [1,0]) (en414_0 a0 nm w (.ptr 0 0,[mimC t s (.d (.lst ps))])) σ) G=some (v,G')∧With t s nm w ps (λj=>decide (j=11) || l j) (λj=>if j=11 then v else σ j) G':=by
    intro G' _ hk hb happ
    refine⟨.vec G.length 2 0 (ps.length+1),G',val2_at (i:=11) ((O414_0_11 ..).trans ?_) ho,?_⟩
    ·rw [happ];rfl
    refine⟨hk _ _ h.b0,hk _ _ h.b1,?_,?_,?_,?_,?_,?_,?_,?_,?_,?_,?_,?_,?_,?_,?_⟩
    ·simpa [ne,sg] using h.v0
    ·simpa [ne,sg] using h.v1
    ·simpa [ne,sg] using h.v2
    ·simpa [ne,sg] using h.v3
    ·simpa [ne,sg] using h.v4
    ·simpa [ne,sg] using h.v5
    ·simpa [ne,sg] using h.v7
    ·simpa [ne,sg] using h.v8
    ·simpa [ne,sg] using h.v9
    ·intro _ h11;simp at h11
    ·intro _ h11;simp at h11
    ·intro _ _ h11;simp at h11
    ·intro _;exact⟨G.length,h.len,by simp,hb⟩
    ·intro h12;rw [show (decide ((12:Nat)=11) || l 12)=l 12 from rfl,hl12] at h12;cases h12
    ·intro h13
     obtain⟨b,q1,q2,c,q3,q4,q5⟩:=h.c13 (by simpa using h13)
     refine⟨b,q1,by simpa using q2,c,hk _ _ q3,q4,λh14=>?_⟩
     rw [show (decide ((14:Nat)=11) || l 14)=l 14 from rfl,hl14] at h14;cases h14
   rcases h.c6 h6 hl0 with ⟨w1,w2⟩ | ⟨b6,w1,w2,w3⟩
   ·subst w2
    refine fin (G++[Blk.cells 220 [.d (.str nm),.d (.str w)]]) (by simp) (λj x hj=>get_app _ hj) (by simp;rfl) ?_
    rw [w1,q2] at hd ⊢
    unfold app
    rw [hsrc]
    simp only [bsome,hd,Bool.false_eq_true,if_false]
    rfl
   ·have hne:b6≠b:=by
     intro e;subst e
     rw [w2,q2] at hd;simp [sameBlk] at hd
    have hlc:=cellsOf_length hp.ok
    refine fin (G.set b6 Blk.dead++[Blk.cells 220 (cellsOf ps++[.d (.str nm),.d (.str w)])]) (by simp) (λj x hj=>?_) ?_ ?_
    ·rw [List.getElem?_append_left (by have:=get_lt hj;simpa using this),List.getElem?_set_ne (λe=>by subst e;rw [w3] at hj;cases hj)]
     exact hj
    ·rw [cellsOf_append];simp;rfl
    ·rw [w2,q2] at hd ⊢
     unfold app
     rw [hsrc]
     simp only [bsome,hd,Bool.false_eq_true,if_false,w3]
     rw [if_pos ⟨trivial,trivial,by rw [hlc];omega,Nat.zero_le _⟩,if_neg (by simp),if_pos (by omega)]
     rw [List.drop_zero,List.take_of_length_le (by rw [hlc];exact Nat.le_refl _)]
  ·
   obtain⟨b,q1,q2,q3⟩:=h.c11 (hdep 11 (by kernel_rfl))
   have e1:=h.v1 (hdep 1 (by kernel_rfl))
   have e3:=h.v3 (hdep 3 (by kernel_rfl))
   refine⟨_,_,val2_at (i:=12) ((O414_0_12 ..).trans ?_) ho,h.val 12 (.agg [.d (.str t),.d (.str s),σ 11]) (by decide) (λx hx=>by cases hx;rfl)⟩
   rw [e1,e3,q2,ib_mimV];rfl
  ·
   have hl14:l 14=false:=by
    cases hq:l 14 with
    | false=>rfl
    | true=>have:=hnot 14 hq;rw [show ahead (rg 414 [1,0]) 14 13=true by kernel_rfl] at this;cases this
   refine⟨_,_,val2_at (i:=13) (O414_0_13 ..) ho,?_⟩
   have hG:∀ (b:Nat) (x:Blk),G[b]? = some x→(G++[Blk.cells 69 [.d (.str []),.d (.str []),.vnil]])[b]? = some x:=λb x hb=>get_app _ hb
   refine⟨hG _ _ h.b0,hG _ _ h.b1,?_,?_,?_,?_,?_,?_,?_,?_,?_,?_,?_,?_,?_,?_,?_⟩
   ·simpa [ne,sg] using h.v0
   ·simpa [ne,sg] using h.v1
   ·simpa [ne,sg] using h.v2
   ·simpa [ne,sg] using h.v3
   ·simpa [ne,sg] using h.v4
   ·simpa [ne,sg] using h.v5
   ·simpa [ne,sg] using h.v7
   ·simpa [ne,sg] using h.v8
   ·simpa [ne,sg] using h.v9
   ·intro h6 h11
    rcases h.c6 (by simpa using h6) (by simpa using h11) with ⟨q1,q2⟩ | ⟨b,q1,q2,q3⟩
    ·exact .inl ⟨by simpa using q1,q2⟩
    ·exact .inr ⟨b,q1,by simpa using q2,hG _ _ q3⟩
   ·intro h10 h11
    obtain⟨b,q1,q2,q3⟩:=h.c10 (by simpa using h10) (by simpa using h11)
    exact⟨b,q1,by simpa using q2,hG _ _ q3⟩
   ·simpa [ne,sg] using h.d
   ·intro h11
    obtain⟨b,q1,q2,q3⟩:=h.c11 (by simpa using h11)
    exact⟨b,q1,by simpa using q2,hG _ _ q3⟩
   ·simpa [ne,sg] using h.v12
   ·intro _
    refine⟨G.length,h.len,by simp,_,by simp;rfl,rfl,λh14=>?_⟩
    rw [show (decide ((14:Nat)=13) || l 14)=l 14 from rfl,hl14] at h14;cases h14
  ·
   have h13:=hdep 13 (by kernel_rfl)
   have h12:=h.v12 (hdep 12 (by kernel_rfl))
   have hl11:=hdep 11 (by kernel_rfl)
   obtain⟨b,q1,q2,c,q3,q4,q5⟩:=h.c13 h13
   obtain⟨bv,w1,w2,w3⟩:=h.c11 hl11
   have hst:st 3 ([]:Hp).length ([]:Hp).length (σ 13) (σ 12) G=some (G.set b (.cells 69 [.d (.str t),.d (.str s),σ 11])):=by
    rw [q2,h12,w2]
    show st 3 0 0 (.ptr b 0) _ G=_
    rw [st_cells (n:=3) (off:=0) q3 rfl (by omega) rfl (Nat.zero_le _) (.inl (Nat.zero_le _))]
    obtain⟨x,y,z,rfl⟩:∃ x y z,c=[x,y,z]:=by
     match c,q4 with
     | [x,y,z],_=>exact⟨x,y,z,rfl⟩
    rfl
   refine⟨.un,G.set b (.cells 69 [.d (.str t),.d (.str s),σ 11]),val2_at (i:=14) ((O414_0_14 ..).trans ?_) ho,?_⟩
   ·rw [hst];rfl
   have hG:∀ (j:Nat) (x:Blk),b≠j→G[j]? = some x→(G.set b (.cells 69 [.d (.str t),.d (.str s),σ 11]))[j]? = some x:=λj x hj hx=>by rw [List.getElem?_set_ne hj];exact hx
   refine⟨hG _ _ (by omega) h.b0,hG _ _ (by omega) h.b1,?_,?_,?_,?_,?_,?_,?_,?_,?_,?_,?_,?_,?_,?_,?_⟩
   ·simpa [ne,sg] using h.v0
   ·simpa [ne,sg] using h.v1
   ·simpa [ne,sg] using h.v2
   ·simpa [ne,sg] using h.v3
   ·simpa [ne,sg] using h.v4
   ·simpa [ne,sg] using h.v5
   ·simpa [ne,sg] using h.v7
   ·simpa [ne,sg] using h.v8
   ·simpa [ne,sg] using h.v9
   ·intro _ h11;rw [show (decide ((11:Nat)=14) || l 11)=l 11 from rfl,hl11] at h11;cases h11
   ·intro _ h11;rw [show (decide ((11:Nat)=14) || l 11)=l 11 from rfl,hl11] at h11;cases h11
   ·intro _ _ h11;rw [show (decide ((11:Nat)=14) || l 11)=l 11 from rfl,hl11] at h11;cases h11
   ·intro _
    exact⟨bv,w1,by simpa using w2,hG _ _ (λe=>by subst e;rw [q3] at w3;cases w3) w3⟩
   ·simpa [ne,sg] using h.v12
   ·intro _
    refine⟨b,q1,by simpa using q2,_,set_get q3,rfl,λ_=>by simp⟩
 ·intro l σ G h hall
  obtain⟨b,q1,q2,c,q3,q4,q5⟩:=h.c13 (hall 13 (by omega))
  obtain⟨bv,w1,w2,w3⟩:=h.c11 (hall 11 (by omega))
  have hc:=q5 (hall 14 (by omega))
  subst hc
  rw [F414_0,q2]
  exact hend G b bv _ _ _ _ _ _ _ _ _ _ _ _ _ h.b0 h.b1 q1 w1 (by rw [q3,w2];rfl) w3
end
end Go.Tg
namespace Go.Tg
variable [Globs] {lim ro:Nat} {H:Hp}
attribute [local congr] bindC liftRC br3C brN3C
theorem runU (hS:SysOK sys) {f:Nat} {args:List IV} {out:Out} (hp:prims f=none) (hm:tab.mode f=.pure) (hc:closedVs args=true) (h:run sys 0 0 f args []=some (out,[])):run sys lim ro f args H=some (out,H):=by
 obtain⟨n,hn⟩:=(run_some hS).1 h
 exact runC hS n hp hm hc hn
theorem s245 (hS:SysOK sys) (t s:List UInt8) (ps:List D) (h:t.length+s.length<2 ^ 34):run sys lim ro 245 [.d (mimD t s ps)] H=some (.val (.d (.str (t++[47]++s))),H):=by
 refine runP hS rfl (by kernel_rfl) rfl ?_
 rw [R245]
 have h1:(t++[47]).length+s.length<9223372036854775808:=by simp;omega
 simp only [box_mim,bsome,padd_ptr,ld1_new,iBin_sadd _ t [47] (by simp;omega),iBin_sadd _ (t++[47]) s h1,List.getElem?_cons_zero,List.getElem?_cons_succ,Nat.zero_add,fin_pure_d]
theorem s195 (hS:SysOK sys) (t s:List UInt8) (ps:List D) (h:t.length+s.length<2 ^ 34):run sys lim ro 195 [.d (mimD t s ps)] H=some (.val (.d (.str (t++[47]++s))),H):=by
 refine runP hS rfl (by kernel_rfl) rfl ?_
 rw [R195]
 have fz:∀ G,frzA ([]:Hp).length (.agg [.d (.str t),.d (.str s),.d (.lst ps)]) G=(.d (mimD t s ps),G):=λG=>rfl
 have hl:=ldN_new ([]:Hp) 69 3 [.d (.str t),.d (.str s),.d (.lst ps)] rfl
 simp only [box_mim,bsome,hl,frzArgs_1,fz,s245 hS t s ps h,lval,fin_pure_d]
theorem err_fin {G:Hp} {c:List IV} {b:Nat} (hG:G[b]? = some (.cells 69 c)) (hc:c.length=3) (e:Int):((st 3 ([]:Hp).length ([]:Hp).length (.ptr b 0) (.agg [.d (.str []),.d (.str []),.vnil]) G).bind λh15=>
 (
 (ldN 3 (.ptr b 0) h15).bind λv16=>(some [.d (.int .i64 e)]:Option (List IV)).map λl17=>v16::l17).bind λl18=>fin .pure [] ([]:Hp).length l18 h15)=some (.val (.tup [.d (mimD [] [] []),.d (.int .i64 e)]),[]):=by
 have e1:st 3 ([]:Hp).length ([]:Hp).length (.ptr b 0) (.agg [.d (.str []),.d (.str []),.vnil]) G=some (G.set b (.cells 69 [.d (.str []),.d (.str []),.vnil])):=by
  show st 3 0 0 (.ptr b 0) _ G=_
  rw [st_cells (n:=3) (off:=0) hG rfl (by omega) rfl (Nat.zero_le _) (.inl (Nat.zero_le _))]
  obtain⟨x,y,z,rfl⟩:∃ x y z,c=[x,y,z]:=by
   match c,hc with
   | [x,y,z],_=>exact⟨x,y,z,rfl⟩
  rfl
 have e2:ldN 3 (.ptr b 0) (G.set b (.cells 69 [.d (.str []),.d (.str []),.vnil]))=some (.agg [.d (.str []),.d (.str []),.vnil]):=by
  rw [ldN_cells (set_get hG) (by simp)];rfl
 rw [e1,bsome,e2,bsome]
 simp only [Option.map_some,bsome]
 exact fin_err _ _
theorem s414 (hS:SysOK sys) (t s nm w:List UInt8) {ps:List D} (hp:ParL ps) (hl:ps.length<2 ^ 25) (ht:t.length<2 ^ 34) (hs:s.length<2 ^ 34) (hn:nm.length<2 ^ 34) (hw:w.length<2 ^ 34) :
  run sys lim ro 414 [.d (mimD t s ps),.d (.str nm),.d (.str w)] H=some (.val (.tup [.d (mimD t s (ps++[.agg [.str nm,.str w]])),.d (.int .i64 0)]),H) ∨
  ∃ e:Int,e≠0∧run sys lim ro 414 [.d (mimD t s ps),.d (.str nm),.d (.str w)] H=some (.val (.tup [.d (mimD [] [] []),.d (.int .i64 e)]),H):=by
 have hps:=hp.snoc hn hw
 obtain⟨b1,r1⟩:=s445 (lim:=0) (ro:=0) (H:=[]) hS t s hps (by simp;omega) ht hs
 have r1:=λG=>runU (lim:=([]:Hp).length) (ro:=([]:Hp).length) (H:=G) hS rfl (by kernel_rfl) rfl r1
 obtain⟨b2,r2⟩:=s445 (lim:=0) (ro:=0) (H:=[]) hS t s hp (by omega) ht hs
 have r2:=λG=>runU (lim:=([]:Hp).length) (ro:=([]:Hp).length) (H:=G) hS rfl (by kernel_rfl) rfl r2
 obtain⟨k,r3,_⟩:=s443 (lim:=0) (ro:=0) (H:=[]) (m:=.agg [.d (.str t),.d (.str s),.d (.lst ps)]) (nm:=nm) hS rfl rfl (SlP.data hp (by omega))
 have r3:=λG=>runU (lim:=([]:Hp).length) (ro:=([]:Hp).length) (H:=G) hS rfl (by kernel_rfl) rfl r3
 have r4:=λG=>s277 (lim:=([]:Hp).length) (ro:=([]:Hp).length) (H:=G) hS (j446 hS) w (by omega)
 have box:(iBox 34 (.d (mimD t s ps)) [])=some (.ptr 0 0,[mimC t s (.d (.lst ps))]):=rfl
 have start:∀ {res:Out},sqK (C414 (run sys) 0 0 []) (rg 414 [1,0]) (en414_0 (.d (mimD t s ps)) nm w (.ptr 0 0,[mimC t s (.d (.lst ps))])) [mimC t s (.d (.lst ps)),mimC [] [] .vnil] (q414_0 (run sys) 0 0 [])=some (res,[])→run sys lim ro 414 [.d (mimD t s ps),.d (.str nm),.d (.str w)] H=some (res,H):=by
  intro res h
  refine runP hS rfl (by kernel_rfl) rfl ((R414 ..).trans ?_)
  rw [box,bsome]
  exact h
 have common:∀ (G:Hp) (b bv:Nat),2≤b→2≤bv→G[b]? = some (mimC t s (.vec bv 2 0 (ps.length+1)))→G[bv]? = some (.cells 220 (cellsOf (ps++[.agg [.str nm,.str w]]))) →
   ∃ Z,ldN 3 (.ptr b 0) G=some (.agg [.d (.str t),.d (.str s),.vec bv 2 0 (ps.length+1)])∧frzArgs ([]:Hp).length [(true,.agg [.d (.str t),.d (.str s),.vec bv 2 0 (ps.length+1)])] G=([.d (mimD t s (ps++[.agg [.str nm,.str w]]))],Z) ∧
    (∀ i,bv≠i→Z[i]? = G[i]?)∧Z[bv]? = some (.frz ((ps++[D.agg [.str nm,.str w]]).flatMap D.cells)):=by
  intro G b bv hb hbv h1 h2
  have hA:Acc 110 2 0 G (.vec bv 2 0 (ps.length+1)) (ps++[.agg [.str nm,.str w]]):=⟨hps.ok,.inr ⟨bv,Nat.zero_le _,by simp,h2⟩⟩
  obtain⟨Z,z1,z2,z3,z4⟩:=hA.frz'
  refine⟨Z,by rw [ldN_cells h1 (by simp)];rfl,?_,λi hi=>z3 i (by simpa [ownB] using hi),?_⟩
  ·have e1:Tg.frz 0 6 (.agg [.d (.str t),.d (.str s),.vec bv 2 0 (ps.length+1)]) G=some (mimD t s (ps++[.agg [.str nm,.str w]]),Z):=by
    show (frzMany (Tg.frz 0 5) [.d (.str t),.d (.str s),.vec bv 2 0 (ps.length+1)] G).map (λr=>(D.agg r.1,r.2))=_
    have e2:frzMany (Tg.frz 0 5) [.d (.str t),.d (.str s),.vec bv 2 0 (ps.length+1)] G=(frzMany (Tg.frz 0 5) [.vec bv 2 0 (ps.length+1)] G).map λq=>(.str t::.str s::q.1,q.2):=by
     show ((Option.some (D.str t,G)).bind λr=>((Option.some (D.str s,r.2)).bind λr=>(frzMany (Tg.frz 0 5) [.vec bv 2 0 (ps.length+1)] r.2).map λq=>(r.1::q.1,q.2)).map λq=>(r.1::q.1,q.2))=_
     simp only [Option.bind_some,Option.map_map];rfl
    have e3:frzMany (Tg.frz 0 5) [.vec bv 2 0 (ps.length+1)] G=some ([.lst (ps++[.agg [.str nm,.str w]])],Z):=by
     show (Tg.frz 0 5 (.vec bv 2 0 (ps.length+1)) G).bind _=_
     rw [z1 3];rfl
    rw [e2,e3];rfl
   have e4:frzA 0 (.agg [.d (.str t),.d (.str s),.vec bv 2 0 (ps.length+1)]) G=(.d (mimD t s (ps++[.agg [.str nm,.str w]])),Z):=by
    show (match Tg.frz 0 6 (.agg [.d (.str t),.d (.str s),.vec bv 2 0 (ps.length+1)]) G with | some (x,H)=>(IV.d x,H) | none=>_)=_
    rw [e1]
   exact congrArg (λp:IV×Hp=>([p.1],p.2)) e4
  ·rcases z4 with ⟨h,_⟩ | ⟨b',h,h'⟩
   ·cases h
   ·simp only [IV.vec.injEq] at h
    rw [h.1];exact h'
 have fz:∀ G,frzArgs ([]:Hp).length [(true,.agg [.d (.str t),.d (.str s),.d (.lst ps)])] G=([.d (mimD t s ps)],G):=λG=>rfl
 cases b1 with
 | true=>
  left
  refine start (with_sq hS hp (by omega) _ λG b bv z9 z10 z11 z12 z13 z14 z15 z16 z17 z18 z19 z20 z21 h0 h1 hb hbv h2 h3=>?_)
  obtain⟨Z,e1,e2,e3,e4⟩:=common G b bv hb hbv h2 h3
  have hne:bv≠b:=by intro e;subst e;rw [h2] at h3;cases h3
  have e5:ldN 3 (.ptr b 0) Z=some (.agg [.d (.str t),.d (.str s),.vec bv 2 0 (ps.length+1)]):=by rw [ldN_cells ((e3 b hne).trans h2) (by simp)];rfl
  have z1:Z[1]? = some (mimC [] [] .vnil):=(e3 1 (by omega)).trans h1
  refine (S414_0 ..).trans ?_
  simp only [e1,bsome,e2,r1,lval,br3_bool,if_true,e5]
  have e6:st 3 ([]:Hp).length ([]:Hp).length (.ptr [mimC t s (.d (.lst ps))].length 0) (.agg [.d (.str t),.d (.str s),.vec bv 2 0 (ps.length+1)]) Z=some (Z.set 1 (mimC t s (.vec bv 2 0 (ps.length+1)))):=by
   show st 3 0 0 (.ptr 1 0) _ Z=_
   rw [st_cells (n:=3) (off:=0) z1 rfl (by simp) rfl (Nat.zero_le _) (.inl (Nat.zero_le _))]
   rfl
  have e7:ldN 3 (.ptr [mimC t s (.d (.lst ps))].length 0) (Z.set 1 (mimC t s (.vec bv 2 0 (ps.length+1))))=some (.agg [.d (.str t),.d (.str s),.vec bv 2 0 (ps.length+1)]):=by
   show ldN 3 (.ptr 1 0) (Z.set 1 (.cells 69 [.d (.str t),.d (.str s),.vec bv 2 0 (ps.length+1)]))=_
   rw [ldN_cells (set_get z1) (by simp)];rfl
  rw [e6,bsome,e7,bsome]
  simp only [Option.map_some,bsome]
  have hF:FrzTo 0 (Z.set 1 (mimC t s (.vec bv 2 0 (ps.length+1)))) (.vec bv 2 0 (ps.length+1)) (ps++[.agg [.str nm,.str w]]):=by
   have:=FrzTo.frozen (ro:=0) (b:=bv) (G:=Z.set 1 (mimC t s (.vec bv 2 0 (ps.length+1)))) hps.ok (by rw [List.getElem?_set_ne (by omega)];exact e4)
   simpa using this
  exact fin_mim2 hF [] _
 | false=>
  right
  refine⟨if b2 && (decide (0≤k) && w.all bQuoted) then 7 else 2,by split <;> decide,?_⟩
  refine start (with_sq hS hp (by omega) _ λG b bv z9 z10 z11 z12 z13 z14 z15 z16 z17 z18 z19 z20 z21 h0 h1 hb hbv h2 h3=>?_)
  obtain⟨Z,e1,e2,e3,e4⟩:=common G b bv hb hbv h2 h3
  have z1:Z[1]? = some (mimC [] [] .vnil):=(e3 1 (by omega)).trans h1
  have l0:ldN 3 (.ptr 0 0) Z=some (.agg [.d (.str t),.d (.str s),.d (.lst ps)]):=by rw [ldN_cells ((e3 0 (by omega)).trans h0) (by simp)];rfl
  have ef:=λe=>err_fin (b:=1) z1 rfl e
  have ef':∀ e,((st 3 ([]:Hp).length ([]:Hp).length (.ptr [mimC t s (.d (.lst ps))].length 0) (.agg [.d (.str []),.d (.str []),.vnil]) Z).bind λh15=>
 ((ldN 3 (.ptr [mimC t s (.d (.lst ps))].length 0) h15).bind λv16=>(some [.d (.int .i64 e)]:Option (List IV)).map λl17=>v16::l17).bind λl18=>fin .pure [] ([]:Hp).length l18 h15)=_:=ef
  refine (S414_0 ..).trans ?_
  simp only [e1,bsome,e2,r1,lval,br3_bool,Bool.false_eq_true,if_false]
  refine (g414_0 (run sys) 0 0 [] _ nm w Z (.ptr 0 0,[mimC t s (.d (.lst ps))]) ..).trans ?_
  simp only [l0,bsome,fz,r2,lval,brN3_bool]
  cases b2 with
  | false=>
   simp only [Bool.false_eq_true,if_false,Bool.false_and]
   exact (g414_2 (run sys) 0 0 [] _ nm w Z (.ptr 0 0,[mimC t s (.d (.lst ps))]) ..).trans (ef' 2)
  | true=>
   simp only [if_true,Bool.true_and]
   refine (g414_1 (run sys) 0 0 [] _ nm w Z (.ptr 0 0,[mimC t s (.d (.lst ps))]) ..).trans ?_
   simp only [r3,lval,iBin_geq,bsome,brN3_bool]
   cases hk:decide ((0:Int)≤k) with
   | false=>
    simp only [Bool.false_eq_true,if_false,Bool.false_and]
    exact (g414_4 (run sys) 0 0 [] _ nm w Z (.ptr 0 0,[mimC t s (.d (.lst ps))]) ..).trans (ef' 2)
   | true=>
    simp only [if_true,Bool.true_and]
    refine (g414_3 (run sys) 0 0 [] _ nm w Z (.ptr 0 0,[mimC t s (.d (.lst ps))]) ..).trans ?_
    simp only [r4,lval,br3_bool]
    cases w.all bQuoted with
    | true=>simp only [if_true];exact ef' 7
    | false=>simp only [Bool.false_eq_true,if_false];exact ef' 2
end Go.Tg
namespace Go.Tg
variable [Globs] {lim ro:Nat} {H:Hp}
attribute [local congr] bindC liftRC br3C brN3C
theorem out370 {G:Hp} {c:List IV} {b:Nat} {ps:List D} {t s:List UInt8} {y:D} (h2:G[b]? = some (.cells 69 c)) (hc:c.length=3) :
  ((st 3 ([]:Hp).length ([]:Hp).length (.ptr b 0) (.d (mimD t s ps)) G).bind λh=>((ldN 3 (.ptr b 0) h).bind λv=>(some [.d y]:Option (List IV)).map λl=>v::l).bind λl=>fin .pure [] ([]:Hp).length l h)=some (.val (.tup [.d (mimD t s ps),.d y]),[]):=by
 have e1:st 3 ([]:Hp).length ([]:Hp).length (.ptr b 0) (.d (mimD t s ps)) G=some (G.set b (.cells 69 [.d (.str t),.d (.str s),.d (.lst ps)])):=by
  show st 3 0 0 (.ptr b 0) _ G=_
  rw [st_cells (n:=3) (off:=0) h2 rfl (by omega) rfl (Nat.zero_le _) (.inl (Nat.zero_le _))]
  obtain⟨a,b,d,rfl⟩:∃ a b d,c=[a,b,d]:=by
   match c,hc with
   | [a,b,d],_=>exact⟨a,b,d,rfl⟩
  rfl
 have e2:ldN 3 (.ptr b 0) (G.set b (.cells 69 [.d (.str t),.d (.str s),.d (.lst ps)]))=some (.agg [.d (.str t),.d (.str s),.d (.lst ps)]):=by rw [ldN_cells (set_get h2) (by simp)];rfl
 rw [e1,bsome,e2,bsome]
 simp only [Option.map_some,bsome]
 exact fin_mim2 (ro:=0) (FrzTo.data 0 _ ps) [] y
theorem out370a {G:Hp} {c:List IV} {b:Nat} {ps:List D} {t s:List UInt8} {y:D} (h2:G[b]? = some (.cells 69 c)) (hc:c.length=3) :
  ((st 3 ([]:Hp).length ([]:Hp).length (.ptr b 0) (.agg [.d (.str t),.d (.str s),.d (.lst ps)]) G).bind λh=>((ldN 3 (.ptr b 0) h).bind λv=>(some [.d y]:Option (List IV)).map λl=>v::l).bind λl=>fin .pure [] ([]:Hp).length l h)=some (.val (.tup [.d (mimD t s ps),.d y]),[]):=by
 have e1:st 3 ([]:Hp).length ([]:Hp).length (.ptr b 0) (.agg [.d (.str t),.d (.str s),.d (.lst ps)]) G=some (G.set b (.cells 69 [.d (.str t),.d (.str s),.d (.lst ps)])):=by
  show st 3 0 0 (.ptr b 0) _ G=_
  rw [st_cells (n:=3) (off:=0) h2 rfl (by omega) rfl (Nat.zero_le _) (.inl (Nat.zero_le _))]
  obtain⟨a,b,d,rfl⟩:∃ a b d,c=[a,b,d]:=by
   match c,hc with
   | [a,b,d],_=>exact⟨a,b,d,rfl⟩
  rfl
 have e2:ldN 3 (.ptr b 0) (G.set b (.cells 69 [.d (.str t),.d (.str s),.d (.lst ps)]))=some (.agg [.d (.str t),.d (.str s),.d (.lst ps)]):=by rw [ldN_cells (set_get h2) (by simp)];rfl
 rw [e1,bsome,e2,bsome]
 simp only [Option.map_some,bsome]
 exact fin_mim2 (ro:=0) (FrzTo.data 0 _ ps) [] y
theorem s370 (hS:SysOK sys) (t s:List UInt8) (ps:List D) (set t' s':List UInt8) {ps':List D} (hp:ParL ps') (hl:ps'.length<2 ^ 25) (h1:t.length+s.length<2 ^ 33) (h2:t'.length+s'.length<2 ^ 33) (hset:set.length<2 ^ 34) :
  ∃ ps'' set',ParL ps''∧ps''.length≤ps'.length+1∧set'.length<2 ^ 34∧run sys lim ro 370 [.d (mimD t s ps),.d (.str set),.d (mimD t' s' ps')] H=some (.val (.tup [.d (mimD t' s' ps''),.d (.str set')]),H):=by
 suffices h:∃ ps'' set',ParL ps''∧ps''.length≤ps'.length+1∧set'.length<2 ^ 34∧bodyK2 P tab (run sys) 0 0 370 [.d (mimD t s ps),.d (.str set),.d (mimD t' s' ps')] []=some (.val (.tup [.d (mimD t' s' ps''),.d (.str set')]),[]) by
  obtain⟨a,b,c1,c2,c3,h⟩:=h
  exact⟨a,b,c1,c2,c3,runP hS rfl (by kernel_rfl) rfl h⟩
 obtain⟨L,hL⟩:∃ L,L=bodyK2 P tab (run sys) 0 0 370 [.d (mimD t s ps),.d (.str set),.d (mimD t' s' ps')] []:=⟨_,rfl⟩
 rw [← hL]
 have hB:=hL.trans (R370 (run sys) 0 0 [] (.d (mimD t s ps)) set (.d (mimD t' s' ps')))
 clear hL
 obtain⟨w,b,r1,hw⟩:=s412 (lim:=([]:Hp).length) (ro:=([]:Hp).length) (H:=[mimC t s (.d (.lst ps)),mimC t' s' (.d (.lst ps')),mimC [] [] .vnil]) hS t' s' csN hp (by omega)
 have r1':run sys ([]:Hp).length ([]:Hp).length 412 [.d (mimD t' s' ps'),.d (.str [99,104,97,114,115,101,116])] [mimC t s (.d (.lst ps)),mimC t' s' (.d (.lst ps')),mimC [] [] .vnil]=_:=r1
 have b1:iBox 34 (.d (mimD t s ps)) []=some (.ptr 0 0,[mimC t s (.d (.lst ps))]):=rfl
 have b2:iBox 34 (.d (mimD t' s' ps')) [mimC t s (.d (.lst ps))]=some (.ptr 1 0,[mimC t s (.d (.lst ps)),mimC t' s' (.d (.lst ps'))]):=rfl
 have b3:([mimC t s (.d (.lst ps)),mimC t' s' (.d (.lst ps'))]++[Blk.cells 69 [.d (.str []),.d (.str []),.vnil]]:Hp)=[mimC t s (.d (.lst ps)),mimC t' s' (.d (.lst ps')),mimC [] [] .vnil]:=rfl
 have b4:[mimC t s (.d (.lst ps)),mimC t' s' (.d (.lst ps'))].length=2:=rfl
 generalize hX:[mimC t s (.d (.lst ps)),mimC t' s' (.d (.lst ps')),mimC [] [] .vnil]=X at r1' b3
 have l1:ldN 3 (.ptr 1 0) X=some (.agg [.d (.str t'),.d (.str s'),.d (.lst ps')]):=by rw [← hX];rfl
 have l0:ldN 3 (.ptr 0 0) X=some (.agg [.d (.str t),.d (.str s),.d (.lst ps)]):=by rw [← hX];rfl
 have x2:X[2]? = some (.cells 69 [.d (.str []),.d (.str []),.vnil]):=by rw [← hX];rfl
 have f1:frzArgs ([]:Hp).length [(true,.agg [.d (.str t'),.d (.str s'),.d (.lst ps')]),(false,.d (.str [99,104,97,114,115,101,116]))] X=([.d (mimD t' s' ps'),.d (.str [99,104,97,114,115,101,116])],X):=rfl
 have f2:frzArgs ([]:Hp).length [(true,.agg [.d (.str t),.d (.str s),.d (.lst ps)])] X=([.d (mimD t s ps)],X):=rfl
 have f3:∀ G,frzArgs ([]:Hp).length [(true,.agg [.d (.str t'),.d (.str s'),.d (.lst ps')])] G=([.d (mimD t' s' ps')],G):=λ_=>rfl
 have f4:frzArgs ([]:Hp).length [(true,.agg [.d (.str t'),.d (.str s'),.d (.lst ps')]),(false,.d (.str [99,104,97,114,115,101,116])),(false,.d (.str set))] X=([.d (mimD t' s' ps'),.d (.str [99,104,97,114,115,101,116]),.d (.str set)],X):=rfl
 have q1:∀ {ρ:Type} (y:Option ρ),fitsL false [(true,.agg [.d (.str t),.d (.str s),.d (.lst ps)])] y=y:=λy=>rfl
 have q2:∀ {ρ:Type} (y:Option ρ),fitsL false [(true,.agg [.d (.str t'),.d (.str s'),.d (.lst ps')])] y=y:=λy=>rfl
 have r2:=s195 (lim:=([]:Hp).length) (ro:=([]:Hp).length) (H:=X) hS t s ps (by omega)
 have r3:=s195 (lim:=([]:Hp).length) (ro:=([]:Hp).length) (H:=X) hS t' s' ps' (by omega)
 have r4:=λG=>s413 (lim:=([]:Hp).length) (ro:=([]:Hp).length) (H:=G) hS t' s' hp.ok (by omega)
 simp only [b1,bsome,b2,b3,l1,f1,r1',lval,extup,List.getElem?_cons_zero,List.getElem?_cons_succ,l0,q1,f2,r2,q2,f3,r3,iBin_sneq,br3_bool,b4,r4,g370_0,iUn_not,brN3_bool] at hB
 have own:∀ (G:Hp) (y:D),G[2]? = some (.cells 69 [.d (.str []),.d (.str []),.vnil])→((st 3 ([]:Hp).length ([]:Hp).length (.ptr 2 0) (.d (mimD t' s' ps')) G).bind λh=>((ldN 3 (.ptr 2 0) h).bind λv=>(some [.d y]:Option (List IV)).map λl=>v::l).bind λl=>fin .pure [] ([]:Hp).length l h)=some (.val (.tup [.d (mimD t' s' ps'),.d y]),[]):=λG y h=>out370 h rfl
 cases hne:decide (t++[47]++s≠t'++[47]++s') with
 | true=>
  simp only [hne,if_true] at hB
  exact⟨ps',w,hp,by omega,hw,hB.trans (own X _ x2)⟩
 | false=>
  simp only [hne,Bool.false_eq_true,if_false] at hB
  cases b with
  | true=>
   simp only [Bool.not_true,Bool.false_eq_true,if_false,g370_2,l1,bsome,f3,r4,lval,b4] at hB
   exact⟨ps',set,hp,by omega,hset,hB.trans (own X _ x2)⟩
  | false=>
   simp only [Bool.not_false,if_true,g370_1,iBin_sneq,bsome,br3_bool,l1,f4,b4] at hB
   cases hse:decide (set≠[]) with
   | false=>
    simp only [hse,Bool.false_eq_true,if_false,f3,r4,lval] at hB
    exact⟨ps',set,hp,by omega,hset,hB.trans (own X _ x2)⟩
   | true=>
    simp only [hse,if_true] at hB
    have go:∀ (t2 s2:List UInt8) (q:List D) (e:Int),run sys ([]:Hp).length ([]:Hp).length 414 [.d (mimD t' s' ps'),.d (.str [99,104,97,114,115,101,116]),.d (.str set)] X=some (.val (.tup [.d (mimD t2 s2 q),.d (.int .i64 e)]),X) →
      L=br3 (.d (.bool (decide (e=0)))) (some (.val (.tup [.d (mimD t2 s2 q),.d (.str set)]),[])) (some (.val (.tup [.d (mimD t' s' ps'),.d (.str set)]),[])):=by
     intro t2 s2 q e hr
     have st1:=st_new (lim:=0) (ro:=0) (n:=3) (off:=0) (ty:=69) (G:=X) (cs:=[.d (.str []),.d (.str []),.vnil]) (v:=.d (mimD t2 s2 q)) rfl (by simp) rfl (Nat.zero_le _) (Nat.zero_le _)
     have st1':st 3 ([]:Hp).length ([]:Hp).length (.ptr X.length 0) (.d (mimD t2 s2 q)) (X++[Blk.cells 69 [.d (.str []),.d (.str []),.vnil]])=some (X++[Blk.cells 69 [.d (.str t2),.d (.str s2),.d (.lst q)]]):=st1
     generalize hY:X++[Blk.cells 69 [.d (.str t2),.d (.str s2),.d (.lst q)]]=Y at st1'
     have y2:Y[2]? = some (.cells 69 [.d (.str []),.d (.str []),.vnil]):=by rw [← hY];exact get_app _ x2
     have ly1:ldN 3 (.ptr 1 0) Y=some (.agg [.d (.str t'),.d (.str s'),.d (.lst ps')]):=by rw [← hY,← hX];rfl
     have ly3:ldN 3 (.ptr X.length 0) Y=some (.agg [.d (.str t2),.d (.str s2),.d (.lst q)]):=by rw [← hY];exact ldN_new X 69 3 _ rfl
     simp only [hr,lval,extup,List.getElem?_cons_zero,List.getElem?_cons_succ,bsome,st1',iBin_errno,ly3,ly1,f3,r4] at hB
     rw [hB]
     have e1:=out370a (y:=.str set) (t:=t2) (s:=s2) (ps:=q) y2 rfl
     have e2:=own Y (.str set) y2
     rw [e1,e2]
    rcases s414 (lim:=([]:Hp).length) (ro:=([]:Hp).length) (H:=X) hS t' s' csN set hp hl (by omega) (by omega) (by decide) hset with hr | ⟨e,he,hr⟩
    ·have:=go _ _ _ _ hr
     exact⟨_,set,hp.snoc (by decide) hset,by simp,hset,this⟩
    ·have:=go _ _ _ _ hr
     rw [decide_eq_false he] at this
     exact⟨ps',set,hp,by omega,hset,this⟩
end Go.Tg
namespace Go.Tg
variable [Globs] {lim ro:Nat} {H:Hp}
attribute [local congr] bindC liftRC br3C brN3C
theorem strsOf_map (l:List (List UInt8)):strsOf (l.map .str)=some l:=by
 induction l with
 | nil=>rfl
 | cons a l ih=>simp only [List.map_cons,strsOf,ih];rfl
theorem s356 (hS:SysOK sys) (l:List (List UInt8)) (sep:List UInt8) (hj:(joinL sep l).length≤17179869184) (hs:sep.isEmpty=false):run sys lim ro 356 [.d (.lst (l.map .str)),.d (.str sep)] H=some (.val (.d (.str (joinL sep l))),H):=by
 refine run_prim hS (g:=pJoin) rfl ?_
 show (strsOf (l.map .str)).bind _=_
 rw [strsOf_map,bsome]
 exact if_pos ⟨by omega,hs⟩
theorem s416 (hS:SysOK sys) (l:List (List UInt8)) (hj:(joinL [44,32] l).length<2 ^ 34):run sys lim ro 416 [.d (.lst (l.map .str))] H=some (.val (.d (.str (joinL [44,32] l))),H):=by
 refine runP hS rfl (by kernel_rfl) rfl ?_
 rw [R416]
 simp only [s356 hS l [44,32] (by omega) rfl,lval,fin_pure_d]
theorem s372 (hS:SysOK sys) (l:List (List UInt8)) (hj:(joinL [44,32] l).length<2 ^ 34):run sys lim ro 372 [.d (.lst (l.map .str))] H=some (.val (.d (.str (joinL [44,32] l))),H):=by
 refine runP hS rfl (by kernel_rfl) rfl ?_
 rw [R372]
 simp only [s416 hS l hj,lval,fin_pure_d]
theorem s410 (hS:SysOK sys) (l:List (List UInt8)) (hj:(joinL [44,32] l).length<2 ^ 33):run sys lim ro 410 [.d (.lst (l.map .str))] H=some (.val (.d (.lst ((valsL l).map .str))),H):=by
 refine runP hS rfl (by kernel_rfl) rfl ?_
 rw [R410]
 simp only [lnV_lst,iBin_eql,bsome,br3_bool,s416 hS l (by omega),lval,s307 hS _ hj,fin_pure_d,fin_vnil,valsL]
 cases l with
 | nil=>rfl
 | cons a l=>simp;intro h;omega
theorem tok_no47 {s:List UInt8} (h:tok s=true):∀ c ∈ s,c≠47:=by
 intro c hc e
 subst e
 have h1:s.all bToken=true:=by
  unfold tok at h
  rw [Bool.and_eq_true] at h
  exact h.1
 have:=List.all_eq_true.1 h1 47 hc
 revert this;decide
theorem parseT_tok {s:List UInt8} {r:Ty} (h:parseT s=some r):tok r.1=true∧tok r.2=true:=by
 unfold parseT at h
 simp only at h
 split at h
 ·rename_i hc
  simp only [Option.some.injEq] at h
  subst h
  exact⟨by rw [tok_low];exact hc.2.1,by rw [tok_low];exact hc.2.2⟩
 ·cases h
theorem ess_any {t s:List UInt8} (h:∀ c ∈ t,c≠47):decide (t++[47]++s≠[42,47,42])=notAny (t,s):=by
 have key:t++[47]++s=[42,47,42]↔t=[42]∧s=[42]:=by
  constructor
  ·intro e
   match t,h with
   | [],_=>simp at e
   | [a],_=>simp at e;exact⟨by rw [e.1],e.2⟩
   | a::b::t,h=>simp at e;exact absurd e.2.1 (h b (by simp))
  ·rintro⟨rfl,rfl⟩;rfl
 unfold notAny
 rw [Bool.eq_iff_iff]
 simp only [decide_eq_true_eq,ne_eq,key,Bool.not_eq_true',Bool.and_eq_false_iff,decide_eq_false_iff_not]
 by_cases h1:t=[42] <;> simp [h1]
theorem s369 (hS:SysOK sys) (l:List (List UInt8)) (hj:(joinL [44,32] l).length<2 ^ 25 - 1):∃ els,MimL els (allT (valsL l))∧run sys lim ro 369 [.d (.lst (l.map .str))] H=some (.val (.d (.lst els)),H):=by
 obtain⟨hv1,hv2⟩:=valsL_len l
 have r0:=λG=>s410 (lim:=([]:Hp).length) (ro:=([]:Hp).length) (H:=G) hS l (by omega)
 generalize valsL l=vs at r0 hv1 hv2 ⊢
 have key:∀ k i (G:Hp) v els,i+k=vs.length→Acc 34 3 0 G v els→MimL els (allT (vs.take i))→∃ G' v' els',loopW (stepL (C369 (run sys) 0 0 []) [3,9,10,11] (cd 369 [1,1,0,1,0,0])) (E369 v (.d (.lst (vs.map .str))) (.d (.int .i64 (vs.length:Nat))) (.d (.int .i64 (i:Nat))),G) =
   some (.exi 0,E369 v' (.d (.lst (vs.map .str))) (.d (.int .i64 (vs.length:Nat))) (.d (.int .i64 (vs.length:Nat))),G')∧Acc 34 3 0 G' v' els'∧MimL els' (allT vs):=by
  intro k
  induction k with
  | zero=>
   intro i G v els hi hA hM
   have hi':i=vs.length:=by omega
   subst hi'
   rw [List.take_length] at hM
   refine⟨G,v,els,loopW_done ?_,hA,hM⟩
   have e1:decide ((vs.length:Int)<(vs.length:Int))=false:=by simp
   rw [B369_0]
   simp only [iBin_lss,bsome,br3_bool,e1,Bool.false_eq_true,if_false]
  | succ k ih=>
   intro i G v els hi hA hM
   have hlt:i<vs.length:=by omega
   have e1:decide ((i:Int)<(vs.length:Int))=true:=by simpa using hlt
   have e2:IntKind.i64.wrap ((i:Int)+1)=((i+1:Nat):Int):=by rw [wrap64 (by omega) (by omega)];simp
   have hel:els.length≤i:=by
    have h1:=hM.1
    have h2:=allT_len (vs.take i)
    simp at h2;omega
   have hsn:allT (vs.take (i+1))=allT (vs.take i)++(match parseT vs[i] with | some r=>if notAny r=true then [r] else [] | none=>[]):=by rw [take_succ_get vs i hlt,allT_snoc];rfl
   have hpl:=hv2 vs[i] (List.getElem_mem hlt)
   obtain⟨ps,hps,hpsl,r1⟩:=s411 (lim:=([]:Hp).length) (ro:=([]:Hp).length) (H:=G) hS vs[i] (by omega)
   obtain⟨L,hL⟩:∃ L,L=stepL (C369 (run sys) 0 0 []) [3,9,10,11] (cd 369 [1,1,0,1,0,0]) (E369 v (.d (.lst (vs.map .str))) (.d (.int .i64 (vs.length:Nat))) (.d (.int .i64 (i:Nat))),G):=⟨_,rfl⟩
   have hB:=hL.trans (B369_0 (run sys) 0 0 [] v (.d (.lst (vs.map .str))) (.d (.int .i64 (vs.length:Nat))) (.d (.int .i64 (i:Nat))) G)
   simp only [iBin_lss,bsome,br3_bool,e1,if_true,ixA_strs hlt,ld_lptr,List.getElem?_cons_zero,Option.map_some,r1,lval] at hB
   cases hp:parseT vs[i] with
   | none=>
    rw [hp] at hsn
    simp only [List.append_nil] at hsn
    have st1:=st_new (lim:=0) (ro:=0) (n:=3) (off:=0) (ty:=69) (G:=G) (cs:=[.d (.str []),.d (.str []),.vnil]) (v:=.d (mimD [] [] [])) rfl (by simp) rfl (Nat.zero_le _) (Nat.zero_le _)
    have st1':st 3 ([]:Hp).length ([]:Hp).length (.ptr G.length 0) (.d (mimD [] [] [])) (G++[Blk.cells 69 [.d (.str []),.d (.str []),.vnil]])=some (G++[Blk.cells 69 [.d (.str []),.d (.str []),.d (.lst [])]]):=st1
    simp only [hp,extup,List.getElem?_cons_zero,List.getElem?_cons_succ,bsome,st1',g369_0,iBin_eql,show decide ((2:Int)=0)=false from rfl,brN3_bool,Bool.false_eq_true,if_false,g369_2,iBin_add,e2] at hB
    obtain⟨G',v',els',h1,h2,h3⟩:=ih (i+1) (G++[Blk.cells 69 [.d (.str []),.d (.str []),.d (.lst [])]]) v els (by omega) (hA.keep λb hb=>List.getElem?_append_left (hA.own_lt hb).1) (by rw [hsn];exact hM)
    exact⟨G',v',els',loopW_next (hL.symm.trans hB) h1,h2,h3⟩
   | some r=>
    obtain⟨t,s⟩:=r
    have hrl:=parseT_len hp
    have htk:=parseT_tok hp
    simp only at hrl htk
    rw [hp] at hsn
    have st1:=st_new (lim:=0) (ro:=0) (n:=3) (off:=0) (ty:=69) (G:=G) (cs:=[.d (.str []),.d (.str []),.vnil]) (v:=.d (mimD t s ps)) rfl (by simp) rfl (Nat.zero_le _) (Nat.zero_le _)
    have st1':st 3 ([]:Hp).length ([]:Hp).length (.ptr G.length 0) (.d (mimD t s ps)) (G++[Blk.cells 69 [.d (.str []),.d (.str []),.vnil]])=some (G++[Blk.cells 69 [.d (.str t),.d (.str s),.d (.lst ps)]]):=st1
    generalize hY:G++[Blk.cells 69 [.d (.str t),.d (.str s),.d (.lst ps)]]=Y at st1'
    have l3:ldN 3 (.ptr G.length 0) Y=some (.agg [.d (.str t),.d (.str s),.d (.lst ps)]):=by rw [← hY];exact ldN_new G 69 3 _ rfl
    have hAY:Acc 34 3 0 Y v els:=by rw [← hY];exact hA.keep λb hb=>List.getElem?_append_left (hA.own_lt hb).1
    obtain⟨v1,G3,hpush,hA1, -⟩:=hAY.push (e:=mimD t s ps) (OkE.agg rfl (by decide)) (Nat.zero_le _) (by omega)
    have hpush':app 34 3 ([]:Hp).length v (.vec Y.length 3 0 1) (Y++[.cells 68 [.d (.str t),.d (.str s),.d (.lst ps)]])=some (v1,G3):=hpush
    have hE:MimE (mimD t s ps) (t,s):=⟨ps,rfl,hps,by omega,by simp only;omega,by simp only;omega⟩
    have fz:frzArgs ([]:Hp).length [(true,.agg [.d (.str t),.d (.str s),.d (.lst ps)])] Y=([.d (mimD t s ps)],Y):=rfl
    have r2:=s195 (lim:=([]:Hp).length) (ro:=([]:Hp).length) (H:=Y) hS t s ps (by omega)
    simp only [hp,extup,List.getElem?_cons_zero,List.getElem?_cons_succ,bsome,st1',g369_0,iBin_eql,show decide ((0:Int)=0)=true from rfl,brN3_bool,if_true,l3,g369_1,fz,r2,lval,iBin_sneq,ess_any (tok_no47 htk.1),br3_bool] at hB
    cases hna:notAny (t,s) with
    | false=>
     simp only [hna,Bool.false_eq_true,if_false,iBin_add,bsome,e2] at hB
     obtain⟨G',v',els',h1,h2,h3⟩:=ih (i+1) Y v els (by omega) hAY (by rw [hsn];simp only [hna,Bool.false_eq_true,if_false,List.append_nil];exact hM)
     exact⟨G',v',els',loopW_next (hL.symm.trans hB) h1,h2,h3⟩
    | true=>
     simp only [hna,if_true,l3,bsome,bs_mim,hpush',iBin_add,e2] at hB
     obtain⟨G',v',els',h1,h2,h3⟩:=ih (i+1) G3 v1 _ (by omega) hA1 (by rw [hsn];simp only [hna,if_true];exact hM.snoc hE)
     exact⟨G',v',els',loopW_next (hL.symm.trans hB) h1,h2,h3⟩
 obtain⟨G',v',els',h1,h2,h3⟩:=key vs.length 0 [] .vnil [] (by omega) (Acc.nil 34 3 0 []) (by simpa [allT] using MimL.nil)
 refine⟨els',h3,runP hS rfl (by kernel_rfl) rfl ?_⟩
 rw [R369]
 simp only [r0,lval,lnV_lst,List.length_map,bsome]
 rw [show (0:Int)=((0:Nat):Int) from rfl,h1]
 simp only [bsome,K369_0x0]
 exact h2.fin []
theorem s304 (hS:SysOK sys) (l:List (List UInt8)) (hj:(joinL [44,32] l).length<2 ^ 25 - 1):∃ ps,ParL ps∧ps.length<2 ^ 26∧run sys lim ro 304 [.d (.lst (l.map .str))] H =
  some (.val (match (allT (valsL l)).getLast? with | some r=>.tup [.d (mimD r.1 r.2 ps),.d (.int .i64 0)] | none=>.tup [.d (mimD [] [] []),.d (.int .i64 4)]),H):=by
 obtain⟨els,hM,r0⟩:=s369 (lim:=([]:Hp).length) (ro:=([]:Hp).length) (H:=(([]++[Blk.cells 69 [.d (.str []),.d (.str []),.vnil]])++[Blk.cells 69 [.d (.str []),.d (.str []),.vnil]])) hS l hj
 have hvl:=(valsL_len l).1
 have htl:=allT_len (valsL l)
 generalize allT (valsL l)=rs at hM htl ⊢
 have hlen:=hM.1
 generalize hX:(([]++[Blk.cells 69 [.d (.str []),.d (.str []),.vnil]])++[Blk.cells 69 [.d (.str []),.d (.str []),.vnil]]:Hp)=X at r0
 have hXl:X.length=2:=by rw [← hX];rfl
 let Z:Hp→Prop:=λG=>∃ c,G[0]? = some (.cells 69 c)∧c.length=3
 let I:Nat→Hp→List UInt8→Prop:=λi G set=>Z G∧set.length<2 ^ 34∧∃ t s x ps,G[1]? = some (.cells 69 [.d (.str t),.d (.str s),x])∧(x=.vnil∧ps=[]∨x=.d (.lst ps))∧t.length<2 ^ 26∧s.length<2 ^ 26∧ParL ps∧ps.length<2 ^ 26 ∧
  (∀ (h:0<i) (h2:i≤rs.length),(t,s)=rs[i - 1])
 have key:∀ k i (G:Hp) set,i+k=els.length→I i G set→∃ G' set',loopW (stepL (C304 (run sys) 0 0 []) [2,4,5,6,11,12,13] (cd 304 [1,1,1,1,0,1,0,0])) (E304 (.ptr 0 0) (.ptr 1 0) (.d (.str set)) (.d (.lst els)) (.d (.lst els)) (.d (.int .i64 (els.length:Nat))) (.d (.int .i64 (i:Nat))),G) =
   some (.exi 0,E304 (.ptr 0 0) (.ptr 1 0) (.d (.str set')) (.d (.lst els)) (.d (.lst els)) (.d (.int .i64 (els.length:Nat))) (.d (.int .i64 (els.length:Nat))),G')∧I els.length G' set':=by
  intro k
  induction k with
  | zero=>
   intro i G set hi hI
   have hi':i=els.length:=by omega
   subst hi'
   refine⟨G,set,loopW_done ?_,hI⟩
   have e1:decide ((els.length:Int)<(els.length:Int))=false:=by simp
   rw [B304_0]
   simp only [iBin_lss,bsome,br3_bool,e1,Bool.false_eq_true,if_false]
  | succ k ih=>
   intro i G set hi hI
   obtain⟨hz,hset,t,s,x,ps,h1,hx,ht,hs,hp,hpl,_⟩:=hI
   have hlt:i<els.length:=by omega
   have e1:decide ((i:Int)<(els.length:Int))=true:=by simpa using hlt
   have e2:IntKind.i64.wrap ((i:Int)+1)=((i+1:Nat):Int):=by rw [wrap64 (by omega) (by omega)];simp
   obtain⟨ps',he,hp',hpl',ht',hs'⟩:=hM.2 i hlt (by omega)
   generalize hr:rs[i]=r at he ht' hs'
   obtain⟨t',s'⟩:=r
   simp only at he ht' hs'
   have hix:ixA 3 (.d (.lst els)) (.d (.int .i64 (i:Nat)))=some (.lptr [.str t',.str s',.lst ps'] 0):=by
    rw [ixA_lst hlt (by rw [he];rfl),he];rfl
   have st1:=st_new (lim:=0) (ro:=0) (n:=3) (off:=0) (ty:=69) (G:=G) (cs:=[.d (.str []),.d (.str []),.vnil]) (v:=.d (mimD t' s' ps')) rfl (by simp) rfl (Nat.zero_le _) (Nat.zero_le _)
   have st1':st 3 ([]:Hp).length ([]:Hp).length (.ptr G.length 0) (.d (.agg [.str t',.str s',.lst ps'])) (G++[Blk.cells 69 [.d (.str []),.d (.str []),.vnil]])=some (G++[Blk.cells 69 [.d (.str t'),.d (.str s'),.d (.lst ps')]]):=st1
   generalize hY:G++[Blk.cells 69 [.d (.str t'),.d (.str s'),.d (.lst ps')]]=Y at st1'
   have y1:Y[1]? = some (.cells 69 [.d (.str t),.d (.str s),x]):=by rw [← hY];exact get_app _ h1
   have l1:ldN 3 (.ptr 1 0) Y=some (.agg [.d (.str t),.d (.str s),x]):=by rw [ldN_cells y1 (by simp)];rfl
   have l3:ldN 3 (.ptr G.length 0) Y=some (.agg [.d (.str t'),.d (.str s'),.d (.lst ps')]):=by rw [← hY];exact ldN_new G 69 3 _ rfl
   have hfz:frzArgs ([]:Hp).length [(true,.agg [.d (.str t),.d (.str s),x]),(false,.d (.str set)),(true,.agg [.d (.str t'),.d (.str s'),.d (.lst ps')])] Y=([.d (mimD t s ps),.d (.str set),.d (mimD t' s' ps')],Y):=by
    rcases hx with ⟨rfl,rfl⟩ | rfl <;> rfl
   obtain⟨ps2,set2,g1,g2,g3,r1⟩:=s370 (lim:=([]:Hp).length) (ro:=([]:Hp).length) (H:=Y) hS t s ps set t' s' hp' hpl' (by omega) (by omega) hset
   have hst:st 3 ([]:Hp).length ([]:Hp).length (.ptr 1 0) (.d (mimD t' s' ps2)) Y=some (Y.set 1 (.cells 69 [.d (.str t'),.d (.str s'),.d (.lst ps2)])):=by
    show st 3 0 0 (.ptr 1 0) _ Y=_
    rw [st_cells (n:=3) (off:=0) y1 rfl (by simp) rfl (Nat.zero_le _) (.inl (Nat.zero_le _))]
    rfl
   obtain⟨c,hc1,hc2⟩:=hz
   obtain⟨G',set',k1,k2⟩:=ih (i+1) (Y.set 1 (.cells 69 [.d (.str t'),.d (.str s'),.d (.lst ps2)])) set2 (by omega)
    ⟨⟨c,by rw [List.getElem?_set_ne (by decide),← hY];exact get_app _ hc1,hc2⟩,g3,t',s',_,ps2,set_get y1,.inr rfl,ht',hs',g1,by omega,λ_ _=>by simp only [Nat.add_sub_cancel];exact hr.symm⟩
   refine⟨G',set',loopW_next ?_ k1,k2⟩
   rw [B304_0]
   simp only [iBin_lss,bsome,br3_bool,e1,if_true,hix,ldN_lptr _ _ (show 3=([.str t',.str s',.lst ps']:List D).length from rfl),st1',l1,l3,hfz,r1,lval,extup,List.getElem?_cons_zero,List.getElem?_cons_succ,hst,iBin_add,e2]
 have hI0:I 0 X []:=by
  refine⟨⟨_,by rw [← hX];rfl,rfl⟩,by decide,[],[],.vnil,[],by rw [← hX];rfl,.inl ⟨rfl,rfl⟩,by decide,by decide,λe he=>by simp at he,by decide,λh=>absurd h (Nat.lt_irrefl _)⟩
 obtain⟨G',set',hloop,hz,hset,t,s,x,ps,h1,hx,ht,hs,hp,hpl,hlast⟩:=key els.length 0 _ [] (by omega) hI0
 have hloop':loopW (stepL (C304 (run sys) 0 0 []) [2,4,5,6,11,12,13] (cd 304 [1,1,1,1,0,1,0,0])) (E304 (.ptr ([]:Hp).length 0) (.ptr ([]++[Blk.cells 69 [.d (.str []),.d (.str []),.vnil]]).length 0) (.d (.str [])) (.d (.lst els)) (.d (.lst els)) (.d (.int .i64 (els.length:Nat))) (.d (.int .i64 0)),X)=some (.exi 0,E304 (.ptr 0 0) (.ptr 1 0) (.d (.str set')) (.d (.lst els)) (.d (.lst els)) (.d (.int .i64 (els.length:Nat))) (.d (.int .i64 (els.length:Nat))),G'):=hloop
 obtain⟨c,hc1,hc2⟩:=hz
 refine⟨ps,hp,hpl,runP hS rfl (by kernel_rfl) rfl ?_⟩
 rw [R304,hX]
 simp only [r0,lval,lnV_lst,bsome,hloop',K304_0x0,iBin_eql,br3_bool]
 cases hrs:rs.getLast? with
 | none=>
  have:rs=[]:=List.getLast?_eq_none_iff.1 hrs
  subst this
  have e1:decide ((els.length:Int)=0)=true:=by simp [hlen]
  simp only [e1,if_true]
  exact err_fin hc1 hc2 4
 | some r=>
  have hne:rs≠[]:=λh=>by rw [h] at hrs;simp at hrs
  have hpos:0<rs.length:=List.length_pos_iff.2 hne
  have e1:decide ((els.length:Int)=0)=false:=by simp;intro h;rw [h] at hlen;simp at hlen;omega
  have hr:r=(t,s):=by
   have h3:=hlast (by omega) (by omega)
   rw [h3]
   have h4:=List.getLast?_eq_getElem? (l:=rs)
   rw [hrs,List.getElem?_eq_getElem (by omega)] at h4
   have h5:=Option.some.inj h4
   rw [h5]
   congr 1
   omega
  subst hr
  obtain⟨a,b,d,rfl⟩:∃ a b d,c=[a,b,d]:=by
   match c,hc2 with
   | [a,b,d],_=>exact⟨a,b,d,rfl⟩
  have e2:ldN 3 (.ptr 1 0) G'=some (.agg [.d (.str t),.d (.str s),x]):=by rw [ldN_cells h1 (by simp)];rfl
  have hx1:x.one=true∧x.cells=[x]:=by rcases hx with ⟨rfl,_⟩ | rfl <;> exact⟨rfl,rfl⟩
  have e3:st 3 ([]:Hp).length ([]:Hp).length (.ptr 0 0) (.agg [.d (.str t),.d (.str s),x]) G'=some (G'.set 0 (.cells 69 [.d (.str t),.d (.str s),x])):=by
   show st 3 0 0 (.ptr 0 0) _ G'=_
   rw [st_cells (n:=3) (off:=0) hc1 rfl (by simp) (by simp only [IV.cells,List.all_cons,List.all_nil,hx1.1,Bool.and_true];rfl) (Nat.zero_le _) (.inl (Nat.zero_le _))]
   rfl
  have e4:ldN 3 (.ptr 0 0) (G'.set 0 (.cells 69 [.d (.str t),.d (.str s),x]))=some (.agg [.d (.str t),.d (.str s),x]):=by
   rw [ldN_cells (set_get hc1) (by simp)];rfl
  simp only [e1,Bool.false_eq_true,if_false,e2,bsome,e3,e4,Option.map_some]
  refine fin_mim2 (ro:=0) (v:=x) (els:=ps) ?_ [] _
  rcases hx with ⟨rfl,rfl⟩ | rfl
  ·exact (Acc.nil 110 2 0 _).frzTo
  ·exact FrzTo.data 0 _ ps
theorem s238 (hS:SysOK sys) (l:List (List UInt8)) (hj:(joinL [44,32] l).length<2 ^ 25 - 1):∃ ps,ParL ps∧ps.length<2 ^ 26∧run sys lim ro 238 [.d (.lst (l.map .str))] H =
  some (.val (match (allT (valsL l)).getLast? with | some r=>.tup [.d (mimD r.1 r.2 ps),.d (.int .i64 0)] | none=>.tup [.d (mimD [] [] []),.d (.int .i64 4)]),H):=by
 obtain⟨ps,hp,hpl,r0⟩:=s304 (lim:=([]:Hp).length) (ro:=([]:Hp).length) (H:=([]++[Blk.cells 69 [.d (.str []),.d (.str []),.vnil]])) hS l hj
 refine⟨ps,hp,hpl,runP hS rfl (by kernel_rfl) rfl ?_⟩
 rw [R238]
 have hX:([]++[Blk.cells 69 [.d (.str []),.d (.str []),.vnil]]:Hp)[([]:Hp).length]? = some (.cells 69 [.d (.str []),.d (.str []),.vnil]):=rfl
 cases hrs:(allT (valsL l)).getLast? with
 | none=>
  rw [hrs] at r0
  simp only [r0,lval,extup,List.getElem?_cons_zero,List.getElem?_cons_succ,bsome]
  exact out370 hX rfl
 | some r=>
  rw [hrs] at r0
  simp only [r0,lval,extup,List.getElem?_cons_zero,List.getElem?_cons_succ,bsome]
  exact out370 hX rfl
end Go.Tg
namespace Go.Tg
variable [Globs] {lim ro:Nat} {H:Hp}
attribute [local congr] bindC liftRC br3C brN3C
theorem iBin_ineq (t:TypeId) (k:IntKind) (a b:Int):iBin P .neq t (.d (.int k a)) (.d (.int k b))=some (.d (.bool (decide (a≠b)))):=iBin_neq t k a b
theorem s308 (hS:SysOK sys) (a b:List UInt8) (ha:a.length<2 ^ 34):run sys lim ro 308 [.d (.str a),.d (.str b)] H=some (.val (.d (.bool (decide (a.map lowB=b.map lowB)))),H):=by
 refine runP hS rfl (by kernel_rfl) rfl ?_
 rw [R308]
 simp only [lnS_str,bsome,iBin_ineq,br3_bool]
 by_cases hl:a.length=b.length
 case neg=>
  have e1:decide ((a.length:Int)≠(b.length:Nat))=true:=by simp;omega
  have e2:decide (a.map lowB=b.map lowB)=false:=by
   simp only [decide_eq_false_iff_not]
   intro h
   have:=congrArg List.length h
   simp at this;exact hl this
  rw [e1,e2];rfl
 case pos=>
  have e1:decide ((a.length:Int)≠(b.length:Nat))=false:=by simp;omega
  rw [e1,if_neg (by simp)]
  have hz:(a.zip b).length=a.length:=by simp;omega
  have key:=loopW_find (step:=stepL (C308 (run sys) 0 0 []) [0,1,4,12,13] (cd 308 [1,1,0,1,0,0])) (a.zip b) (λp=>decide (((lowB p.1).toNat:Int)≠((lowB p.2).toNat:Int)))
   (λi=>(E308 (.d (.str a)) (.d (.str b)) (.d (.bool false)) (.d (.int .i64 (a.length:Nat))) (.d (.int .i64 (i:Nat))),([]:Hp)))
   (λi=>(.ret,E308 (.d (.str a)) (.d (.str b)) (.d (.bool false)) (.d (.int .i64 (a.length:Nat))) (.d (.int .i64 (i:Nat))),[])) (.exi 0,E308 (.d (.str a)) (.d (.str b)) (.d (.bool false)) (.d (.int .i64 (a.length:Nat))) (.d (.int .i64 (a.length:Nat))),[]) ?_ ?_ ?_
  ·rw [show (0:Int)=((0:Nat):Int) from rfl,key]
   have hiff:(a.zip b).findIdx? (λp=>decide (((lowB p.1).toNat:Int)≠((lowB p.2).toNat:Int)))=none↔a.map lowB=b.map lowB:=by
    rw [List.findIdx?_eq_none_iff]
    constructor
    ·intro h
     apply List.ext_getElem (by simp [hl])
     intro i h1 h2
     have hi:i<(a.zip b).length:=by simp at h1 ⊢;omega
     have:=h _ (List.getElem_mem hi)
     simp only [decide_eq_false_iff_not,ne_eq,Decidable.not_not,List.getElem_zip] at this
     simp only [List.getElem_map]
     exact UInt8.toNat_inj.1 (by omega)
    ·intro h p hp
     obtain⟨i,hi,rfl⟩:=List.getElem_of_mem hp
     have h1:i<a.length:=by omega
     have h2:i<b.length:=by omega
     have:=congrArg (λl:List UInt8=>l[i]?) h
     simp only [List.getElem?_map,List.getElem?_eq_getElem h1,List.getElem?_eq_getElem h2,Option.map_some,Option.some.injEq] at this
     simp only [List.getElem_zip,this]
     simp
   cases h:(a.zip b).findIdx? (λp=>decide (((lowB p.1).toNat:Int)≠((lowB p.2).toNat:Int))) with
   | none=>
    simp only [bsome,K308_0x0,fin_pure_d]
    rw [decide_eq_true (hiff.1 h)]
   | some i=>
    simp only [bsome,K308_0r,fin_pure_d]
    rw [decide_eq_false (λe=>by rw [hiff.2 e] at h;cases h)]
  ·intro i hi hq
   have h1:i<a.length:=by omega
   have h2:i<b.length:=by omega
   have hq':decide (((lowB a[i]).toNat:Int)≠((lowB b[i]).toNat:Int))=false:=by simpa only [List.getElem_zip] using hq
   have e2:decide ((i:Int)<(a.length:Int))=true:=by simpa using h1
   have e3:IntKind.i64.wrap ((i:Int)+1)=((i+1:Nat):Int):=by rw [wrap64 (by omega) (by omega)];simp
   rw [B308_0]
   simp only [iBin_lss,bsome,br3_bool,e2,if_true,ixS_nat h1,s377 hS,lval,ixS_nat h2,iBin_ineq,hq',Bool.false_eq_true,if_false,iBin_add,e3]
  ·intro i hi hq
   have h1:i<a.length:=by omega
   have h2:i<b.length:=by omega
   have hq':decide (((lowB a[i]).toNat:Int)≠((lowB b[i]).toNat:Int))=true:=by simpa only [List.getElem_zip] using hq
   have e2:decide ((i:Int)<(a.length:Int))=true:=by simpa using h1
   rw [B308_0]
   simp only [iBin_lss,bsome,br3_bool,e2,if_true,ixS_nat h1,s377 hS,lval,ixS_nat h2,iBin_ineq,hq']
  ·rw [hz]
   have e2:decide ((a.length:Int)<(a.length:Int))=false:=by simp
   rw [B308_0]
   simp only [iBin_lss,bsome,br3_bool,e2,Bool.false_eq_true,if_false]
theorem s241 (hS:SysOK sys) (a b:List UInt8) (ha:a.length<2 ^ 34):run sys lim ro 241 [.d (.str a),.d (.str b)] H=some (.val (.d (.bool (decide (a.map lowB=b.map lowB)))),H):=by
 refine runP hS rfl (by kernel_rfl) rfl ?_
 rw [R241]
 simp only [s308 hS a b ha,lval,fin_pure_d]
theorem s415 (hS:SysOK sys) {n v nm:List UInt8} {c:Nat} (hc:H[c]? = some (.cells 19 [.d (.str nm)])) (hn:n.length<2 ^ 34) :
  run sys lim ro 415 [.agg [.d (.str n),.d (.str v)],.ptr c 0] H=some (.val (.d (.bool (named nm (n,v)))),H):=by
 refine runB hS rfl (λ_=>by simp [closedVs,closedV]) ?_
 rw [R415]
 have hc':ld1 (.ptr c 0) (H++[Blk.cells 169 [.d (.str n),.d (.str v)]])=some (.d (.str nm)):=by rw [ld1_cells (get_app _ hc)];rfl
 have hb:iBox 84 (.agg [.d (.str n),.d (.str v)]) H=some (.ptr H.length 0,H++[Blk.cells 169 [.d (.str n),.d (.str v)]]):=rfl
 simp only [hb,bsome,padd_ptr,Nat.zero_add,ld1_new,List.getElem?_cons_zero,hc',s241 hS n nm hn,lval,fin_pure_d]
 rfl
theorem s371 (hS:SysOK sys) (nm:List UInt8):run sys lim ro 371 [.d (.str nm)] H=some (.val (.fn 415 [] [.ptr H.length 0]),H++[Blk.cells 19 [.d (.str nm)]]):=by
 have e:tab.mode 371=.keep:=by kernel_rfl
 refine runB hS rfl (λh=>by rw [e] at h;cases h) ?_
 rw [R371]
 rfl
theorem s305 (hS:SysOK sys) (nm:List UInt8) (hs:List Hd) (hh:Short hs):run sys lim ro 305 [.d (.str nm),.d (.lst (hs.map hdD))] H=some (.val (.d (.lst ((getV nm hs).map .str))),H):=by
 refine runP hS rfl (by kernel_rfl) rfl ?_
 rw [R305]
 have key:∀ k i (G:Hp) v,i+k=hs.length→Acc 9 1 0 G v ((getV nm (hs.take i)).map .str)→G[0]? = some (.cells 19 [.d (.str nm)])→(∀ j,ownB v=some j→1≤j)→∃ G' v',loopW (stepL (C305 (run sys) 0 0 []) [5,6,11,12,13] (cd 305 [1,1,1,0,1,0,0])) (E305 v (.fn 415 [] [.ptr 0 0]) (.d (.lst (hs.map hdD))) (.d (.int .i64 (hs.length:Nat))) (.d (.int .i64 (i:Nat))),G) =
   some (.exi 0,E305 v' (.fn 415 [] [.ptr 0 0]) (.d (.lst (hs.map hdD))) (.d (.int .i64 (hs.length:Nat))) (.d (.int .i64 (hs.length:Nat))),G')∧Acc 9 1 0 G' v' ((getV nm hs).map .str):=by
  intro k
  induction k with
  | zero=>
   intro i G v hi hA _ _
   have hi':i=hs.length:=by omega
   subst hi'
   rw [List.take_length] at hA
   refine⟨G,v,loopW_done ?_,hA⟩
   have e1:decide ((hs.length:Int)<(hs.length:Int))=false:=by simp
   rw [B305_0]
   simp only [iBin_lss,bsome,br3_bool,e1,Bool.false_eq_true,if_false]
  | succ k ih=>
   intro i G v hi hA hG hown
   have hlt:i<hs.length:=by omega
   have hl:=hh.1
   have e1:decide ((i:Int)<(hs.length:Int))=true:=by simpa using hlt
   have e2:IntKind.i64.wrap ((i:Int)+1)=((i+1:Nat):Int):=by rw [wrap64 (by omega) (by omega)];simp
   have hsh:=hh.2 hs[i] (List.getElem_mem hlt)
   have hg:getV nm (hs.take (i+1))=getV nm (hs.take i)++(if named nm hs[i]=true then [hs[i].2] else []):=by
    rw [take_succ_get hs i hlt]
    unfold getV
    rw [List.filter_append,List.map_append]
    cases h:named nm hs[i] <;> simp [h]
   have st1:=st_new (lim:=0) (ro:=0) (n:=2) (off:=0) (ty:=169) (G:=G) (cs:=[.d (.str []),.d (.str [])]) (v:=.d (.agg [.str hs[i].1,.str hs[i].2])) rfl (by simp) rfl (Nat.zero_le _) (Nat.zero_le _)
   have st1':st 2 ([]:Hp).length ([]:Hp).length (.ptr G.length 0) (.d (.agg [.str hs[i].1,.str hs[i].2])) (G++[Blk.cells 169 [.d (.str []),.d (.str [])]])=some (G++[Blk.cells 169 [.d (.str hs[i].1),.d (.str hs[i].2)]]):=st1
   generalize hY:G++[Blk.cells 169 [.d (.str hs[i].1),.d (.str hs[i].2)]]=Y at st1'
   have hYl:Y.length=G.length+1:=by rw [← hY];simp
   have hpos:0<G.length:=get_lt hG
   have y0:Y[0]? = some (.cells 19 [.d (.str nm)]):=by rw [← hY];exact get_app _ hG
   have l2:ldN 2 (.ptr G.length 0) Y=some (.agg [.d (.str hs[i].1),.d (.str hs[i].2)]):=by rw [← hY];exact ldN_new G 169 2 _ rfl
   have l1:ld1 (.ptr G.length 1) Y=some (.d (.str hs[i].2)):=by rw [← hY];exact ld1_new G 169 1 _
   have hAY:Acc 9 1 0 Y v ((getV nm (hs.take i)).map .str):=by rw [← hY];exact hA.keep λb hb=>List.getElem?_append_left (hA.own_lt hb).1
   have hrun:=s415 (lim:=([]:Hp).length) (ro:=([]:Hp).length) (v:=hs[i].2) hS y0 hsh.1
   have hB:=B305_0 (run sys) 0 0 [] v (.fn 415 [] [.ptr 0 0]) (.d (.lst (hs.map hdD))) (.d (.int .i64 (hs.length:Nat))) (.d (.int .i64 (i:Nat))) G
   simp only [iBin_lss,bsome,br3_bool,e1,if_true,ixA_hds hlt,ldN_lptr _ _ (show 2=([D.str hs[i].1,D.str hs[i].2]:List D).length from rfl),st1',l2,goVal3_fn,List.nil_append,List.singleton_append,hrun,lval] at hB
   cases hnm:named nm hs[i] with
   | true=>
    obtain⟨v',G',hp,hA',hle,hkeep,b',hb',hb1,hb2⟩:=hAY.push (e:=.str hs[i].2) (OkE.str _) (Nat.zero_le _) (by have:=getV_len nm (hs.take i);simp only [List.length_map,List.length_take] at this ⊢;omega)
    have hp':app 9 1 ([]:Hp).length v (.vec Y.length 1 0 1) (Y++[.cells 18 [.d (.str hs[i].2)]])=some (v',G'):=hp
    have hA'':Acc 9 1 0 G' v' ((getV nm (hs.take (i+1))).map .str):=by rw [hg,hnm,List.map_append];exact hA'
    have hnm':named nm (hs[i].1,hs[i].2)=true:=hnm
    simp only [hnm',if_true,l1,bsome,bs_str,hp',iBin_add,e2] at hB
    obtain⟨G2,v2,hl,hA2⟩:=ih (i+1) G' v' (by omega) hA'' (by rw [hkeep 0 (by omega) (λe=>by have:=hown 0 e;omega)];exact y0) (λj hj=>by rw [hb'] at hj;cases hj;omega)
    exact⟨G2,v2,loopW_next hB hl,hA2⟩
   | false=>
    have hA'':Acc 9 1 0 Y v ((getV nm (hs.take (i+1))).map .str):=by rw [hg,hnm];simpa using hAY
    have hnm':named nm (hs[i].1,hs[i].2)=false:=hnm
    simp only [hnm',Bool.false_eq_true,if_false,iBin_add,bsome,e2] at hB
    obtain⟨G2,v2,hl,hA2⟩:=ih (i+1) Y v (by omega) hA'' y0 hown
    exact⟨G2,v2,loopW_next hB hl,hA2⟩
 obtain⟨G',v',hl,hA⟩:=key hs.length 0 ([]++[Blk.cells 19 [.d (.str nm)]]) .vnil (by omega) (Acc.nil 9 1 0 _) rfl (λj hj=>by cases hj)
 have r1:run sys ([]:Hp).length ([]:Hp).length 371 [.d (.str nm)] []=some (.val (.fn 415 [] [.ptr 0 0]),([]++[Blk.cells 19 [.d (.str nm)]]:Hp)):=s371 hS nm
 simp only [r1,lval,lnV_lst,List.length_map,bsome]
 rw [show (0:Int)=((0:Nat):Int) from rfl,hl]
 simp only [bsome,K305_0x0]
 exact hA.fin []
theorem s239 (hS:SysOK sys) (nm:List UInt8) (hs:List Hd) (hh:Short hs):run sys lim ro 239 [.d (.str nm),.d (.lst (hs.map hdD))] H=some (.val (.d (.lst ((getV nm hs).map .str))),H):=by
 refine runP hS rfl (by kernel_rfl) rfl ?_
 rw [R239]
 simp only [s305 hS nm hs hh,lval,fin_pure_d]
theorem getV_low {nm nm':List UInt8} (h:nm.map lowB=nm'.map lowB) (hs:List Hd):getV nm hs=getV nm' hs:=by
 unfold getV named
 rw [h]
def ctP:List UInt8:=[67,111,110,116,101,110,116,45,84,121,112,101]
theorem ctP_ct:ctP.map lowB=ctN.map lowB:=by decide
theorem s240 (hS:SysOK sys) (hs:List Hd) (h:Small hs):∃ l:List (List UInt8),l.length<2 ^ 34∧(∀ p ∈ l,p.length<2 ^ 34)∧run sys lim ro 240 [.d (.lst (hs.map hdD))] H=some (.val (.d (.lst (l.map .str))),H):=by
 generalize hn:([88,45,67,111,110,116,101,110,116,45,84,121,112,101,45,79,112,116,105,111,110,115]:List UInt8)=nm
 have hjl:=h.join nm
 have hcomb:∀ (lim ro:Nat) (G:Hp),run sys lim ro 306 [.d (.str nm),.d (.lst (hs.map hdD))] G=some (.val (.tup [.d (.str (if getV nm hs=[] then [] else joinL [44,32] (getV nm hs))),.d (.bool (!decide (getV nm hs=[])))]),G):=by
  intro lim ro G
  refine runP hS rfl (by kernel_rfl) rfl ?_
  rw [R306]
  simp only [s305 hS nm hs h.short,lval,lnV_lst,List.length_map,bsome,iBin_eql,br3_bool,frzArgs_1,frzA_d,s372 hS (getV nm hs) (by omega),fin_pure_dd]
  cases getV nm hs with
  | nil=>rfl
  | cons a l=>simp;omega
 by_cases he:getV nm hs=[]
 ·refine⟨[],by decide,λp hp=>by simp at hp,runP hS rfl (by kernel_rfl) rfl ?_⟩
  rw [R240,hn]
  simp only [hcomb,lval,extup,List.getElem?_cons_zero,List.getElem?_cons_succ,bsome,iUn_not,br3_bool,he,decide_true,Bool.not_true,Bool.not_false,if_true,fin_vnil]
  rfl
 ·obtain⟨k1,k2⟩:=pieces_len (joinL [44,32] (getV nm hs))
  refine⟨pieces (joinL [44,32] (getV nm hs)),by omega,λp hp=>by have:=k2 p hp;omega,runP hS rfl (by kernel_rfl) rfl ?_⟩
  rw [R240,hn]
  simp only [hcomb,lval,extup,List.getElem?_cons_zero,List.getElem?_cons_succ,bsome,iUn_not,br3_bool,he,decide_false,Bool.not_false,Bool.not_true,Bool.false_eq_true,if_false,s307 hS (joinL [44,32] (getV nm hs)) (by omega),fin_pure_d]
theorem s185 (hS:SysOK sys) (hs:List Hd) (h:Small hs):∃ b,run sys lim ro 185 [.d (.lst (hs.map hdD))] H=some (.val (.d (.bool b)),H):=by
 suffices h:∃ b,bodyK2 P tab (run sys) 0 0 185 [.d (.lst (hs.map hdD))] []=some (.val (.d (.bool b)),[]) by
  obtain⟨b,h⟩:=h
  exact⟨b,runP hS rfl (by kernel_rfl) rfl h⟩
 obtain⟨l,hl,hp,hr⟩:=s240 (lim:=([]:Hp).length) (ro:=([]:Hp).length) (H:=[]) hS hs h
 rw [R185]
 simp only [hr,lval,g185_0,lnV_lst,iBin_gtr,bsome,brN3_bool]
 cases l with
 | nil=>exact⟨false,by simp [g185_2]⟩
 | cons a l=>
  have ha:=hp a (by simp)
  have hx:=ixA_strs (strs:=a::l) (i:=0) (k:=.i64) (by simp)
  have e:decide ((0:Int)<(((a::l).map D.str).length:Int))=true:=by simp
  rw [e,if_pos rfl,g185_1]
  have hx':ixA 1 (.d (.lst ((a::l).map .str))) (.d (.int .i64 0))=some (.lptr [.str (a::l)[0]] 0):=hx
  simp only [hx',bsome,ld_lptr,List.getElem?_cons_zero,Option.map_some,List.getElem_cons_zero,s241 hS a _ ha,lval,fin_pure_d]
  exact⟨_,rfl⟩
theorem s184 (hS:SysOK sys) (hs:List Hd) (hh:Short hs):∃ t b,run sys lim ro 184 [.d (.lst (hs.map hdD))] H=some (.val (.tup [.d (.str t),.d (.bool b)]),H)∧t.length<2 ^ 34:=by
 have hg:=λl r G=>s239 (lim:=l) (ro:=r) (H:=G) hS [67,111,110,116,101,110,116,45,84,121,112,101] hs hh
 cases hv:getV [67,111,110,116,101,110,116,45,84,121,112,101] hs with
 | nil=>
  refine⟨[],false,runP hS rfl (by kernel_rfl) rfl ?_,by decide⟩
  rw [R184]
  simp only [hg,hv,lval,lnV_lst,List.map_nil,List.length_nil,iBin_eql,bsome,br3_bool]
  simp
 | cons x l=>
  have hlast:∃ t,(x::l).getLast? = some t∧t.length<2 ^ 34:=by
   refine⟨(x::l).getLast (by simp),List.getLast?_eq_some_getLast (by simp),?_⟩
   have hm:(x::l).getLast (by simp) ∈ getV [67,111,110,116,101,110,116,45,84,121,112,101] hs:=by rw [hv];exact List.getLast_mem _
   unfold getV at hm
   obtain⟨h,hm1,hm2⟩:=List.mem_map.1 hm
   rw [← hm2]
   exact (hh.2 h (List.mem_filter.1 hm1).1).2
  obtain⟨t,ht,htl⟩:=hlast
  have hlen:(x::l).length<2 ^ 34:=by
   rw [← hv]
   exact Nat.lt_of_le_of_lt (getV_len _ _) hh.1
  have hidx:(x::l)[(x::l).length - 1]? = some t:=by rw [← List.getLast?_eq_getElem?];exact ht
  have hlt:(x::l).length - 1<(x::l).length:=by simp
  have hget:(x::l)[(x::l).length - 1]=t:=by rw [List.getElem?_eq_getElem hlt] at hidx;exact Option.some.inj hidx
  refine⟨t,true,runP hS rfl (by kernel_rfl) rfl ?_,htl⟩
  rw [R184]
  have e0:decide ((((x::l).map D.str).length:Int)=0)=false:=by simp;omega
  have e1:IntKind.i64.wrap ((((x::l).map D.str).length:Int) - 1)=(((x::l).length - 1:Nat):Int):=by
   simp only [List.length_map]
   simp only [List.length_cons] at hlen ⊢
   rw [wrap64 (by omega) (by omega)];omega
  simp only [hg,hv,lval,lnV_lst,iBin_eql,bsome,br3_bool,e0,Bool.false_eq_true,if_false,iBin_sub,e1,ixA_strs hlt,hget,ld_lptr,List.getElem?_cons_zero,Option.map_some,fin_pure_dd]
theorem s183 (hS:SysOK sys) (hs:List Hd) (h:Small hs):∃ ps,ParL ps∧ps.length<2 ^ 26∧run sys lim ro 183 [.d (.lst (hs.map hdD))] H =
  some (.val (match typeOf hs with | some r=>.tup [.d (mimD r.1 r.2 ps),.d (.bool true)] | none=>.tup [.d (mimD [] [] []),.d (.bool false)]),H):=by
 have hj:=h.join ctN
 have r1:=λG=>s239 (lim:=([]:Hp).length) (ro:=([]:Hp).length) (H:=G) hS ctP hs h.short
 rw [getV_low ctP_ct] at r1
 have r1':∀ G,run sys ([]:Hp).length ([]:Hp).length 239 [.d (.str [67,111,110,116,101,110,116,45,84,121,112,101]),.d (.lst (hs.map hdD))] G=_:=r1
 generalize hX:([]++[Blk.cells 69 [.d (.str []),.d (.str []),.vnil]]:Hp)=X
 have hX0:X[0]? = some (.cells 69 [.d (.str []),.d (.str []),.vnil]):=by rw [← hX];rfl
 obtain⟨ps,hp,hpl,r2⟩:=s238 (lim:=([]:Hp).length) (ro:=([]:Hp).length) (H:=X) hS (getV ctN hs) (by omega)
 rw [show (allT (valsL (getV ctN hs))).getLast? = typeOf hs from rfl] at r2
 have main:∀ (t s:List UInt8) (ps':List D) (e:Int) (has:Bool),decide (e=0)=has →
   run sys ([]:Hp).length ([]:Hp).length 238 [.d (.lst ((getV ctN hs).map .str))] X=some (.val (.tup [.d (mimD t s ps'),.d (.int .i64 e)]),X)→bodyK2 P tab (run sys) 0 0 183 [.d (.lst (hs.map hdD))] []=some (.val (.tup [.d (mimD t s ps'),.d (.bool has)]),[]):=by
  intro t s ps' e has he r2
  have st1:=st_new (lim:=0) (ro:=0) (n:=3) (off:=0) (ty:=69) (G:=X) (cs:=[.d (.str []),.d (.str []),.vnil]) (v:=.d (mimD t s ps')) rfl (by simp) rfl (Nat.zero_le _) (Nat.zero_le _)
  have st1':st 3 ([]:Hp).length ([]:Hp).length (.ptr X.length 0) (.d (mimD t s ps')) (X++[Blk.cells 69 [.d (.str []),.d (.str []),.vnil]])=some (X++[Blk.cells 69 [.d (.str t),.d (.str s),.d (.lst ps')]]):=st1
  generalize hY:X++[Blk.cells 69 [.d (.str t),.d (.str s),.d (.lst ps')]]=Y at st1'
  have l1:ldN 3 (.ptr X.length 0) Y=some (.agg [.d (.str t),.d (.str s),.d (.lst ps')]):=by rw [← hY];exact ldN_new X 69 3 _ rfl
  have y0:Y[([]:Hp).length]? = some (.cells 69 [.d (.str []),.d (.str []),.vnil]):=by rw [← hY];exact get_app _ hX0
  obtain⟨L,hL⟩:∃ L,L=bodyK2 P tab (run sys) 0 0 183 [.d (.lst (hs.map hdD))] []:=⟨_,rfl⟩
  rw [← hL]
  have hB:=hL.trans (R183 (run sys) 0 0 [] (hs.map hdD))
  clear hL
  rw [hX] at hB
  simp only [r1',lval,frzArgs_1,frzA_d,r2,extup,List.getElem?_cons_zero,List.getElem?_cons_succ,bsome,st1',l1,iBin_errno,he] at hB
  exact hB.trans (out370a y0 rfl)
 refine⟨ps,hp,hpl,?_⟩
 cases ht:typeOf hs with
 | some r=>
  rw [ht] at r2
  exact runP hS rfl (by kernel_rfl) rfl (main r.1 r.2 ps 0 true rfl r2)
 | none=>
  rw [ht] at r2
  exact runP hS rfl (by kernel_rfl) rfl (main [] [] [] 4 false rfl r2)
end Go.Tg
namespace Go.Tg
variable [Globs] {lim ro:Nat} {H:Hp}
attribute [local congr] bindC liftRC br3C brN3C
def bugL:List (List UInt8):=[[73,83,79,45,56,56,53,57,45,49],[105,115,111,45,56,56,53,57,45,49],[85,84,70,45,56]]
theorem s186 (hS:SysOK sys) (s:List UInt8):∃ b,run sys lim ro 186 [.d (.str s)] H=some (.val (.d (.bool b)),H):=by
 suffices h:∃ b,bodyK2 P tab (run sys) 0 0 186 [.d (.str s)] []=some (.val (.d (.bool b)),[]) by
  obtain⟨b,h⟩:=h
  exact⟨b,runP hS rfl (by kernel_rfl) rfl h⟩
 obtain⟨L,hL⟩:∃ L,L=bodyK2 P tab (run sys) 0 0 186 [.d (.str s)] []:=⟨_,rfl⟩
 rw [← hL]
 have hB:=hL.trans (R186 (run sys) 0 0 [] s)
 clear hL
 have hb:iBuildSlice P 31 3 (bugL.zipIdx.map λx=>(x.2,IV.d (.str x.1))) []=some (.vec 0 1 0 3,[.cells 18 ((bugL.map D.str).map .d)]):=by
  have e:P.underlying 31=some (.slice 9):=by kernel_rfl
  have e2:sizeT P 9=some 1:=by kernel_rfl
  have e3:zeroT P 9=some (.d (.str [])):=by kernel_rfl
  unfold iBuildSlice;rw [e];simp only [e2,e3];rfl
 have hb':iBuildSlice P 31 3 [(0,.d (.str [73,83,79,45,56,56,53,57,45,49])),(1,.d (.str [105,115,111,45,56,56,53,57,45,49])),(2,.d (.str [85,84,70,45,56]))] []=_:=hb
 simp only [iBin_seql,bsome,br3_bool,hb',lnV_vec] at hB
 cases h0:decide (s=[116,101,120,116,47,112,108,97,105,110]) with
 | true=>
  simp only [h0,if_true,fin_pure_d] at hB
  exact⟨_,hB⟩
 | false=>
  simp only [h0,Bool.false_eq_true,if_false] at hB
  generalize hG:([.cells 18 ((bugL.map D.str).map .d)]:Hp)=G at hB
  let pre:List UInt8:=[116,101,120,116,47,112,108,97,105,110,59,32,99,104,97,114,115,101,116,61]
  have hat:∀ i (h:i<bugL.length),ixA 1 (.vec 0 1 0 3) (.d (.int .i64 (i:Nat)))=some (.ptr 0 i)∧ld1 (.ptr 0 i) G=some (.d (.str bugL[i]))∧iBin P .add 9 (.d (.str pre)) (.d (.str bugL[i]))=some (.d (.str (pre++bugL[i]))):=by
   intro i h
   have h':i<3:=h
   have e:∀ j (hj:j<bugL.length),bugL[j].length<100:=by decide
   have e3:=e i h
   have e4:pre.length=20:=rfl
   refine⟨?_,?_,iBin_sadd 9 _ _ (by omega)⟩
   ·rcases (by omega:i=0∨i=1∨i=2) with rfl | rfl | rfl <;> rfl
   ·rcases (by omega:i=0∨i=1∨i=2) with rfl | rfl | rfl <;> subst hG <;> rfl
  have key:=loopW_find (step:=stepL (C186 (run sys) 0 0 []) [0,2,7,8,9] (cd 186 [1,1,0,1,0,0])) bugL (λx=>decide (s=pre++x))
   (λi=>(E186 (.d (.str s)) (.d (.bool false)) (.vec 0 1 0 3) (.d (.int .i64 (3:Nat))) (.d (.int .i64 (i:Nat))),G))
   (λi=>(.ret,E186 (.d (.str s)) (.d (.bool true)) (.vec 0 1 0 3) (.d (.int .i64 (3:Nat))) (.d (.int .i64 (i:Nat))),G)) (.exi 0,E186 (.d (.str s)) (.d (.bool false)) (.vec 0 1 0 3) (.d (.int .i64 (3:Nat))) (.d (.int .i64 (3:Nat))),G) ?_ ?_ ?_
  ·have key':loopW (stepL (C186 (run sys) 0 0 []) [0,2,7,8,9] (cd 186 [1,1,0,1,0,0])) (E186 (.d (.str s)) (.d (.bool false)) (.vec 0 1 0 3) (.d (.int .i64 (3:Nat))) (.d (.int .i64 0)),G)=_:=key
   rw [key'] at hB
   cases h:bugL.findIdx? (λx=>decide (s=pre++x)) with
   | none=>rw [h] at hB;simp only [bsome,K186_0x0,fin_pure_d] at hB;exact⟨_,hB⟩
   | some i=>rw [h] at hB;simp only [bsome,K186_0r,fin_pure_d] at hB;exact⟨_,hB⟩
  ·intro i hi hq
   obtain⟨a1,a2,a3⟩:=hat i hi
   have hi':i<3:=hi
   have e1:decide ((i:Int)<((3:Nat):Int))=true:=by simp;omega
   have e2:IntKind.i64.wrap ((i:Int)+1)=((i+1:Nat):Int):=by rw [wrap64 (by omega) (by omega)];simp
   rw [B186_0]
   simp only [iBin_lss,bsome,br3_bool,e1,if_true,a1,a2,show ([116,101,120,116,47,112,108,97,105,110,59,32,99,104,97,114,115,101,116,61]:List UInt8)=pre from rfl,a3,iBin_seql,hq,Bool.false_eq_true,if_false,iBin_add,e2]
  ·intro i hi hq
   obtain⟨a1,a2,a3⟩:=hat i hi
   have hi':i<3:=hi
   have e1:decide ((i:Int)<((3:Nat):Int))=true:=by simp;omega
   rw [B186_0]
   simp only [iBin_lss,bsome,br3_bool,e1,if_true,a1,a2,show ([116,101,120,116,47,112,108,97,105,110,59,32,99,104,97,114,115,101,116,61]:List UInt8)=pre from rfl,a3,iBin_seql,hq]
  ·have e1:decide (((3:Nat):Int)<((3:Nat):Int))=false:=by simp
   show stepL (C186 (run sys) 0 0 []) [0,2,7,8,9] (cd 186 [1,1,0,1,0,0]) (E186 (.d (.str s)) (.d (.bool false)) (.vec 0 1 0 3) (.d (.int .i64 (3:Nat))) (.d (.int .i64 ((3:Nat):Int))),G)=_
   rw [B186_0]
   simp only [iBin_lss,bsome,br3_bool,e1,Bool.false_eq_true,if_false]
theorem s140 (hS:SysOK sys) (hs:List Hd) (h:Small hs):∃ ps ns bug,ParL ps∧ps.length<2 ^ 26∧run sys lim ro 140 [.d (.lst (hs.map hdD))] H =
  some (.val (.d (match typeOf hs with | some r=>saidD r.1 r.2 ps true ns bug | none=>saidD [] [] [] false ns bug)),H):=by
 generalize hX:([]++[Blk.cells 73 [.d (.str []),.d (.str []),.vnil,.d (.bool false),.d (.bool false),.d (.bool false)]]:Hp)=X
 have hX0:X[0]? = some (.cells 73 [.d (.str []),.d (.str []),.vnil,.d (.bool false),.d (.bool false),.d (.bool false)]):=by rw [← hX];rfl
 have hXl:X.length=1:=by rw [← hX];rfl
 obtain⟨ps,hp,hpl,r2⟩:=s183 (lim:=([]:Hp).length) (ro:=([]:Hp).length) (H:=X) hS hs h
 have r3:=λG=>s184 (lim:=([]:Hp).length) (ro:=([]:Hp).length) (H:=G) hS hs h.short
 have main:∀ (t s:List UInt8) (ps':List D) (has:Bool),
   run sys ([]:Hp).length ([]:Hp).length 183 [.d (.lst (hs.map hdD))] X=some (.val (.tup [.d (mimD t s ps'),.d (.bool has)]),X)→∃ ns bug,bodyK2 P tab (run sys) 0 0 140 [.d (.lst (hs.map hdD))] []=some (.val (.d (saidD t s ps' has ns bug)),[]):=by
  intro t s ps' has r2
  have st1:=st_new (lim:=0) (ro:=0) (n:=3) (off:=0) (ty:=69) (G:=X) (cs:=[.d (.str []),.d (.str []),.vnil]) (v:=.d (mimD t s ps')) rfl (by simp) rfl (Nat.zero_le _) (Nat.zero_le _)
  have st1':st 3 ([]:Hp).length ([]:Hp).length (.ptr X.length 0) (.d (mimD t s ps')) (X++[Blk.cells 69 [.d (.str []),.d (.str []),.vnil]])=some (X++[Blk.cells 69 [.d (.str t),.d (.str s),.d (.lst ps')]]):=st1
  generalize hY:X++[Blk.cells 69 [.d (.str t),.d (.str s),.d (.lst ps')]]=Y at st1'
  have l1:ldN 3 (.ptr X.length 0) Y=some (.agg [.d (.str t),.d (.str s),.d (.lst ps')]):=by rw [← hY];exact ldN_new X 69 3 _ rfl
  have y0:Y[0]? = some (.cells 73 [.d (.str []),.d (.str []),.vnil,.d (.bool false),.d (.bool false),.d (.bool false)]):=by rw [← hY];exact get_app _ hX0
  obtain⟨raw,rb,r3,hrl⟩:=r3 Y
  obtain⟨ns,r4⟩:=s185 (lim:=([]:Hp).length) (ro:=([]:Hp).length) (H:=Y) hS hs h
  obtain⟨bug,r5⟩:=s186 (lim:=([]:Hp).length) (ro:=([]:Hp).length) (H:=Y) hS raw
  have st2:st 6 ([]:Hp).length ([]:Hp).length (.ptr ([]:Hp).length 0) (.agg [.d (.str t),.d (.str s),.d (.lst ps'),.d (.bool has),.d (.bool ns),.d (.bool bug)]) Y=some (Y.set 0 (.cells 73 [.d (.str t),.d (.str s),.d (.lst ps'),.d (.bool has),.d (.bool ns),.d (.bool bug)])):=by
   show st 6 0 0 (.ptr 0 0) _ Y=_
   rw [st_cells (n:=6) (off:=0) y0 rfl (by simp) rfl (Nat.zero_le _) (.inl (Nat.zero_le _))]
   rfl
  have l2:ldN 6 (.ptr ([]:Hp).length 0) (Y.set 0 (.cells 73 [.d (.str t),.d (.str s),.d (.lst ps'),.d (.bool has),.d (.bool ns),.d (.bool bug)]))=some (.agg [.d (.str t),.d (.str s),.d (.lst ps'),.d (.bool has),.d (.bool ns),.d (.bool bug)]):=by
   show ldN 6 (.ptr 0 0) _=_
   rw [ldN_cells (set_get y0) (by simp)];rfl
  refine⟨ns,bug,?_⟩
  obtain⟨L,hL⟩:∃ L,L=bodyK2 P tab (run sys) 0 0 140 [.d (.lst (hs.map hdD))] []:=⟨_,rfl⟩
  rw [← hL]
  have hB:=hL.trans (R140 (run sys) 0 0 [] (hs.map hdD))
  clear hL
  rw [hX] at hB
  simp only [lval,r2,extup,List.getElem?_cons_zero,List.getElem?_cons_succ,bsome,st1',r3,l1,r4,r5,ib_said,st2,l2,Option.map_some] at hB
  exact hB.trans rfl
 cases ht:typeOf hs with
 | some r=>
  rw [ht] at r2
  obtain⟨ns,bug,hb⟩:=main r.1 r.2 ps true r2
  exact⟨ps,ns,bug,hp,hpl,runP hS rfl (by kernel_rfl) rfl hb⟩
 | none=>
  rw [ht] at r2
  obtain⟨ns,bug,hb⟩:=main [] [] [] false r2
  exact⟨ps,ns,bug,hp,hpl,runP hS rfl (by kernel_rfl) rfl hb⟩
end Go.Tg
