/- Tests of equality for ideal values and memory. -/
import Derived.Test.YtnkobejhnphmhaaGreatDoorAe
import Derived.LoopN
import Derived.Scope
import Derived.Laws.Externs
set_option linter.all false
namespace Go.Tg
mutual
theorem eqD_ok:∀ (x y:D),eqD x y=true→x=y
 | .bool a,y,h=>by cases y <;> simp [eqD] at h;rw [h]
 | .int k a,y,h=>by
  cases y <;> simp [eqD] at h
  rw [h.1,h.2]
 | .str a,y,h=>by cases y <;> simp [eqD] at h;rw [h]
 | .agg a,y,h=>by
  cases y with
  | agg b=>rw [eqDs_ok a b (by simpa [eqD] using h)]
  | _=>simp [eqD] at h
 | .lst a,y,h=>by
  cases y with
  | lst b=>rw [eqDs_ok a b (by simpa [eqD] using h)]
  | _=>simp [eqD] at h
theorem eqDs_ok:∀ (xs ys:List D),eqDs xs ys=true→xs=ys
 | [],ys,h=>by cases ys <;> simp [eqDs] at h;rfl
 | x::xs,ys,h=>by
  cases ys with
  | nil=>simp [eqDs] at h
  | cons y ys=>
   simp only [eqDs,Bool.and_eq_true] at h
   rw [eqD_ok x y h.1,eqDs_ok xs ys h.2]
end
mutual
theorem eqD_refl:∀ (x:D),eqD x x=true
 | .bool a=>by simp [eqD]
 | .int k a=>by simp [eqD]
 | .str a=>by simp [eqD]
 | .agg a=>by rw [eqD];exact eqDs_refl a
 | .lst a=>by rw [eqD];exact eqDs_refl a
theorem eqDs_refl:∀ (xs:List D),eqDs xs xs=true
 | []=>rfl
 | x::xs=>by rw [eqDs,eqD_refl x,eqDs_refl xs];rfl
end
mutual
theorem eqV_ok:∀ (x y:IV),eqV x y=true→x=y
 | .d a,y,h=>by
  cases y with
  | d b=>rw [eqD_ok a b (by simpa [eqV] using h)]
  | _=>simp [eqV] at h
 | .un,y,h=>by cases y <;> simp [eqV] at h;rfl
 | .no,y,h=>by cases y <;> simp [eqV] at h;rfl
 | .nul,y,h=>by cases y <;> simp [eqV] at h;rfl
 | .vnil,y,h=>by cases y <;> simp [eqV] at h;rfl
 | .emp,y,h=>by cases y <;> simp [eqV] at h;rfl
 | .nofn,y,h=>by cases y <;> simp [eqV] at h;rfl
 | .nomap,y,h=>by cases y <;> simp [eqV] at h;rfl
 | .noifc,y,h=>by cases y <;> simp [eqV] at h;rfl
 | .ptr b o,y,h=>by cases y <;> simp [eqV] at h;rw [h.1,h.2]
 | .vec b z o l,y,h=>by cases y <;> simp [eqV] at h;rw [h.1.1.1,h.1.1.2,h.1.2,h.2]
 | .map b,y,h=>by cases y <;> simp [eqV] at h;rw [h]
 | .lptr a o,y,h=>by
  cases y with
  | lptr b o'=>
   simp only [eqV,Bool.and_eq_true,beq_iff_eq] at h
   rw [eqDs_ok a b h.1,h.2]
  | _=>simp [eqV] at h
 | .agg a,y,h=>by
  cases y with
  | agg b=>rw [eqVs_ok a b (by simpa [eqV] using h)]
  | _=>simp [eqV] at h
 | .tup a,y,h=>by
  cases y with
  | tup b=>rw [eqVs_ok a b (by simpa [eqV] using h)]
  | _=>simp [eqV] at h
 | .fn f a c,y,h=>by
  cases y with
  | fn g b d=>
   simp only [eqV,Bool.and_eq_true,beq_iff_eq] at h
   rw [h.1.1,eqVs_ok a b h.1.2,eqVs_ok c d h.2]
  | _=>simp [eqV] at h
 | .ifc t v,y,h=>by
  cases y with
  | ifc u w=>
   simp only [eqV,Bool.and_eq_true,beq_iff_eq] at h
   rw [h.1,eqV_ok v w h.2]
  | _=>simp [eqV] at h
theorem eqVs_ok:∀ (xs ys:List IV),eqVs xs ys=true→xs=ys
 | [],ys,h=>by cases ys <;> simp [eqVs] at h;rfl
 | x::xs,ys,h=>by
  cases ys with
  | nil=>simp [eqVs] at h
  | cons y ys=>
   simp only [eqVs,Bool.and_eq_true] at h
   rw [eqV_ok x y h.1,eqVs_ok xs ys h.2]
end
mutual
theorem eqV_refl:∀ (x:IV),eqV x x=true
 | .d a=>by rw [eqV];exact eqD_refl a
 | .un=>rfl
 | .no=>rfl
 | .nul=>rfl
 | .vnil=>rfl
 | .emp=>rfl
 | .nofn=>rfl
 | .nomap=>rfl
 | .noifc=>rfl
 | .ptr b o=>by simp [eqV]
 | .vec b z o l=>by simp [eqV]
 | .map b=>by simp [eqV]
 | .lptr a o=>by simp [eqV,eqDs_refl a]
 | .agg a=>by rw [eqV];exact eqVs_refl a
 | .tup a=>by rw [eqV];exact eqVs_refl a
 | .fn f a c=>by simp [eqV,eqVs_refl a,eqVs_refl c]
 | .ifc t v=>by simp [eqV,eqV_refl v]
theorem eqVs_refl:∀ (xs:List IV),eqVs xs xs=true
 | []=>rfl
 | x::xs=>by rw [eqVs,eqV_refl x,eqVs_refl xs];rfl
end
theorem eqEs_ok:∀ (xs ys:List (IV×IV)),eqEs xs ys=true→xs=ys:=by
 intro xs
 induction xs with
 | nil=>intro ys h;cases ys <;> simp [eqEs] at h;rfl
 | cons x xs ih=>
  intro ys h
  obtain⟨a,b⟩:=x
  cases ys with
  | nil=>simp [eqEs] at h
  | cons y ys=>
   obtain⟨c,d⟩:=y
   simp only [eqEs,Bool.and_eq_true] at h
   rw [eqV_ok a c h.1.1,eqV_ok b d h.1.2,ih ys h.2]
theorem eqB_ok:∀ (x y:Blk),eqB x y=true→x=y:=by
 intro x y h
 cases x <;> cases y <;> simp [eqB] at h
 ·rw [h.1,eqVs_ok _ _ h.2]
 ·rw [eqDs_ok _ _ h]
 ·rw [eqEs_ok _ _ h]
 ·rw [h.1,h.2]
 ·rfl
theorem eqH_ok:∀ (xs ys:Hp),eqH xs ys=true→xs=ys:=by
 intro xs
 induction xs with
 | nil=>intro ys h;cases ys <;> simp [eqH] at h;rfl
 | cons x xs ih=>
  intro ys h
  cases ys with
  | nil=>simp [eqH] at h
  | cons y ys=>
   simp only [eqH,Bool.and_eq_true] at h
   rw [eqB_ok x y h.1,ih ys h.2]
end Go.Tg
namespace Go.Tg
variable [Globs]
section
variable {C:Ctx} {ops:Array Oper}
theorem valO_congr {o:Oper} {e e':Env} (h:∀ t ∈ o.looksAt ops,e.getD t .un=e'.getD t .un) (H:Hp):valO C ops o e H=valO C ops o e' H:=by
 have hev:∀ x ∈ o.op.operands,ev e x=ev e' x:=by
  intro x hx
  cases x with
  | tmp t=>exact h t (List.mem_append_left _ (List.mem_filterMap.2 ⟨.tmp t,by simpa using hx,rfl⟩))
  | _=>rfl
 have hF:opF C o e H=opF C o e' H:=by
  unfold opF
  rw [opR_congr hev]
  unfold fits
  simp only
  split
  ·rename_i c hc
   split
   ·rw [map_congr_ops c.args.toList (λx hx=>hev x (call_args_sub o c hc x hx))]
   ·rfl
  ·rfl
 unfold valO
 cases hg:o.guard with
 | none=>simp only [hF]
 | some g=>
  obtain⟨j,want⟩:=g
  simp only
  cases hd:(ops[j]?).bind (·.dst) with
  | none=>rfl
  | some d=>
   simp only
   rw [h d (List.mem_append_right _ (by simp [hg,hd]))]
   simp only [hF]
theorem subs_filter (p:Nat→Bool):∀ (l:List Nat),l.filter p ∈ subs l:=by
 intro l
 induction l with
 | nil=>simp [subs]
 | cons x xs ih=>
  simp only [subs,List.mem_append,List.mem_map]
  by_cases h:p x=true
  ·right;exact⟨_,ih,by simp [h]⟩
  ·left;rw [List.filter_cons_of_neg h];exact ih
theorem filter_insert (p:Nat→Bool) (i:Nat) (hp:p i=false):∀ (l:List Nat),l.Pairwise (λa b=>b<a)→i ∈ l→l.filter (λw=>p w || w == i)=insertD i (l.filter p):=by
 intro l
 induction l with
 | nil=>intro _ h;cases h
 | cons x xs ih=>
  intro hd hm
  rw [List.pairwise_cons] at hd
  by_cases hx:x=i
  ·subst hx
   have hno:x ∉ xs:=λh=>Nat.lt_irrefl _ (hd.1 x h)
   rw [List.filter_cons_of_pos (by simp),List.filter_cons_of_neg (by simp [hp])]
   have e1:xs.filter (λw=>p w || w == x)=xs.filter p:=by
    apply List.filter_congr
    intro y hy
    have:y≠x:=λe=>hno (e ▸ hy)
    simp [this]
   rw [e1]
   cases hf:xs.filter p with
   | nil=>rfl
   | cons y ys=>
    have hy:y ∈ xs:=(List.mem_filter.1 (hf ▸ List.mem_cons_self ..:y ∈ xs.filter p)).1
    simp only [insertD]
    rw [if_pos (hd.1 y hy)]
  ·have hm2:i ∈ xs:=by
    rcases List.mem_cons.1 hm with h | h
    ·exact absurd h.symm hx
    ·exact h
   have hlt:=hd.1 i hm2
   have:=ih hd.2 hm2
   by_cases hpx:p x=true
   ·rw [List.filter_cons_of_pos (by simp [hpx]),List.filter_cons_of_pos hpx,this]
    simp only [insertD]
    rw [if_neg (by omega)]
   ·rw [List.filter_cons_of_neg (by simp [hpx,hx]),List.filter_cons_of_neg hpx,this]
theorem turners_desc:(turners C ops).Pairwise (λa b=>b<a):=by
 unfold turners
 rw [List.pairwise_reverse]
 exact List.Pairwise.filter _ List.pairwise_lt_range
theorem getD_put_self {e:Env} {d:Nat} {v:IV} (h:d<e.length):(put e (some d) v).getD d .un=v:=by
 simp [put,List.getD_eq_getElem?_getD,h]
end
section
variable {B:Nat} {W0:Base} {L:Nat→Prop} {C:Ctx} {ρ:Type} {res:ρ} {ops:Array Oper} {e0 ef:Env} {H0 Hf:Hp}
theorem ready_left (hle:∀ (i:Nat) (o:Oper),ops[i]? = some o→∀ e ∈ o.after.toList,Region.binds .any e=true→e.on<i) {listed:Array Bool} (hc:Closed ops listed) (h0:Region.ready .any ops listed=[]):left ops listed=[]:=by
 cases hl:left ops listed with
 | nil=>rfl
 | cons p l=>
  exfalso
  obtain⟨o,i⟩:=p
  obtain⟨ho,hun⟩:=left_mem (p:=(o,i)) (by rw [hl];exact List.mem_cons_self ..)
  simp only at ho hun
  have hi:i<ops.size:=by
   rcases Nat.lt_or_ge i ops.size with h | h
   ·exact h
   ·rw [Array.getElem?_eq_none h] at ho;cases ho
  have:i ∈ Region.ready .any ops listed:=by
   unfold Region.ready
   simp only [List.mem_filter,List.mem_range,Bool.and_eq_true,Bool.not_eq_true']
   refine⟨hi,hun,?_⟩
   rw [ho]
   simp only [Option.map_some,Option.getD_some]
   rw [Array.all_eq_true]
   intro n hn
   simp only [Bool.or_eq_true,Bool.not_eq_true']
   cases hb:Region.binds .any o.after[n] with
   | false=>exact .inl rfl
   | true=>
    right
    have hlt:=hle i o ho o.after[n] (by simp) hb
    by_cases hx:listed.getD o.after[n].on true=true
    ·have hs:o.after[n].on<listed.size:=by rw [hc.1];omega
     simpa [Array.getD,hs] using hx
    ·exfalso
     have hmem:(ops[o.after[n].on]'(by omega),o.after[n].on) ∈ left ops listed:=by
      unfold left
      rw [List.mem_filter]
      refine⟨List.mem_zipIdx_iff_getElem?.2 ?_,by simpa using hx⟩
      simp [show o.after[n].on<ops.size by omega]
     have hso:(left ops listed).Pairwise λx p=>x.2<p.2:=(sorted_zip ops.toList 0).sublist List.filter_sublist
     rw [hl] at hmem hso
     rcases List.mem_cons.1 hmem with h2 | h2
     ·simp only [Prod.mk.injEq] at h2;omega
     ·have:=(List.pairwise_cons.1 hso).1 _ h2
      simp only at this;omega
  rw [h0] at this;cases this
structure SqInv (C:Ctx) (ops:Array Oper) (e0 ef:Env) (H0:Hp) (listed:Array Bool) (e:Env) (H:Hp):Prop where
 closed:Closed ops listed
 len:e.length=ef.length
 done:∀ i o t,ops[i]? = some o→o.dst=some t→listed.getD i false=true→e.getD t .un=ef.getD t .un
 rest:∀ t,(∀ i o,ops[i]? = some o→listed.getD i false=true→o.dst≠some t)→e.getD t .un=e0.getD t .un
 heap:tabR C ops ef H0 ((turners C ops).filter λw=>listed.getD w false)=some H
theorem sq_parts (h:squareOK C ops e0 ef H0 Hf=true) :
  (∀ (i:Nat) (o:Oper),ops[i]? = some o→∀ e ∈ o.after.toList,Region.binds .any e=true→e.on<i)∧e0.length=ef.length ∧
  (∀ t,(∀ (i:Nat) (o:Oper),ops[i]? = some o→o.dst≠some t)→e0.getD t .un=ef.getD t .un) ∧
  (∀ (i:Nat) (o:Oper),ops[i]? = some o→(∀ d,o.dst=some d→d<ef.length)∧(∀ t ∈ o.looksAt ops,∀ (j:Nat) (q:Oper),ops[j]? = some q→q.dst=some t→ahead ops i j=true)∧∀ m ∈ subs (turners C ops),mayMeet C ops i m=true→oneOK C ops ef H0 i o m=true) ∧
  tabR C ops ef H0 (turners C ops)=some Hf:=by
 unfold squareOK at h
 simp only [Bool.and_eq_true] at h
 obtain⟨⟨⟨⟨h1,h2⟩,h3⟩,h4⟩,h5⟩:=h
 have hlen:e0.length=ef.length:=by simpa using h2
 refine⟨?_,hlen,?_,?_,?_⟩
 ·intro i o ho e he hb
  unfold edgesOK at h1
  rw [List.all_eq_true] at h1
  have:=h1 (o,i) (List.mem_zipIdx_iff_getElem?.2 (by simpa using ho))
  simp only [Bool.and_eq_true,List.all_eq_true] at this
  have h6:=this.1 e he
  simp only [hb,Bool.not_true,Bool.false_or,decide_eq_true_eq] at h6
  exact h6
 ·intro t ht
  by_cases hlt:t<e0.length
  ·rw [List.all_eq_true] at h3
   have:=h3 t (List.mem_range.2 hlt)
   simp only [Bool.or_eq_true] at this
   rcases this with h6 | h6
   ·exfalso
    unfold dsts at h6
    simp only [List.contains_eq_mem,List.mem_filterMap,decide_eq_true_eq] at h6
    obtain⟨o,ho,hd⟩:=h6
    obtain⟨i,hi,hi2⟩:=List.getElem_of_mem ho
    exact ht i o (by rw [← hi2];simp [show i<ops.size by simpa using hi]) hd
   ·exact eqV_ok _ _ h6
  ·have l1:e0.length≤t:=Nat.le_of_not_lt hlt
   have l2:ef.length≤t:=hlen ▸ l1
   rw [List.getD_eq_getElem?_getD,List.getD_eq_getElem?_getD,List.getElem?_eq_none l1,List.getElem?_eq_none l2]
 ·intro i o ho
  rw [List.all_eq_true] at h4
  have:=h4 (o,i) (List.mem_zipIdx_iff_getElem?.2 (by simpa using ho))
  simp only [Bool.and_eq_true] at this
  obtain⟨⟨g1,g2⟩,g3⟩:=this
  refine⟨?_,?_,?_⟩
  ·intro d hd;rw [hd] at g1;simpa using g1
  ·intro t ht j q hq hqd
   rw [List.all_eq_true] at g2
   have h6:=g2 t ht
   rw [List.all_eq_true] at h6
   have h7:=h6 (q,j) (List.mem_zipIdx_iff_getElem?.2 (by simpa using hq))
   simpa [hqd] using h7
  ·intro m hm hmm
   rw [List.all_eq_true] at g3
   have h6:=g3 m hm
   simpa [hmm] using h6
 ·split at h5
  ·rename_i H hH;rw [hH,eqH_ok _ _ h5]
  ·cases h5
theorem square_step (hsq:squareOK C ops e0 ef H0 Hf=true) {listed:Array Bool} {e:Env} {H:Hp} (hI:SqInv C ops e0 ef H0 listed e H) {i:Nat} {o:Oper} (ho:ops[i]? = some o) (hi:i ∈ Region.ready .any ops listed) :
  ∃ v H',valO C ops o e H=some (v,H')∧SqInv C ops e0 ef H0 (listed.setIfInBounds i true) (put e o.dst v) H':=by
 obtain⟨hle,hlen,hrest,hops,hend⟩:=sq_parts hsq
 obtain⟨o',ho',hisz,hun,_⟩:=ready_spec hi
 obtain⟨hd,hlook,hone⟩:=hops i o ho
 have hunf:listed.getD i false=false:=by
  cases hq:listed.getD i false with
  | false=>rfl
  | true=>exact absurd hq (unlisted hun)
 have htrue:∀ {j:Nat},j<ops.size→listed.getD j false=true→listed.getD j true=true:=by
  intro j hj h
  have hs:j<listed.size:=by rw [hI.closed.1];exact hj
  simpa [Array.getD,hs] using h
 let m:=(turners C ops).filter λw=>listed.getD w false
 have hmem:∀ {w},w ∈ turners C ops→w<ops.size:=by
  intro w hw
  unfold turners at hw
  rw [List.mem_reverse,List.mem_filter,List.mem_range] at hw
  exact hw.1
 have hmm:mayMeet C ops i m=true:=by
  unfold mayMeet
  simp only [Bool.and_eq_true,List.all_eq_true,Bool.or_eq_true,Bool.not_eq_true',List.contains_eq_mem,decide_eq_true_eq,decide_eq_false_iff_not]
  refine⟨⟨⟨?_,?_⟩,?_⟩,?_⟩
  ·intro h;have:=(List.mem_filter.1 h).2;rw [hunf] at this;cases this
  ·intro w hw
   cases ha:ahead ops i w with
   | false=>exact .inl rfl
   | true=>exact .inr (List.mem_filter.2 ⟨hw,ready_ahead hI.closed hle hi ha⟩)
  ·intro w hw
   cases ha:ahead ops w i with
   | false=>rfl
   | true=>
    obtain⟨hw1,hw2⟩:=List.mem_filter.1 hw
    have:=hI.closed.2 w (hmem hw1) (htrue (hmem hw1) hw2) i ha
    rw [hunf] at this;cases this
  ·intro w hw v hv
   cases ha:ahead ops w v with
   | false=>exact .inl rfl
   | true=>
    obtain⟨hw1,hw2⟩:=List.mem_filter.1 hw
    exact .inr (List.mem_filter.2 ⟨hv,hI.closed.2 w (hmem hw1) (htrue (hmem hw1) hw2) v ha⟩)
 have h1:=hone m (subs_filter _ _) hmm
 unfold oneOK at h1
 rw [show tabR C ops ef H0 m=some H from hI.heap] at h1
 simp only at h1
 cases hv:valO C ops o ef H with
 | none=>rw [hv] at h1;cases h1
 | some p=>
  obtain⟨v,H'⟩:=p
  rw [hv] at h1
  simp only [Bool.and_eq_true] at h1
  obtain⟨hv1,hv2⟩:=h1
  have hve:∀ d,o.dst=some d→v=ef.getD d .un:=λd hdd=>by rw [hdd] at hv1;exact eqV_ok _ _ hv1
  have hval:valO C ops o e H=some (v,H'):=by
   rw [valO_congr (e':=ef),hv]
   intro t ht
   by_cases hex:∃ (j:Nat) (q:Oper),ops[j]? = some q∧q.dst=some t
   ·obtain⟨j,q,hq,hqt⟩:=hex
    exact hI.done j q t hq hqt (ready_ahead hI.closed hle hi (hlook t ht j q hq hqt))
   ·have hno:∀ (j:Nat) (q:Oper),ops[j]? = some q→q.dst≠some t:=λj q hq hqt=>hex ⟨j,q,hq,hqt⟩
    rw [hI.rest t (λj q hq _=>hno j q hq),hrest t hno]
  refine⟨v,H',hval,⟨hI.closed.list hle hi,?_,?_,?_,?_⟩⟩
  ·rw [show (put e o.dst v).length=e.length by cases o.dst <;> simp [put]];exact hI.len
  ·intro j q t hq hqt hl
   by_cases hdt:o.dst=some t
   ·rw [hdt,getD_put_self (by rw [hI.len];exact hd t hdt)]
    exact hve t hdt
   ·rw [getD_put (λd hd2 e2=>hdt (by rw [hd2,e2]))]
    by_cases hji:j=i
    ·subst hji;rw [ho] at hq;cases hq;exact absurd hqt hdt
    ·refine hI.done j q t hq hqt ?_
     simp only [Array.getD_eq_getD_getElem?,Array.getElem?_setIfInBounds] at hl ⊢
     rw [if_neg (λe=>hji e.symm)] at hl
     exact hl
  ·intro t ht
   have hil:(listed.setIfInBounds i true).getD i false=true:=by
    have hs:i<listed.size:=by rw [hI.closed.1];exact hisz
    simp [Array.getD,hs]
   rw [getD_put (λd hd2 e2=>ht i o ho hil (by rw [hd2,e2]))]
   refine hI.rest t (λj q hq hl=>ht j q hq ?_)
   simp only [Array.getD_eq_getD_getElem?,Array.getElem?_setIfInBounds] at hl ⊢
   split
   ·split
    ·rfl
    ·rename_i h2 h3;rw [Array.getElem?_eq_none (by omega)] at hl;cases hl
   ·exact hl
  ·have hfil:(turners C ops).filter (λw=>(listed.setIfInBounds i true).getD w false)=if (turners C ops).contains i=true then insertD i m else m:=by
    have hs:i<listed.size:=by rw [hI.closed.1];exact hisz
    have e1:(turners C ops).filter (λw=>(listed.setIfInBounds i true).getD w false)=(turners C ops).filter (λw=>listed.getD w false || w == i):=by
     apply List.filter_congr
     intro w _
     simp only [Array.getD_eq_getD_getElem?,Array.getElem?_setIfInBounds]
     by_cases hwi:i=w
     ·subst hwi;simp [hs]
     ·have:w≠i:=λe=>hwi e.symm
      simp [hwi,this]
    rw [e1]
    by_cases hc:i ∈ turners C ops
    ·rw [if_pos (by simpa using hc)]
     exact filter_insert _ i hunf _ turners_desc hc
    ·rw [if_neg (by simpa using hc)]
     apply List.filter_congr
     intro w hw
     have:w≠i:=λe=>hc (e ▸ hw)
     simp [this]
   rw [hfil]
   by_cases hc:(turners C ops).contains i=true
   ·rw [if_pos hc] at hv2 ⊢
    split at hv2
    ·rename_i H2 hH2;rw [hH2,eqH_ok _ _ hv2]
    ·cases hv2
   ·rw [if_neg hc] at hv2 ⊢
    rw [eqH_ok _ _ hv2];exact hI.heap
theorem sq_end (hsq:squareOK C ops e0 ef H0 Hf=true) {listed:Array Bool} {e:Env} {H:Hp} (hI:SqInv C ops e0 ef H0 listed e H) (hall:∀ i,i<ops.size→listed.getD i false=true):e=ef∧H=Hf:=by
 obtain⟨hle,hlen,hrest,hops,hend⟩:=sq_parts hsq
 constructor
 ·apply List.ext_getElem?
  intro t
  by_cases hlt:t<e.length
  ·have hlt2:t<ef.length:=by rw [← hI.len];exact hlt
   have h1:e.getD t .un=ef.getD t .un:=by
    by_cases hex:∃ (j:Nat) (q:Oper),ops[j]? = some q∧q.dst=some t
    ·obtain⟨j,q,hq,hqt⟩:=hex
     have hj:j<ops.size:=by
      rcases Nat.lt_or_ge j ops.size with h | h
      ·exact h
      ·rw [Array.getElem?_eq_none h] at hq;cases hq
     exact hI.done j q t hq hqt (hall j hj)
    ·have hno:∀ (j:Nat) (q:Oper),ops[j]? = some q→q.dst≠some t:=λj q hq hqt=>hex ⟨j,q,hq,hqt⟩
     rw [hI.rest t (λj q hq _=>hno j q hq),hrest t hno]
   rw [List.getElem?_eq_getElem hlt,List.getElem?_eq_getElem hlt2]
   simpa [List.getD_eq_getElem?_getD,hlt,hlt2] using h1
  ·rw [List.getElem?_eq_none (Nat.le_of_not_lt hlt),List.getElem?_eq_none (by rw [← hI.len];exact Nat.le_of_not_lt hlt)]
 ·have h1:=hI.heap
  have e1:(turners C ops).filter (λw=>listed.getD w false)=turners C ops:=by
   rw [List.filter_eq_self]
   intro w hw
   unfold turners at hw
   rw [List.mem_reverse,List.mem_filter,List.mem_range] at hw
   exact hall w hw.1
  rw [e1,hend] at h1
  exact (Option.some.inj h1).symm
theorem square_sound (hS:Sound C.P C.call) (hsq:squareOK C ops e0 ef H0 Hf=true) {Q:Exit→Act→World→Prop} {k:Ex→Env→Hp→Option ρ} (hk:k .nor ef Hf=some res):∀ (fuel:Nat) (listed:Array Bool) (e:Env) (H:Hp) (F:Fz) (r:Rm) (a:Act) (w:World),
  SqInv C ops e0 ef H0 listed e H→(left ops listed).length≤fuel →
  WRel B W0 L F r H w→(∀ m,L m→m≤C.lim)→C.lim≤H.length→C.ro≤H.length→Vs F r H.length e a.tmps→a.defers=[]→Meets B W0 L C.ro F r H k res Q→wpAny C.P .any ops Q fuel listed a w:=by
 obtain⟨hle,hlen,hrest,hops,hend⟩:=sq_parts hsq
 intro fuel
 have hnone:∀ (listed:Array Bool),Closed ops listed→left ops listed=[]→∀ i,i<ops.size→listed.getD i false=true:=by
  intro listed hc h0 i hi
  cases hq:listed.getD i true with
  | true=>
   have hs:i<listed.size:=by rw [hc.1];exact hi
   simpa [Array.getD,hs] using hq
  | false=>
   exfalso
   have:(ops[i],i) ∈ left ops listed:=by
    unfold left
    rw [List.mem_filter]
    exact⟨List.mem_zipIdx_iff_getElem?.2 (by simp [hi]),by simp [hq]⟩
   rw [h0] at this;cases this
 have hfin:∀ (listed:Array Bool) (e:Env) (H:Hp) (F:Fz) (r:Rm) (a:Act) (w:World),SqInv C ops e0 ef H0 listed e H→left ops listed=[] →
   WRel B W0 L F r H w→Vs F r H.length e a.tmps→a.defers=[]→Meets B W0 L C.ro F r H k res Q→Q .normal a w:=by
  intro listed e H F r a w hI h0 hw he hd hm
  obtain⟨rfl,rfl⟩:=sq_end hsq hI (hnone listed hI.closed h0)
  exact hm .nor .normal _ _ F r a w (Ext.refl _ _ _ _) hw .nor he hd hk
 have hready:∀ (listed:Array Bool),Closed ops listed→Region.ready .any ops listed=[]→left ops listed=[]:=λlisted hc h0=>ready_left hle hc h0
 induction fuel with
 | zero=>
  intro listed e H F r a w hI hl hw _ _ _ he hd hm
  have h0:left ops listed=[]:=List.eq_nil_of_length_eq_zero (by omega)
  refine⟨?_,hfin listed e H F r a w hI h0 hw he hd hm⟩
  cases hr:Region.ready .any ops listed with
  | nil=>rfl
  | cons i l=>
   exfalso
   obtain⟨o,ho,_,hun,_⟩:=ready_spec (i:=i) (ops:=ops) (listed:=listed) (by rw [hr];exact List.mem_cons_self ..)
   have:(o,i) ∈ left ops listed:=by
    unfold left
    rw [List.mem_filter]
    exact⟨List.mem_zipIdx_iff_getElem?.2 (by simpa using ho),by simp [hun]⟩
   rw [h0] at this;cases this
 | succ fuel ih=>
  intro listed e H F r a w hI hl hw hL hlim hro he hd hm
  refine⟨λh0=>hfin listed e H F r a w hI (hready listed hI.closed h0) hw he hd hm,λi hi=>?_⟩
  obtain⟨o,ho,hisz,hun,_⟩:=ready_spec hi
  obtain⟨pre,post,hl1,hl2⟩:=left_step hI.closed.1 ho hun
  obtain⟨v,H',hv,hI'⟩:=square_step hsq hI ho hi
  have hone:opsK C (some true) ops [o] e H (λx e H=>match x with | .nor=>some (e,H) | _=>none)=some (put e o.dst v,H'):=opsK_put hv rfl
  refine step_soundP (ρ:=Env×Hp) (res:=(put e o.dst v,H')) hS ho hone hw hL hlim hro he hd (λv v' H'' F' r' w' _ _ _ hx=>?_) (λe' H'' F' r' a' w' hx hw' he' hd' hk'=>?_)
  ·cases hx
  ·simp only [opsK,Option.some.injEq,Prod.mk.injEq] at hk'
   obtain⟨rfl,rfl⟩:=hk'
   exact ih _ _ _ F' r' a' w' hI' (by rw [hl2];rw [hl1] at hl;simp at hl ⊢;omega) hw' hL (Nat.le_trans hlim hx.len) (Nat.le_trans hro hx.len) he' hd' (hm.ext hx)
theorem anyR_unique {k:Ex→Env→Hp→Option ρ} {r1 r2:ρ} {listed:Array Bool} {e:Env} {H:Hp} (h1:AnyR C ops k r1 listed e H):AnyR C ops k r2 listed e H→r1=r2:=by
 induction h1 with
 | done h0 h=>
  intro h2
  cases h2 with
  | done _ h'=>rw [h] at h';exact Option.some.inj h'
  | step f hn _ _=>exact absurd h0 hn
 | step f hn g1 g2 ih=>
  intro h2
  cases h2 with
  | done h0 _=>exact absurd h0 hn
  | step f' _ k1 k2=>
   obtain⟨i,hi⟩:=List.exists_mem_of_ne_nil _ hn
   obtain⟨o,ho,_⟩:=ready_spec hi
   have e:f' i=f i:=by
    have a:=g1 i o hi ho
    rw [k1 i o hi ho] at a
    exact Option.some.inj a
   have b:=k2 i o hi ho
   rw [e] at b
   exact ih i o hi ho b
theorem anyR_out {k:Ex→Env→Hp→Option ρ} {res:ρ} {listed:Array Bool} {e:Env} {H:Hp} (h:AnyR C ops k res listed e H):∃ x e' H',k x e' H'=some res:=by
 induction h with
 | done _ h=>exact⟨_,_,_,h⟩
 | step f hn g1 g2 ih=>
  obtain⟨i,hi⟩:=List.exists_mem_of_ne_nil _ hn
  obtain⟨o,ho,_⟩:=ready_spec hi
  exact ih i o hi ho
theorem listed_all {listed:Array Bool} (hc:Closed ops listed) (h0:left ops listed=[]):∀ i,i<ops.size→listed.getD i false=true:=by
 intro i hi
 cases hq:listed.getD i true with
 | true=>
  have hs:i<listed.size:=by rw [hc.1];exact hi
  simpa [Array.getD,hs] using hq
 | false=>
  exfalso
  have:(ops[i],i) ∈ left ops listed:=by
   unfold left
   rw [List.mem_filter]
   exact⟨List.mem_zipIdx_iff_getElem?.2 (by simp [hi]),by simp [hq]⟩
  rw [h0] at this;cases this
theorem sq_any (hsq:squareOK C ops e0 ef H0 Hf=true) {k:Ex→Env→Hp→Option ρ} {res:ρ} {listed:Array Bool} {e:Env} {H:Hp} (h:AnyR C ops k res listed e H):SqInv C ops e0 ef H0 listed e H→k .nor ef Hf=some res:=by
 obtain⟨hle,_⟩:=sq_parts hsq
 induction h with
 | done h0 h=>
  intro hI
  obtain⟨rfl,rfl⟩:=sq_end hsq hI (listed_all hI.closed (ready_left hle hI.closed h0))
  exact h
 | step f hn g1 g2 ih=>
  intro hI
  obtain⟨i,hi⟩:=List.exists_mem_of_ne_nil _ hn
  obtain⟨o,ho,_⟩:=ready_spec hi
  obtain⟨v,H',hv,hI'⟩:=square_step hsq hI ho hi
  rw [g1 i o hi ho] at hv
  have e:f i=(v,H'):=Option.some.inj hv
  have:=ih i o hi ho
  rw [e] at this
  exact this hI'
theorem sq_start (hsq:squareOK C ops e0 ef H0 Hf=true):SqInv C ops e0 ef H0 (Array.replicate ops.size false) e0 H0:=by
 have hlen:=(sq_parts hsq).2.1
 refine⟨⟨by simp,?_⟩,hlen,?_,λt _=>rfl,?_⟩
 ·intro i hi h2;simp [Array.getD,hi] at h2
 ·intro i o t ho _ h2
  have hi:i<ops.size:=by
   rcases Nat.lt_or_ge i ops.size with h | h
   ·exact h
   ·rw [Array.getElem?_eq_none h] at ho;cases ho
  simp [Array.getD,hi] at h2
 ·have e1:(turners C ops).filter (λw=>(Array.replicate ops.size false).getD w false)=[]:=by
   rw [List.filter_eq_nil_iff]
   intro w _
   simp [Array.getD]
  rw [e1];rfl
omit [Globs] in
theorem edges_rise (h1:edgesOK ops.toList.zipIdx (bsOf ops)=true):∀ (i:Nat) (o:Oper),ops[i]? = some o→∀ e ∈ o.after.toList,Region.binds .any e=true→e.on<i:=by
 intro i o ho e he hb
 unfold edgesOK at h1
 rw [List.all_eq_true] at h1
 have:=h1 (o,i) (List.mem_zipIdx_iff_getElem?.2 (by simpa using ho))
 simp only [Bool.and_eq_true,List.all_eq_true] at this
 have h6:=this.1 e he
 simp only [hb,Bool.not_true,Bool.false_or,decide_eq_true_eq] at h6
 exact h6
theorem sqE_some {e:Env} {H:Hp} {r:Env×Hp} (h:sqE C ops e H=some r):squareOK C ops e r.1 H r.2=true:=by
 unfold sqE at h
 rw [Option.bind_eq_some_iff] at h
 obtain⟨r',_,h⟩:=h
 split at h
 ·rename_i hq;cases h;exact hq
 ·cases h
theorem sqK_some {e:Env} {H:Hp} {k:Ex→Env→Hp→Option ρ} {res:ρ} (h:sqK C ops e H k=some res) :
  (∃ ef Hf,squareOK C ops e ef H Hf=true∧k .nor ef Hf=some res)∨(edgesOK ops.toList.zipIdx (bsOf ops)=true∧AnyR C ops k res (Array.replicate ops.size false) e H):=by
 unfold sqK at h
 split at h
 ·rename_i r hr
  exact .inl ⟨_,_,sqE_some hr,h⟩
 ·unfold anyK at h
  split at h
  ·rename_i hx
   refine .inr ⟨hx.1,?_⟩
   have:=hx.2.choose_spec
   rw [Option.some.inj h] at this
   exact this
  ·cases h
theorem sqK_any {e:Env} {H:Hp} {k:Ex→Env→Hp→Option ρ} {res:ρ} (he:edgesOK ops.toList.zipIdx (bsOf ops)=true) (h:AnyR C ops k res (Array.replicate ops.size false) e H):sqK C ops e H k=some res:=by
 unfold sqK
 split
 ·rename_i r hr
  exact sq_any (sqE_some hr) h (sq_start (sqE_some hr))
 ·unfold anyK
  have hx:edgesOK ops.toList.zipIdx (bsOf ops)=true∧∃ res,AnyR C ops k res (Array.replicate ops.size false) e H:=⟨he,res,h⟩
  rw [dif_pos hx]
  rw [anyR_unique hx.2.choose_spec h]
theorem any_sound (hS:Sound C.P C.call) (hle:∀ (i:Nat) (o:Oper),ops[i]? = some o→∀ e ∈ o.after.toList,Region.binds .any e=true→e.on<i) {Q:Exit→Act→World→Prop} {k:Ex→Env→Hp→Option ρ}:∀ (fuel:Nat) (listed:Array Bool) (e:Env) (H:Hp) (F:Fz) (r:Rm) (a:Act) (w:World),
  AnyR C ops k res listed e H→Closed ops listed→(left ops listed).length≤fuel →
  WRel B W0 L F r H w→(∀ m,L m→m≤C.lim)→C.lim≤H.length→C.ro≤H.length→Vs F r H.length e a.tmps→a.defers=[]→Meets B W0 L C.ro F r H k res Q→wpAny C.P .any ops Q fuel listed a w:=by
 have hfin:∀ (listed:Array Bool) (e:Env) (H:Hp) (F:Fz) (r:Rm) (a:Act) (w:World),AnyR C ops k res listed e H→Region.ready .any ops listed=[] →
   WRel B W0 L F r H w→Vs F r H.length e a.tmps→a.defers=[]→Meets B W0 L C.ro F r H k res Q→Q .normal a w:=by
  intro listed e H F r a w hA h0 hw he hd hm
  cases hA with
  | done _ hk=>exact hm .nor .normal _ _ F r a w (Ext.refl _ _ _ _) hw .nor he hd hk
  | step f hn _ _=>exact absurd h0 hn
 intro fuel
 induction fuel with
 | zero=>
  intro listed e H F r a w hA hc hl hw _ _ _ he hd hm
  have h0:left ops listed=[]:=List.eq_nil_of_length_eq_zero (by omega)
  have hr:Region.ready .any ops listed=[]:=by
   cases hr:Region.ready .any ops listed with
   | nil=>rfl
   | cons i l=>
    exfalso
    obtain⟨o,ho,_,hun,_⟩:=ready_spec (i:=i) (ops:=ops) (listed:=listed) (by rw [hr];exact List.mem_cons_self ..)
    have:(o,i) ∈ left ops listed:=by
     unfold left
     rw [List.mem_filter]
     exact⟨List.mem_zipIdx_iff_getElem?.2 (by simpa using ho),by simp [hun]⟩
    rw [h0] at this;cases this
  exact⟨hr,hfin listed e H F r a w hA hr hw he hd hm⟩
 | succ fuel ih=>
  intro listed e H F r a w hA hc hl hw hL hlim hro he hd hm
  refine⟨λh0=>hfin listed e H F r a w hA h0 hw he hd hm,λi hi=>?_⟩
  obtain⟨o,ho,hisz,hun,_⟩:=ready_spec hi
  obtain⟨pre,post,hl1,hl2⟩:=left_step hc.1 ho hun
  cases hA with
  | done h0 _=>rw [h0] at hi;cases hi
  | step f hn g1 g2=>
   have hv:=g1 i o hi ho
   have hA':=g2 i o hi ho
   have hone:opsK C (some true) ops [o] e H (λx e H=>match x with | .nor=>some (e,H) | _=>none)=some (put e o.dst (f i).1,(f i).2):=opsK_put hv rfl
   refine step_soundP (ρ:=Env×Hp) (res:=(put e o.dst (f i).1,(f i).2)) hS ho hone hw hL hlim hro he hd (λv v' H'' F' r' w' _ _ _ hx=>?_) (λe' H'' F' r' a' w' hx hw' he' hd' hk'=>?_)
   ·cases hx
   ·simp only [opsK,Option.some.injEq,Prod.mk.injEq] at hk'
    obtain⟨rfl,rfl⟩:=hk'
    exact ih _ _ _ F' r' a' w' hA' (hc.list hle hi) (by rw [hl2];rw [hl1] at hl;simp at hl ⊢;omega) hw' hL (Nat.le_trans hlim hx.len) (Nat.le_trans hro hx.len) he' hd' (hm.ext hx)
theorem regionSq_sound {e:Env} {H:Hp} {F:Fz} {r:Rm} {a:Act} {w:World} (hS:Sound C.P C.call) (hmix:C.P.follows .mixedOrders=true) {id:Nat} {Q:Exit→Act→World→Prop} {k:Ex→Env→Hp→Option ρ} (h:sqK C ops e H k=some res) (hw:WRel B W0 L F r H w) (hL:∀ m,L m→m≤C.lim)
  (hlim:C.lim≤H.length) (hro:C.ro≤H.length) (he:Vs F r H.length e a.tmps) (hd:a.defers=[]) (hm:Meets B W0 L C.ro F r H k res Q):(Code.region id ops true).wp C.P Q a w:=by
 rcases sqK_some h with ⟨ef,Hf,hsq,h⟩ | ⟨hed,h⟩
 ·refine wp_region_any hmix ?_
  refine square_sound (e0:=e) (ef:=ef) (H0:=H) (Hf:=Hf) hS hsq h ops.size _ e H F r a _ (sq_start hsq) ?_ (hw.later (Later.drawn _ _)) hL hlim hro he hd hm
  rw [left_all];simp
 ·refine wp_region_any hmix ?_
  refine any_sound hS (edges_rise hed) ops.size _ e H F r a _ h ⟨by simp,λi hi h2=>by simp [Array.getD,hi] at h2⟩ ?_ (hw.later (Later.drawn _ _)) hL hlim hro he hd hm
  rw [left_all];simp
end
end Go.Tg
namespace Go.Tg
variable [Globs]
section
variable {B:Nat} {W0:Base} {L:Nat→Prop} {C:Ctx}
theorem keepL_go_rel {F:Fz} {r:Rm} {n:Nat} (l:List Nat):∀ (e:Env) (i:Nat),(keepL.go l i e).length=e.length∧∀ j,j<e.length→∃ v,(keepL.go l i e)[j]? = some v∧(v=.un∨e[j]? = some v):=by
 intro e
 induction e with
 | nil=>intro i;exact⟨rfl,λj hj=>by simp at hj⟩
 | cons v e ih=>
  intro i
  obtain⟨h1,h2⟩:=ih (i+1)
  refine⟨by simp [keepL.go,h1],λj hj=>?_⟩
  cases j with
  | zero=>
   simp only [keepL.go,List.getElem?_cons_zero,Option.some.injEq,exists_eq_left']
   split
   ·exact .inr rfl
   ·exact .inl rfl
  | succ j=>
   obtain⟨v',hv,hv2⟩:=h2 j (by simpa using hj)
   exact⟨v',by simpa [keepL.go] using hv,by simpa using hv2⟩
theorem keepL_rel {F:Fz} {r:Rm} {n:Nat} {e:Env} {vs:Array Value} (l:List Nat) (h:Vs F r n e vs):Vs F r n (keepL l e) vs:=by
 obtain⟨h1,h2⟩:=keepL_go_rel (F:=F) (r:=r) (n:=n) l e 0
 refine⟨by rw [h.1];exact h1.symm,λi hi=>?_⟩
 have hi':i<e.length:=by unfold keepL at hi;omega
 obtain⟨v,hv,hv2⟩:=h2 i hi'
 have e1:(keepL l e)[i]=v:=by
  have:=List.getElem?_eq_getElem hi
  unfold keepL at this ⊢
  rw [hv] at this
  exact (Option.some.inj this).symm
 rw [e1]
 rcases hv2 with rfl | hv2
 ·exact .un _
 ·have:=h.2 i hi'
  rw [List.getElem?_eq_getElem hi',Option.some.injEq] at hv2
  rw [hv2] at this;exact this
theorem Meets.mk' {ρ:Type} {res:ρ} {ro:Nat} {F:Fz} {r:Rm} {H:Hp} {k:Ex→Env→Hp→Option ρ} {Q:Exit→Act→World→Prop}
  (h:∀ x x' e' H' F' r' a' w',Ext ro F r H F' r' H'→WRel B W0 L F' r' H' w'→XRel F' r' H'.length x x'→Vs F' r' H'.length e' a'.tmps→a'.defers=[]→k x e' H'=some res→Q x' a' w'):Meets B W0 L ro F r H k res Q:=h
theorem ex_sound (hS:Sound C.P C.call) (hP:PureOK C) (hmix:C.P.follows .mixedOrders=true) (hL:∀ m,L m→m≤C.lim) (l:List Nat) (c:Code):∀ {ρ:Type} {res:ρ} {k:Ex→Env→Hp→Option ρ} {e:Env} {H:Hp} {F:Fz} {r:Rm} {a:Act} {w:World} {Q:Exit→Act→World→Prop},
  exK C l c e H k=some res→WRel B W0 L F r H w→C.lim≤H.length→C.ro≤H.length→Vs F r H.length e a.tmps→a.defers=[]→Meets B W0 L C.ro F r H k res Q→c.wp C.P Q a w:=by
 induction c with
 | skip=>
  intro ρ res k e H F r a w Q h hw hlim hro he hd hm
  exact wp_skip (hm .nor .normal e H F r a w (Ext.refl _ _ _ _) hw .nor he hd h)
 | region id ops draw=>
  intro ρ res k e H F r a w Q h hw hlim hro he hd hm
  unfold exK at h
  cases draw with
  | false=>
   simp only [Bool.false_eq_true,if_false] at h
   exact region_sound hS ops h hw hL hlim hro he hd hm
  | true=>
   simp only [if_true] at h
   split at h
   ·rename_i hdr
    exact regionAny_sound hS hP hmix hdr h hw hL hlim hro he hd hm
   ·exact regionSq_sound hS hmix h hw hL hlim hro he hd hm
 | seq x y ihx ihy=>
  intro ρ res k e H F r a w Q h hw hlim hro he hd hm
  unfold exK at h
  refine wp_seq (ihx h hw hlim hro he hd (Meets.mk' λx x' e' H' F' r' a' w' hx hw' hxr he' hd' hk=>?_))
  cases hxr with
  | nor=>exact ihy hk hw' (Nat.le_trans hlim hx.len) (Nat.le_trans hro hx.len) he' hd' (hm.ext hx)
  | exi id=>exact hm _ _ e' H' F' r' a' w' hx hw' (.exi id) he' hd' hk
  | ret=>exact hm _ _ e' H' F' r' a' w' hx hw' .ret he' hd' hk
  | pan hv=>exact hm _ _ e' H' F' r' a' w' hx hw' (.pan hv) he' hd' hk
 | cond c x y ihx ihy=>
  intro ρ res k e H F r a w Q h hw hlim hro he hd hm
  unfold exK at h
  obtain⟨t,ht,h⟩:=br_some h
  have hc:a.eval c=.bool t:=by
   have:=rel_ev he c
   rw [ht] at this
   exact rel_bool this
  cases t with
  | true=>exact wp_cond_true hc (ihx h hw hlim hro he hd hm)
  | false=>exact wp_cond_false hc (ihy h hw hlim hro he hd hm)
 | block id b ih=>
  intro ρ res k e H F r a w Q h hw hlim hro he hd hm
  unfold exK at h
  refine wp_block (ih h hw hlim hro he hd (Meets.mk' λx x' e' H' F' r' a' w' hx hw' hxr he' hd' hk=>?_))
  cases hxr with
  | nor=>exact hm _ _ e' H' F' r' a' w' hx hw' .nor he' hd' hk
  | exi i=>
   simp only [Exit.inBlock]
   simp only at hk
   split
   ·rename_i hi;rw [if_pos hi] at hk;exact hm _ _ e' H' F' r' a' w' hx hw' .nor he' hd' hk
   ·rename_i hi;rw [if_neg hi] at hk;exact hm _ _ e' H' F' r' a' w' hx hw' (.exi i) he' hd' hk
  | ret=>exact hm _ _ e' H' F' r' a' w' hx hw' .ret he' hd' hk
  | pan hv=>exact hm _ _ e' H' F' r' a' w' hx hw' (.pan hv) he' hd' hk
 | loop b ih=>
  intro ρ res k e H F r a w Q h hw hlim hro he hd hm
  unfold exK at h
  rw [Option.bind_eq_some_iff] at h
  obtain⟨⟨x1,e1,H1⟩,h1,hk1⟩:=h
  obtain⟨n,hn⟩:=loopW_some.1 h1
  refine wp_loop_rounds n ?_
  have key:∀ n e H F r a w,rounds (σ:=Env×Hp) (λs=>exK C l b s.1 s.2 λx e H=>match x with
    | .nor=>some (Sum.inl (keepL l e,H))
    | x=>some (Sum.inr (x,keepL l e,H))) n (e,H)=some (x1,e1,H1)→WRel B W0 L F r H w→C.lim≤H.length→C.ro≤H.length→Vs F r H.length e a.tmps→a.defers=[]→Meets B W0 L C.ro F r H k res Q→Code.rounds C.P b Q n a w:=by
   intro n
   induction n with
   | zero=>intro e H F r a w h;simp [rounds] at h
   | succ n ihn=>
    intro e H F r a w h hw hlim hro he hd hm
    rw [rounds_succ]
    rw [rounds] at h
    simp only at h
    cases hs:exK C l b e H (λx e H=>match x with
     | .nor=>some (Sum.inl (keepL l e,H))
     | x=>some (Sum.inr (x,keepL l e,H))) with
    | none=>rw [hs] at h;cases h
    | some y=>
     rw [hs] at h
     refine ih hs hw hlim hro he hd (Meets.mk' λx x' e' H' F' r' a' w' hx hw' hxr he' hd' hk=>?_)
     cases hxr with
     | nor=>
      simp only [Option.some.injEq] at hk
      subst hk
      exact ihn _ _ F' r' a' w' h hw' (Nat.le_trans hlim hx.len) (Nat.le_trans hro hx.len) (keepL_rel l he') hd' (hm.ext hx)
     | exi i=>
      simp only [Option.some.injEq] at hk
      subst hk
      simp only [Option.some.injEq,Prod.mk.injEq] at h
      obtain⟨rfl,rfl,rfl⟩:=h
      exact hm _ _ _ _ F' r' a' w' hx hw' (.exi i) (keepL_rel l he') hd' hk1
     | ret=>
      simp only [Option.some.injEq] at hk
      subst hk
      simp only [Option.some.injEq,Prod.mk.injEq] at h
      obtain⟨rfl,rfl,rfl⟩:=h
      exact hm _ _ _ _ F' r' a' w' hx hw' .ret (keepL_rel l he') hd' hk1
     | pan hv=>
      simp only [Option.some.injEq] at hk
      subst hk
      simp only [Option.some.injEq,Prod.mk.injEq] at h
      obtain⟨rfl,rfl,rfl⟩:=h
      exact hm _ _ _ _ F' r' a' w' hx hw' (.pan hv) (keepL_rel l he') hd' hk1
  exact key n _ H F r a w hn hw hlim hro (keepL_rel l he) hd hm
 | scope b ih=>
  intro ρ res k e H F r a w Q h hw hlim hro he hd hm
  unfold exK at h
  refine wp_scope_straight (ih h hw hlim hro he hd (Meets.mk' λx x' e' H' F' r' a' w' hx hw' hxr he' hd' hk=>?_))
  have:=hm x x' e' H' F' r' a' w' hx hw' hxr he' hd' hk
  cases hxr <;> exact this
 | label n=>
  intro ρ res k e H F r a w Q h hw hlim hro he hd hm
  exact wp_label (hm .nor .normal e H F r a w (Ext.refl _ _ _ _) hw .nor he hd h)
 | exit id=>
  intro ρ res k e H F r a w Q h hw hlim hro he hd hm
  exact wp_exit (hm (.exi id) (.exit id) e H F r a w (Ext.refl _ _ _ _) hw (.exi id) he hd h)
 | ret=>
  intro ρ res k e H F r a w Q h hw hlim hro he hd hm
  exact wp_ret (hm .ret .ret e H F r a w (Ext.refl _ _ _ _) hw .ret he hd h)
 | _=>
  intro ρ res k e H F r a w Q h
  unfold exK at h
  cases h
end
end Go.Tg
namespace Go.Tg
variable [Globs]
def Ev (p:Nat→Prop):Prop:=∃ n,∀ m,n≤m→p m
theorem Ev.all {p:Nat→Prop} (h:∀ m,p m):Ev p:=⟨0,λm _=>h m⟩
theorem Ev.and {p q:Nat→Prop} (h:Ev p) (h':Ev q):Ev λm=>p m∧q m:=
 let ⟨n,hn⟩:=h;let ⟨k,hk⟩:=h';⟨max n k,λm hm=>⟨hn m (by omega),hk m (by omega)⟩⟩
theorem Ev.imp {p q:Nat→Prop} (h:Ev p) (hpq:∀ m,p m→q m):Ev q:=let ⟨n,hn⟩:=h;⟨n,λm hm=>hpq m (hn m hm)⟩
theorem Ev.both {p q r:Nat→Prop} (h:Ev p) (h':Ev q) (f:∀ m,p m→q m→r m):Ev r:=(h.and h').imp λm x=>f m x.1 x.2
theorem Ev.const {p:Prop} (h:Ev λ_=>p):p:=let ⟨n,hn⟩:=h;hn n (Nat.le_refl n)
def Ctx.wcall (C:Ctx) (c:Oracle):Ctx:={ C with call:=c }
theorem wcall_fits {ρ:Type} (C:Ctx) (c:Oracle) (D:Option Bool) (o:Oper) (e:Env) (x:Option ρ):fits (C.wcall c) D o e x=fits C D o e x:=rfl
theorem wcall_pairs (C:Ctx) (c:Oracle) (ops:Array Oper) (bs:List Nat):∀ l:List (Oper×Nat),pairs (C.wcall c) ops bs l=pairs C ops bs l:=by
 intro l
 induction l with
 | nil=>rfl
 | cons p l ih=>unfold pairs;rw [ih];rfl
theorem wcall_draw (C:Ctx) (c:Oracle) (ops:Array Oper):drawOK (C.wcall c) ops=drawOK C ops:=by
 unfold drawOK;simp only [wcall_pairs]
theorem opR_wcall {C:Ctx} (c:Oracle) {o:Oper} (h:∀ x,o.op≠.call x) (e:Env) (H:Hp):opR (C.wcall c) o e H=opR C o e H:=by
 unfold opR opK
 cases ho:o.op with
 | call x=>exact absurd ho (h x)
 | makeFunc f _ _=>cases f <;> rfl
 | _=>rfl
section
variable {C:Ctx} {cs:Nat→Oracle}
def Grows (c:Oracle) (cs:Nat→Oracle):Prop:=∀ lim ro f args H r,c lim ro f args H=some r→Ev λm=>cs m lim ro f args H=some r
theorem opR_ev (hc:Grows C.call cs) {o:Oper} {e:Env} {H:Hp} {r:Out×Hp} (h:opR C o e H=some r):Ev λm=>opR (C.wcall (cs m)) o e H=some r:=by
 by_cases hx:∃ x,o.op=.call x
 ·obtain⟨x,hx⟩:=hx
  unfold opR opK at h ⊢
  rw [hx] at h ⊢
  simp only at h ⊢
  have lft:∀ {f:Nat} {args:List IV} {H:Hp},liftR (C.call C.lim C.ro f args H) (λv H=>some (Out.val v,H)) (λv H=>some (Out.pan v,H))=some r →
    Ev λm=>liftR ((C.wcall (cs m)).call (C.wcall (cs m)).lim (C.wcall (cs m)).ro f args H) (λv H=>some (Out.val v,H)) (λv H=>some (Out.pan v,H))=some r:=by
   intro f args H h
   unfold liftR at h ⊢
   cases hr:C.call C.lim C.ro f args H with
   | none=>rw [hr] at h;cases h
   | some y=>
    rw [hr] at h
    exact (hc _ _ _ _ _ _ hr).imp λm hm=>by
     show (Option.bind (cs m C.lim C.ro f args H) _)=_
     rw [hm];exact h
  cases hcal:x.callee with
  | value v=>
   cases v with
   | func f=>
    simp only [hcal] at h ⊢
    unfold goCall at h ⊢
    by_cases hraw:C.T.raw f=true
    ·rw [if_pos hraw] at h
     exact (lft h).imp λm hm=>by rw [if_pos (show (C.wcall (cs m)).T.raw f=true from hraw)];exact hm
    ·rw [if_neg hraw] at h
     exact (lft h).imp λm hm=>by rw [if_neg (show ¬ (C.wcall (cs m)).T.raw f=true from hraw)];exact hm
   | tmp t=>
    simp only [hcal] at h ⊢
    unfold goVal at h ⊢
    cases hev:ev e (.tmp t) with
    | fn f fst cap=>simp only [hev] at h ⊢;exact lft h
    | _=>simp only [hev] at h;cases h
   | _=>simp only [hcal] at h ⊢;exact Ev.all λm=>h
  | builtin b=>simp only [hcal] at h ⊢;exact Ev.all λm=>by cases b <;> exact h
  | _=>simp only [hcal] at h ⊢;exact Ev.all λm=>h
 ·exact Ev.all λm=>by rw [opR_wcall _ (λx hx'=>hx ⟨x,hx'⟩)];exact h
section
variable {ρ:Type} {res:ρ}
theorem opK_ev (hc:Grows C.call cs) {o:Oper} {e:Env} {H:Hp} {kv kp:IV→Hp→Option ρ} {kv' kp':Nat→IV→Hp→Option ρ} (h:opK C o e H kv kp=some res)
  (hv:∀ v H,kv v H=some res→Ev λm=>kv' m v H=some res) (hp:∀ v H,kp v H=some res→Ev λm=>kp' m v H=some res):Ev λm=>opK (C.wcall (cs m)) o e H (kv' m) (kp' m)=some res:=by
 rw [opK_eq] at h
 rw [Option.bind_eq_some_iff] at h
 obtain⟨⟨out,H1⟩,h1,h2⟩:=h
 have h3:=opR_ev hc h1
 cases out with
 | val v=>exact h3.both (hv v H1 h2) λm a b=>by rw [opK_eq,a];exact b
 | pan v=>exact h3.both (hp v H1 h2) λm a b=>by rw [opK_eq,a];exact b
theorem opsK_ev (hc:Grows C.call cs) (D:Option Bool) (ops:Array Oper) {k:Ex→Env→Hp→Option ρ} {k':Nat→Ex→Env→Hp→Option ρ} (hk:∀ x e H,k x e H=some res→Ev λm=>k' m x e H=some res):∀ (os:List Oper) (e:Env) (H:Hp),
  opsK C D ops os e H k=some res→Ev λm=>opsK (C.wcall (cs m)) D ops os e H (k' m)=some res:=by
 intro os
 induction os with
 | nil=>intro e H h;exact hk _ _ _ h
 | cons o os ih=>
  intro e H h
  have hpan:∀ v H,pan D os e k v H=some res→Ev λm=>pan D os e (k' m) v H=some res:=by
   intro v H h
   unfold pan at h ⊢
   cases D with
   | none=>exact hk _ _ _ h
   | some b=>
    simp only at h ⊢
    cases os with
    | nil=>
     simp only at h ⊢
     split at h
     ·rename_i hb;exact (hk _ _ _ h).imp λm hm=>by simp only [hb,if_true];exact hm
     ·cases h
    | cons _ _=>cases h
  have go:∀ e0,fits C D o e0 (opK C o e0 H (λv H=>opsK C D ops os (put e0 o.dst v) H k) (pan D os e k))=some res →
    Ev λm=>fits (C.wcall (cs m)) D o e0 (opK (C.wcall (cs m)) o e0 H (λv H=>opsK (C.wcall (cs m)) D ops os (put e0 o.dst v) H (k' m)) (pan D os e (k' m)))=some res:=by
   intro e0 h0
   have fit:opK C o e0 H (λv H=>opsK C D ops os (put e0 o.dst v) H k) (pan D os e k)=some res∧∀ y:Option ρ,fits C D o e0 y=y:=by
    cases D with
    | none=>exact⟨h0,λy=>rfl⟩
    | some b=>exact⟨(fits_some h0).1,(fits_some h0).2⟩
   exact (opK_ev hc fit.1 (λv H hv=>ih _ _ hv) hpan).imp λm hm=>by rw [wcall_fits,fit.2];exact hm
  unfold opsK at h ⊢
  cases hg:o.guard with
  | none=>simp only [hg] at h ⊢;exact go e h
  | some g=>
   obtain⟨j,want⟩:=g
   simp only [hg] at h ⊢
   cases hd:(ops[j]?).bind (·.dst) with
   | none=>simp only [hd] at h;cases h
   | some d=>
    simp only [hd] at h ⊢
    rcases brN_some h with ⟨t,ht,h⟩ | ⟨ht,h⟩
    case inr=>rw [ht];exact ih _ _ h
    rw [ht]
    simp only [brN]
    cases t
    ·simp only [Bool.false_eq_true,if_false] at h ⊢
     cases want
     ·simp only [if_true] at h ⊢;exact go _ h
     ·simp at h ⊢;exact ih _ _ h
    ·simp only [if_true] at h ⊢
     cases want
     ·simp at h ⊢;exact ih _ _ h
     ·simp only [if_true] at h ⊢;exact go _ h
end
theorem Ev.list {α:Type} {p:α→Nat→Prop}:∀ (l:List α),(∀ x ∈ l,Ev (p x))→Ev λm=>∀ x ∈ l,p x m:=by
 intro l
 induction l with
 | nil=>intro _;exact Ev.all λm x hx=>by cases hx
 | cons x l ih=>
  intro h
  refine (h x (List.mem_cons_self ..)).both (ih λy hy=>h y (List.mem_cons_of_mem _ hy)) λm a b y hy=>?_
  rcases List.mem_cons.1 hy with rfl | hy
  ·exact a
  ·exact b y hy
theorem valO_ev (hc:Grows C.call cs) {ops:Array Oper} {o:Oper} {e:Env} {H:Hp} {p:IV×Hp} (h:valO C ops o e H=some p):Ev λm=>valO (C.wcall (cs m)) ops o e H=some p:=by
 obtain⟨v,H'⟩:=p
 have one:((opF C o e H).bind λr=>match r.1 with | .val v=>some (v,r.2) | .pan _=>none)=some (v,H') →
   Ev λm=>((opF (C.wcall (cs m)) o e H).bind λr=>match r.1 with | .val v=>some (v,r.2) | .pan _=>none)=some (v,H'):=by
  intro h0
  cases hr:opF C o e H with
  | none=>rw [hr] at h0;cases h0
  | some r=>
   rw [hr] at h0
   have h1:=(opF_some hr).1
   refine (opR_ev hc h1).imp λm hm=>?_
   have h2:opF (C.wcall (cs m)) o e H=some r:=by
    unfold opF
    rw [wcall_fits,hm]
    unfold opF at hr
    rw [h1] at hr
    exact hr
   rw [h2];exact h0
 unfold valO at h ⊢
 cases hg:o.guard with
 | none=>simp only [hg] at h ⊢;exact one h
 | some g=>
  obtain⟨j,want⟩:=g
  simp only [hg] at h ⊢
  cases hd:(ops[j]?).bind (·.dst) with
  | none=>simp only [hd] at h;cases h
  | some d=>
   simp only [hd] at h ⊢
   cases hq:e.getD d .un with
   | d x=>
    cases x with
    | bool t=>
     simp only [hq] at h ⊢
     by_cases hw:t=want
     ·rw [if_pos hw] at h
      exact (one h).imp λm hm=>by rw [if_pos hw];exact hm
     ·rw [if_neg hw] at h
      exact Ev.all λm=>by rw [if_neg hw];exact h
    | _=>simp only [hq] at h;cases h
   | no=>simp only [hq] at h ⊢;exact Ev.all λm=>h
   | _=>simp only [hq] at h;cases h
theorem tabR_ev (hc:Grows C.call cs) {ops:Array Oper} {ef:Env} {H0:Hp}:∀ (l:List Nat) (H:Hp),tabR C ops ef H0 l=some H→Ev λm=>tabR (C.wcall (cs m)) ops ef H0 l=some H:=by
 intro l
 induction l with
 | nil=>intro H h;exact Ev.all λ_=>h
 | cons w l ih=>
  intro H h
  simp only [tabR,Option.bind_eq_some_iff,Option.map_eq_some_iff] at h
  obtain⟨H1,h1,o,h2,p,h3,rfl⟩:=h
  refine (ih H1 h1).both (valO_ev hc h3) λm a b=>?_
  simp only [tabR,Option.bind_eq_some_iff,Option.map_eq_some_iff]
  exact⟨H1,a,o,h2,p,b,rfl⟩
theorem oneOK_ev (hc:Grows C.call cs) {ops:Array Oper} {ef:Env} {H0:Hp} {i:Nat} {o:Oper} {l:List Nat} (h:oneOK C ops ef H0 i o l=true):Ev λm=>oneOK (C.wcall (cs m)) ops ef H0 i o l=true:=by
 unfold oneOK at h
 cases ht:tabR C ops ef H0 l with
 | none=>rw [ht] at h;cases h
 | some H=>
  rw [ht] at h
  simp only at h
  cases hv:valO C ops o ef H with
  | none=>rw [hv] at h;cases h
  | some p=>
   obtain⟨v,H'⟩:=p
   rw [hv] at h
   simp only [Bool.and_eq_true] at h
   obtain⟨h1,h2⟩:=h
   by_cases hcn:(turners C ops).contains i=true
   ·rw [if_pos hcn] at h2
    cases ht2:tabR C ops ef H0 (insertD i l) with
    | none=>rw [ht2] at h2;cases h2
    | some H2=>
     rw [ht2] at h2
     refine (tabR_ev hc l H ht).both ((valO_ev hc hv).and (tabR_ev hc _ H2 ht2)) λm a b=>?_
     unfold oneOK
     rw [a]
     simp only [b.1,Bool.and_eq_true]
     refine⟨h1,?_⟩
     rw [if_pos (show (turners (C.wcall (cs m)) ops).contains i=true from hcn),b.2]
     exact h2
   ·rw [if_neg hcn] at h2
    refine (tabR_ev hc l H ht).both (valO_ev hc hv) λm a b=>?_
    unfold oneOK
    rw [a]
    simp only [b,Bool.and_eq_true]
    refine⟨h1,?_⟩
    rw [if_neg (show ¬ (turners (C.wcall (cs m)) ops).contains i=true from hcn)]
    exact h2
theorem squareOK_ev (hc:Grows C.call cs) {ops:Array Oper} {e0 ef:Env} {H0 Hf:Hp} (h:squareOK C ops e0 ef H0 Hf=true):Ev λm=>squareOK (C.wcall (cs m)) ops e0 ef H0 Hf=true:=by
 unfold squareOK at h ⊢
 simp only [Bool.and_eq_true] at h ⊢
 obtain⟨⟨⟨⟨h1,h2⟩,h3⟩,h4⟩,h5⟩:=h
 have g4:Ev λm=>∀ p ∈ ops.toList.zipIdx,∀ l ∈ subs (turners C ops),mayMeet C ops p.2 l=true→oneOK (C.wcall (cs m)) ops ef H0 p.2 p.1 l=true:=by
  refine Ev.list _ λp hp=>Ev.list _ λl hl=>?_
  by_cases hm:mayMeet C ops p.2 l=true
  ·rw [List.all_eq_true] at h4
   have:=h4 p hp
   simp only [Bool.and_eq_true] at this
   have h6:=this.2
   rw [List.all_eq_true] at h6
   have h7:=h6 l hl
   simp only [hm,Bool.not_true,Bool.false_or] at h7
   exact (oneOK_ev hc h7).imp λm a _=>a
  ·exact Ev.all λm a=>absurd a hm
 have g5:Ev λm=>(match tabR (C.wcall (cs m)) ops ef H0 (turners C ops) with | some H=>eqH H Hf | none=>false)=true:=by
  cases ht:tabR C ops ef H0 (turners C ops) with
  | none=>rw [ht] at h5;cases h5
  | some H=>rw [ht] at h5;exact (tabR_ev hc _ H ht).imp λm a=>by rw [a];exact h5
 refine g4.both g5 λm a b=>⟨⟨⟨⟨h1,h2⟩,h3⟩,?_⟩,b⟩
 rw [List.all_eq_true] at h4 ⊢
 intro p hp
 have h6:=h4 p hp
 simp only [Bool.and_eq_true] at h6 ⊢
 refine⟨h6.1,?_⟩
 rw [List.all_eq_true]
 intro l hl
 by_cases hm:mayMeet C ops p.2 l=true
 ·have:=a p hp l hl hm
  rw [Bool.or_eq_true];exact .inr this
 ·have hm2:mayMeet C ops p.2 l=false:=by simpa using hm
  rw [Bool.or_eq_true]
  left
  show (!mayMeet C ops p.2 l)=true
  rw [hm2];rfl
theorem anyR_ev {ρ:Type} {res:ρ} (hc:Grows C.call cs) {ops:Array Oper} {k:Ex→Env→Hp→Option ρ} {k':Nat→Ex→Env→Hp→Option ρ} (hk:∀ x e H,k x e H=some res→Ev λm=>k' m x e H=some res) {listed:Array Bool} {e:Env} {H:Hp} (h:AnyR C ops k res listed e H) :
  Ev λm=>AnyR (C.wcall (cs m)) ops (k' m) res listed e H:=by
 induction h with
 | done h0 h=>exact (hk _ _ _ h).imp λm hm=>.done h0 hm
 | @step listed e H f hn g1 g2 ih=>
  have h1:Ev λm=>∀ i ∈ Region.ready .any ops listed,∀ o,ops[i]? = some o→valO (C.wcall (cs m)) ops o e H=some (f i)∧AnyR (C.wcall (cs m)) ops (k' m) res (listed.setIfInBounds i true) (put e o.dst (f i).1) (f i).2:=by
   refine Ev.list _ λi hi=>?_
   cases ho:ops[i]? with
   | none=>exact Ev.all λm o h=>by cases h
   | some o=>
    exact (valO_ev hc (g1 i o hi ho)).both (ih i o hi ho) λm a b o' ho'=>by cases ho';exact⟨a,b⟩
  exact h1.imp λm hm=>.step f hn (λi o hi ho=>(hm i hi o ho).1) (λi o hi ho=>(hm i hi o ho).2)
theorem sqK_ev {ρ:Type} {res:ρ} (hc:Grows C.call cs) (ops:Array Oper) {k:Ex→Env→Hp→Option ρ} {k':Nat→Ex→Env→Hp→Option ρ} (hk:∀ x e H,k x e H=some res→Ev λm=>k' m x e H=some res) {e:Env} {H:Hp} (h:sqK C ops e H k=some res):Ev λm=>sqK (C.wcall (cs m)) ops e H (k' m)=some res:=by
 unfold sqK at h
 split at h
 ·rename_i r hr
  unfold sqE at hr
  rw [Option.bind_eq_some_iff] at hr
  obtain⟨⟨ef,Hf⟩,h1,h2⟩:=hr
  split at h2
  ·rename_i hsq
   cases h2
   have g1:=opsK_ev hc none ops (k':=λ_=>endE) (λx e H h=>Ev.all λ_=>h) _ _ _ h1
   refine g1.both ((squareOK_ev hc hsq).and (hk _ _ _ h)) λm a b=>?_
   unfold sqK sqE
   rw [a]
   simp only [Option.bind_some]
   rw [if_pos b.1];exact b.2
  ·cases h2
 ·unfold anyK at h
  split at h
  ·rename_i hx
   have hA:=hx.2.choose_spec
   rw [Option.some.inj h] at hA
   exact (anyR_ev hc hk hA).imp λm hm=>sqK_any (C:=C.wcall (cs m)) hx.1 hm
  ·cases h
noncomputable def exF (C:Ctx) (l:List Nat) (N:Nat):Code → {ρ:Type}→Env→Hp→(Ex→Env→Hp→Option ρ)→Option ρ
 | .skip,_,e,H,k=>k .nor e H
 | .region _ ops draw,_,e,H,k=>
  if draw=true then (if drawOK C ops=true then opsK C (some (lastOK ops)) ops ops.toList e H k else sqK C ops e H k) else opsK C none ops ops.toList e H k
 | .seq a b,_,e,H,k=>exF C l N a e H λx e H=>match x with
   | .nor=>exF C l N b e H k
   | x=>k x e H
 | .cond c a b,_,e,H,k=>br (ev e c) (exF C l N a e H k) (exF C l N b e H k)
 | .block id b,_,e,H,k=>exF C l N b e H λx e H=>match x with
   | .exi i=>if i=id then k .nor e H else k (.exi i) e H
   | x=>k x e H
 | .loop b,_,e,H,k=>
  (rounds (σ:=Env×Hp) (λs=>exF C l N b s.1 s.2 λx e H=>match x with
   | .nor=>some (Sum.inl (keepL l e,H))
   | x=>some (Sum.inr (x,keepL l e,H))) N (keepL l e,H)).bind λr=>k r.1 r.2.1 r.2.2
 | .scope b,_,e,H,k=>exF C l N b e H k
 | .label _,_,e,H,k=>k .nor e H
 | .exit id,_,e,H,k=>k (.exi id) e H
 | .ret,_,e,H,k=>k .ret e H
 | _,_,_,_,_=>none
theorem Grows.const (c:Oracle):Grows c (λ_=>c):=λ_ _ _ _ _ _ h=>Ev.all λ_=>h
theorem opsK_mono {ρ:Type} {res:ρ} (D:Option Bool) (ops:Array Oper) {k k':Ex→Env→Hp→Option ρ} (hk:∀ x e H,k x e H=some res→k' x e H=some res) {os:List Oper} {e:Env} {H:Hp} (h:opsK C D ops os e H k=some res):opsK C D ops os e H k'=some res:=
 (opsK_ev (cs:=λ_=>C.call) (Grows.const _) D ops (k':=λ_=>k') (λx e H h=>Ev.all λ_=>hk x e H h) os e H h).const
theorem exF_exK (l:List Nat) (N:Nat) (c:Code):∀ {ρ:Type} {res:ρ} {k k':Ex→Env→Hp→Option ρ} {e:Env} {H:Hp},(∀ x e H,k x e H=some res→k' x e H=some res)→exF C l N c e H k=some res→exK C l c e H k'=some res:=by
 induction c with
 | skip=>intro ρ res k k' e H hk h;exact hk _ _ _ h
 | region id ops draw=>
  intro ρ res k k' e H hk h
  unfold exF at h
  unfold exK
  split at h
  ·split at h
   ·rename_i h1 h2;rw [if_pos h1,if_pos h2];exact opsK_mono _ _ hk h
   ·rename_i h1 h2;rw [if_pos h1,if_neg h2];exact (sqK_ev (cs:=λ_=>C.call) (Grows.const _) ops (k':=λ_=>k') (λx e H h=>Ev.all λ_=>hk x e H h) h).const
  ·rename_i h1;rw [if_neg h1];exact opsK_mono _ _ hk h
 | seq x y ihx ihy=>
  intro ρ res k k' e H hk h
  unfold exF at h
  unfold exK
  refine ihx (λx e H h=>?_) h
  cases x with
  | nor=>exact ihy hk h
  | _=>exact hk _ _ _ h
 | cond c x y ihx ihy=>
  intro ρ res k k' e H hk h
  unfold exF at h
  unfold exK
  obtain⟨t,ht,h⟩:=br_some h
  rw [ht]
  cases t with
  | true=>exact ihx hk h
  | false=>exact ihy hk h
 | block id b ih=>
  intro ρ res k k' e H hk h
  unfold exF at h
  unfold exK
  refine ih (λx e H h=>?_) h
  cases x with
  | exi i=>
   simp only at h ⊢
   split at h
   ·rename_i h1;rw [if_pos h1];exact hk _ _ _ h
   ·rename_i h1;rw [if_neg h1];exact hk _ _ _ h
  | _=>exact hk _ _ _ h
 | loop b ih=>
  intro ρ res k k' e H hk h
  unfold exF at h
  unfold exK
  rw [Option.bind_eq_some_iff] at h ⊢
  obtain⟨r,h1,h2⟩:=h
  refine⟨r,?_,hk _ _ _ h2⟩
  apply loopW_some.2
  refine⟨N,?_⟩
  revert h1
  generalize (keepL l e,H)=s
  have:∀ n s,rounds (σ:=Env×Hp) (λs=>exF C l N b s.1 s.2 λx e H=>match x with
    | .nor=>some (Sum.inl (keepL l e,H))
    | x=>some (Sum.inr (x,keepL l e,H))) n s=some r→rounds (σ:=Env×Hp) (λs=>exK C l b s.1 s.2 λx e H=>match x with
    | .nor=>some (Sum.inl (keepL l e,H))
    | x=>some (Sum.inr (x,keepL l e,H))) n s=some r:=by
   intro n
   induction n with
   | zero=>intro s h;simp [rounds] at h
   | succ n ihn=>
    intro s h
    rw [rounds] at h ⊢
    cases hs:exF C l N b s.1 s.2 (λx e H=>match x with
     | .nor=>some (Sum.inl (keepL l e,H))
     | x=>some (Sum.inr (x,keepL l e,H))) with
    | none=>rw [hs] at h;cases h
    | some y=>
     rw [hs] at h
     rw [ih (λ_ _ _ h=>h) hs]
     cases y with
     | inl s'=>exact ihn _ h
     | inr y=>exact h
  exact this N s
 | scope b ih=>intro ρ res k k' e H hk h;unfold exF at h;unfold exK;exact ih hk h
 | label n=>intro ρ res k k' e H hk h;exact hk _ _ _ h
 | exit id=>intro ρ res k k' e H hk h;exact hk _ _ _ h
 | ret=>intro ρ res k k' e H hk h;exact hk _ _ _ h
 | _=>intro ρ res k k' e H hk h;unfold exF at h;cases h
theorem exK_ev (hc:Grows C.call cs) (l:List Nat) (c:Code):∀ {ρ:Type} {res:ρ} {k:Ex→Env→Hp→Option ρ} {k':Nat→Ex→Env→Hp→Option ρ} {e:Env} {H:Hp},(∀ x e H,k x e H=some res→Ev λm=>k' m x e H=some res) →
  exK C l c e H k=some res→Ev λm=>exF (C.wcall (cs m)) l m c e H (k' m)=some res:=by
 induction c with
 | skip=>intro ρ res k k' e H hk h;exact hk _ _ _ h
 | region id ops draw=>
  intro ρ res k k' e H hk h
  unfold exK at h
  unfold exF
  split at h
  ·split at h
   ·rename_i h1 h2
    exact (opsK_ev hc _ _ hk _ _ _ h).imp λm hm=>by rw [if_pos h1,if_pos (by rw [wcall_draw];exact h2)];exact hm
   ·rename_i h1 h2
    exact (sqK_ev hc _ hk h).imp λm hm=>by rw [if_pos h1,if_neg (by rw [wcall_draw];exact h2)];exact hm
  ·rename_i h1;exact (opsK_ev hc _ _ hk _ _ _ h).imp λm hm=>by rw [if_neg h1];exact hm
 | seq x y ihx ihy=>
  intro ρ res k k' e H hk h
  unfold exK at h
  unfold exF
  refine ihx (λx e H h=>?_) h
  cases x with
  | nor=>exact ihy hk h
  | _=>exact hk _ _ _ h
 | cond c x y ihx ihy=>
  intro ρ res k k' e H hk h
  unfold exK at h
  unfold exF
  obtain⟨t,ht,h⟩:=br_some h
  rw [ht]
  cases t with
  | true=>exact ihx hk h
  | false=>exact ihy hk h
 | block id b ih=>
  intro ρ res k k' e H hk h
  unfold exK at h
  unfold exF
  refine ih (λx e H h=>?_) h
  cases x with
  | exi i=>
   simp only at h ⊢
   split at h
   ·rename_i h1;exact (hk _ _ _ h).imp λm hm=>by rw [if_pos h1];exact hm
   ·rename_i h1;exact (hk _ _ _ h).imp λm hm=>by rw [if_neg h1];exact hm
  | _=>exact hk _ _ _ h
 | loop b ih=>
  intro ρ res k k' e H hk h
  unfold exK at h
  unfold exF
  rw [Option.bind_eq_some_iff] at h
  obtain⟨r,h1,h2⟩:=h
  obtain⟨n,hn⟩:=loopW_some.1 h1
  have:∀ n s,rounds (σ:=Env×Hp) (λs=>exK C l b s.1 s.2 λx e H=>match x with
    | .nor=>some (Sum.inl (keepL l e,H))
    | x=>some (Sum.inr (x,keepL l e,H))) n s=some r→Ev λm=>rounds (σ:=Env×Hp) (λs=>exF (C.wcall (cs m)) l m b s.1 s.2 λx e H=>match x with
    | .nor=>some (Sum.inl (keepL l e,H))
    | x=>some (Sum.inr (x,keepL l e,H))) n s=some r:=by
   intro n
   induction n with
   | zero=>intro s h;simp [rounds] at h
   | succ n ihn=>
    intro s h
    rw [rounds] at h
    cases hs:exK C l b s.1 s.2 (λx e H=>match x with
     | .nor=>some (Sum.inl (keepL l e,H))
     | x=>some (Sum.inr (x,keepL l e,H))) with
    | none=>rw [hs] at h;cases h
    | some y=>
     rw [hs] at h
     have h3:=ih (k':=λ_ x e H=>match x with
      | .nor=>some (Sum.inl (keepL l e,H))
      | x=>some (Sum.inr (x,keepL l e,H))) (λ_ _ _ h=>Ev.all λ_=>h) hs
     cases y with
     | inl s'=>exact h3.both (ihn _ h) λm a b=>by rw [rounds];simp only [a];exact b
     | inr y=>exact h3.imp λm a=>by rw [rounds];simp only [a];exact h
  obtain⟨n1,h3⟩:=this n _ hn
  refine Ev.both ⟨max n1 n,λm hm=>?_⟩ (hk _ _ _ h2) (λm a b=>by rw [Option.bind_eq_some_iff];exact⟨r,a,b⟩)
  exact rounds_le (by omega:n≤m) _ _ (h3 m (by omega))
 | scope b ih=>intro ρ res k k' e H hk h;unfold exK at h;unfold exF;exact ih hk h
 | label n=>intro ρ res k k' e H hk h;exact hk _ _ _ h
 | exit id=>intro ρ res k k' e H hk h;exact hk _ _ _ h
 | ret=>intro ρ res k k' e H hk h;exact hk _ _ _ h
 | _=>intro ρ res k k' e H hk h;unfold exK at h;cases h
end
end Go.Tg
namespace Go.Tg
variable [Globs]
section
variable {B:Nat} {W0:Base} {L:Nat→Prop}
theorem WRel.trunc {F:Fz} {r:Rm} {H:Hp} {w:World} {n:Nat} (h:WRel B W0 (λm=>L m∨m=n) F r H w) (hn:n≤H.length):WRel B W0 L F r (H.take n) w where
 os:=h.os
 tape:=h.tape
 output:=h.output
 size:=h.size
 old:=h.old
 fz:=h.fz
 one:=h.one
 blk b hb:=by
  have hb':b<n:=by simp at hb;omega
  have:=h.low n (.inr rfl) b (by omega) hb'
  have hlen:(H.take n).length=n:=by simp;omega
  rw [List.getElem_take]
  revert this
  generalize H[b]'(by omega)=blk
  intro this
  rw [hlen];exact this
 low m hm b hb hbm:=by
  have hb':b<n:=by simp at hb;omega
  have:=h.low m (.inl hm) b (by omega) hbm
  rw [List.getElem_take];exact this
 gl:=h.gl
 fzB:=h.fzB
 own b hb hl:=by
  have hb':b<n:=by simp at hb;omega
  rw [List.getElem_take] at hl
  exact h.own b (by omega) hl
 inj a b ha hb hla hlb:=by
  have ha':a<n:=by simp at ha;omega
  have hb':b<n:=by simp at hb;omega
  rw [List.getElem_take] at hla hlb
  exact h.inj a b (by omega) (by omega) hla hlb
theorem WRel.weaken {F:Fz} {r:Rm} {H:Hp} {w:World} {L':Nat→Prop} (h:WRel B W0 L F r H w) (hL:∀ m,L' m→L m∨m=H.length):WRel B W0 L' F r H w where
 os:=h.os
 tape:=h.tape
 output:=h.output
 size:=h.size
 old:=h.old
 fz:=h.fz
 one:=h.one
 blk:=h.blk
 low m hm b hb hbm:=by
  rcases hL m hm with h1 | h1
  ·exact h.low m h1 b hb hbm
  ·subst h1;exact h.blk b hb
 own:=h.own
 gl:=h.gl
 fzB:=h.fzB
 inj:=h.inj
def resOne (tmps:Array Value):ResultVar→Sem Value
 | .tmp t=>pure (tmps.getD t undef)
 | .cell a t=>do loadVar t (← asAddr (tmps.getD a undef))
theorem resV_rel {P:Program} {F:Fz} {r:Rm} {H:Hp} {w:World} {e:Env} {tmps:Array Value} (hw:WRel B W0 L F r H w) (he:Vs F r H.length e tmps):∀ (rs:List ResultVar) (vs:List IV),resV P e H rs=some vs →
  ∃ vs':List Value,(rs.mapM (resOne tmps)).run P w=.ok vs' w∧vs'.length=vs.length∧∀ i (hi:i<vs.length),VRel F r H.length vs[i] (vs'.getD i undef):=by
 intro rs
 induction rs with
 | nil=>
  intro vs h
  simp only [resV,Option.some.injEq] at h
  subst h
  exact⟨[],by simp [List.mapM_nil],rfl,λi hi=>by simp at hi⟩
 | cons x rs ih=>
  intro vs h
  have fin:∀ (v:IV) (v':Value) (vs1:List IV),VRel F r H.length v v'→resV P e H rs=some vs1→vs=v::vs1→(resOne tmps x).run P w=.ok v' w →
    ∃ vs':List Value,((x::rs).mapM (resOne tmps)).run P w=.ok vs' w∧vs'.length=vs.length∧∀ i (hi:i<vs.length),VRel F r H.length vs[i] (vs'.getD i undef):=by
   intro v v' vs1 hv h1 e1 hrun
   obtain⟨vs2,h2,h3,h4⟩:=ih vs1 h1
   subst e1
   refine⟨v'::vs2,?_,by simp [h3],λi hi=>?_⟩
   ·simp [List.mapM_cons,hrun,h2]
   ·cases i with
    | zero=>exact hv
    | succ i=>
     have:=h4 i (by simpa using hi)
     simpa using this
  cases x with
  | tmp t=>
   simp only [resV,Option.map_eq_some_iff] at h
   obtain⟨vs1,h1,rfl⟩:=h
   exact fin _ _ vs1 (he.getD t) h1 rfl (by simp [resOne])
  | cell a t=>
   simp only [resV,Option.bind_eq_some_iff,Option.map_eq_some_iff] at h
   obtain⟨v,h0,vs1,h1,rfl⟩:=h
   obtain⟨v',h2,h3⟩:=iLoad_rel (P:=P) hw h0 (he.getD a)
   refine fin v v' vs1 h3 h1 rfl ?_
   show (do loadVar t (← asAddr (tmps.getD a undef))).run P w=.ok v' w
   revert h2
   generalize tmps.getD a undef=q
   intro h2
   unfold Instr.loadAt at h2
   cases q <;> try (simp [Instr.sureAddr] at h2;done)
   rename_i ad
   cases ad with
   | none=>simp [Instr.sureAddr] at h2
   | some ad=>simpa [Instr.sureAddr,asAddr] using h2
theorem results_rel {P:Program} {fn:Func} {F:Fz} {r:Rm} {H:Hp} {w:World} {e:Env} {tmps:Array Value} (hw:WRel B W0 L F r H w) (he:Vs F r H.length e tmps) {vs:List IV} (h:resV P e H fn.results.toList=some vs) :
  ∃ v',(results fn tmps).run P w=.ok v' w∧∃ vs':List Value,vs'.length=vs.length∧(∀ i (hi:i<vs.length),VRel F r H.length vs[i] (vs'.getD i undef))∧∀ (F2:Fz) (r2:Rm) (n2:Nat) (us:List IV),us.length=vs'.length→(∀ i (hi:i<us.length),VRel F2 r2 n2 us[i] (vs'.getD i undef))→VRel F2 r2 n2 (oneOf us) v':=by
 obtain⟨vs',h1,h2,h3⟩:=resV_rel hw he _ _ h
 refine⟨if h:vs'.toArray.size=1 then vs'.toArray[0] else .tuple vs'.toArray,?_,vs',h2,h3,?_⟩
 ·have e1:results fn tmps=(fn.results.mapM (resOne tmps)) >>= λvs=>pure (if h:vs.size=1 then vs[0] else .tuple vs):=by
   unfold results
   congr 1
  rw [e1,Array.mapM_eq_mapM_toList]
  simp only [Sem.run_bind,Sem.run_map]
  rw [h1]
  simp
 ·intro F2 r2 n2 us hl hus
  have hs:vs'.toArray.size=us.length:=by simp [hl]
  match us,hl,hus with
  | [],hl,hus=>
   rw [dif_neg (by rw [hs];simp)]
   exact .tup _ _ (by simp;simpa using hl.symm) (λi hi=>by simp at hi)
  | [u],hl,hus=>
   rw [dif_pos (by rw [hs];rfl)]
   have:=hus 0 (by simp)
   simp only [oneOf]
   have h0:0<vs'.length:=by rw [← hl];simp
   simpa [List.getD_eq_getElem?_getD,h0] using this
  | u1::u2::us,hl,hus=>
   rw [dif_neg (by rw [hs];simp)]
   refine .tup _ _ (by rw [hs]) (λi hi=>?_)
   have:=hus i hi
   simpa [List.getD_eq_getElem?_getD,Array.getD_eq_getD_getElem?] using this
end
noncomputable def bodyF (N:Nat) (P:Program) (T:Tab) (call:Oracle) (lim ro f:Nat) (args:List IV) (H:Hp):Res:=
 match P.funcs[f]? with
 | some fn=>match fn.body with
  | some c=>exF ⟨P,T,call,limOf (T.mode f) lim H,roOf (T.mode f) ro H⟩ (T.live f) N c (args++List.replicate (fn.ntmps - args.length) .un) H
    (endK P fn (T.mode f) H (roOf (T.mode f) ro H))
  | none=>none
 | none=>none
theorem bodyF_bodyK {N:Nat} {P:Program} {T:Tab} {call:Oracle} {lim ro f:Nat} {args:List IV} {H:Hp} {r:Out×Hp} (h:bodyF N P T call lim ro f args H=some r):bodyK P T call lim ro f args H=some r:=by
 unfold bodyF at h
 unfold bodyK
 cases hf:P.funcs[f]? with
 | none=>rw [hf] at h;cases h
 | some fn=>
  rw [hf] at h
  cases hb:fn.body with
  | none=>simp only [hb] at h;cases h
  | some c=>simp only [hb] at h ⊢;exact exF_exK _ N _ (λ_ _ _ h=>h) h
theorem bodyK_ev {P:Program} {T:Tab} {call:Oracle} {cs:Nat→Oracle} (hc:Grows call cs) {lim ro f:Nat} {args:List IV} {H:Hp} {r:Out×Hp} (h:bodyK P T call lim ro f args H=some r):Ev λm=>bodyF m P T (cs m) lim ro f args H=some r:=by
 unfold bodyK at h
 unfold bodyF
 cases hf:P.funcs[f]? with
 | none=>rw [hf] at h;cases h
 | some fn=>
  rw [hf] at h
  cases hb:fn.body with
  | none=>simp only [hb] at h;cases h
  | some c=>simp only [hb] at h ⊢;exact exK_ev (C:=⟨P,T,call,_,_⟩) hc _ _ (λ_ _ _ h=>Ev.all λ_=>h) h
theorem endK_pure {P:Program} {fn:Func} {H0:Hp} {ro:Nat} {x:Ex} {e:Env} {H H':Hp} {out:Out} (h:endK P fn .pure H0 ro x e H=some (out,H')):H'=H0:=by
 unfold endK at h
 cases x with
 | exi _=>cases h
 | pan v=>
  simp only [finP,Option.map_eq_some_iff,Prod.mk.injEq] at h
  obtain⟨_,_,_,rfl⟩:=h;rfl
 | _=>
  simp only [Option.bind_eq_some_iff,fin,Option.map_eq_some_iff,Prod.mk.injEq] at h
  obtain⟨_,_,_,_,_,rfl⟩:=h;rfl
section
variable {C:Ctx} {ρ:Type} {res:ρ}
theorem opsK_out (D:Option Bool) (ops:Array Oper) {k:Ex→Env→Hp→Option ρ}:∀ (os:List Oper) (e:Env) (H:Hp),opsK C D ops os e H k=some res→∃ x e' H',k x e' H'=some res:=by
 intro os
 induction os with
 | nil=>intro e H h;exact⟨_,_,_,h⟩
 | cons o os ih=>
  intro e H h
  have go:∀ e0,fits C D o e0 (opK C o e0 H (λv H=>opsK C D ops os (put e0 o.dst v) H k) (pan D os e k))=some res→∃ x e' H',k x e' H'=some res:=by
   intro e0 h0
   have h1:opK C o e0 H (λv H=>opsK C D ops os (put e0 o.dst v) H k) (pan D os e k)=some res:=by
    cases D with
    | none=>exact h0
    | some b=>exact (fits_some h0).1
   rw [opK_eq,Option.bind_eq_some_iff] at h1
   obtain⟨⟨out,H1⟩,_,h2⟩:=h1
   cases out with
   | val v=>exact ih _ _ h2
   | pan v=>
    simp only [thenK,pan] at h2
    cases D with
    | none=>exact⟨_,_,_,h2⟩
    | some b=>
     cases os with
     | nil=>
      simp only at h2
      split at h2
      ·exact⟨_,_,_,h2⟩
      ·cases h2
     | cons _ _=>cases h2
  unfold opsK at h
  cases hg:o.guard with
  | none=>simp only [hg] at h;exact go e h
  | some g=>
   obtain⟨j,want⟩:=g
   simp only [hg] at h
   cases hd:(ops[j]?).bind (·.dst) with
   | none=>simp only [hd] at h;cases h
   | some d=>
    simp only [hd] at h
    rcases brN_some h with ⟨t,ht,h⟩ | ⟨ht,h⟩
    case inr=>exact ih _ _ h
    cases t
    ·simp only [Bool.false_eq_true,if_false] at h
     cases want
     ·simp only [if_true] at h;exact go _ h
     ·simp at h;exact ih _ _ h
    ·simp only [if_true] at h
     cases want
     ·simp at h;exact ih _ _ h
     ·simp only [if_true] at h;exact go _ h
theorem exK_out (l:List Nat) (c:Code):∀ {ρ:Type} {res:ρ} {k:Ex→Env→Hp→Option ρ} {e:Env} {H:Hp},exK C l c e H k=some res→∃ x e' H',k x e' H'=some res:=by
 induction c with
 | skip=>intro ρ res k e H h;exact⟨_,_,_,h⟩
 | region id ops draw=>
  intro ρ res k e H h
  unfold exK at h
  split at h
  ·split at h
   ·exact opsK_out _ _ _ _ _ h
   ·rcases sqK_some h with ⟨ef,Hf,_,h2⟩ | ⟨_,h2⟩
    ·exact⟨_,_,_,h2⟩
    ·exact anyR_out h2
  ·exact opsK_out _ _ _ _ _ h
 | seq x y ihx ihy=>
  intro ρ res k e H h
  unfold exK at h
  obtain⟨x,e',H',h1⟩:=ihx h
  cases x with
  | nor=>exact ihy h1
  | _=>exact⟨_,_,_,h1⟩
 | cond c x y ihx ihy=>
  intro ρ res k e H h
  unfold exK at h
  obtain⟨t,ht,h⟩:=br_some h
  cases t with
  | true=>exact ihx h
  | false=>exact ihy h
 | block id b ih=>
  intro ρ res k e H h
  unfold exK at h
  obtain⟨x,e',H',h1⟩:=ih h
  cases x with
  | exi i=>
   simp only at h1
   split at h1
   ·exact⟨_,_,_,h1⟩
   ·exact⟨_,_,_,h1⟩
  | _=>exact⟨_,_,_,h1⟩
 | loop b ih=>
  intro ρ res k e H h
  unfold exK at h
  rw [Option.bind_eq_some_iff] at h
  obtain⟨r,_,h2⟩:=h
  exact⟨_,_,_,h2⟩
 | scope b ih=>intro ρ res k e H h;unfold exK at h;exact ih h
 | label n=>intro ρ res k e H h;exact⟨_,_,_,h⟩
 | exit id=>intro ρ res k e H h;exact⟨_,_,_,h⟩
 | ret=>intro ρ res k e H h;exact⟨_,_,_,h⟩
 | _=>intro ρ res k e H h;unfold exK at h;cases h
end
theorem bodyK_pure {P:Program} {T:Tab} {call:Oracle} {lim ro f:Nat} {args:List IV} {H H':Hp} {out:Out} (hm:T.mode f=.pure) (h:bodyK P T call lim ro f args H=some (out,H')):H'=H:=by
 unfold bodyK at h
 rw [hm] at h
 split at h
 ·split at h
  ·obtain⟨x,e',H2,h1⟩:=exK_out _ _ h
   exact endK_pure h1
  ·cases h
 ·cases h
theorem body_sound {P:Program} {T:Tab} {call:Oracle} (hS:Sound P call) (hP:∀ lim ro f args H out H',T.mode f=.pure→call lim ro f args H=some (out,H')→H'=H) (hmix:P.follows .mixedOrders=true) (hN:∀ (f:Nat) (fn:Func),P.funcs[f]? = some fn→fn.name ≠ "runtime.NumGoroutine")
  {lim ro f:Nat} {args:List IV} {H:Hp} {out:Out} {H':Hp} (h:bodyK P T call lim ro f args H=some (out,H')) :
  ∀ (B:Nat) (W0:Base) (L:Nat→Prop) (F:Fz) (r:Rm) (w:World) (args':Array Value),WRel B W0 L F r H w→(∀ m,L m→m≤lim)→lim≤H.length→ro≤H.length→Vs F r H.length args args' →
   Enters P f args' w (CPost B W0 L ro F r H out H'):=by
 unfold bodyK at h
 cases hf:P.funcs[f]? with
 | none=>rw [hf] at h;cases h
 | some fn=>
  rw [hf] at h
  cases hb:fn.body with
  | none=>simp only [hb] at h;cases h
  | some c=>
   simp only [hb] at h
   intro B W0 L F r w args' hw hL hlim hro ha
   refine .inl ⟨run_callFunc ⟨fn,hf,by rw [hb];rfl,hN f fn hf⟩ args',calls_of_wp hf hb ?_⟩
   have he:Vs F r H.length (args++List.replicate (fn.ntmps - args.length) IV.un) (args'++Array.replicate (fn.ntmps - args'.size) undef):=by
    refine vs_append ha ⟨by simp [ha.1],λi hi=>?_⟩
    have:(List.replicate (fn.ntmps - args.length) IV.un)[i]=.un:=by simp
    rw [this];exact .un _
   let L':Nat→Prop:=λm=>L m∨(T.mode f≠.keep∧m=H.length)
   have hw':WRel B W0 L' F r H w:=hw.weaken λm hm=>hm.imp id (λx=>x.2)
   have hL':∀ m,L' m→m≤limOf (T.mode f) lim H:=by
    intro m hm
    unfold limOf
    rcases hm with hm | ⟨hk,rfl⟩
    ·cases T.mode f with
     | keep=>exact hL m hm
     | _=>exact Nat.le_trans (hL m hm) hlim
    ·cases hmode:T.mode f with
     | keep=>exact absurd hmode hk
     | _=>exact Nat.le_refl _
   have hlim':limOf (T.mode f) lim H≤H.length:=by
    unfold limOf;cases T.mode f <;> simp [hlim]
   have hro':roOf (T.mode f) ro H≤H.length:=by
    unfold roOf;cases T.mode f <;> simp [hro]
   have hroro:ro≤roOf (T.mode f) ro H:=by
    unfold roOf;cases T.mode f <;> simp [hro]
   refine ex_sound (C:=⟨P,T,call,limOf (T.mode f) lim H,roOf (T.mode f) ro H⟩) (B:=B) (W0:=W0) (L:=L') hS hP hmix hL' (T.live f) c h hw' hlim' hro' he rfl (Meets.mk' λx x' e' H2 F2 r2 a' w' hx hw2 hxr he' hd' hk=>?_)
   have hxro:Ext ro F r H F2 r2 H2:=⟨hx.F,hx.r,hx.len,λb hb=>hx.ro b (Nat.lt_of_lt_of_le hb hroro)⟩
   have hlast:∀ (m:Md),T.mode f=m→m≠.keep→∀ F3 H3,F2.le F3→WRel B W0 L' F3 r2 H3 w'→Frz (roOf m ro H) H2 H3→Ext ro F r H F3 r2 (H3.take H.length)∧WRel B W0 L F3 r2 (H3.take H.length) w'∧(m=.pure→H3.take H.length=H):=by
    intro m hm hk F3 H3 hF3 hw3 hfz
    have hlen3:H.length≤H3.length:=by rw [hfz.1];exact hx.len
    have hget:∀ b,b<roOf m ro H→H3[b]? = H[b]?:=λb hb=>(hfz.ro b hb).trans (hx.ro b (by rw [hm];exact hb))
    refine⟨⟨Fz.le_trans hx.F hF3,hx.r,by simp [hlen3],λb hb=>?_⟩,?_,?_⟩
    ·rw [List.getElem?_take,if_pos (by omega)]
     exact hget b (Nat.lt_of_lt_of_le hb (by rw [← hm];exact hroro))
    ·refine WRel.trunc (n:=H.length) (hw3.weaken λq hq=>?_) hlen3
     rcases hq with hq | rfl
     ·exact .inl (.inl hq)
     ·exact .inl (.inr ⟨by rw [hm];exact hk,rfl⟩)
    ·intro hp
     subst hp
     apply List.ext_getElem?
     intro b
     by_cases hb:b<H.length
     ·rw [List.getElem?_take,if_pos hb];exact hget b hb
     ·rw [List.getElem?_eq_none (by simp;omega),List.getElem?_eq_none (by omega)]
   have hval:∀ vs,resV P e' H2 fn.results.toList=some vs→fin (T.mode f) H (roOf (T.mode f) ro H) vs H2=some (out,H')→a'.defers=[]∧∃ v,(results fn a'.tmps).run P w'=.ok v w'∧CPost B W0 L ro F r H out H' (.returned v) w':=by
    intro vs hvs hfin
    obtain⟨v',h1,vs',h2,h3,h4⟩:=results_rel hw2 he' hvs
    refine⟨hd',v',h1,?_⟩
    unfold fin at hfin
    cases hmode:T.mode f with
    | keep=>
     rw [hmode] at hfin
     simp only [Option.some.injEq,Prod.mk.injEq] at hfin
     obtain⟨rfl,rfl⟩:=hfin
     exact⟨F2,r2,hxro,hw2.weaken (λm hm=>.inl (.inl hm)),v',rfl,h4 _ _ _ _ h2.symm h3⟩
    | «mut»=>
     rw [hmode] at hfin
     simp only [Option.map_eq_some_iff,Prod.mk.injEq] at hfin
     obtain⟨⟨us,H3⟩,hus,rfl,rfl⟩:=hfin
     obtain⟨F3,g1,g2,g3,g4,g5⟩:=frzRs_rel w' r2 _ (H3.take H.length).length vs H2 F2 (λi=>vs'.getD i undef) us H3 hus hw2 h3
     obtain⟨q1,q2,_⟩:=hlast .«mut» hmode (by simp) F3 H3 g1 g2 g5
     exact⟨F3,r2,q1,q2,v',rfl,h4 _ _ _ _ (by rw [g3,h2]) g4⟩
    | pure=>
     rw [hmode] at hfin
     simp only [Option.map_eq_some_iff,Prod.mk.injEq] at hfin
     obtain⟨⟨us,H3⟩,hus,rfl,rfl⟩:=hfin
     obtain⟨F3,g1,g2,g3,g4,g5⟩:=frzRs_rel w' r2 _ H.length vs H2 F2 (λi=>vs'.getD i undef) us H3 hus hw2 h3
     obtain⟨q1,q2,q3⟩:=hlast .pure hmode (by simp) F3 H3 g1 g2 g5
     rw [q3 rfl] at q1 q2
     exact⟨F3,r2,q1,q2,v',rfl,h4 _ _ _ _ (by rw [g3,h2]) g4⟩
   unfold endK at hk
   cases hxr with
   | nor=>
    simp only [Option.bind_eq_some_iff] at hk
    obtain⟨vs,h1,h2⟩:=hk
    exact hval vs h1 h2
   | ret=>
    simp only [Option.bind_eq_some_iff] at hk
    obtain⟨vs,h1,h2⟩:=hk
    exact hval vs h1 h2
   | exi i=>cases hk
   | pan hv=>
    rename_i v v'
    refine⟨hd',?_⟩
    simp only [finP] at hk
    cases hmode:T.mode f with
    | keep=>
     rw [hmode] at hk
     simp only [Option.some.injEq,Prod.mk.injEq] at hk
     obtain⟨rfl,rfl⟩:=hk
     exact⟨F2,r2,hxro,hw2.weaken (λm hm=>.inl (.inl hm)),v',rfl,hv⟩
    | «mut»=>
     rw [hmode] at hk
     simp only [Option.map_eq_some_iff,Prod.mk.injEq] at hk
     obtain⟨⟨u,H3⟩,hu,rfl,rfl⟩:=hk
     obtain⟨F3,g1,g2,g3,g4⟩:=frzR_rel w' r2 _ (H3.take H.length).length hu hw2 hv
     obtain⟨q1,q2,_⟩:=hlast .«mut» hmode (by simp) F3 H3 g1 g2 g4
     exact⟨F3,r2,q1,q2,v',rfl,g3⟩
    | pure=>
     rw [hmode] at hk
     simp only [Option.map_eq_some_iff,Prod.mk.injEq] at hk
     obtain⟨⟨u,H3⟩,hu,rfl,rfl⟩:=hk
     obtain⟨F3,g1,g2,g3,g4⟩:=frzR_rel w' r2 _ H.length hu hw2 hv
     obtain⟨q1,q2,q3⟩:=hlast .pure hmode (by simp) F3 H3 g1 g2 g4
     rw [q3 rfl] at q1 q2
     exact⟨F3,r2,q1,q2,v',rfl,g3⟩
end Go.Tg
namespace Go.Tg
variable [Globs]
abbrev Prim:=Oracle→Nat→Nat→List IV→Hp→Res
structure Sys where
 P:Program
 T:Tab
 prim:Nat→Option Prim
mutual
def closedV:IV→Bool
 | .d _ | .nul | .vnil | .nofn | .nomap | .noifc=>true
 | .agg cs | .tup cs=>closedVs cs
 | .fn _ a b=>closedVs a && closedVs b
 | .ifc _ v=>closedV v
 | _=>false
def closedVs:List IV→Bool
 | []=>true
 | v::vs=>closedV v && closedVs vs
end
omit [Globs] in
theorem closedVs_get:∀ {l:List IV},closedVs l=true→∀ i (hi:i<l.length),closedV l[i]=true:=by
 intro l
 induction l with
 | nil=>intro _ i hi;simp at hi
 | cons x l ih=>
  intro h i hi
  rw [closedVs,Bool.and_eq_true] at h
  cases i with
  | zero=>exact h.1
  | succ i=>exact ih h.2 i (by simpa using hi)
omit [Globs] in
theorem VRel.closed {F:Fz} {r r':Rm} {n n':Nat} {x:IV} {v:Value} (h:VRel F r n x v):closedV x=true→VRel F r' n' x v:=by
 induction h with
 | d h=>intro _;exact .d h
 | nul=>intro _;exact .nul
 | vnil=>intro _;exact .vnil
 | nofn=>intro _;exact .nofn
 | nomap=>intro _;exact .nomap
 | noifc=>intro _;exact .noifc
 | agg cs vs hl _ ih=>intro h;exact .agg cs vs hl λi hi=>ih i hi (closedVs_get (by simpa [closedV] using h) i hi)
 | tup cs vs hl _ ih=>intro h;exact .tup cs vs hl λi hi=>ih i hi (closedVs_get (by simpa [closedV] using h) i hi)
 | fn f l1 l2 v1 v2 h1 h2 _ _ ih1 ih2=>
  intro h
  rw [closedV,Bool.and_eq_true] at h
  exact .fn f l1 l2 v1 v2 h1 h2 (λi hi=>ih1 i hi (closedVs_get h.1 i hi)) (λi hi=>ih2 i hi (closedVs_get h.2 i hi))
 | ifc t _ ih=>intro h;exact .ifc t (ih (by simpa [closedV] using h))
 | _=>intro h;simp [closedV] at h
omit [Globs] in
theorem Vs.closed {F:Fz} {r r':Rm} {n n':Nat} {l:List IV} {vs:Array Value} (h:Vs F r n l vs) (hc:closedVs l=true):Vs F r' n' l vs:=
 ⟨h.1,λi hi=>(h.2 i hi).closed (closedVs_get hc i hi)⟩
theorem says_closed {P:Program} {lim ro f:Nat} {args:List IV} {H:Hp} {out:Out} (hc:closedVs args=true) (h:Says P 0 0 f args [] out []):Says P lim ro f args H out H:=by
 intro B W0 L F r w args' hw hL hlim hro ha
 have h0:WRel w.heap.size ⟨w,F⟩ (λ_=>False) F r [] w:=
  {
   os:=rfl,tape:=rfl,output:=rfl,size:=Nat.le_refl _,old:=λ_ _=>rfl,fz:=hw.fz,one:=hw.one,gl:=hw.gl,fzB:=λ_ _ _ h=>.inl h,
   blk:=λb hb=>by simp at hb,low:=λ_ h=>h.elim,own:=λb hb=>by simp at hb,inj:=λa b ha=>by simp at ha }
 have h1:=h w.heap.size ⟨w,F⟩ (λ_=>False) F r w args' h0 (λ_ h=>h.elim) (Nat.le_refl _) (Nat.le_refl _) (ha.closed hc)
 have hpost:∀ (e:Ending) (w':World),CPost w.heap.size ⟨w,F⟩ (λ_=>False) 0 F r [] out [] e w'→CPost B W0 L ro F r H out H e w':=by
  intro e w' hp
  obtain⟨F',r',hx,hw',hv⟩:=hp
  have hlater:Later w w':=⟨hw'.os,hw'.tape,hw'.output,hw'.size,hw'.old⟩
  have hFz:∀ b,b<w.heap.size→∀ o,F b o=none→F' b o=none:=by
   intro b hb o ho
   cases hq:F' b o with
   | none=>rfl
   | some v=>
    rcases hw'.fzB b o v hq with h2 | h2
    ·exact absurd (ho.symm.trans h2) (by simp)
    ·omega
  have keep:∀ n b blk,BRel F r n w b blk→BRel F' r n w' b blk:=λn b blk hb=>hb.keep hx.F (Rm.le_refl _ r) (Nat.le_refl _) rfl (λhl=>⟨hw'.old _ (hb.lt hl),hFz _ (hb.lt hl)⟩)
  refine⟨F',r,⟨hx.F,Rm.le_refl _ r,Nat.le_refl _,λ_ _=>rfl⟩,?_,?_⟩
  ·exact {
    os:=hlater.os.trans hw.os,tape:=hlater.tape.trans hw.tape,output:=hlater.output.trans hw.output,size:=Nat.le_trans hw.size hlater.size,
    old:=λk hk=>(hlater.block k (Nat.lt_of_lt_of_le hk hw.size)).trans (hw.old k hk),fz:=hw'.fz,one:=hw'.one,gl:=hw'.gl,
    fzB:=λb o v hv=>by
     rcases hw'.fzB b o v hv with h2 | h2
     ·exact hw.fzB b o v h2
     ·exact .inr (Nat.le_trans hw.size h2)
    blk:=λb hb=>keep _ _ _ (hw.blk b hb),low:=λm hm b hb hbm=>keep _ _ _ (hw.low m hm b hb hbm),own:=hw.own,inj:=hw.inj }
  ·cases out with
   | val v=>obtain⟨v',he,hv⟩:=hv;exact⟨v',he,hv.mono (Fz.le_refl _) (λb hb=>by simp at hb) (Nat.zero_le _)⟩
   | pan v=>obtain⟨v',he,hv⟩:=hv;exact⟨v',he,hv.mono (Fz.le_refl _) (λb hb=>by simp at hb) (Nat.zero_le _)⟩
 rcases h1 with ⟨h1,h2⟩ | ⟨v,w',h1,h2⟩
 ·exact .inl ⟨h1,h2.mono hpost⟩
 ·exact .inr ⟨v,w',h1,hpost _ _ h2⟩
def apart (x:Res) (H:Hp):Res:=x.bind λr=>match r.2 with | []=>some (r.1,H) | _::_=>none
noncomputable def step (S:Sys) (N:Nat) (call:Oracle):Oracle:=λlim ro f args H=>
 match S.prim f with
 | some g=>g call lim ro args H
 | none=>if S.T.mode f=.pure∧closedVs args=true then apart (bodyF N S.P S.T call 0 0 f args []) H else bodyF N S.P S.T call lim ro f args H
noncomputable def runN (S:Sys):Nat→Oracle
 | 0=>λ_ _ _ _ _=>none
 | n+1=>step S n (runN S n)
structure SysOK (S:Sys):Prop where
 mix:S.P.follows .mixedOrders=true
 name:∀ (f:Nat) (fn:Func),S.P.funcs[f]? = some fn→fn.name ≠ "runtime.NumGoroutine"
 prim:∀ f g,S.prim f=some g→∀ call,Sound S.P call→∀ lim ro args H out H',g call lim ro args H=some (out,H')→Says S.P lim ro f args H out H'
 grow:∀ f g,S.prim f=some g→∀ call cs,Grows call cs→∀ lim ro args H r,g call lim ro args H=some r→Ev λm=>g (cs m) lim ro args H=some r
 pure:∀ f g,S.prim f=some g→S.T.mode f=.pure→∀ call,(∀ lim ro f args H out H',S.T.mode f=.pure→call lim ro f args H=some (out,H')→H'=H)→∀ lim ro args H out H',g call lim ro args H=some (out,H')→H'=H
section
variable {S:Sys}
theorem exF_mono {C:Ctx} {c':Oracle} (hc:∀ lim ro f args H r,C.call lim ro f args H=some r→c' lim ro f args H=some r) (l:List Nat) {N N':Nat} (hN:N≤N') (c:Code):∀ {ρ:Type} {res:ρ} {k k':Ex→Env→Hp→Option ρ} {e:Env} {H:Hp},(∀ x e H,k x e H=some res→k' x e H=some res)→exF C l N c e H k=some res→exF (C.wcall c') l N' c e H k'=some res:=by
 have hg:Grows C.call (λ_=>c'):=λ_ _ _ _ _ _ h=>Ev.all λ_=>hc _ _ _ _ _ _ h
 have ops:∀ {ρ:Type} {res:ρ} (D:Option Bool) (ops:Array Oper) {k k':Ex→Env→Hp→Option ρ} (_:∀ x e H,k x e H=some res→k' x e H=some res) {os:List Oper} {e:Env} {H:Hp} (_:opsK C D ops os e H k=some res),opsK (C.wcall c') D ops os e H k'=some res:=
  λD ops k k' hk os e H h=>(opsK_ev (cs:=λ_=>c') hg D ops (k':=λ_=>k') (λx e H h=>Ev.all λ_=>hk x e H h) os e H h).const
 induction c with
 | skip=>intro ρ res k k' e H hk h;exact hk _ _ _ h
 | region id os draw=>
  intro ρ res k k' e H hk h
  unfold exF at h ⊢
  split at h
  ·split at h
   ·rename_i h1 h2;rw [if_pos h1,if_pos (by rw [wcall_draw];exact h2)];exact ops _ _ hk h
   ·rename_i h1 h2;rw [if_pos h1,if_neg (by rw [wcall_draw];exact h2)];exact (sqK_ev (cs:=λ_=>c') hg os (k':=λ_=>k') (λx e H h=>Ev.all λ_=>hk x e H h) h).const
  ·rename_i h1;rw [if_neg h1];exact ops _ _ hk h
 | seq x y ihx ihy=>
  intro ρ res k k' e H hk h
  unfold exF at h ⊢
  refine ihx (λx e H h=>?_) h
  cases x with
  | nor=>exact ihy hk h
  | _=>exact hk _ _ _ h
 | cond c x y ihx ihy=>
  intro ρ res k k' e H hk h
  unfold exF at h ⊢
  obtain⟨t,ht,h⟩:=br_some h
  rw [ht]
  cases t with
  | true=>exact ihx hk h
  | false=>exact ihy hk h
 | block id b ih=>
  intro ρ res k k' e H hk h
  unfold exF at h ⊢
  refine ih (λx e H h=>?_) h
  cases x with
  | exi i=>
   simp only at h ⊢
   split at h
   ·rename_i h1;rw [if_pos h1];exact hk _ _ _ h
   ·rename_i h1;rw [if_neg h1];exact hk _ _ _ h
  | _=>exact hk _ _ _ h
 | loop b ih=>
  intro ρ res k k' e H hk h
  unfold exF at h ⊢
  rw [Option.bind_eq_some_iff] at h ⊢
  obtain⟨r,h1,h2⟩:=h
  refine⟨r,rounds_le hN _ _ ?_,hk _ _ _ h2⟩
  revert h1
  generalize (keepL l e,H)=s
  have:∀ n s,rounds (σ:=Env×Hp) (λs=>exF C l N b s.1 s.2 λx e H=>match x with
    | .nor=>some (Sum.inl (keepL l e,H))
    | x=>some (Sum.inr (x,keepL l e,H))) n s=some r→rounds (σ:=Env×Hp) (λs=>exF (C.wcall c') l N' b s.1 s.2 λx e H=>match x with
    | .nor=>some (Sum.inl (keepL l e,H))
    | x=>some (Sum.inr (x,keepL l e,H))) n s=some r:=by
   intro n
   induction n with
   | zero=>intro s h;simp [rounds] at h
   | succ n ihn=>
    intro s h
    rw [rounds] at h ⊢
    cases hs:exF C l N b s.1 s.2 (λx e H=>match x with
     | .nor=>some (Sum.inl (keepL l e,H))
     | x=>some (Sum.inr (x,keepL l e,H))) with
    | none=>rw [hs] at h;cases h
    | some y=>
     rw [hs] at h
     rw [ih (λ_ _ _ h=>h) hs]
     cases y with
     | inl s'=>exact ihn _ h
     | inr y=>exact h
  exact this N s
 | scope b ih=>intro ρ res k k' e H hk h;unfold exF at h ⊢;exact ih hk h
 | label n=>intro ρ res k k' e H hk h;exact hk _ _ _ h
 | exit id=>intro ρ res k k' e H hk h;exact hk _ _ _ h
 | ret=>intro ρ res k k' e H hk h;exact hk _ _ _ h
 | _=>intro ρ res k k' e H hk h;unfold exF at h;cases h
theorem bodyF_mono {P:Program} {T:Tab} {N N':Nat} (hN:N≤N') {c c':Oracle} (hc:∀ lim ro f args H r,c lim ro f args H=some r→c' lim ro f args H=some r) {lim ro f:Nat} {args:List IV} {H:Hp} {r:Out×Hp}
  (h:bodyF N P T c lim ro f args H=some r):bodyF N' P T c' lim ro f args H=some r:=by
 unfold bodyF at h ⊢
 cases hf:P.funcs[f]? with
 | none=>rw [hf] at h;cases h
 | some fn=>
  rw [hf] at h
  cases hb:fn.body with
  | none=>simp only [hb] at h;cases h
  | some cd=>simp only [hb] at h ⊢;exact exF_mono (C:=⟨P,T,c,_,_⟩) hc _ hN _ (λ_ _ _ h=>h) h
omit [Globs] in
theorem apart_some {x:Res} {H:Hp} {out:Out} {H':Hp}:apart x H=some (out,H')↔x=some (out,[])∧H'=H:=by
 unfold apart
 rw [Option.bind_eq_some_iff]
 constructor
 ·rintro⟨⟨o,l⟩,hx,h⟩
  cases l with
  | nil=>simp only [Option.some.injEq,Prod.mk.injEq] at h;obtain⟨rfl,rfl⟩:=h;exact⟨hx,rfl⟩
  | cons _ _=>cases h
 ·rintro⟨hx,rfl⟩
  exact⟨_,hx,rfl⟩
theorem step_mono (hS:SysOK S) {N N':Nat} (hN:N≤N') {c c':Oracle} (hc:∀ lim ro f args H r,c lim ro f args H=some r→c' lim ro f args H=some r) {lim ro f:Nat} {args:List IV} {H:Hp} {r:Out×Hp}
  (h:step S N c lim ro f args H=some r):step S N' c' lim ro f args H=some r:=by
 unfold step at h ⊢
 cases hg:S.prim f with
 | some g=>rw [hg] at h;exact (hS.grow f g hg c (λ_=>c') (λ_ _ _ _ _ _ h=>Ev.all λ_=>hc _ _ _ _ _ _ h) _ _ _ _ _ h).const
 | none=>
  rw [hg] at h
  simp only at h ⊢
  split at h
  ·rename_i h1
   rw [if_pos h1]
   obtain⟨out,H'⟩:=r
   obtain⟨h2,h3⟩:=apart_some.1 h
   exact apart_some.2 ⟨bodyF_mono hN hc h2,h3⟩
  ·rename_i h1
   rw [if_neg h1]
   exact bodyF_mono hN hc h
theorem runN_succ (hS:SysOK S):∀ (n:Nat) {lim ro f:Nat} {args:List IV} {H:Hp} {r:Out×Hp},runN S n lim ro f args H=some r→runN S (n+1) lim ro f args H=some r:=by
 intro n
 induction n with
 | zero=>intro lim ro f args H r h;cases h
 | succ n ih=>intro lim ro f args H r h;exact step_mono hS (Nat.le_succ n) (λ_ _ _ _ _ _ h=>ih h) h
theorem runN_le (hS:SysOK S) {n m:Nat} (hnm:n≤m) {lim ro f:Nat} {args:List IV} {H:Hp} {r:Out×Hp} (h:runN S n lim ro f args H=some r):runN S m lim ro f args H=some r:=by
 induction hnm with
 | refl=>exact h
 | step _ ih=>exact runN_succ hS _ ih
theorem runN_pure (hS:SysOK S):∀ (n:Nat) (lim ro f:Nat) (args:List IV) (H:Hp) (out:Out) (H':Hp),S.T.mode f=.pure→runN S n lim ro f args H=some (out,H')→H'=H:=by
 intro n
 induction n with
 | zero=>intro lim ro f args H out H' _ h;cases h
 | succ n ih=>
  intro lim ro f args H out H' hm h
  change step S n (runN S n) lim ro f args H=_ at h
  unfold step at h
  cases hg:S.prim f with
  | some g=>rw [hg] at h;exact hS.pure f g hg hm _ ih _ _ _ _ _ _ h
  | none=>
   rw [hg] at h
   simp only at h
   split at h
   ·exact (apart_some.1 h).2
   ·exact bodyK_pure hm (bodyF_bodyK h)
theorem runN_sound (hS:SysOK S):∀ (n:Nat),Sound S.P (runN S n):=by
 intro n
 induction n with
 | zero=>exact⟨λlim ro f args H out H' h=>(by cases h)⟩
 | succ n ih=>
  refine⟨?_⟩
  intro lim ro f args H out H' h
  change step S n (runN S n) lim ro f args H=_ at h
  unfold step at h
  cases hg:S.prim f with
  | some g=>rw [hg] at h;exact hS.prim f g hg _ ih _ _ _ _ _ _ h
  | none=>
   rw [hg] at h
   simp only at h
   split at h
   ·rename_i h1
    obtain⟨h2,rfl⟩:=apart_some.1 h
    exact says_closed h1.2 (body_sound ih (runN_pure hS n) hS.mix hS.name (bodyF_bodyK h2))
   ·exact body_sound ih (runN_pure hS n) hS.mix hS.name (bodyF_bodyK h)
open Classical in
noncomputable def run (S:Sys):Oracle:=λlim ro f args H=>
 if h:∃ n r,runN S n lim ro f args H=some r then some h.choose_spec.choose else none
theorem run_some (hS:SysOK S) {lim ro f:Nat} {args:List IV} {H:Hp} {r:Out×Hp}:run S lim ro f args H=some r↔∃ n,runN S n lim ro f args H=some r:=by
 unfold run
 constructor
 ·intro h
  split at h
  ·rename_i hx
   have h2:=hx.choose_spec.choose_spec
   exact⟨hx.choose,by rw [h2];exact h⟩
  ·cases h
 ·rintro⟨n,hn⟩
  have hx:∃ n r,runN S n lim ro f args H=some r:=⟨n,r,hn⟩
  rw [dif_pos hx]
  have h2:=hx.choose_spec.choose_spec
  have h3:=runN_le hS (Nat.le_max_left hx.choose n) h2
  have h4:=runN_le hS (Nat.le_max_right hx.choose n) hn
  rw [h3] at h4;exact h4
theorem run_grows (hS:SysOK S):Grows (run S) (runN S):=by
 intro lim ro f args H r h
 obtain⟨n,hn⟩:=(run_some hS).1 h
 exact⟨n,λm hm=>runN_le hS hm hn⟩
theorem run_sound (hS:SysOK S):Sound S.P (run S):=by
 refine⟨?_⟩
 intro lim ro f args H out H' h
 obtain⟨n,hn⟩:=(run_some hS).1 h
 exact (runN_sound hS n).says lim ro f args H out H' hn
theorem run_body (hS:SysOK S) {lim ro f:Nat} {args:List IV} {H:Hp} {r:Out×Hp} (hp:S.prim f=none) (hq:S.T.mode f=.pure→closedVs args=false) (h:bodyK S.P S.T (run S) lim ro f args H=some r):run S lim ro f args H=some r:=by
 obtain⟨n,hn⟩:=bodyK_ev (run_grows hS) h
 refine (run_some hS).2 ⟨n+1,?_⟩
 show step S n (runN S n) lim ro f args H=some r
 unfold step
 rw [hp]
 simp only
 rw [if_neg (λh1=>by rw [hq h1.1] at h1;cases h1.2)]
 exact hn n (Nat.le_refl n)
theorem run_pure (hS:SysOK S) {lim ro f:Nat} {args:List IV} {H:Hp} {out:Out} (hp:S.prim f=none) (hm:S.T.mode f=.pure) (hc:closedVs args=true) (h:bodyK S.P S.T (run S) 0 0 f args []=some (out,[])):run S lim ro f args H=some (out,H):=by
 obtain⟨n,hn⟩:=bodyK_ev (run_grows hS) h
 refine (run_some hS).2 ⟨n+1,?_⟩
 show step S n (runN S n) lim ro f args H=_
 unfold step
 rw [hp]
 simp only
 rw [if_pos ⟨hm,hc⟩]
 exact apart_some.2 ⟨hn n (Nat.le_refl n),rfl⟩
theorem run_closed (hS:SysOK S) (n:Nat) {lim ro f:Nat} {args:List IV} {H:Hp} {out:Out} (hp:S.prim f=none) (hm:S.T.mode f=.pure) (hc:closedVs args=true) (h:runN S n 0 0 f args []=some (out,[])):run S lim ro f args H=some (out,H):=by
 cases n with
 | zero=>cases h
 | succ n=>
  refine (run_some hS).2 ⟨n+1,?_⟩
  change step S n (runN S n) 0 0 f args []=_ at h
  show step S n (runN S n) lim ro f args H=_
  unfold step at h ⊢
  rw [hp] at h ⊢
  simp only at h ⊢
  rw [if_pos ⟨hm,hc⟩] at h ⊢
  exact apart_some.2 ⟨(apart_some.1 h).1,rfl⟩
theorem run_prim (hS:SysOK S) {lim ro f:Nat} {args:List IV} {H:Hp} {r:Out×Hp} {g:Prim} (hp:S.prim f=some g) (h:g (run S) lim ro args H=some r):run S lim ro f args H=some r:=by
 obtain⟨n,hn⟩:=hS.grow f g hp _ _ (run_grows hS) _ _ _ _ _ h
 refine (run_some hS).2 ⟨n+1,?_⟩
 show step S n (runN S n) lim ro f args H=some r
 unfold step
 rw [hp]
 exact hn n (Nat.le_refl n)
theorem run_calls (hS:SysOK S) {f:Nat} {args:List IV} {out:Out} {H':Hp} (h:run S 0 0 f args []=some (out,H')) {w:World} {F:Fz} {r:Rm} {args':Array Value} (hF:∀ b o v,F b o=some v→w.cell? ⟨b,o,none⟩=some v∧v.oneCell'=true)
  (hG:∀ g j (hj:j<(Globs.gl g).length),∃ v,F g j=some v∧DRel F ((Globs.gl g)[j]) v) (ha:Vs F r 0 args args') :
  Enters S.P f args' w (CPost w.heap.size ⟨w,F⟩ (λ_=>False) 0 F r [] out H'):=by
 refine ((run_sound hS).says 0 0 f args [] out H' h) w.heap.size ⟨w,F⟩ (λ_=>False) F r w args' ?_ (λ_ h=>h.elim) (Nat.le_refl _) (Nat.le_refl _) ha
 exact {
     os:=rfl,tape:=rfl,output:=rfl,size:=Nat.le_refl _,old:=λ_ _=>rfl,fz:=λb o v h=>(hF b o v h).1,one:=λb o v h=>(hF b o v h).2,gl:=hG,fzB:=λ_ _ _ h=>.inl h,
     blk:=λb hb=>by simp at hb,low:=λ_ h=>h.elim,own:=λb hb=>by simp at hb,inj:=λa b ha=>by simp at ha }
end
end Go.Tg
namespace Go.Tg
variable [Globs]
def firstAt (s:List UInt8) (c:UInt8):Int:=
 match s.findIdx? (· == c) with
 | some i=>i
 | none=>-1
def pIndexByte:Prim:=λ_ _ _ args H=>
 match args with
 | [.d (.str s),.d (.int .u8 c)]=>some (.val (.d (.int .i64 (firstAt s c.toNat.toUInt8))),H)
 | _=>none
def pCountByte:Prim:=λ_ _ _ args H=>
 match args with
 | [.d (.str s),.d (.int .u8 c)]=>some (.val (.d (.int .i64 ((s.filter (· == c.toNat.toUInt8)).length:Nat))),H)
 | _=>none
def pSame:Prim:=λ_ _ _ args H=>
 match args with
 | [x]=>some (.val x,H)
 | _=>none
structure Ext1 (P:Program) (f:Nat) (e:Array Value→Sem Value):Prop where
 run:∀ (args:Array Value) (w:World),(callFunc f args).run P w=((e args).run P w).andThen λv w'=>.ok (.value v) w'
theorem Ext1.of {P:Program} {f:Nat} {fn:Func} {e:Array Value→Sem Value} (hf:P.funcs[f]? = some fn) (hname:(fn.name == "runtime.NumGoroutine")=false) (hb:fn.body.isNone=true) (hn:Extern.findNext fn=none) (he:Extern.find fn=some e):Ext1 P f e:=
 ⟨λargs w=>run_callFunc_extern hf hname hb hn he args w⟩
theorem says_ext {P:Program} {f:Nat} {e:Array Value→Sem Value} (hE:Ext1 P f e) {lim ro:Nat} {args:List IV} {H:Hp} {v:IV}
  (h:∀ (F:Fz) (r:Rm) (w:World) (args':Array Value),Vs F r H.length args args'→∃ v',(e args').run P w=.ok v' w∧VRel F r H.length v v'):Says P lim ro f args H (.val v) H:=by
 intro B W0 L F r w args' hw hL hlim hro ha
 obtain⟨v',h1,h2⟩:=h F r w args' ha
 refine .inr ⟨v',w,?_,⟨F,r,Ext.refl _ _ _ _,hw,v',rfl,h2⟩⟩
 rw [hE.run,h1];rfl
theorem vs_one {F:Fz} {r:Rm} {n:Nat} {x:IV} {args':Array Value} (h:Vs F r n [x] args'):∃ x',args'=#[x']∧VRel F r n x x':=by
 obtain⟨h1,h2⟩:=h
 obtain⟨l⟩:=args'
 match l,h1 with
 | [a],_=>exact⟨a,rfl,h2 0 (by simp)⟩
theorem vs_two {F:Fz} {r:Rm} {n:Nat} {x y:IV} {args':Array Value} (h:Vs F r n [x,y] args'):∃ x' y',args'=#[x',y']∧VRel F r n x x'∧VRel F r n y y':=by
 obtain⟨h1,h2⟩:=h
 obtain⟨l⟩:=args'
 match l,h1 with
 | [a,b],_=>exact⟨a,b,rfl,h2 0 (by simp),h2 1 (by simp)⟩
theorem says_same {P:Program} {f:Nat} (hE:Ext1 P f Extern.AbiNoEscape.same) {call:Oracle} {lim ro:Nat} {args:List IV} {H H':Hp} {out:Out} (h:pSame call lim ro args H=some (out,H')):Says P lim ro f args H out H':=by
 unfold pSame at h
 split at h
 ·simp only [Option.some.injEq,Prod.mk.injEq] at h
  obtain⟨rfl,rfl⟩:=h
  refine says_ext hE λF r w args' ha=>?_
  obtain⟨x',rfl,hx⟩:=vs_one ha
  exact⟨x',rfl,hx⟩
 ·cases h
theorem find_range (p:Nat→Bool):∀ (l:List UInt8) (c:UInt8) (n:Nat),(∀ j (hj:j<l.length),p (n+j)=(l[j] == c)) →
  ((List.range' n l.length).find? p)=(l.findIdx? (· == c)).map (n + ·):=by
 intro l
 induction l with
 | nil=>intro c n _;rfl
 | cons x l ih=>
  intro c n h
  rw [List.length_cons,List.range'_succ,List.find?_cons,List.findIdx?_cons]
  have h0:=h 0 (by simp)
  simp only [Nat.add_zero,List.getElem_cons_zero] at h0
  rw [h0]
  cases hx:(x == c) with
  | true=>rfl
  | false=>
   simp only [Bool.false_eq_true,if_false]
   rw [ih c (n+1) (λj hj=>by
    have:=h (j+1) (by simp;omega)
    simp only [List.getElem_cons_succ] at this
    rw [show n+1+j=n+(j+1) by omega];exact this)]
   cases l.findIdx? (· == c) with
   | none=>rfl
   | some i=>simp only [Option.map_some,Option.some.injEq];omega
theorem firstIdx_list (s:ByteArray) (c:UInt8):firstIdx s c=firstAt s.data.toList c:=by
 unfold firstIdx firstAt
 have h:=find_range (λi=>s[i]! == c) s.data.toList c 0 (λj hj=>by
  have hj':j<s.size:=by rw [size_eq];exact hj
  simp only [Nat.zero_add]
  have:s[j]! = s.data.toList[j]:=by
   rw [getElem!_pos s j hj']
   rfl
  rw [this])
 have e:List.range s.size=List.range' 0 s.data.toList.length:=by rw [List.range_eq_range',size_eq]
 rw [e,h]
 cases s.data.toList.findIdx? (· == c) <;> simp
theorem says_indexByte {P:Program} {f:Nat} (hE:Ext1 P f Extern.BytealgIndexByte.indexByte) {call:Oracle} {lim ro:Nat} {args:List IV} {H H':Hp} {out:Out} (h:pIndexByte call lim ro args H=some (out,H')):Says P lim ro f args H out H':=by
 unfold pIndexByte at h
 split at h
 ·simp only [Option.some.injEq,Prod.mk.injEq] at h
  obtain⟨rfl,rfl⟩:=h
  refine says_ext hE λF r w args' ha=>?_
  obtain⟨x',y',rfl,hx,hy⟩:=vs_two ha
  obtain⟨s,rfl,rfl⟩:=rel_str hx
  have:=rel_int hy
  subst this
  exact⟨_,run_indexByte_string s _ w,by rw [firstIdx_list];exact .d (.int _ _)⟩
 ·cases h
end Go.Tg
