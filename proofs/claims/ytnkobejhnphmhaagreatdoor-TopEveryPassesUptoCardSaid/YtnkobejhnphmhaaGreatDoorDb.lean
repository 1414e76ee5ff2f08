/- slices.Clone, in our words. -/
import Derived.Test.YtnkobejhnphmhaaGreatDoorDa
import Derived.Test.YtnkobejhnphmhaaGreatDoorAc
set_option linter.all false
namespace Go.Tg
open Go.Proofs
variable [Globs]
def newsOf (n:Nat) (c:Nat→Nat→Value):List Value:=(List.range (n*2)).map λk=>c (k / 2) (k % 2)
omit [Globs] in
theorem newsOf_len (n:Nat) (c:Nat→Nat→Value):(newsOf n c).length=n*2:=by simp [newsOf]
omit [Globs] in
theorem newsOf_at {n:Nat} {c:Nat→Nat→Value} {k:Nat} (hk:k<n*2):(newsOf n c)[k]? = some (c (k / 2) (k % 2)):=by simp [newsOf,hk]
theorem says_clone {f E:Nat} (hC:CloneC f E) (hc:Callable P f) {lim ro:Nat} {els:List D} {H:Hp} (h2:∀ e ∈ els,e.cells.length=2) (hl:els.length≤67108864):Says P lim ro f [.d (.lst els)] H (.val (.d (.lst els))) H:=by
 intro B W0 L F r w args' hw hL hlim hro ha
 obtain⟨x',rfl,hx⟩:=vs_one ha
 refine .inl ⟨run_callFunc hc _,?_⟩
 have empty:∀ (a:Option Addr) (cap:Nat),els=[]→x'=.slice a 0 cap→Calls P f #[x'] w λe w'=>CPost B W0 L ro F r H (.val (.d (.lst els))) H e w':=by
  rintro a cap rfl rfl
  cases a with
  | none=>
   refine (hC.2.2 0 cap w).mono ?_
   rintro e w' ⟨rfl,rfl⟩
   exact⟨F,r,Ext.refl _ _ _ _,hw,_,rfl,.d (.nil none 0)⟩
  | some a=>
   refine (hC.2.1 a cap w).mono ?_
   rintro e w' ⟨v',rfl,ho,hn,hb⟩
   refine⟨F,r,Ext.refl _ _ _ _,hw.later (below_later hb),_,rfl,?_⟩
   rcases ho.2 with ⟨h1,_⟩ | ⟨g,cap',cur,h1,_⟩
   ·exact absurd h1 hn
   ·rw [h1];exact .d (.nil _ _)
 cases hx with
 | d hx=>
 cases hx with
 | nil a cap=>exact empty a cap rfl rfl
 | lst _ bl off cap sz c hcap hsz hf hd=>
  rcases Nat.eq_zero_or_pos els.length with h0 | hpos
  ·exact empty (some ⟨bl,off,none⟩) cap (List.length_eq_zero_iff.1 h0) (by rw [h0])
  have hsz2:sz=2:=by rw [← hsz 0 hpos];exact h2 _ (List.getElem_mem hpos)
  subst hsz2
  have cellF:∀ k,k<els.length*2→F bl (off+k)=some (c (k / 2) (k % 2)):=by
   intro k hk
   have:=hf (k / 2) (k % 2) (by omega) (by omega)
   rw [show off+k / 2*2+k % 2=off+k by omega] at this
   exact this
  have inN:∀ j u,(newsOf els.length c)[j]? = some u→j<els.length*2∧u=c (j / 2) (j % 2):=by
   intro j u hu
   have hj:j<els.length*2:=by
    have:=(List.getElem?_eq_some_iff.1 hu).1
    rwa [newsOf_len] at this
   rw [newsOf_at hj] at hu
   exact⟨hj,(Option.some.inj hu).symm⟩
  refine (hC.1 bl off els.length cap (newsOf els.length c) w (newsOf_len _ _) hl (λj u hu=>?_) (λu hu=>?_)).mono ?_
  ·obtain⟨hj,rfl⟩:=inN j u hu
   exact hw.fz _ _ _ (cellF j hj)
  ·obtain⟨j,hj⟩:=List.mem_iff_getElem?.1 hu
   obtain⟨hj2,rfl⟩:=inN j u hj
   exact hw.one _ _ _ (cellF j hj2)
  rintro e w' ⟨v',rfl,ho,hn,hb⟩
  have hlt:=below_later hb
  have hw1:=hw.later hlt
  rcases ho.2 with ⟨h1,_⟩ | ⟨g,cap',cur,rfl,hg,hcur,hncap,_,hcs,htake⟩
  ·exact absurd h1 hn
  have hFg:∀ o,F g o=none:=λo=>by
   cases hq:F g o with
   | none=>rfl
   | some v=>have:=cell_lt (hw.fz _ _ _ hq);omega
  let F':Fz:=λb o=>if b=g∧o<els.length*2 then some (c (o / 2) (o % 2)) else F b o
  have f1:∀ o,o<els.length*2→F' g o=some (c (o / 2) (o % 2)):=λo ho=>if_pos ⟨rfl,ho⟩
  have f2:∀ b o,b≠g→F' b o=F b o:=λb o hb=>if_neg λh=>hb h.1
  have hle:F.le F':=by
   intro b o v hv
   rw [f2 b o (λe=>by subst e;rw [hFg] at hv;cases hv)]
   exact hv
  have fcase:∀ b o v,F' b o=some v→(b=g∧o<els.length*2∧v=c (o / 2) (o % 2))∨F b o=some v:=by
   intro b o v hv
   by_cases hq:b=g∧o<els.length*2
   ·left
    rw [hq.1,f1 o hq.2] at hv
    exact⟨hq.1,hq.2,(Option.some.inj hv).symm⟩
   ·right
    have:F' b o=F b o:=if_neg hq
    rw [← this];exact hv
  have hkeep:∀ n b blk,b<H.length→BRel F r n w' b blk→(blk.live=true→(r b).blk<w.heap.size)→BRel F' r n w' b blk:=λn b blk _ h hlv=>
   h.keep hle (Rm.le_refl _ r) (Nat.le_refl _) rfl (λhl=>⟨rfl,λo ho=>by rw [f2 _ _ (by have:=hlv hl;omega)];exact ho⟩)
  refine⟨F',r,⟨hle,Rm.le_refl _ r,Nat.le_refl _,λ_ _=>rfl⟩,?_,_,rfl,?_⟩
  ·exact { hw1 with
    fz:=λb o v hv=>by
     rcases fcase b o v hv with ⟨rfl,h1,rfl⟩ | h1
     ·rw [cell_of hcur]
      have e1:cur.toList[o]? = (cur.toList.take (els.length*2))[o]?:=by rw [List.getElem?_take_of_lt h1]
      rw [← Array.getElem?_toList,e1,htake,newsOf_at h1]
     ·exact hw1.fz b o v h1
    one:=λb o v hv=>by
     rcases fcase b o v hv with ⟨rfl,h1,rfl⟩ | h1
     ·exact hw.one _ _ _ (cellF o h1)
     ·exact hw1.one b o v h1
    gl:=λg' j hj=>by
     obtain⟨v,h1,h2⟩:=hw1.gl g' j hj
     exact⟨v,hle _ _ _ h1,h2.mono hle⟩
    fzB:=λb o v hv=>by
     rcases fcase b o v hv with ⟨rfl,h1,rfl⟩ | h1
     ·exact .inr (Nat.le_trans hw.size hg)
     ·exact hw1.fzB b o v h1
    blk:=λb hb=>hkeep _ b _ hb (hw1.blk b hb) (λhl=>(hw.blk b hb).lt hl)
    low:=λm hm b hb hbm=>hkeep _ b _ hb (hw1.low m hm b hb hbm) (λhl=>(hw.blk b hb).lt hl) }
  ·refine .d (.lst els g 0 cap' 2 c hncap hsz (λi j hi hj=>?_) (λi hi j hj=>(hd i hi j hj).mono hle))
   have:=f1 (i*2+j) (by omega)
   rw [show (i*2+j) / 2=i by omega,show (i*2+j) % 2=j by omega] at this
   rw [show 0+i*2+j=i*2+j by omega]
   exact this
theorem says_pClone {call:Oracle} {lim ro:Nat} {args:List IV} {H H':Hp} {out:Out} (h:pClone call lim ro args H=some (out,H')):Says P lim ro 45 args H out H':=by
 unfold pClone at h
 split at h
 ·split at h
  ·rename_i els hb
   simp only [Option.some.injEq,Prod.mk.injEq] at h
   obtain⟨rfl,rfl⟩:=h
   exact says_clone cloneC45 (callable_of (fn:=fnOf 45) (by kernel_rfl) (by kernel_rfl)) (λe he=>by simpa using List.all_eq_true.1 hb.1 e he) (by omega)
  ·cases h
 ·cases h
theorem says_cloneG {f E:Nat} (hC:CloneC f E) (hc:Callable P f) {lim ro:Nat} {els:List D} {H:Hp} (hne:els≠[]) (h2:∀ e ∈ els,e.cells.length=2) (hl:els.length≤67108864) :
  Says P lim ro f [.d (.lst els)] H (.val (.vec H.length 2 0 els.length)) (H++[.cells (2*E) ((els.flatMap D.cells).map .d)]):=by
 intro B W0 L F r w args' hw hL hlim hro ha
 obtain⟨x',rfl,hx⟩:=vs_one ha
 refine .inl ⟨run_callFunc hc _,?_⟩
 have hpos:0<els.length:=List.length_pos_iff.2 hne
 cases hx with
 | d hx=>
 cases hx with
 | nil a cap=>exact absurd rfl hne
 | lst _ bl off cap sz c hcap hsz hf hd=>
  have hsz2:sz=2:=by rw [← hsz 0 hpos];exact h2 _ (List.getElem_mem hpos)
  subst hsz2
  have cellF:∀ k,k<els.length*2→F bl (off+k)=some (c (k / 2) (k % 2)):=by
   intro k hk
   have:=hf (k / 2) (k % 2) (by omega) (by omega)
   rw [show off+k / 2*2+k % 2=off+k by omega] at this
   exact this
  have inN:∀ j u,(newsOf els.length c)[j]? = some u→j<els.length*2∧u=c (j / 2) (j % 2):=by
   intro j u hu
   have hj:j<els.length*2:=by
    have:=(List.getElem?_eq_some_iff.1 hu).1
    rwa [newsOf_len] at this
   rw [newsOf_at hj] at hu
   exact⟨hj,(Option.some.inj hu).symm⟩
  refine (hC.1 bl off els.length cap (newsOf els.length c) w (newsOf_len _ _) hl (λj u hu=>?_) (λu hu=>?_)).mono ?_
  ·obtain⟨hj,rfl⟩:=inN j u hu
   exact hw.fz _ _ _ (cellF j hj)
  ·obtain⟨j,hj⟩:=List.mem_iff_getElem?.1 hu
   obtain⟨hj2,rfl⟩:=inN j u hj
   exact hw.one _ _ _ (cellF j hj2)
  rintro e w' ⟨v',rfl,ho,hn,hb⟩
  have hlt:=below_later hb
  have hw1:=hw.later hlt
  rcases ho.2 with ⟨h1,_⟩ | ⟨g,cap',cur,rfl,hg,hcur,hncap,_,hcs,htake⟩
  ·exact absurd h1 hn
  have hFg:∀ o,F g o=none:=λo=>by
   cases hq:F g o with
   | none=>rfl
   | some v=>have:=cell_lt (hw.fz _ _ _ hq);omega
  have hl1:(H++[Blk.cells (2*E) ((els.flatMap D.cells).map .d)]).length=H.length+1:=by simp
  let r2:Rm:=λb=>if b=H.length then ⟨g,0,cap'*2,false⟩ else r b
  have r2a:r2 H.length=⟨g,0,cap'*2,false⟩:=if_pos rfl
  have r2b:∀ b,b<H.length→r2 b=r b:=λb hb=>if_neg (by omega)
  have hle:Rm.le H.length r r2:=r2b
  have g2:∀ b (hb:b<H.length),(H++[Blk.cells (2*E) ((els.flatMap D.cells).map .d)])[b]'(by omega)=H[b]:=λb hb=>List.getElem_append_left hb
  have g4:(H++[Blk.cells (2*E) ((els.flatMap D.cells).map .d)])[H.length]'(by omega)=.cells (2*E) ((els.flatMap D.cells).map .d):=by simp
  have ix:∀ b (hb:b<(H++[Blk.cells (2*E) ((els.flatMap D.cells).map .d)]).length),b<H.length∨b=H.length:=λb hb=>by omega
  have flen:∀ (l:List D),(∀ e ∈ l,e.cells.length=2)→(l.flatMap D.cells).length=l.length*2:=by
   intro l
   induction l with
   | nil=>intro _;rfl
   | cons a l ih=>
    intro h
    rw [List.flatMap_cons,List.length_append,h a List.mem_cons_self,ih (λe he=>h e (List.mem_cons_of_mem _ he)),List.length_cons]
    omega
  have fat:∀ (l:List D),(∀ e ∈ l,e.cells.length=2)→∀ k (h1:k / 2<l.length) (h2:k % 2<(l[k / 2]).cells.length) (h3:k<(l.flatMap D.cells).length),(l.flatMap D.cells)[k]=(l[k / 2]).cells[k % 2]:=by
   intro l
   induction l with
   | nil=>intro _ k h1;simp at h1
   | cons a l ih=>
    intro h k h1 h2 h3
    have ha:=h a List.mem_cons_self
    by_cases hk:k<2
    ·have e1:k / 2=0:=by omega
     have e2:k % 2=k:=by omega
     simp only [List.flatMap_cons,e1,e2,List.getElem_cons_zero]
     exact List.getElem_append_left (by omega)
    ·have e1:k / 2=(k - 2) / 2+1:=by omega
     have e2:k % 2=(k - 2) % 2:=by omega
     simp only [List.flatMap_cons]
     rw [List.getElem_append_right (by omega)]
     simp only [ha]
     have h1':(k - 2) / 2<l.length:=by simp at h1;omega
     have hc2:=h _ (List.mem_cons_of_mem a (List.getElem_mem h1'))
     have:=ih (λe he=>h e (List.mem_cons_of_mem _ he)) (k - 2) h1' (by omega) (by rw [flen l (λe he=>h e (List.mem_cons_of_mem _ he))];omega)
     rw [this]
     simp only [e1,e2,List.getElem_cons_succ]
  have cat:∀ k,k<els.length*2→cur[k]? = some (c (k / 2) (k % 2)):=by
   intro k hk
   have e1:cur.toList[k]? = (cur.toList.take (els.length*2))[k]?:=by rw [List.getElem?_take_of_lt hk]
   rw [← Array.getElem?_toList,e1,htake,newsOf_at hk]
  have hnew:∀ n,BRel F r2 n w' H.length (.cells (2*E) ((els.flatMap D.cells).map .d)):=by
   intro n
   refine⟨cur,(0,0),by rw [r2a,show 2*E / 2=E by omega];exact hcur,⟨by rw [r2a];simp only [hcs];omega,λ_=>by rw [r2a]⟩,?_,λj hj=>?_,λo _ h=>by omega,λo=>by rw [r2a];exact hFg o⟩
   ·rw [r2a,List.length_map,flen els h2];simp only;omega
   ·have hj':j<els.length*2:=by rw [List.length_map,flen els h2] at hj;exact hj
    have e0:cur.getD ((r2 H.length).base+j) undef=c (j / 2) (j % 2):=by
     rw [r2a]
     simp only [Nat.zero_add]
     rw [Array.getD_eq_getD_getElem?,cat j hj'];rfl
    rw [e0,List.getElem_map]
    have i1:j / 2<els.length:=by omega
    have i2:=h2 _ (List.getElem_mem i1)
    refine⟨.d ?_,hw.one _ _ _ (cellF j hj')⟩
    rw [fat els h2 j i1 (by omega)]
    exact hd _ i1 _ (by omega)
  have hkeep:∀ n n' b blk,n≤H.length→n≤n'→b<H.length→BRel F r n w' b blk→BRel F r2 n' w' b blk:=λn n' b blk hn hn' hb h=>
   h.keep (Fz.le_refl _) (λi hi=>r2b i (by omega)) hn' (r2b b hb) (λ_=>⟨rfl,λ_ h=>h⟩)
  refine⟨F,r2,⟨Fz.le_refl _,hle,by omega,λb hb=>List.getElem?_append_left (by omega)⟩,?_,_,rfl,?_⟩
  ·exact { hw1 with
    blk:=λb hb=>by
     rcases ix b hb with h | rfl
     ·rw [g2 b h];exact hkeep _ _ b _ (Nat.le_refl _) (by omega) h (hw1.blk b h)
     ·rw [g4];exact hnew _
    low:=λm hm b hb hbm=>by
     have hm':=Nat.le_trans (hL m hm) hlim
     have h:b<H.length:=by omega
     rw [g2 b h]
     exact hkeep m m b _ hm' (Nat.le_refl _) h (hw1.low m hm b h hbm)
    own:=λb hb hlv=>by
     rcases ix b hb with h | rfl
     ·rw [g2 b h] at hlv
      rw [r2b b h];exact hw1.own b h hlv
     ·rw [r2a];exact Nat.le_trans hw.size hg
    inj:=λa b ha hb hla hlb hab=>by
     rcases ix a ha with h | rfl <;> rcases ix b hb with h' | rfl
     ·rw [r2b a h,r2b b h'] at hab
      rw [g2 a h] at hla;rw [g2 b h'] at hlb
      exact hw1.inj a b h h' hla hlb hab
     ·rw [r2b a h,r2a] at hab
      rw [g2 a h] at hla
      have:=(hw.blk a h).lt hla
      simp only at hab;omega
     ·rw [r2a,r2b b h'] at hab
      rw [g2 b h'] at hlb
      have:=(hw.blk b h').lt hlb
      simp only at hab;omega
     ·rfl }
  ·have:=VRel.vec (F:=F) (r:=r2) (n:=H.length+1) H.length 2 0 els.length cap' (Nat.lt_succ_self _) hncap (by omega) (by rw [r2a];simp only;omega)
   rw [r2a] at this
   rw [hl1]
   exact this
end Go.Tg
namespace Go.Proofs
open Go.Shelf Go.RowKit Go.Lib
variable {P:Program} {ρ:Ren}
theorem wpList_append_none {ops:Array Oper} {rest:List Oper} {o:Oper} {a:Act} {w:World} {Q:Exit→Act→World→Prop} (hgd:o.guard=none) (s x:Operand) (t:TypeId)
  (ho:o.op=.call { callee:=.builtin .append,args:=#[s,x],argTypes:=#[t,t] })
  (e:TypeId) (i:TypeInfo) (ht:P.underlying t=some (.slice e)) (hi:P.info? e=some i) (g ad:Addr) (c:Nat) (hs:a.eval s=.slice (some g) 0 0) (hx:a.eval x=.slice (some ad) 0 c)
  (h:wpList P ops Q rest (a.put o.dst (.slice (some g) 0 0)) w):wpList P ops Q (o::rest) a w:=by
 refine wpList_plain hgd λK hK=>?_
 have hr:(Builtin.append_ #[t,t] o.type #[.slice (some g) 0 0,.slice (some ad) 0 c]).run P w=.ok (.slice (some g) 0 0) w:=
  by simp [Builtin.append_,run_underlying ht,sizeOf,typeInfo,hi,Builtin.lenOf,Builtin.firstCells,loadCells,loadCellsFrom,storeCells]
 unfold Oper.wp execOp
 simp only [ho,resolve,invoke,builtin,Sem.run_bind,Sem.run_pure,Result.andThen_ok,List.map_toArray,List.map_cons,List.map_nil,hs,hx,hr]
 exact hK _ _ h
set_option maxHeartbeats 2000000 in
set_option maxRecDepth 100000 in
theorem cloneZero0 (L:SlLaysE0.n41 P ρ) (i0:TypeInfo) (hi:P.info? (ρ.t 23)=some i0) (size:Nat) (z23:∀ w,(Go.sizeOf (ρ.t 23)).run P w=.ok size w) (a:Addr) (c:Nat) (w:World) :
  Calls P (ρ.f 41) #[.slice (some a) 0 c] w λe w'=>∃ g,e=.returned (.slice (some g) 0 0)∧Below w.heap.size w w':=by
 have mixed:=L.mixed;have t4:=L.t4;have a4:=L.a4;have z4:=L.z4;have v4:=L.v4;have t22:=L.t22;have a22:=L.a22;have z22:=L.z22;have v22:=L.v22
 have q22:∀ (w:World) (a:Option Addr) (n c n' c':Nat),(binOp .eql (ρ.t 22) (.slice a n c) (.slice none n' c')).run P w=.ok (.bool a.isNone) w:=λw a n c n' c'=>Lib.run_eql_slice_nil w _ _ a n c n' c' L.t22
 have u22:∀ w,Sem.run P (underlying (ρ.t 22)) w=.ok (TypeDesc.slice (ρ.t 23)) w:=run_underlying t22
 obtain⟨_,_,FG⟩:=L.f41
 go_enter FG,SlBodyN.n41_ntmps ρ
 go_wp2_with (at_builtin;refine wpList_append_none rfl _ _ (ρ.t 22) rfl (ρ.t 23) i0 t22 hi ⟨w.heap.size,0,none⟩ a c rfl rfl ?_)
 go_wp2
 go_ret
 exact⟨_,rfl,(Below.refl _ w).alloc (Nat.le_refl _) _⟩
end Go.Proofs
namespace Go.Tg
open Go.Proofs
variable [Globs]
omit [Globs] in
theorem clone0_444 (a:Addr) (c:Nat) (w:World):Calls P 444 #[.slice (some a) 0 c] w λe w'=>∃ g,e=.returned (.slice (some g) 0 0)∧RowKit.Below w.heap.size w w':=by
 obtain⟨i0,h1,h2,h3,h4⟩:=info110
 have hz:∀ w,(Go.sizeOf 110).run P w=.ok 2 w:=λw=>by kernel_rfl
 exact cloneZero0 Tryz.lays444 i0 h1 2 hz a c w
theorem says_pCloneG {call:Oracle} {lim ro:Nat} {args:List IV} {H H':Hp} {out:Out} (h:pCloneG 110 2 call lim ro args H=some (out,H')):Says P lim ro 444 args H out H':=by
 have hc:Callable P 444:=callable_of (fn:=fnOf 444) (by kernel_rfl) (by kernel_rfl)
 unfold pCloneG at h
 split at h
 ·simp only [Option.some.injEq,Prod.mk.injEq] at h
  obtain⟨rfl,rfl⟩:=h
  refine says_calls hc λF r w args' hF ha=>?_
  obtain⟨x',rfl,hx⟩:=vs_one ha
  have key:∀ a cap,x'=.slice a 0 cap→Calls P 444 #[x'] w λe w'=>Later w w'∧∃ v',e=.returned v'∧VRel F r H.length .emp v':=by
   rintro a cap rfl
   cases a with
   | none=>
    refine (cloneC444.2.2 0 cap w).mono ?_
    rintro e w' ⟨rfl,rfl⟩
    exact⟨Later.refl _,_,rfl,.emp _⟩
   | some a=>
    refine (clone0_444 a cap w).mono ?_
    rintro e w' ⟨g,rfl,hb⟩
    exact⟨below_later hb,_,rfl,.emp _⟩
  cases hx with
  | d hx=>
  generalize hq:([]:List D)=els at hx
  cases hx with
  | nil a cap=>exact key a cap rfl
  | lst _ bl off cap sz c hcap hsz hf hd=>subst hq;exact key (some ⟨bl,off,none⟩) cap rfl
 ·split at h
  ·rename_i e els hb
   simp only [Option.some.injEq,Prod.mk.injEq] at h
   obtain⟨rfl,rfl⟩:=h
   exact says_cloneG cloneC444 hc (els:=e::els) (List.cons_ne_nil _ _) (λx hx=>by simpa using List.all_eq_true.1 hb.1 x hx) (by rw [List.length_cons];omega)
  ·cases h
 ·cases h
end Go.Tg
