/- The relation between the ideal run and the model's worlds. -/
import Derived.Test.YtnkobejhnphmhaaGreatDoorAa
import Derived.Laws.Sem
import Derived.Laws.World
import Derived.Laws.Cells
import Derived.Laws.Entries
import Derived.Laws.CopyRow
import Derived.Room.AppendAsks
import Derived.Room.AppendAny
import Derived.ChangeKeysEq
import Derived.Laws.StructEq
import Derived.Laws.BytesString
set_option linter.all false
namespace Go.Tg
variable [Globs]
abbrev Fz:=Nat→Nat→Option Value
structure Loc where
 blk:Nat
 base:Nat
 size:Nat
 str:Bool:=false
abbrev Rm:=Nat→Loc
def Fz.le (F F':Fz):Prop:=∀ b o v,F b o=some v→F' b o=some v
theorem Fz.le_refl (F:Fz):F.le F:=λ_ _ _ h=>h
theorem Fz.le_trans {F F' F'':Fz} (h:F.le F') (h':F'.le F''):F.le F'':=λb o v x=>h' b o v (h b o v x)
inductive DRel (F:Fz):D→Value→Prop
 | bool (b:Bool):DRel F (.bool b) (.bool b)
 | int (k:IntKind) (n:Int):DRel F (.int k n) (.int k n)
 | str (s:ByteArray):DRel F (.str s.data.toList) (.string s)
 | agg (cs:List D) (vs:Array Value) (hlen:vs.size=cs.length) (h:∀ i (hi:i<cs.length),DRel F cs[i] (vs.getD i undef)):DRel F (.agg cs) (.agg vs)
 | nil (a:Option Addr) (cap:Nat):DRel F (.lst []) (.slice a 0 cap)
 | lst (els:List D) (bl off cap sz:Nat) (c:Nat→Nat→Value) (hcap:els.length≤cap)
   (hsz:∀ i (hi:i<els.length),(els[i]).cells.length=sz)
   (hF:∀ i j,i<els.length→j<sz→F bl (off+i*sz+j)=some (c i j))
   (h:∀ i (hi:i<els.length) j (hj:j<(els[i]).cells.length),DRel F ((els[i]).cells[j]) (c i j)):DRel F (.lst els) (.slice (some ⟨bl,off,none⟩) els.length cap)
theorem DRel.mono {F F':Fz} (hF:F.le F') {x:D} {v:Value} (h:DRel F x v):DRel F' x v:=by
 induction h with
 | bool b=>exact .bool b
 | int k n=>exact .int k n
 | str s=>exact .str s
 | agg cs vs hl _ ih=>exact .agg cs vs hl ih
 | nil a cap=>exact .nil a cap
 | lst els bl off cap sz c hcap hsz hf _ ih=>exact .lst els bl off cap sz c hcap hsz (λi j hi hj=>hF _ _ _ (hf i j hi hj)) ih
inductive VRel (F:Fz) (r:Rm) (n:Nat):IV→Value→Prop
 | d {x:D} {v:Value} (h:DRel F x v):VRel F r n (.d x) v
 | un (v:Value):VRel F r n .un v
 | no:VRel F r n .no undef
 | nul:VRel F r n .nul (.pointer none)
 | ptr (b off:Nat) (hb:b<n):VRel F r n (.ptr b off) (.pointer (some ⟨(r b).blk,(r b).base+off,none⟩))
 | vnil:VRel F r n .vnil (.slice none 0 0)
 | emp (a:Option Addr):VRel F r n .emp (.slice a 0 0)
 | vec (b sz off len cap:Nat) (hb:b<n) (hlen:len≤cap) (h0:0<cap) (hcap:off+cap*sz≤(r b).size) :
   VRel F r n (.vec b sz off len) (.slice (some ⟨(r b).blk,(r b).base+off,none⟩) len cap)
 | vec0 (b sz off o:Nat) (hb:b<n) (ho:o≤(r b).base+(r b).size) (hs:(r b).str=true→o<(r b).base+(r b).size):VRel F r n (.vec b sz off 0) (.slice (some ⟨(r b).blk,o,none⟩) 0 0)
 | lptr (cs:List D) (off bl o:Nat) (c:Nat→Value) (hF:∀ j,j<cs.length→F bl (o+j)=some (c j)) (h:∀ j (hj:j<cs.length),DRel F cs[j] (c j)) :
   VRel F r n (.lptr cs off) (.pointer (some ⟨bl,o+off,none⟩))
 | agg (cs:List IV) (vs:Array Value) (hlen:vs.size=cs.length) (h:∀ i (hi:i<cs.length),VRel F r n cs[i] (vs.getD i undef)):VRel F r n (.agg cs) (.agg vs)
 | tup (cs:List IV) (vs:Array Value) (hlen:vs.size=cs.length) (h:∀ i (hi:i<cs.length),VRel F r n cs[i] (vs.getD i undef)):VRel F r n (.tup cs) (.tuple vs)
 | fn (f:Nat) (l1 l2:List IV) (v1 v2:Array Value) (h1:v1.size=l1.length) (h2:v2.size=l2.length)
   (g1:∀ i (hi:i<l1.length),VRel F r n l1[i] (v1.getD i undef)) (g2:∀ i (hi:i<l2.length),VRel F r n l2[i] (v2.getD i undef)) :
   VRel F r n (.fn f l1 l2) (.func (.func f) v1 v2)
 | nofn:VRel F r n .nofn .nilFunc
 | map (b:Nat) (hb:b<n):VRel F r n (.map b) (.map (some (r b).blk))
 | nomap:VRel F r n .nomap (.map none)
 | ifc (t:Nat) {v:IV} {v':Value} (h:VRel F r n v v'):VRel F r n (.ifc t v) (.iface t v')
 | noifc:VRel F r n .noifc .nilIface
def Rm.le (n:Nat) (r r':Rm):Prop:=∀ b,b<n→r' b=r b
theorem Rm.le_refl (n:Nat) (r:Rm):Rm.le n r r:=λ_ _=>rfl
theorem Rm.le_trans {n n':Nat} {r r' r'':Rm} (h:Rm.le n r r') (h':Rm.le n' r' r'') (hn:n≤n'):Rm.le n r r'':=λb hb=>(h' b (by omega)).trans (h b hb)
theorem VRel.mono {F F':Fz} {r r':Rm} {n n':Nat} (hF:F.le F') (hr:Rm.le n r r') (hn:n≤n') {x:IV} {v:Value} (h:VRel F r n x v):VRel F' r' n' x v:=by
 induction h with
 | d h=>exact .d (h.mono hF)
 | un v=>exact .un v
 | no=>exact .no
 | nul=>exact .nul
 | ptr b off hb=>rw [← hr b hb];exact .ptr b off (by omega)
 | vnil=>exact .vnil
 | emp a=>exact .emp a
 | vec b sz off len cap hb hlen h0 hcap=>rw [← hr b hb] at hcap ⊢;exact .vec b sz off len cap (by omega) hlen h0 hcap
 | vec0 b sz off o hb ho hs=>rw [← hr b hb] at ho hs ⊢;exact .vec0 b sz off o (by omega) ho hs
 | lptr cs off bl o c hf h=>exact .lptr cs off bl o c (λj hj=>hF _ _ _ (hf j hj)) (λj hj=>(h j hj).mono hF)
 | agg cs vs hl _ ih=>exact .agg cs vs hl ih
 | tup cs vs hl _ ih=>exact .tup cs vs hl ih
 | fn f l1 l2 v1 v2 h1 h2 _ _ ih1 ih2=>exact .fn f l1 l2 v1 v2 h1 h2 ih1 ih2
 | nofn=>exact .nofn
 | map b hb=>rw [← hr b hb];exact .map b (by omega)
 | nomap=>exact .nomap
 | ifc t _ ih=>exact .ifc t ih
 | noifc=>exact .noifc
theorem VRel.plain {F:Fz} {r r':Rm} {n n':Nat} {x:IV} {v:Value} (hp:x.plain=true) (h:VRel F r n x v):VRel F r' n' x v:=by
 cases h <;> simp [IV.plain] at hp <;> first | exact .d ‹_› | exact .nul | exact .vnil | exact .nofn | exact .nomap | exact .noifc
def Vs (F:Fz) (r:Rm) (n:Nat) (l:List IV) (vs:Array Value):Prop:=vs.size=l.length∧∀ i (hi:i<l.length),VRel F r n l[i] (vs.getD i undef)
theorem Vs.mono {F F':Fz} {r r':Rm} {n n':Nat} (hF:F.le F') (hr:Rm.le n r r') (hn:n≤n') {l:List IV} {vs:Array Value} (h:Vs F r n l vs):Vs F' r' n' l vs:=
 ⟨h.1,λi hi=>(h.2 i hi).mono hF hr hn⟩
def BRel (F:Fz) (r:Rm) (n:Nat) (w:World) (b:Nat):Blk→Prop
 | .cells T cs=>∃ c z,w.heap[(r b).blk]? = some (.cells c (T / 2) z)∧((r b).base+(r b).size≤c.size∧(T % 2=1→(r b).base=0))∧cs.length≤(r b).size ∧
   (∀ j (hj:j<cs.length),VRel F r n cs[j] (c.getD ((r b).base+j) undef)∧(c.getD ((r b).base+j) undef).oneCell'=true)∧(∀ o,(r b).str=false∨o<c.size→¬ (z.1≤o∧o<z.2))∧∀ o,F (r b).blk o=none
 | .frz cs=>∃ c:Nat→Value,(∀ j,j<cs.length→F (r b).blk ((r b).base+j)=some (c j))∧∀ j (hj:j<cs.length),DRel F cs[j] (c j)
 | .mp es=>∃ (m:Array MapEntry) (k:Nat),w.heap[(r b).blk]? = some (.map m k)∧m.size=es.length ∧
   (∀ j (hj:j<es.length),VRel F r n es[j].1 (m.getD j default).key∧VRel F r n es[j].2 (m.getD j default).val)∧∀ o,F (r b).blk o=none
 | .it s pos=>∃ t:ByteArray,t.data.toList=s∧w.heap[(r b).blk]? = some (.stringIter t pos)∧(r b).base=0∧∀ o,F (r b).blk o=none
 | .dead=>True
def Blk.live:Blk→Bool
 | .cells _ _ | .mp _ | .it _ _=>true
 | _=>false
structure Base extends World where
 fz:Fz
structure WRel (B:Nat) (W0:Base) (L:Nat→Prop) (F:Fz) (r:Rm) (H:Hp) (w:World):Prop where
 os:w.os=W0.os
 tape:w.tape=W0.tape
 output:w.output=W0.output
 size:B≤w.heap.size
 old:∀ k,k<B→w.heap[k]? = W0.heap[k]?
 fz:∀ b o v,F b o=some v→w.cell? ⟨b,o,none⟩=some v
 one:∀ b o v,F b o=some v→v.oneCell'=true
 blk:∀ b (hb:b<H.length),BRel F r H.length w b H[b]
 low:∀ m,L m→∀ b (hb:b<H.length),b<m→BRel F r m w b H[b]
 own:∀ b (hb:b<H.length),H[b].live=true→B≤(r b).blk
 gl:∀ g j (hj:j<(Globs.gl g).length),∃ v,F g j=some v∧DRel F ((Globs.gl g)[j]) v
 fzB:∀ b o v,F b o=some v→W0.fz b o=some v∨B≤b
 inj:∀ a b (ha:a<H.length) (hb:b<H.length),H[a].live=true→H[b].live=true→(r a).blk=(r b).blk→a=b
structure Later (w w':World):Prop where
 os:w'.os=w.os
 tape:w'.tape=w.tape
 output:w'.output=w.output
 size:w.heap.size≤w'.heap.size
 block:∀ k,k<w.heap.size→w'.heap[k]? = w.heap[k]?
theorem Later.refl (w:World):Later w w:=⟨rfl,rfl,rfl,Nat.le_refl _,λ_ _=>rfl⟩
theorem Later.alloc (w:World) (o:Obj):Later w (w.alloc o):=
 ⟨rfl,rfl,rfl,by simp,λk hk=>by show (w.heap.push o)[k]? = _;rw [Array.getElem?_push,if_neg (by omega)]⟩
theorem Later.drew (w:World):Later w w.drew:=⟨rfl,rfl,rfl,Nat.le_refl _,λ_ _=>rfl⟩
theorem Later.drawn (w:World) (n:Nat):Later w { w with drawn:=n }:=⟨rfl,rfl,rfl,Nat.le_refl _,λ_ _=>rfl⟩
theorem heap_lt {w:World} {k:Nat} {o:Obj} (h:w.heap[k]? = some o):k<w.heap.size:=by
 rcases Nat.lt_or_ge k w.heap.size with h' | h'
 ·exact h'
 ·rw [Array.getElem?_eq_none h'] at h;cases h
theorem cell_of {w:World} {b o:Nat} {c:Array Value} {T:TypeId} {z:Nat×Nat} (h:w.heap[b]? = some (.cells c T z)):w.cell? ⟨b,o,none⟩=c[o]?:=by
 simp [World.cell?,h]
theorem cell_lt {w:World} {b o:Nat} {v:Value} (h:w.cell? ⟨b,o,none⟩=some v):b<w.heap.size:=w.block_lt_of_cell? (a:=⟨b,o,none⟩) h
theorem cell_keep {w w':World} {b o:Nat} (h:w'.heap[b]? = w.heap[b]?):w'.cell? ⟨b,o,none⟩=w.cell? ⟨b,o,none⟩:=by
 simp [World.cell?,h]
theorem BRel.keep {F F':Fz} {r r':Rm} {n n':Nat} {w w':World} {b:Nat} {blk:Blk} (hF:F.le F') (hr:Rm.le n r r') (hn:n≤n') (hb:r' b=r b)
  (hl:blk.live=true→w'.heap[(r b).blk]? = w.heap[(r b).blk]? ∧ ∀ o,F (r b).blk o=none→F' (r b).blk o=none) (h:BRel F r n w b blk):BRel F' r' n' w' b blk:=by
 cases blk with
 | cells T cs=>
  obtain⟨c,z,h1,h2,h3,h4,h5,h6⟩:=h
  obtain⟨e1,e2⟩:=hl rfl
  refine⟨c,z,?_,?_,?_,?_,by rw [hb];exact h5,?_⟩
  ·rw [hb,e1,h1]
  ·rw [hb];exact h2
  ·rw [hb];exact h3
  ·intro j hj;rw [hb];exact⟨(h4 j hj).1.mono hF hr hn,(h4 j hj).2⟩
  ·intro o;rw [hb];exact e2 o (h6 o)
 | frz cs=>
  obtain⟨c,h1,h2⟩:=h
  exact⟨c,λj hj=>by rw [hb];exact hF _ _ _ (h1 j hj),λj hj=>(h2 j hj).mono hF⟩
 | mp es=>
  obtain⟨m,k,h1,h2,h3,h4⟩:=h
  obtain⟨e1,e2⟩:=hl rfl
  exact⟨m,k,by rw [hb,e1,h1],h2,λj hj=>⟨(h3 j hj).1.mono hF hr hn,(h3 j hj).2.mono hF hr hn⟩,λo=>by rw [hb];exact e2 o (h4 o)⟩
 | it s pos=>
  obtain⟨t,h1,h2,h3,h4⟩:=h
  obtain⟨e1,e2⟩:=hl rfl
  exact⟨t,h1,by rw [hb,e1,h2],by rw [hb];exact h3,λo=>by rw [hb];exact e2 o (h4 o)⟩
 | dead=>trivial
theorem BRel.lt {F:Fz} {r:Rm} {n:Nat} {w:World} {b:Nat} {blk:Blk} (h:BRel F r n w b blk) (hl:blk.live=true):(r b).blk<w.heap.size:=by
 cases blk with
 | cells T cs=>obtain⟨c,z,h1,_⟩:=h;exact heap_lt h1
 | it s pos=>obtain⟨t,_,h1,_⟩:=h;exact heap_lt h1
 | mp es=>obtain⟨m,k,h1,_⟩:=h;exact heap_lt h1
 | frz cs=>simp [Blk.live] at hl
 | dead=>simp [Blk.live] at hl
section
variable {B:Nat} {W0:Base} {L:Nat→Prop} {F:Fz} {r:Rm} {H:Hp} {w:World}
theorem WRel.later {w':World} (h:WRel B W0 L F r H w) (hw:Later w w'):WRel B W0 L F r H w' where
 os:=hw.os.trans h.os
 tape:=hw.tape.trans h.tape
 output:=hw.output.trans h.output
 size:=Nat.le_trans h.size hw.size
 old k hk:=(hw.block k (Nat.lt_of_lt_of_le hk h.size)).trans (h.old k hk)
 fz b o v hv:=by
  have hc:=h.fz b o v hv
  rw [cell_keep (hw.block b (cell_lt hc))];exact hc
 one:=h.one
 blk b hb:=(h.blk b hb).keep (Fz.le_refl F) (Rm.le_refl _ r) (Nat.le_refl _) rfl (λhl=>⟨hw.block _ ((h.blk b hb).lt hl),λ_ x=>x⟩)
 low m hm b hb hbm:=(h.low m hm b hb hbm).keep (Fz.le_refl F) (Rm.le_refl _ r) (Nat.le_refl _) rfl (λhl=>⟨hw.block _ ((h.blk b hb).lt hl),λ_ x=>x⟩)
 own:=h.own
 gl:=h.gl
 fzB:=h.fzB
 inj:=h.inj
def upd (r:Rm) (k:Nat) (l:Loc):Rm:=λb=>if b=k then l else r b
theorem upd_same (r:Rm) (k:Nat) (l:Loc):upd r k l k=l:=by simp [upd]
theorem upd_other (r:Rm) {k b:Nat} (l:Loc) (h:b≠k):upd r k l b=r b:=by simp [upd,h]
theorem upd_le (r:Rm) (k:Nat) (l:Loc):Rm.le k r (upd r k l):=λb hb=>upd_other r l (by omega)
theorem live_set_dead {H:Hp} {b a:Nat} (ha:a<(H.set b .dead).length) (hl:(H.set b .dead)[a].live=true):a≠b∧∃ h:a<H.length,H[a].live=true:=by
 simp at ha
 by_cases e:a=b
 ·subst e;simp [Blk.live] at hl
 ·refine⟨e,ha,?_⟩
  rw [List.getElem_set_ne (Ne.symm e)] at hl;exact hl
theorem WRel.kill (h:WRel B W0 L F r H w) (b:Nat):WRel B W0 L F r (H.set b .dead) w where
 os:=h.os
 tape:=h.tape
 output:=h.output
 size:=h.size
 old:=h.old
 fz:=h.fz
 one:=h.one
 blk a ha:=by
  simp at ha
  by_cases e:b=a
  ·subst e;simp [BRel]
  ·rw [List.getElem_set_ne e,List.length_set];exact h.blk a ha
 low m hm a ha ham:=by
  simp at ha
  by_cases e:b=a
  ·subst e;simp [BRel]
  ·rw [List.getElem_set_ne e];exact h.low m hm a ha ham
 own a ha hl:=by obtain⟨_,h1,h2⟩:=live_set_dead ha hl;exact h.own a h1 h2
 gl:=h.gl
 fzB:=h.fzB
 inj a c ha hc hla hlc e:=by
  obtain⟨_,h1,h2⟩:=live_set_dead ha hla
  obtain⟨_,h3,h4⟩:=live_set_dead hc hlc
  exact h.inj a c h1 h3 h2 h4 e
theorem WRel.add (h:WRel B W0 L F r H w) (hL:∀ m,L m→m≤H.length) {w':World} (hw:∀ k,k<w.heap.size→(∃ a,∃ ha:a<H.length,H[a].live=true∧(r a).blk=k)∨(∃ o v,F k o=some v)∨k<B→w'.heap[k]? = w.heap[k]?)
  (hsz:w.heap.size≤w'.heap.size) (hos:w'.os=w.os) (htape:w'.tape=w.tape) (hout:w'.output=w.output)
  (blk:Blk) (l:Loc) (hb:BRel F (upd r H.length l) (H.length+1) w' H.length blk) (hB:blk.live=true→B≤l.blk) (hne:blk.live=true→∀ a (ha:a<H.length),H[a].live=true→(r a).blk≠l.blk) :
  WRel B W0 L F (upd r H.length l) (H++[blk]) w' where
 os:=hos.trans h.os
 tape:=htape.trans h.tape
 output:=hout.trans h.output
 size:=Nat.le_trans h.size hsz
 old k hk:=(hw k (Nat.lt_of_lt_of_le hk h.size) (.inr (.inr hk))).trans (h.old k hk)
 fz b o v hv:=by
  have hc:=h.fz b o v hv
  rw [cell_keep (hw b (cell_lt hc) (.inr (.inl ⟨o,v,hv⟩)))];exact hc
 one:=h.one
 blk b hb':=by
  simp at hb'
  by_cases e:b=H.length
  ·subst e;simpa using hb
  ·have hlt:b<H.length:=by omega
   rw [List.getElem_append_left hlt]
   exact (h.blk b hlt).keep (Fz.le_refl F) (upd_le _ _ _) (by simp) (upd_other _ _ e) (λhl=>⟨hw _ ((h.blk b hlt).lt hl) (.inl ⟨b,hlt,hl,rfl⟩),λ_ x=>x⟩)
 low m hm b hb' hbm:=by
  have hlt:b<H.length:=Nat.lt_of_lt_of_le hbm (hL m hm)
  rw [List.getElem_append_left hlt]
  exact (h.low m hm b hlt hbm).keep (Fz.le_refl F) (λx hx=>upd_other _ _ (by have:=hL m hm;omega)) (Nat.le_refl _) (upd_other _ _ (by omega)) (λhl=>⟨hw _ ((h.blk b hlt).lt hl) (.inl ⟨b,hlt,hl,rfl⟩),λ_ x=>x⟩)
 own b hb' hl:=by
  simp at hb'
  by_cases e:b=H.length
  ·subst e;simp at hl;rw [upd_same];exact hB hl
  ·have hlt:b<H.length:=by omega
   rw [List.getElem_append_left hlt] at hl
   rw [upd_other _ _ e];exact h.own b hlt hl
 gl:=h.gl
 fzB:=h.fzB
 inj a c ha hc hla hlc e:=by
  simp at ha hc
  by_cases ea:a=H.length <;> by_cases ec:c=H.length
  ·omega
  ·have hlt:c<H.length:=by omega
   subst ea
   rw [List.getElem_append_left hlt] at hlc
   simp at hla
   rw [upd_same,upd_other _ _ ec] at e
   exact absurd e.symm (hne hla c hlt hlc)
  ·have hlt:a<H.length:=by omega
   subst ec
   rw [List.getElem_append_left hlt] at hla
   simp at hlc
   rw [upd_same,upd_other _ _ ea] at e
   exact absurd e (hne hlc a hlt hla)
  ·have h1:a<H.length:=by omega
   have h2:c<H.length:=by omega
   rw [List.getElem_append_left h1] at hla
   rw [List.getElem_append_left h2] at hlc
   rw [upd_other _ _ ea,upd_other _ _ ec] at e
   exact h.inj a c h1 h2 hla hlc e
theorem WRel.fz_lt (h:WRel B W0 L F r H w) {b o:Nat} {v:Value} (hv:F b o=some v):b<w.heap.size:=cell_lt (h.fz b o v hv)
theorem WRel.fz_new (h:WRel B W0 L F r H w) (o:Nat):F w.heap.size o=none:=by
 cases hv:F w.heap.size o with
 | none=>rfl
 | some v=>exact absurd (h.fz_lt hv) (Nat.lt_irrefl _)
theorem WRel.pushAny (h:WRel B W0 L F r H w) (hL:∀ m,L m→m≤H.length) {cs:List IV} {c:Array Value} (T:Nat) (hlen:cs.length≤c.size)
  (hv:∀ j (hj:j<cs.length),VRel F r H.length cs[j] (c.getD j undef)) (h1:∀ j,j<cs.length→(c.getD j undef).oneCell'=true) :
  WRel B W0 L F (upd r H.length ⟨w.heap.size,0,c.size,false⟩) (H++[.cells T cs]) (w.alloc (.cells c (T / 2))):=by
 refine h.add hL (λk hk _=>(Later.alloc w _).block k hk) (Later.alloc w _).size rfl rfl rfl (.cells T cs) _ ?_ (λ_=>h.size) (λ_ a ha hl e=>?_)
 ·refine⟨c,(0,0),?_,?_,?_,?_,?_,?_⟩
  ·rw [upd_same];show (w.heap.push _)[_]? = _;simp
  ·rw [upd_same];simp
  ·rw [upd_same];exact hlen
  ·intro j hj;rw [upd_same];simp only [Nat.zero_add];exact⟨(hv j hj).mono (Fz.le_refl F) (upd_le _ _ _) (by simp),h1 j hj⟩
  ·intro o _ ⟨_,h2⟩;simp at h2
  ·intro o;rw [upd_same];exact h.fz_new o
 ·have:=(h.blk a ha).lt hl;rw [e] at this;exact absurd this (Nat.lt_irrefl _)
theorem WRel.pushCells (h:WRel B W0 L F r H w) (hL:∀ m,L m→m≤H.length) {cs:List IV} {c:Array Value} (T:Nat) (hlen:cs.length≤c.size)
  (hv:∀ j (hj:j<cs.length),VRel F r H.length cs[j] (c.getD j undef)) (h1:∀ j,j<cs.length→(c.getD j undef).oneCell'=true) :
  WRel B W0 L F (upd r H.length ⟨w.heap.size,0,c.size,false⟩) (H++[.cells (2*T) cs]) (w.alloc (.cells c T)):=by
 have:=h.pushAny hL (2*T) hlen hv h1
 rwa [show 2*T / 2=T by omega] at this
theorem WRel.pushVar (h:WRel B W0 L F r H w) (hL:∀ m,L m→m≤H.length) {cs:List IV} {c:Array Value} (T:Nat) (hlen:cs.length≤c.size)
  (hv:∀ j (hj:j<cs.length),VRel F r H.length cs[j] (c.getD j undef)) (h1:∀ j,j<cs.length→(c.getD j undef).oneCell'=true) :
  WRel B W0 L F (upd r H.length ⟨w.heap.size,0,c.size,false⟩) (H++[.cells (2*T+1) cs]) (w.alloc (.cells c T)):=by
 have:=h.pushAny hL (2*T+1) hlen hv h1
 rwa [show (2*T+1) / 2=T by omega] at this
theorem heap_setCell (w:World) (R o:Nat) (v:Value) {c:Array Value} {T:TypeId} {z:Nat×Nat} (h:w.heap[R]? = some (.cells c T z)) :
  (w.setCell ⟨R,o,none⟩ v).heap[R]? = some (.cells (c.setIfInBounds o v) T z):=by
 simp [World.setCell,Array.getElem?_modify,h]
theorem heap_setCell_ne (w:World) (R o k:Nat) (v:Value) (h:k≠R):(w.setCell ⟨R,o,none⟩ v).heap[k]? = w.heap[k]?:=by
 simp only [World.setCell,Array.getElem?_modify]
 rw [if_neg (by omega)]
theorem getElem_of_get? {α:Type} {l:List α} {i:Nat} {x:α} (h:l[i]? = some x):∃ hi:i<l.length,l[i]=x:=by
 rw [List.getElem?_eq_some_iff] at h;exact h
theorem list_set_get {α:Type} (l:List α) (i j:Nat) (x:α) (hj:j<(l.set i x).length) :
  (l.set i x)[j]=if i=j then x else l[j]'(by simpa using hj):=by
 rw [List.getElem_set]
theorem WRel.set1 (h:WRel B W0 L F r H w) {b off:Nat} {T:Nat} {cs:List IV} (hH:H[b]? = some (.cells T cs)) (hoff:off<cs.length) {v:IV} {v':Value} (hv:VRel F r H.length v v') (hone:v'.oneCell'=true)
  (hlow:∀ m,L m→b<m→VRel F r m v v') :
  WRel B W0 L F r (H.set b (.cells T (cs.set off v))) (w.setCell ⟨(r b).blk,(r b).base+off,none⟩ v'):=by
 obtain⟨hb,hHb⟩:=getElem_of_get? hH
 have hlive:H[b].live=true:=by rw [hHb];rfl
 have hB:=h.own b hb hlive
 have hbr:=h.blk b hb
 rw [hHb] at hbr
 obtain⟨c,z,h1,h2,h3,h4,h5,h6⟩:=hbr
 have hw:∀ k,k≠(r b).blk→(w.setCell ⟨(r b).blk,(r b).base+off,none⟩ v').heap[k]? = w.heap[k]?:=λk hk=>heap_setCell_ne _ _ _ _ _ hk
 have hnew:=heap_setCell w (r b).blk ((r b).base+off) v' h1
 have key:∀ n,(∀ j (hj:j<cs.length),VRel F r n cs[j] (c.getD ((r b).base+j) undef)∧(c.getD ((r b).base+j) undef).oneCell'=true)→VRel F r n v v' →
   BRel F r n (w.setCell ⟨(r b).blk,(r b).base+off,none⟩ v') b (.cells T (cs.set off v)):=by
  intro n hc hvn
  refine⟨_,z,hnew,by simpa using h2,by simpa using h3,?_,by simpa using h5,h6⟩
  intro j hj
  have hj':j<cs.length:=by simpa using hj
  rw [list_set_get]
  by_cases e:off=j
  ·subst e
   have:(r b).base+off<c.size:=by omega
   simp [this,hvn,hone]
  ·rw [if_neg e]
   have e2:(r b).base+off≠(r b).base+j:=by omega
   have:=hc j hj'
   simp only [Array.getD_eq_getD_getElem?] at this ⊢
   rw [Array.getElem?_setIfInBounds_ne e2];exact this
 refine⟨h.os,h.tape,h.output,?_,?_,?_,?_,?_,?_,?_,h.gl,h.fzB,?_⟩
 ·simpa using h.size
 ·intro k hk;rw [hw k (by omega)];exact h.old k hk
 ·intro b' o x hx
  have hne:b'≠(r b).blk:=λe=>by subst e;rw [h6 o] at hx;cases hx
  rw [cell_keep (hw b' hne)];exact h.fz b' o x hx
 ·exact h.one
 ·intro a ha
  have ha':a<H.length:=by simpa using ha
  by_cases e:b=a
  ·subst e;rw [List.getElem_set_self];simp only [List.length_set];exact key _ h4 hv
  ·rw [List.getElem_set_ne e];simp only [List.length_set]
   exact (h.blk a ha').keep (Fz.le_refl F) (Rm.le_refl _ r) (Nat.le_refl _) rfl (λhl=>⟨hw _ (λe'=>e (h.inj b a hb ha' hlive hl e'.symm)),λ_ x=>x⟩)
 ·intro m hm a ha ham
  have ha':a<H.length:=by simpa using ha
  rw [list_set_get]
  by_cases e:b=a
  ·subst e
   rw [if_pos rfl]
   have hlo:=h.low m hm b hb ham
   rw [hHb] at hlo
   obtain⟨c',z',g1,_,_,g4,_⟩:=hlo
   rw [h1] at g1
   obtain⟨rfl,rfl⟩:c=c'∧z=z':=by simpa using g1
   exact key m g4 (hlow m hm ham)
  ·rw [if_neg e]
   exact (h.low m hm a ha' ham).keep (Fz.le_refl F) (Rm.le_refl _ r) (Nat.le_refl _) rfl (λhl=>⟨hw _ (λe'=>e (h.inj b a hb ha' hlive hl e'.symm)),λ_ x=>x⟩)
 ·intro a ha hl
  have ha':a<H.length:=by simpa using ha
  rw [list_set_get] at hl
  by_cases e:b=a
  ·subst e;exact hB
  ·rw [if_neg e] at hl;exact h.own a ha' hl
 ·intro a d ha hd hla hld e
  have ha':a<H.length:=by simpa using ha
  have hd':d<H.length:=by simpa using hd
  rw [list_set_get] at hla hld
  have la:H[a].live=true:=by
   by_cases e:b=a
   ·subst e;exact hlive
   ·rw [if_neg e] at hla;exact hla
  have ld:H[d].live=true:=by
   by_cases e:b=d
   ·subst e;exact hlive
   ·rw [if_neg e] at hld;exact hld
  exact h.inj a d ha' hd' la ld e
theorem WRel.cell (h:WRel B W0 L F r H w) {b off:Nat} {T:Nat} {cs:List IV} (hH:H[b]? = some (.cells T cs)) (hoff:off<cs.length) :
  ∃ v,w.cell? ⟨(r b).blk,(r b).base+off,none⟩=some v∧VRel F r H.length cs[off] v∧w.frozen? ⟨(r b).blk,(r b).base+off,none⟩=false∧v.oneCell'=true:=by
 obtain⟨hb,hHb⟩:=getElem_of_get? hH
 have hbr:=h.blk b hb
 rw [hHb] at hbr
 obtain⟨c,z,h1,h2,h3,h4,h5,h6⟩:=hbr
 have hlt:(r b).base+off<c.size:=by omega
 refine⟨c[(r b).base+off],?_,?_,?_,?_⟩
 ·rw [cell_of h1];simp [hlt]
 ·have:=(h4 off hoff).1;simpa [hlt] using this
 ·have:=h5 _ (.inr hlt)
  obtain⟨z1,z2⟩:=z
  simp [World.frozen?,h1]
  intro hz
  have:=h5 _ (.inr hlt)
  simp at this
  omega
 ·have:=(h4 off hoff).2;simpa [hlt] using this
theorem WRel.fcell (h:WRel B W0 L F r H w) {b off:Nat} {cs:List D} (hH:H[b]? = some (.frz cs)) (hoff:off<cs.length) :
  ∃ v,w.cell? ⟨(r b).blk,(r b).base+off,none⟩=some v∧F (r b).blk ((r b).base+off)=some v∧DRel F cs[off] v:=by
 obtain⟨hb,hHb⟩:=getElem_of_get? hH
 have hbr:=h.blk b hb
 rw [hHb] at hbr
 obtain⟨c,h1,h2⟩:=hbr
 exact⟨c off,h.fz _ _ _ (h1 off hoff),h1 off hoff,h2 off hoff⟩
theorem WRel.freeze (h:WRel B W0 L F r H w) {b:Nat} {T:Nat} {cs:List IV} (hH:H[b]? = some (.cells T cs)) (l:List D) (hlen:l.length=cs.length)
  (hl:∀ v:Nat→Value,(∀ j (hj:j<cs.length),w.cell? ⟨(r b).blk,(r b).base+j,none⟩=some (v j))→∀ j (hj:j<l.length),DRel F l[j] (v j)) :
  ∃ F',F.le F'∧WRel B W0 L F' r (H.set b (.frz l)) w:=by
 obtain⟨hb,hHb⟩:=getElem_of_get? hH
 have hlive:H[b].live=true:=by rw [hHb];rfl
 have hbr:=h.blk b hb
 rw [hHb] at hbr
 obtain⟨c,z,h1,h2,h3,h4,h5,h6⟩:=hbr
 let F':Fz:=λk o=>if k=(r b).blk then (if (r b).base≤o∧o<(r b).base+cs.length then c[o]? else none) else F k o
 have hle:F.le F':=by
  intro k o v hv
  by_cases e:k=(r b).blk
  ·subst e;rw [h6 o] at hv;cases hv
  ·simp [F',e,hv]
 have hcell:∀ j (hj:j<cs.length),w.cell? ⟨(r b).blk,(r b).base+j,none⟩=some (c.getD ((r b).base+j) undef):=by
  intro j hj
  have hlt:(r b).base+j<c.size:=by omega
  rw [cell_of h1];simp [hlt]
 have hfr:∀ n,BRel F' r n w b (.frz l):=by
  intro n
  refine⟨λj=>c.getD ((r b).base+j) undef,λj hj=>?_,λj hj=>((hl _ hcell) j hj).mono hle⟩
  have hlt:(r b).base+j<c.size:=by omega
  have h0:j<cs.length:=by omega
  simp [F',h0,hlt]
 refine⟨F',hle,h.os,h.tape,h.output,h.size,h.old,?_,?_,?_,?_,?_,λg j hj=>(by obtain⟨v,g1,g2⟩:=h.gl g j hj;exact⟨v,hle _ _ _ g1,g2.mono hle⟩),
  λk o v hv=>(by
   by_cases e:k=(r b).blk
   ·exact .inr (e ▸ h.own b hb hlive)
   ·simp only [F',if_neg e] at hv;exact h.fzB k o v hv),?_⟩
 ·intro k o v hv
  by_cases e:k=(r b).blk
  ·subst e
   simp only [F',if_true] at hv
   split at hv
   ·rw [cell_of h1];exact hv
   ·cases hv
  ·simp only [F',if_neg e] at hv;exact h.fz k o v hv
 ·intro k o v hv
  by_cases e:k=(r b).blk
  ·subst e
   simp only [F',if_true] at hv
   split at hv
   ·rename_i ho
    have:=(h4 (o - (r b).base) (by omega)).2
    rw [show (r b).base+(o - (r b).base)=o by omega] at this
    simpa [Array.getD_eq_getD_getElem?,hv] using this
   ·cases hv
  ·simp only [F',if_neg e] at hv;exact h.one k o v hv
 ·intro a ha
  have ha':a<H.length:=by simpa using ha
  by_cases e:b=a
  ·subst e;rw [List.getElem_set_self];exact hfr _
  ·rw [List.getElem_set_ne e];simp only [List.length_set]
   exact (h.blk a ha').keep hle (Rm.le_refl _ r) (Nat.le_refl _) rfl (λhla=>⟨rfl,λo x=>by
    have:(r a).blk≠(r b).blk:=λe'=>e (h.inj b a hb ha' hlive hla e'.symm)
    simp [F',this,x]⟩)
 ·intro m hm a ha ham
  have ha':a<H.length:=by simpa using ha
  rw [list_set_get]
  by_cases e:b=a
  ·subst e;rw [if_pos rfl];exact hfr _
  ·rw [if_neg e]
   exact (h.low m hm a ha' ham).keep hle (Rm.le_refl _ r) (Nat.le_refl _) rfl (λhla=>⟨rfl,λo x=>by
    have:(r a).blk≠(r b).blk:=λe'=>e (h.inj b a hb ha' hlive hla e'.symm)
    simp [F',this,x]⟩)
 ·intro a ha hla
  have ha':a<H.length:=by simpa using ha
  rw [list_set_get] at hla
  by_cases e:b=a
  ·subst e;simp [Blk.live] at hla
  ·rw [if_neg e] at hla;exact h.own a ha' hla
 ·intro a d ha hd hla hld e
  have ha':a<H.length:=by simpa using ha
  have hd':d<H.length:=by simpa using hd
  rw [list_set_get] at hla hld
  have la:H[a].live=true:=by
   by_cases e:b=a
   ·subst e;simp [Blk.live] at hla
   ·rw [if_neg e] at hla;exact hla
  have ld:H[d].live=true:=by
   by_cases e:b=d
   ·subst e;simp [Blk.live] at hld
   ·rw [if_neg e] at hld;exact hld
  exact h.inj a d ha' hd' la ld e
theorem WRel.turn (h:WRel B W0 L F r H w) {b:Nat} (hb:b<H.length) (hlive:H[b].live=true) (hF:∀ o,F (r b).blk o=none) (nb:Blk) {w':World} (hw:∀ k,k≠(r b).blk→w'.heap[k]? = w.heap[k]?)
  (hsz:w.heap.size≤w'.heap.size) (hos:w'.os=w.os) (htape:w'.tape=w.tape) (hout:w'.output=w.output)
  (hnew:BRel F r H.length w' b nb) (hlow:∀ m,L m→b<m→BRel F r m w' b nb):WRel B W0 L F r (H.set b nb) w':=by
 have hB:=h.own b hb hlive
 refine⟨hos.trans h.os,htape.trans h.tape,hout.trans h.output,Nat.le_trans h.size hsz,?_,?_,h.one,?_,?_,?_,h.gl,h.fzB,?_⟩
 ·intro k hk;rw [hw k (by omega)];exact h.old k hk
 ·intro b' o x hx
  have hne:b'≠(r b).blk:=λe=>by subst e;rw [hF o] at hx;cases hx
  rw [cell_keep (hw b' hne)];exact h.fz b' o x hx
 ·intro a ha
  have ha':a<H.length:=by simpa using ha
  by_cases e:b=a
  ·subst e;rw [List.getElem_set_self];simp only [List.length_set];exact hnew
  ·rw [List.getElem_set_ne e];simp only [List.length_set]
   exact (h.blk a ha').keep (Fz.le_refl F) (Rm.le_refl _ r) (Nat.le_refl _) rfl (λhl=>⟨hw _ (λe'=>e (h.inj b a hb ha' hlive hl e'.symm)),λ_ x=>x⟩)
 ·intro m hm a ha ham
  have ha':a<H.length:=by simpa using ha
  rw [list_set_get]
  by_cases e:b=a
  ·subst e;rw [if_pos rfl];exact hlow m hm ham
  ·rw [if_neg e]
   exact (h.low m hm a ha' ham).keep (Fz.le_refl F) (Rm.le_refl _ r) (Nat.le_refl _) rfl (λhl=>⟨hw _ (λe'=>e (h.inj b a hb ha' hlive hl e'.symm)),λ_ x=>x⟩)
 ·intro a ha hl
  have ha':a<H.length:=by simpa using ha
  rw [list_set_get] at hl
  by_cases e:b=a
  ·subst e;exact hB
  ·rw [if_neg e] at hl;exact h.own a ha' hl
 ·intro a d ha hd hla hld e
  have ha':a<H.length:=by simpa using ha
  have hd':d<H.length:=by simpa using hd
  rw [list_set_get] at hla hld
  have la:H[a].live=true:=by
   by_cases e:b=a
   ·subst e;exact hlive
   ·rw [if_neg e] at hla;exact hla
  have ld:H[d].live=true:=by
   by_cases e:b=d
   ·subst e;exact hlive
   ·rw [if_neg e] at hld;exact hld
  exact h.inj a d ha' hd' la ld e
end
end Go.Tg
namespace Go.Tg
variable [Globs]
structure Ext (ro:Nat) (F:Fz) (r:Rm) (H:Hp) (F':Fz) (r':Rm) (H':Hp):Prop where
 F:F.le F'
 r:Rm.le H.length r r'
 len:H.length≤H'.length
 ro:∀ b,b<ro→H'[b]? = H[b]?
theorem Ext.refl (ro:Nat) (F:Fz) (r:Rm) (H:Hp):Ext ro F r H F r H:=⟨Fz.le_refl F,Rm.le_refl _ r,Nat.le_refl _,λ_ _=>rfl⟩
theorem Ext.trans {ro:Nat} {F F' F'':Fz} {r r' r'':Rm} {H H' H'':Hp} (h:Ext ro F r H F' r' H') (h':Ext ro F' r' H' F'' r'' H''):Ext ro F r H F'' r'' H'':=
 ⟨Fz.le_trans h.F h'.F,Rm.le_trans h.r h'.r h.len,Nat.le_trans h.len h'.len,λb hb=>(h'.ro b hb).trans (h.ro b hb)⟩
theorem VRel.ext {ro:Nat} {F F':Fz} {r r':Rm} {H H':Hp} (h:Ext ro F r H F' r' H') {v:IV} {v':Value} (hv:VRel F r H.length v v'):VRel F' r' H'.length v v':=hv.mono h.F h.r h.len
theorem Vs.ext {ro:Nat} {F F':Fz} {r r':Rm} {H H':Hp} (h:Ext ro F r H F' r' H') {v:List IV} {v':Array Value} (hv:Vs F r H.length v v'):Vs F' r' H'.length v v':=hv.mono h.F h.r h.len
def Goes (P:Program) (o:Oper) (a:Act) (w:World) (K:Act→World→Prop) (Q:Exit→Act→World→Prop):Prop:=o.wp P a w K Q∨(o.asks P a w∧LetsOut Q)
theorem Goes.val {P:Program} {o:Oper} {a:Act} {w:World} {K:Act→World→Prop} {Q:Exit→Act→World→Prop} {v:Value} {w':World}
  (h:(execOp a.eval o).run P w=.ok (.value v) w') (hk:K (a.put o.dst v) w'):Goes P o a w K Q:=by
 left;unfold Oper.wp;rw [h];exact hk
theorem Goes.skip {P:Program} {o:Oper} {a:Act} {w:World} {K:Act→World→Prop} {Q:Exit→Act→World→Prop} {w':World}
  (h:(execOp a.eval o).run P w=.ok .skip w') (hk:K (a.put o.dst undef) w'):Goes P o a w K Q:=by
 left;unfold Oper.wp;rw [h];exact hk
theorem Vs.getD {F:Fz} {r:Rm} {n:Nat} {e:List IV} {vs:Array Value} (h:Vs F r n e vs) (t:Nat):VRel F r n (e.getD t .un) (vs.getD t undef):=by
 by_cases ht:t<e.length
 ·have:=h.2 t ht
  simpa [List.getD_eq_getElem?_getD,ht] using this
 ·have:e.getD t .un=.un:=by simp [List.getD_eq_getElem?_getD,List.getElem?_eq_none (Nat.le_of_not_lt ht)]
  rw [this];exact .un _
theorem Vs.nil {F:Fz} {r:Rm} {n:Nat}:Vs F r n [] #[]:=⟨rfl,λi hi=>by simp at hi⟩
theorem rel_ofC {F:Fz} {r:Rm} {n:Nat} (v:Value):VRel F r n (ofC v) v:=by
 unfold ofC
 split <;> first
  | exact .d (.bool _) | exact .d (.int _ _) | exact .d (.str _) | exact .nul | exact .vnil | exact .nomap | exact .nofn | exact .noifc
  | (
    split
    ·rename_i h;exact .tup _ _ h (λi hi=>by simp at hi)
    ·exact .un _)
  | exact .un _
theorem rel_ev {F:Fz} {r:Rm} {n:Nat} {e:Env} {a:Act} (h:Vs F r n e a.tmps) (x:Operand):VRel F r n (ev e x) (a.eval x):=by
 cases x with
 | tmp t=>exact h.getD t
 | const v=>exact rel_ofC v
 | global g=>exact .un _
 | func f=>exact .fn f [] [] #[] #[] rfl rfl (λi hi=>by simp at hi) (λi hi=>by simp at hi)
theorem Vs.put {F:Fz} {r:Rm} {n:Nat} {e:Env} {a:Act} (h:Vs F r n e a.tmps) (dst:Option Tmp) {v:IV} {v':Value} (hv:VRel F r n v v'):Vs F r n (put e dst v) (a.put dst v').tmps:=by
 cases dst with
 | none=>exact h
 | some d=>
  refine⟨by simpa [Tg.put,Act.put] using h.1,λi hi=>?_⟩
  have hi':i<e.length:=by simpa [Tg.put] using hi
  simp only [Tg.put,Act.put]
  rw [List.getElem_set]
  by_cases hd:d=i
  ·subst hd
   have:d<a.tmps.size:=by rw [h.1];exact hi'
   simp [this,hv]
  ·have:=h.2 i hi'
   rw [if_neg hd]
   simp only [Array.getD_eq_getD_getElem?] at this ⊢
   rw [Array.getElem?_setIfInBounds_ne hd];exact this
theorem vs_map {F:Fz} {r:Rm} {n:Nat} {e:Env} {a:Act} (h:Vs F r n e a.tmps) (xs:Array Operand):Vs F r n (xs.toList.map (ev e)) (xs.map a.eval):=by
 refine⟨by simp,λi hi=>?_⟩
 have hi':i<xs.size:=by simpa using hi
 have:(xs.map a.eval).getD i undef=a.eval xs[i]:=by simp [Array.getD_eq_getD_getElem?,hi']
 rw [this]
 simpa using rel_ev h xs[i]
theorem VRel.cells {F:Fz} {r:Rm} {n:Nat} {v:IV} {v':Value} (h:VRel F r n v v') (h1:v.cells.all IV.one=true):Vs F r n v.cells v'.cells:=by
 have one:∀ {x:IV} {x':Value},VRel F r n x x'→x.cells=[x]→x'.cells=#[x']→Vs F r n x.cells x'.cells:=by
  intro x x' hx e1 e2
  rw [e1,e2]
  refine⟨rfl,λi hi=>?_⟩
  have:i=0:=by simp at hi;omega
  subst this;simpa using hx
 cases h with
 | d h=>
  cases h with
  | agg cs vs hl h=>exact⟨by simpa [IV.cells,D.cells,Value.cells] using hl,λi hi=>by
    have hi':i<cs.length:=by simpa [IV.cells,D.cells] using hi
    simpa [IV.cells,D.cells,Value.cells] using VRel.d (h i hi')⟩
  | bool b=>exact one (.d (.bool b)) rfl rfl
  | int k n=>exact one (.d (.int k n)) rfl rfl
  | str s=>exact one (.d (.str s)) rfl rfl
  | nil a cap=>exact one (.d (.nil a cap)) rfl rfl
  | lst els bl off cap sz c a1 a2 a3 a4=>exact one (.d (.lst els bl off cap sz c a1 a2 a3 a4)) rfl rfl
 | un v=>simp [IV.cells,IV.one] at h1
 | no=>simp [IV.cells,IV.one] at h1
 | agg cs vs hl h=>exact⟨hl,h⟩
 | tup cs vs hl h=>simp [IV.cells,IV.one] at h1
 | nul=>exact one .nul rfl rfl
 | ptr b off hb=>exact one (.ptr b off hb) rfl rfl
 | vnil=>exact one .vnil rfl rfl
 | emp a=>exact one (.emp a) rfl rfl
 | vec b sz off len cap a1 a2 a3 a4=>exact one (.vec b sz off len cap a1 a2 a3 a4) rfl rfl
 | vec0 b sz off o hb a1 a2=>exact one (.vec0 b sz off o hb a1 a2) rfl rfl
 | lptr cs off bl o c a1 a2=>exact one (.lptr cs off bl o c a1 a2) rfl rfl
 | fn f l1 l2 v1 v2 h1' h2 g1 g2=>exact one (.fn f l1 l2 v1 v2 h1' h2 g1 g2) rfl rfl
 | nofn=>exact one .nofn rfl rfl
 | map b hb=>exact one (.map b hb) rfl rfl
 | nomap=>exact one .nomap rfl rfl
 | ifc t h=>exact one (.ifc t h) rfl rfl
 | noifc=>exact one .noifc rfl rfl
theorem VRel.one {F:Fz} {r:Rm} {n:Nat} {v:IV} {v':Value} (h:VRel F r n v v') (h1:v.one=true):v'.oneCell'=true:=by
 cases h with
 | d h=>cases h <;> first | rfl | simp [IV.one] at h1
 | un=>simp [IV.one] at h1
 | no=>simp [IV.one] at h1
 | agg=>simp [IV.one] at h1
 | tup=>simp [IV.one] at h1
 | _=>rfl
theorem rel_ofZ {F:Fz} {r:Rm} {n:Nat}:∀ (k:Nat) (v:Value) (x:IV),ofZ k v=some x→VRel F r n x v:=by
 intro k
 induction k with
 | zero=>intro v x h;simp [ofZ] at h
 | succ k ih=>
  intro v x h
  unfold ofZ at h
  split at h
  ·cases h
  ·simp at h;subst h;exact .d (.bool _)
  ·simp at h;subst h;exact .d (.int _ _)
  ·simp at h;subst h;exact .d (.str _)
  ·simp at h;subst h;exact .nul
  ·simp at h;subst h;exact .vnil
  ·simp at h;subst h;exact .nomap
  ·simp at h;subst h;exact .nofn
  ·simp at h;subst h;exact .noifc
  ·rename_i n' cs heq
   have hn:n'=k:=by omega
   subst hn
   simp only [Option.map_eq_some_iff] at h
   obtain⟨l,hl,rfl⟩:=h
   have key:∀ (cs:List Value) (l:List IV),cs.mapM (ofZ n')=some l→l.length=cs.length∧∀ i (hi:i<l.length),VRel F r n l[i] (cs.getD i undef):=by
    intro cs
    induction cs with
    | nil=>intro l hl;simp at hl;subst hl;exact⟨rfl,λi hi=>by simp at hi⟩
    | cons c cs ihc=>
     intro l hl
     simp only [List.mapM_cons,Option.bind_eq_bind,Option.bind_eq_some_iff,Option.pure_def,Option.some.injEq] at hl
     obtain⟨x,hx,xs,hxs,rfl⟩:=hl
     obtain⟨e1,e2⟩:=ihc xs hxs
     refine⟨by simp [e1],λi hi=>?_⟩
     cases i with
     | zero=>simpa using ih _ _ hx
     | succ i=>simpa using e2 i (by simpa using hi)
   obtain⟨e1,e2⟩:=key _ _ hl
   exact .agg _ _ (by simpa using e1.symm) (λi hi=>by simpa [Array.getD_eq_getD_getElem?,List.getD_eq_getElem?_getD] using e2 i hi)
  ·cases h
section
variable {P:Program} {F:Fz} {r:Rm} {n:Nat}
theorem run_v {w w':World} {s:Sem Value} {x:Value} (h:s.run P w=.ok x w'):((do pure (Next.value (← s))):Sem Next).run P w=.ok (.value x) w':=by simp [h]
theorem run_eqGuard (w:World) (op:BinOp) (t:TypeId) (X Y:Operand) (a b:Value) (hg:P.eqGuardType P.depth t=false) (hn:a≠.nilIface):(eqGuard op t X Y a b).run P w=.ok () w:=by
 unfold eqGuard
 cases op <;> first
  | rfl
  | (
    simp only [Bool.not_true,Bool.false_eq_true,if_false]
    split
    ·exact absurd rfl hn
    ·simp [hg]
    ·rfl)
theorem run_eqGuard_plain (w:World) (op:BinOp) (t:TypeId) (X Y:Operand) (a b:Value) (ha:a≠.nilIface) (hb:∀ cs,a≠.agg cs):(eqGuard op t X Y a b).run P w=.ok () w:=by
 unfold eqGuard
 cases op <;> first
  | rfl
  | (
    simp only [Bool.not_true,Bool.false_eq_true,if_false]
    split
    ·exact absurd rfl ha
    ·exact absurd rfl (hb _)
    ·rfl)
theorem run_isAgg (w:World) {t:TypeId} {b:Bool} (h:isAggT P t=some b):(isAgg t).run P w=.ok b w:=by
 unfold isAggT at h
 split at h
 ·rename_i x hu;simp at h;subst h;simp [isAgg,run_underlying hu]
 ·rename_i x y hu;simp at h;subst h;simp [isAgg,run_underlying hu]
 ·rename_i d h1 h2 hu
  simp at h;subst h
  simp only [isAgg,Sem.run_bind,run_underlying hu,Result.andThen_ok]
  rfl
 ·cases h
theorem run_sizeOf (w:World) {t:TypeId} {k:Nat} (h:sizeT P t=some k):(sizeOf t).run P w=.ok k w:=by
 unfold sizeT at h
 simp only [Option.map_eq_some_iff] at h
 obtain⟨i,hi,rfl⟩:=h
 simp [sizeOf,typeInfo,hi]
theorem aggCells_rel {x:IV} {x':Value} {xs:List IV} (h:aggCells x=some xs) (hx:VRel F r n x x'):∃ vs,x'=.agg vs∧Vs F r n xs vs:=by
 unfold aggCells at h
 split at h
 ·simp at h;subst h
  cases hx with
  | agg cs vs hl g=>exact⟨vs,rfl,hl,g⟩
 ·simp at h;subst h
  cases hx with
  | d hd=>
   cases hd with
   | agg cs vs hl g=>exact⟨vs,rfl,by simpa using hl,λi hi=>by
     simpa using VRel.d (g i (by simpa using hi))⟩
 ·cases h
theorem Vs.cut {l:List IV} {vs:Array Value} (h:Vs F r n l vs) (off k:Nat) (hk:off+k≤l.length):Vs F r n ((l.drop off).take k) (vs.extract off (off+k)):=by
 have hs:=h.1
 refine⟨by simp;omega,λi hi=>?_⟩
 have hi':i<k:=by simp at hi;omega
 have:=h.2 (off+i) (by omega)
 simp only [List.getElem_take,List.getElem_drop]
 have e:(vs.extract off (off+k)).getD i undef=vs.getD (off+i) undef:=by
  rw [Array.getD_eq_getD_getElem?,Array.getD_eq_getD_getElem?,Array.getElem?_extract,if_pos (by omega)]
 rw [e];exact this
theorem Vs.get {l:List IV} {vs:Array Value} (h:Vs F r n l vs) {i:Nat} {x:IV} (hx:l[i]? = some x):∃ v,vs[i]? = some v∧VRel F r n x v:=by
 obtain⟨hi,rfl⟩:=getElem_of_get? hx
 have:=h.2 i hi
 have hs:i<vs.size:=by rw [h.1];exact hi
 exact⟨vs[i],by simp [hs],by simpa [hs] using this⟩
theorem part_rel (w:World) {t:TypeId} {xs:List IV} {off:Nat} {y:IV} {vs:Array Value} (h:Tg.part P t xs off=some y) (hx:Vs F r n xs vs) :
  ∃ y',(Go.part t vs off).run P w=.ok y' w∧VRel F r n y y':=by
 unfold Tg.part at h
 split at h
 ·rename_i ha
  split at h
  ·rename_i k hk
   split at h
   ·rename_i hle
    simp at h;subst h
    have hc:=hx.cut off k hle
    exact⟨.agg (vs.extract off (off+k)),by simp [Go.part,run_isAgg w ha,run_sizeOf w hk],.agg _ _ hc.1 hc.2⟩
   ·cases h
  ·cases h
 ·rename_i ha
  obtain⟨v,hv,hr⟩:=hx.get h
  exact⟨v,by simp [Go.part,run_isAgg w ha,hv],hr⟩
 ·cases h
theorem ieq_rel (w:World):∀ (k d:Nat) (t:TypeId) (x y:IV) (x' y':Value) (b:Bool),k≤d→ieq P k t x y=some b→VRel F r n x x'→VRel F r n y y' →
  (Op.equalIn d t x' y').run P w=.ok b w:=by
 intro k
 induction k with
 | zero=>intro d t x y x' y' b _ h;simp [ieq] at h
 | succ k ih=>
  intro d t x y x' y' b hd h hx hy
  obtain⟨d,rfl⟩:∃ m,d=m+1:=⟨d - 1,by omega⟩
  unfold ieq at h
  split at h
  ·rename_i hu
   split at h
   ·simp at h;subst h
    cases hx with | d hx=>cases hy with | d hy=>cases hx;cases hy;simp [Op.equalIn,run_underlying hu]
   ·cases h
  ·rename_i k' hu
   split at h
   ·split at h
    ·rename_i k1 a k2 c hk
     simp at h;subst h
     cases hx with | d hx=>cases hy with | d hy=>cases hx;cases hy;simp [Op.equalIn,run_underlying hu,hk]
    ·cases h
   ·cases h
  ·rename_i hu
   split at h
   ·simp at h;subst h
    cases hx with | d hx=>cases hy with | d hy=>cases hx;cases hy;rw [run_equalIn_string w d t _ _ hu];simp [ByteArray.toList_eq]
   ·cases h
  ·rename_i e hu
   split at h
   ·simp at h;subst h;cases hx;cases hy;simp [Op.equalIn,run_underlying hu]
   ·simp at h;subst h;cases hx;cases hy;simp [Op.equalIn,run_underlying hu]
   ·simp at h;subst h;cases hx;cases hy;simp [Op.equalIn,run_underlying hu]
   ·split at h
    ·rename_i hc
     obtain⟨rfl,rfl,hsz⟩:=hc
     obtain⟨sz,hsz⟩:=Option.isSome_iff_exists.1 hsz
     simp at h;subst h;cases hx;cases hy
     simp [Op.equalIn,run_underlying hu,samePointer,sameAddr,run_sizeOf w hsz]
    ·cases h
   ·cases h
  ·rename_i hu
   split at h
   ·simp at h;subst h;cases hx;cases hy;simp [Op.equalIn,run_underlying hu]
   ·simp at h;subst h;cases hx;cases hy;simp [Op.equalIn,run_underlying hu]
   ·simp at h;subst h;cases hx;cases hy;simp [Op.equalIn,run_underlying hu]
   ·cases h
  ·rename_i fs hu
   split at h
   ·cases h
   ·rename_i hsi
    split at h
    ·rename_i xs ys hxs hys
     obtain⟨vx,rfl,hvx⟩:=aggCells_rel hxs hx
     obtain⟨vy,rfl,hvy⟩:=aggCells_rel hys hy
     have hfo:P.fieldsOf t=fs:=by simp [Program.fieldsOf,hu]
     rw [run_equalIn_struct w d t vx vy (by rw [hfo];exact hu) (by simpa using hsi),hfo]
     generalize fs.toList=l at h
     clear hu hfo
     induction l with
     | nil=>simp [ieqGo] at h;subst h;simp [Op.eqFields]
     | cons f l ihl=>
      rw [ieqGo] at h
      split at h
      ·rename_i hn;simp only [Op.eqFields,hn];simpa using ihl h
      ·rename_i hn
       simp only [Option.bind_eq_some_iff] at h
       obtain⟨pa,hpa,pb,hpb,q,hq,h⟩:=h
       obtain⟨pa',ra,va⟩:=part_rel w hpa hvx
       obtain⟨pb',rb,vb⟩:=part_rel w hpb hvy
       have hq':=ih d f.type pa pb pa' pb' q (by omega) hq va vb
       simp only [Op.eqFields,if_pos hn,Sem.run_bind,ra,rb,hq',Result.andThen_ok]
       cases q
       ·simp at h;subst h;simp
       ·simp only [Bool.not_true,Bool.false_eq_true,if_false];exact ihl (by simpa using h)
    ·cases h
  ·cases h
theorem ieq_noNil {k:Nat} {t:TypeId} {x y:IV} {x':Value} {b:Bool} (h:ieq P k t x y=some b) (hx:VRel F r n x x'):x'≠.nilIface:=by
 rintro rfl
 cases k with
 | zero=>simp [ieq] at h
 | succ k=>
  cases hx with
  | un=>
      unfold ieq at h;repeat (split at h <;> try cases h)
      all_goals (simp_all [aggCells])
  | noifc=>
        unfold ieq at h;repeat (split at h <;> try cases h)
        all_goals (simp_all [aggCells])
  | d hx=>cases hx
end
end Go.Tg
namespace Go.Tg
variable [Globs]
section
variable {P:Program} {F:Fz} {r:Rm} {n:Nat}
theorem rel_int {k:IntKind} {a:Int} {v:Value} (h:VRel F r n (.d (.int k a)) v):v=.int k a:=by
 cases h with | d h=>cases h;rfl
theorem rel_bool {b:Bool} {v:Value} (h:VRel F r n (.d (.bool b)) v):v=.bool b:=by
 cases h with | d h=>cases h;rfl
theorem rel_str {s:List UInt8} {v:Value} (h:VRel F r n (.d (.str s)) v):∃ t:ByteArray,v=.string t∧t.data.toList=s:=by
 cases h with | d h=>cases h with | str t=>exact⟨t,rfl,rfl⟩
theorem iInt_rel (w:World) {op:BinOp} {k:IntKind} {a b:Int} {z:IV} (h:iInt op k a b=some z) (t:TypeId) (hs:op≠.shl) (hs':op≠.shr) :
  ∃ z',(binOp op t (.int k a) (.int k b)).run P w=.ok z' w∧VRel F r n z z':=by
 have I:∀ m,VRel F r n (.d (.int k m)) (.int k m):=λm=>.d (.int k m)
 have Bo:∀ m,VRel F r n (.d (.bool m)) (.bool m):=λm=>.d (.bool m)
 cases op <;> simp only [iInt,ibits,Option.map_some,Option.some.injEq,reduceCtorEq] at h
 case quo=>
  split at h
  ·cases h
  ·rename_i hb;simp only [Option.some.injEq] at h;subst h;exact⟨.int k (k.wrap (a.tdiv b)),by simp [binOp,Op.intDiv,hb],I _⟩
 case rem=>
  split at h
  ·cases h
  ·rename_i hb;simp only [Option.some.injEq] at h;subst h;exact⟨.int k (a.tmod b),by simp [binOp,Op.intDiv,hb],I _⟩
 case add=>subst h;exact⟨_,by simp only [binOp,ne_eq,not_true,if_false,Op.intArith];rfl,I _⟩
 case sub=>subst h;exact⟨_,by simp only [binOp,ne_eq,not_true,if_false,Op.intArith];rfl,I _⟩
 case mul=>subst h;exact⟨_,by simp only [binOp,ne_eq,not_true,if_false,Op.intArith];rfl,I _⟩
 case and=>subst h;exact⟨_,by simp only [binOp,ne_eq,not_true,if_false,Op.intBits];rfl,I _⟩
 case or=>subst h;exact⟨_,by simp only [binOp,ne_eq,not_true,if_false,Op.intBits];rfl,I _⟩
 case xor=>subst h;exact⟨_,by simp only [binOp,ne_eq,not_true,if_false,Op.intBits];rfl,I _⟩
 case andNot=>subst h;exact⟨_,by simp only [binOp,ne_eq,not_true,if_false,Op.intBits];rfl,I _⟩
 case eql=>subst h;exact⟨_,by simp only [binOp,ne_eq,not_true,if_false,Op.intCmp];rfl,Bo _⟩
 case neq=>subst h;exact⟨_,by simp only [binOp,ne_eq,not_true,if_false,Op.intCmp];rfl,Bo _⟩
 case lss=>subst h;exact⟨_,by simp only [binOp,ne_eq,not_true,if_false,Op.intCmp];rfl,Bo _⟩
 case leq=>subst h;exact⟨_,by simp only [binOp,ne_eq,not_true,if_false,Op.intCmp];rfl,Bo _⟩
 case gtr=>subst h;exact⟨_,by simp only [binOp,ne_eq,not_true,if_false,Op.intCmp];rfl,Bo _⟩
 case geq=>subst h;exact⟨_,by simp only [binOp,ne_eq,not_true,if_false,Op.intCmp];rfl,Bo _⟩
theorem size_eq (x:ByteArray):x.size=x.data.toList.length:=by rw [Array.length_toList];rfl
theorem iStr_rel (w:World) {op:BinOp} {x y:ByteArray} {z:IV} (h:iStr op x.data.toList y.data.toList=some z) (t:TypeId) :
  ∃ z',(binOp op t (.string x) (.string y)).run P w=.ok z' w∧VRel F r n z z':=by
 have Bo:∀ m,VRel F r n (.d (.bool m)) (.bool m):=λm=>.d (.bool m)
 cases op <;> simp only [iStr,Option.some.injEq,reduceCtorEq] at h
 case add=>
  split at h
  ·cases h
  ·rename_i hb
   simp only [Option.some.injEq] at h;subst h
   refine⟨.string (x++y),?_,?_⟩
   ·simp only [binOp,Op.stringOp];rw [size_eq x,size_eq y,if_neg hb];rfl
   ·have:(x++y).data.toList=x.data.toList++y.data.toList:=by simp
    rw [← this];exact .d (.str _)
 all_goals (subst h;exact⟨_,by simp only [binOp,Op.stringOp,ByteArray.toList_eq];rfl,Bo _⟩)
theorem ieq_shape {k:Nat} {t:TypeId} {x y:IV} {x' y':Value} {q:Bool} (h:ieq P k t x y=some q) (hx:VRel F r n x x') (hy:VRel F r n y y') :
  (∃ a b c d,x=.d (.int a b)∧y=.d (.int c d))∨(∃ a b,x=.d (.str a)∧y=.d (.str b))∨(∃ b,x'=.bool b)∨(∃ a,x'=.pointer a)∨x'=.nilFunc∨(∃ f a b,x'=.func f a b)∨(∃ cs,x'=.agg cs):=by
 cases k with
 | zero=>simp [ieq] at h
 | succ k=>
  unfold ieq at h
  split at h
  ·split at h
   ·exact .inr (.inr (.inl ⟨_,rel_bool hx⟩))
   ·cases h
  ·split at h
   ·exact .inl ⟨_,_,_,_,rfl,rfl⟩
   ·cases h
  ·split at h
   ·exact .inr (.inl ⟨_,_,rfl,rfl⟩)
   ·cases h
  ·split at h
   ·cases hx;exact .inr (.inr (.inr (.inl ⟨_,rfl⟩)))
   ·cases hx;exact .inr (.inr (.inr (.inl ⟨_,rfl⟩)))
   ·cases hx;exact .inr (.inr (.inr (.inl ⟨_,rfl⟩)))
   ·cases hx;exact .inr (.inr (.inr (.inl ⟨_,rfl⟩)))
   ·cases h
  ·split at h
   ·cases hx;exact .inr (.inr (.inr (.inr (.inl rfl))))
   ·cases hx;exact .inr (.inr (.inr (.inr (.inl rfl))))
   ·cases hx;exact .inr (.inr (.inr (.inr (.inr (.inl ⟨_,_,_,rfl⟩)))))
   ·cases h
  ·split at h
   ·cases h
   ·split at h
    ·rename_i hxs _
     obtain⟨vs,rfl,_⟩:=aggCells_rel hxs hx
     exact .inr (.inr (.inr (.inr (.inr (.inr ⟨_,rfl⟩)))))
    ·cases h
  ·cases h
theorem binOp_eql (t:TypeId) (x y:Value) (h:(∃ b,x=.bool b)∨(∃ a,x=.pointer a)∨x=.nilFunc∨(∃ f a b,x=.func f a b)∨(∃ cs,x=.agg cs)) :
  binOp .eql t x y=(do pure (.bool (← Op.equal t x y)))∧binOp .neq t x y=(do pure (.bool (!(← Op.equal t x y)))):=by
 rcases h with ⟨_,rfl⟩ | ⟨_,rfl⟩ | rfl | ⟨_,_,_,rfl⟩ | ⟨_,rfl⟩ <;> exact⟨rfl,rfl⟩
theorem iBin_rel (w:World) {op:BinOp} {t:TypeId} {x y z:IV} {x' y':Value} (h:iBin P op t x y=some z) (hx:VRel F r n x x') (hy:VRel F r n y y') (X Y:Operand) :
  ∃ z',(do eqGuard op t X Y x' y';binOp op t x' y':Sem Value).run P w=.ok z' w∧VRel F r n z z':=by
 unfold iBin at h
 split at h
 ·rename_i k a k' b
  have ex:=rel_int hx
  have ey:=rel_int hy
  subst ex ey
  have hg:=run_eqGuard_plain (P:=P) w op t X Y (.int k a) (.int k' b) (by simp) (by simp)
  simp only [Sem.run_bind,hg,Result.andThen_ok]
  split at h
  ·split at h
   ·cases h
   ·rename_i hb
    simp only [Option.some.injEq] at h;subst h
    exact⟨.int k (k.wrap (a*2 ^ (min b.toNat k.bits))),by simp only [binOp,Op.shift,if_neg hb];rfl,.d (.int _ _)⟩
  ·split at h
   ·cases h
   ·rename_i hb
    simp only [Option.some.injEq] at h;subst h
    exact⟨.int k (a.fdiv (2 ^ (min b.toNat k.bits))),by simp only [binOp,Op.shift,if_neg hb];rfl,.d (.int _ _)⟩
  ·rename_i h1 h2
   split at h
   ·rename_i hk;subst hk
    exact iInt_rel w h t (λe=>h1 e) (λe=>h2 e)
   ·cases h
 ·obtain⟨s,rfl,rfl⟩:=rel_str hx
  obtain⟨s',rfl,rfl⟩:=rel_str hy
  have hg:=run_eqGuard_plain (P:=P) w op t X Y (.string s) (.string s') (by simp) (by simp)
  simp only [Sem.run_bind,hg,Result.andThen_ok]
  exact iStr_rel w h t
 ·rename_i x0 y0 hni hns
  have gen:∀ (q:Bool),ieq P 20 t x y=some q→P.eqGuardType P.depth t=false →
    (eqGuard op t X Y x' y').run P w=.ok () w∧(Op.equal t x' y').run P w=.ok q w∧(binOp .eql t x' y'=(do pure (.bool (← Op.equal t x' y')))∧binOp .neq t x' y'=(do pure (.bool (!(← Op.equal t x' y'))))):=by
   intro q hq hg
   refine⟨run_eqGuard w op t X Y x' y' hg (ieq_noNil hq hx),ieq_rel w 20 _ t x y x' y' q (by decide) hq hx hy,binOp_eql t x' y' ?_⟩
   rcases ieq_shape hq hx hy with ⟨a,b,c,d,e1,e2⟩ | ⟨a,b,e1,e2⟩ | h | h | h | h | h
   ·exact absurd e2 (hni _ _ _ _ e1)
   ·exact absurd e2 (hns _ _ e1)
   ·exact .inl h
   ·exact .inr (.inl h)
   ·exact .inr (.inr (.inl h))
   ·exact .inr (.inr (.inr (.inl h)))
   ·exact .inr (.inr (.inr (.inr h)))
  split at h
  ·split at h
   ·cases h
   ·rename_i hg
    simp only [Option.map_eq_some_iff] at h
    obtain⟨q,hq,rfl⟩:=h
    obtain⟨g1,g2,g3,_⟩:=gen q hq (by simpa using hg)
    exact⟨.bool q,by simp only [Sem.run_bind,g1,Result.andThen_ok,g3,g2,Sem.run_pure],.d (.bool q)⟩
  ·split at h
   ·cases h
   ·rename_i hg
    simp only [Option.map_eq_some_iff] at h
    obtain⟨q,hq,rfl⟩:=h
    obtain⟨g1,g2,_,g4⟩:=gen q hq (by simpa using hg)
    exact⟨.bool (!q),by simp only [Sem.run_bind,g1,Result.andThen_ok,g4,g2,Sem.run_pure],.d (.bool _)⟩
  ·cases h
theorem iUn_rel (w:World) {op:UnOp} {x z:IV} {x':Value} (h:iUn op x=some z) (hx:VRel F r n x x'):∃ z',(Op.unary op x').run P w=.ok z' w∧VRel F r n z z':=by
 unfold iUn at h
 split at h
 ·rw [rel_int hx]
  simp only [iInt,Option.some.injEq] at h;subst h
  exact⟨.int _ _,by simp only [Op.unary,Op.intArith];rfl,.d (.int _ _)⟩
 ·rw [rel_int hx]
  simp only [iInt,ibits,Option.map_some,Option.some.injEq] at h;subst h
  exact⟨.int _ _,by simp only [Op.unary,Op.intBits];rfl,.d (.int _ _)⟩
 ·rw [rel_bool hx]
  simp only [Option.some.injEq] at h;subst h
  exact⟨.bool _,by simp only [Op.unary];rfl,.d (.bool _)⟩
 ·cases h
theorem iPick_rel {c a b z:IV} {c' a' b':Value} (w:World) (h:iPick c a b=some z) (hc:VRel F r n c c') (ha:VRel F r n a a') (hb:VRel F r n b b') :
  ∃ z',(do pure (if ← asBool c' then a' else b'):Sem Value).run P w=.ok z' w∧VRel F r n z z':=by
 unfold iPick at h
 split at h
 ·rename_i t
  rw [rel_bool hc]
  simp only [Option.some.injEq] at h;subst h
  refine⟨if t=true then a' else b',by simp [asBool],?_⟩
  split <;> assumption
 ·cases h
theorem iExtract_rel {x z:IV} {x':Value} (w:World) {i:Nat} (h:iExtract x i=some z) (hx:VRel F r n x x'):∃ z',(Instr.extract x' i).run P w=.ok z' w∧VRel F r n z z':=by
 unfold iExtract at h
 split at h
 ·cases hx with
  | tup cs vs hl g=>
   obtain⟨v,hv,hr⟩:=Vs.get ⟨hl,g⟩ h
   exact⟨v,by simp [Instr.extract,hv],hr⟩
 ·cases h
theorem iNil_rel {x z:IV} {x':Value} (h:iNil x=some z) (hx:VRel F r n x x'):VRel F r n z x'∧((∃ a,x'=.pointer (some a))∨∃ f a b,x'=.func (.func f) a b):=by
 unfold iNil at h
 split at h <;> simp only [Option.some.injEq,reduceCtorEq] at h <;> subst h <;> refine⟨hx,?_⟩ <;> cases hx
 ·exact .inl ⟨_,rfl⟩
 ·exact .inl ⟨_,rfl⟩
 ·exact .inr ⟨_,_,_,rfl⟩
theorem padd_rel {x z:IV} {x':Value} {k:Nat} (h:padd x k=some z) (hx:VRel F r n x x'):∃ a:Addr,x'=.pointer (some a)∧VRel F r n z (.pointer (some (a.add k))):=by
 have add_none:∀ (b o k:Nat),(⟨b,o,none⟩:Addr).add k=⟨b,o+k,none⟩:=by intro b o k;unfold Addr.add;split <;> simp_all
 unfold padd at h
 split at h
 ·simp only [Option.some.injEq] at h;subst h
  cases hx with
  | ptr b off hb=>exact⟨_,rfl,by rw [add_none,Nat.add_assoc];exact .ptr _ _ hb⟩
 ·simp only [Option.some.injEq] at h;subst h
  cases hx with
  | lptr cs off bl o c a1 a2=>exact⟨_,rfl,by rw [add_none,Nat.add_assoc];exact .lptr _ _ _ _ c a1 a2⟩
 ·cases h
theorem iFieldAddr_rel (w:World) {s:TypeId} {x z:IV} {x':Value} {f:Nat} (h:iFieldAddr P s x f=some z) (hx:VRel F r n x x') :
  ∃ z',(Instr.fieldAt s x' f).run P w=.ok z' w∧VRel F r n z z':=by
 unfold iFieldAddr at h
 split at h
 ·rename_i fields hu
  split at h
  ·rename_i fl hfl
   split at h
   ·rename_i m hm
    obtain⟨a,rfl,hv⟩:=padd_rel h hx
    exact⟨_,by simp [Instr.fieldAt,run_underlying hu,hfl,Instr.sureAddr,fieldPlace,run_sizeOf w hm],hv⟩
   ·cases h
  ·cases h
 ·cases h
theorem iField_rel (w:World) {s:TypeId} {x z:IV} {x':Value} {f:Nat} (h:iField P s x f=some z) (hx:VRel F r n x x') :
  ∃ z',(Instr.field s x' f).run P w=.ok z' w∧VRel F r n z z':=by
 unfold iField at h
 split at h
 ·rename_i fields hu
  split at h
  ·rename_i fl hfl
   split at h
   ·rename_i cs hcs
    obtain⟨vs,rfl,hv⟩:=aggCells_rel hcs hx
    obtain⟨y,hy,hr⟩:=part_rel w h hv
    exact⟨y,by simp [Instr.field,run_underlying hu,hfl,asAgg,hy],hr⟩
   ·cases h
  ·cases h
 ·cases h
end
end Go.Tg
namespace Go.Tg
variable [Globs]
theorem add_none (b o k:Nat):(⟨b,o,none⟩:Addr).add k=⟨b,o+k,none⟩:=by unfold Addr.add;split <;> simp_all
section
variable {P:Program} {B:Nat} {W0:Base} {L:Nat→Prop} {F:Fz} {r:Rm} {H:Hp} {w:World}
def Row (F:Fz) (r:Rm) (n:Nat) (w:World) (bl off:Nat) (l:List IV):Prop:=∀ j (hj:j<l.length),∃ v,w.cell? ⟨bl,off+j,none⟩=some v∧VRel F r n l[j] v∧v.oneCell'=true
theorem Row.drop {n bl off:Nat} {l:List IV} (h:Row F r n w bl off l) (k:Nat):Row F r n w bl (off+k) (l.drop k):=by
 intro j hj
 have:=h (k+j) (by simp at hj;omega)
 simpa [Nat.add_assoc] using this
theorem Row.take {n bl off:Nat} {l:List IV} (h:Row F r n w bl off l) (k:Nat):Row F r n w bl off (l.take k):=by
 intro j hj
 have:=h j (by simp at hj;omega)
 simpa using this
def rows (a:IV) (H:Hp):Option (List IV×Nat):=
 match a with
 | .ptr b off=>
  match H[b]? with
  | some (.cells _ cs)=>some (cs,off)
  | some (.frz cs)=>some (cs.map .d,off)
  | _=>none
 | .lptr cs off=>some (cs.map .d,off)
 | _=>none
theorem row_frz (hw:WRel B W0 L F r H w) {b:Nat} {cs:List D} (hH:H[b]? = some (.frz cs)):Row F r H.length w (r b).blk (r b).base (cs.map .d):=by
 intro j hj
 obtain⟨v,h1,h2,h3⟩:=hw.fcell hH (off:=j) (by simpa using hj)
 exact⟨v,h1,by simpa using VRel.d h3,hw.one _ _ _ h2⟩
theorem row_cells (hw:WRel B W0 L F r H w) {b T:Nat} {cs:List IV} (hH:H[b]? = some (.cells T cs)):Row F r H.length w (r b).blk (r b).base cs:=by
 intro j hj
 obtain⟨v,h1,h2,_,h3⟩:=hw.cell hH hj
 exact⟨v,h1,h2,h3⟩
theorem rows_rel (hw:WRel B W0 L F r H w) {a:IV} {a':Value} {l:List IV} {off:Nat} (h:rows a H=some (l,off)) (ha:VRel F r H.length a a') :
  ∃ bl base,a'=.pointer (some ⟨bl,base+off,none⟩)∧Row F r H.length w bl base l:=by
 unfold rows at h
 split at h
 ·split at h
  ·rename_i hH
   simp only [Option.some.injEq,Prod.mk.injEq] at h
   obtain⟨rfl,rfl⟩:=h
   cases ha with
   | ptr b off hb=>exact⟨_,_,rfl,row_cells hw hH⟩
  ·rename_i hH
   simp only [Option.some.injEq,Prod.mk.injEq] at h
   obtain⟨rfl,rfl⟩:=h
   cases ha with
   | ptr b off hb=>exact⟨_,_,rfl,row_frz hw hH⟩
  ·cases h
 ·simp only [Option.some.injEq,Prod.mk.injEq] at h
  obtain⟨rfl,rfl⟩:=h
  cases ha with
  | lptr cs off bl o c a1 a2=>
   refine⟨bl,o,rfl,λj hj=>?_⟩
   exact⟨c j,hw.fz _ _ _ (a1 j (by simpa using hj)),by simpa using VRel.d (a2 j (by simpa using hj)),hw.one _ _ _ (a1 j (by simpa using hj))⟩
 ·cases h
theorem ld1_rows {a z:IV} (h:ld1 a H=some z):∃ l off,rows a H=some (l,off)∧l[off]? = some z:=by
 unfold ld1 at h
 split at h
 ·rename_i b off
  split at h
  ·rename_i cs hH;exact⟨cs,off,by simp only [rows,hH],h⟩
  ·rename_i cs hH;exact⟨cs.map .d,off,by simp only [rows,hH],by rw [List.getElem?_map];exact h⟩
  ·cases h
 ·rename_i cs off;exact⟨cs.map .d,off,rfl,by rw [List.getElem?_map];exact h⟩
 ·cases h
theorem ldN_rows {k:Nat} {a z:IV} (h:ldN k a H=some z):∃ l off,rows a H=some (l,off)∧off+k≤l.length ∧
  ∀ (F:Fz) (r:Rm) (n:Nat) (vs:Array Value),Vs F r n ((l.drop off).take k) vs→VRel F r n z (.agg vs):=by
 have fz:∀ (cs:List D) (off:Nat) (F:Fz) (r:Rm) (n:Nat) (vs:Array Value),Vs F r n (((cs.map IV.d).drop off).take k) vs→VRel F r n (.d (.agg ((cs.drop off).take k))) (.agg vs):=by
  intro cs off F r n vs hv
  rw [← List.map_drop,← List.map_take] at hv
  refine .d (.agg _ _ (by simpa using hv.1) (λi hi=>?_))
  have:=hv.2 i (by simpa using hi)
  simp only [List.getElem_map] at this
  cases this with | d h=>exact h
 unfold ldN at h
 split at h
 ·split at h
  ·rename_i hH
   split at h
   ·rename_i hle
    simp only [Option.some.injEq] at h;subst h
    exact⟨_,_,by simp only [rows,hH],hle,λF r n vs hv=>.agg _ _ hv.1 hv.2⟩
   ·cases h
  ·rename_i hH
   split at h
   ·rename_i hle
    simp only [Option.some.injEq] at h;subst h
    exact⟨_,_,by simp only [rows,hH],by simpa using hle,λF r n vs hv=>fz _ _ F r n vs hv⟩
   ·cases h
  ·cases h
 ·split at h
  ·rename_i hle
   simp only [Option.some.injEq] at h;subst h
   exact⟨_,_,rfl,by simpa using hle,λF r n vs hv=>fz _ _ F r n vs hv⟩
  ·cases h
 ·cases h
theorem Row.load {n bl off k:Nat} {l:List IV} (h:Row F r n w bl off l) (hk:l.length=k):∃ vs,(loadCells ⟨bl,off,none⟩ k).run P w=.ok vs w∧Vs F r n l vs∧∀ i,i<l.length→(vs.getD i undef).oneCell'=true:=by
 let f:Nat→Value:=λj=>(w.cell? ⟨bl,off+j,none⟩).getD undef
 refine⟨((List.range k).map f).toArray,run_loadCells w _ k f (λj hj=>?_),⟨by simp [hk],λi hi=>?_⟩,λi hi=>?_⟩
 ·obtain⟨v,hv,_⟩:=h j (by omega)
  simp [f,add_none,hv]
 ·obtain⟨v,hv,hr⟩:=h i hi
  have hi':i<k:=by omega
  simp [Array.getD_eq_getD_getElem?,hi',f,hv,hr.1]
 ·obtain⟨v,hv,hr⟩:=h i hi
  have hi':i<k:=by omega
  simp [Array.getD_eq_getD_getElem?,hi',f,hv,hr.2]
theorem iLoad_rel (hw:WRel B W0 L F r H w) {t:TypeId} {a z:IV} {a':Value} (h:iLoad P t a H=some z) (ha:VRel F r H.length a a') :
  ∃ z',(Instr.loadAt t a').run P w=.ok z' w∧VRel F r H.length z z':=by
 unfold iLoad at h
 split at h
 ·rename_i hag
  split at h
  ·rename_i k hk
   obtain⟨l,off,h1,h2,h3⟩:=ldN_rows h
   obtain⟨bl,base,rfl,hr⟩:=rows_rel hw h1 ha
   obtain⟨vs,hl,hv,_⟩:=(((hr.drop off).take k).load (P:=P) (k:=k) (by simp;omega))
   exact⟨.agg vs,by simp [Instr.loadAt,Instr.sureAddr,loadVar,run_isAgg w hag,run_sizeOf w hk,hl],h3 _ _ _ _ hv⟩
  ·cases h
 ·rename_i hag
  obtain⟨l,off,h1,h2⟩:=ld1_rows h
  obtain⟨bl,base,rfl,hr⟩:=rows_rel hw h1 ha
  obtain⟨hoff,rfl⟩:=getElem_of_get? h2
  obtain⟨v,hv,hvr,_⟩:=hr off hoff
  exact⟨v,by simp [Instr.loadAt,Instr.sureAddr,loadVar,run_isAgg w hag,hv],hvr⟩
 ·cases h
theorem ixS_rel {x i z:IV} {x' i':Value} {n:Nat} (h:ixS x i=some z) (hx:VRel F r n x x') (hi:VRel F r n i i') {t:TypeId} (hu:P.underlying t=some .string) :
  ∃ z',(Instr.index t x' i').run P w=.ok z' w∧VRel F r n z z':=by
 unfold ixS at h
 split at h
 ·rename_i s0 kk ii
  obtain⟨s,rfl,rfl⟩:=rel_str hx
  rw [rel_int hi]
  split at h
  ·rename_i h0
   split at h
   ·rename_i b hb
    simp only [Option.some.injEq] at h;subst h
    have hb2:s[ii.toNat]? = some b:=by
     rw [← hb,Array.getElem?_toList];rfl
    refine⟨.int .u8 b.toNat,?_,.d (.int _ _)⟩
    simp [Instr.index,asIntOf,run_underlying hu,h0,hb2]
   ·cases h
  ·cases h
 ·cases h
theorem ixA_rel (w:World) {x i z:IV} {x' i':Value} {k:Nat} (h:ixA (k+1) x i=some z) (hx:VRel F r H.length x x') (hi:VRel F r H.length i i') {t e:TypeId} (hu:P.underlying t=some (.slice e))
  (hs:sizeT P e=some (k+1)):∃ z',(Instr.indexAt t x' i').run P w=.ok z' w∧VRel F r H.length z z':=by
 unfold ixA at h
 split at h
 ·rename_i b sz off len kk ii
  rw [rel_int hi]
  split at h
  ·rename_i hc
   obtain⟨rfl,h0,hlt⟩:=hc
   simp only [Option.some.injEq] at h;subst h
   cases hx with
   | vec _ _ _ _ cap hb hlen h00 hcap=>
    refine⟨.pointer (some ⟨(r b).blk,(r b).base+(off+ii.toNat*(k+1)),none⟩),?_,.ptr _ _ hb⟩
    simp [Instr.indexAt,asIntOf,run_underlying hu,h0,hlt,run_sizeOf w hs,add_none,Nat.add_assoc]
   | vec0=>omega
  ·cases h
 ·rename_i els kk ii
  rw [rel_int hi]
  split at h
  ·rename_i h0
   split at h
   ·rename_i el hel
    obtain⟨hlt,hel2⟩:=getElem_of_get? hel
    split at h
    ·rename_i hlen
     simp only [Option.some.injEq] at h;subst h
     cases hx with
     | d hx=>
      cases hx with
      | nil a cap=>simp at hlt
      | lst els bl off cap sz c hcap hsz hF hd=>
       have hsz2:=hsz ii.toNat hlt
       rw [hel2] at hsz2
       have e:sz=k+1:=by omega
       subst e
       have hlt2:ii<(els.length:Int):=by omega
       refine⟨.pointer (some ⟨bl,(off+ii.toNat*(k+1))+0,none⟩),?_,.lptr _ 0 bl (off+ii.toNat*(k+1)) (λj=>c ii.toNat j) (λj hj=>?_) (λj hj=>?_)⟩
       ·simp [Instr.indexAt,asIntOf,run_underlying hu,h0,hlt2,run_sizeOf w hs,add_none]
       ·exact hF _ _ hlt (by omega)
       ·have:=hd ii.toNat hlt j (by rw [hel2];exact hj)
        simpa [hel2] using this
    ·cases h
   ·cases h
  ·cases h
 ·cases h
theorem iIndexAddr_rel (w:World) {t:TypeId} {x i z:IV} {x' i':Value} (h:iIndexAddr P t x i=some z) (hx:VRel F r H.length x x') (hi:VRel F r H.length i i') :
  ∃ z',(Instr.indexAt t x' i').run P w=.ok z' w∧VRel F r H.length z z':=by
 unfold iIndexAddr at h
 split at h
 ·rename_i e hu
  split at h
  ·rename_i k hk;exact ixA_rel w h hx hi hu hk
  ·cases h
 ·cases h
theorem iIndex_rel {t:TypeId} {x i z:IV} {x' i':Value} {n:Nat} (h:iIndex P t x i=some z) (hx:VRel F r n x x') (hi:VRel F r n i i') :
  ∃ z',(Instr.index t x' i').run P w=.ok z' w∧VRel F r n z z':=by
 unfold iIndex at h
 split at h
 ·rename_i hu;exact ixS_rel h hx hi hu
 ·cases h
theorem iLen_rel (hw:WRel B W0 L F r H w) {x z:IV} {x':Value} {ts:Array TypeId} (h:iLen P ts x H=some z) (hx:VRel F r H.length x x') (ty:TypeId) :
  ∃ z',(Builtin.len_ ts ty #[x']).run P w=.ok z' w∧VRel F r H.length z z':=by
 have I:∀ m:Int,VRel F r H.length (.d (.int .i64 m)) (goInt m):=λm=>.d (.int .i64 m)
 unfold iLen at h
 split at h
 ·rename_i t ht
  split at h
  ·rename_i hu
   unfold lnS at h
   split at h
   ·obtain⟨s,rfl,rfl⟩:=rel_str hx
    simp only [Option.some.injEq] at h;subst h
    exact⟨goInt s.size,by simp [Builtin.len_,ht,run_underlying hu],by rw [← size_eq];exact I _⟩
   ·cases h
  ·rename_i e hu
   unfold lnV at h
   split at h
   ·rename_i els
    simp only [Option.some.injEq] at h;subst h
    cases hx with
    | d hx=>
     cases hx with
     | nil a cap=>exact⟨goInt ((0:Nat):Int),by simp [Builtin.len_,ht,run_underlying hu],I _⟩
     | lst els bl off cap sz c a1 a2 a3 a4=>exact⟨goInt (els.length:Nat),by simp [Builtin.len_,ht,run_underlying hu],I _⟩
   ·rename_i _ _ _ len
    simp only [Option.some.injEq] at h;subst h
    cases hx with
    | vec _ _ _ _ cap=>exact⟨goInt (len:Nat),by simp [Builtin.len_,ht,run_underlying hu],I _⟩
    | vec0=>exact⟨goInt ((0:Nat):Int),by simp [Builtin.len_,ht,run_underlying hu],I _⟩
   ·simp only [Option.some.injEq] at h;subst h
    cases hx
    exact⟨goInt ((0:Nat):Int),by simp [Builtin.len_,ht,run_underlying hu],I _⟩
   ·cases h
  ·rename_i e1 e2 hu
   unfold lnM at h
   split at h
   ·simp only [Option.some.injEq] at h;subst h
    cases hx
    exact⟨goInt ((0:Nat):Int),by simp [Builtin.len_,ht,run_underlying hu],I _⟩
   ·rename_i b
    split at h
    ·rename_i es hH
     simp only [Option.some.injEq] at h;subst h
     cases hx with
     | map _ hb=>
      obtain⟨hb2,hHb⟩:=getElem_of_get? hH
      have hbr:=hw.blk b hb2
      rw [hHb] at hbr
      obtain⟨m,k,h1,h2,_⟩:=hbr
      refine⟨goInt (m.size:Nat),?_,by rw [h2];exact I _⟩
      simp [Builtin.len_,ht,run_underlying hu,getObj,Sem.run,h1]
    ·cases h
   ·cases h
  ·cases h
 ·cases h
def Opt (F:Fz) (r:Rm) (n:Nat) (x:Option IV) (x':Option Value):Prop:=match x,x' with | none,none=>True | some v,some v'=>VRel F r n v v' | _,_=>False
theorem bnd_rel {n:Nat} {z:Nat} {x:Option IV} {x':Option Value} {k:Nat} (h:bnd z x=some k) (hx:Opt F r n x x')
  (y:Nat) (hk:k≤y) (code:BoundsCode):(match x' with | some v=>Instr.sliceBound v y code | none=>pure z).run P w=.ok k w:=by
 cases x with
 | none=>
  cases x' with
  | none=>simp only [bnd,Option.some.injEq] at h;subst h;rfl
  | some v=>exact absurd hx (by simp [Opt])
 | some v=>
  cases x' with
  | none=>exact absurd hx (by simp [Opt])
  | some v'=>
   unfold bnd at h
   split at h
   ·rename_i e;cases e
   ·rename_i kk i e
    simp only [Option.some.injEq] at e;subst e
    split at h
    ·rename_i h0
     simp only [Option.some.injEq] at h;subst h
     have:v'=.int kk i:=rel_int hx
     subst this
     have h2:i≤(y:Int):=by omega
     simp [Instr.sliceBound,asIntOf,h0,h2]
    ·cases h
   ·cases h
theorem run_sliceBounds {n:Nat} {b:Bool} {len cap h l:Nat} {lo hi:Option IV} {lo' hi':Option Value} (hh:bnd len hi=some h) (hl:bnd 0 lo=some l) (hhi:Opt F r n hi hi') (hlo:Opt F r n lo lo')
  (h1:l≤h) (h2:h≤cap):(Instr.sliceBounds b len cap lo' hi' none).run P w=.ok (l,h,cap) w:=by
 have e1:=λcode=>bnd_rel (P:=P) (w:=w) hh hhi cap h2 code
 have e2:=λcode=>bnd_rel (P:=P) (w:=w) hl hlo h h1 code
 cases hi' <;> cases lo' <;> simp only at e1 e2 <;> simp [Instr.sliceBounds,Sem.run_bind] <;> simp_all
end
end Go.Tg
namespace Go.Tg
variable [Globs]
section
variable {P:Program} {B:Nat} {W0:Base} {L:Nat→Prop} {F:Fz} {r:Rm} {H:Hp} {w:World}
theorem extract_list (s:ByteArray) (l h:Nat):(s.extract l h).data.toList=(s.data.toList.take h).drop l:=by
 rw [ByteArray.data_extract]
 rw [Array.toList_extract]
 rw [List.extract_eq_take_drop,List.drop_take]
theorem slS_rel {n:Nat} {x z:IV} {x':Value} {lo hi:Option IV} {lo' hi':Option Value} (h:slS x lo hi=some z) (hx:VRel F r n x x') (hhi:Opt F r n hi hi') (hlo:Opt F r n lo lo')
  {t:TypeId} (hu:P.underlying t=some .string):∃ z',(Instr.sliceAt t x' lo' hi' none).run P w=.ok z' w∧VRel F r n z z':=by
 unfold slS at h
 split at h
 ·obtain⟨s,rfl,rfl⟩:=rel_str hx
  simp only [Option.bind_eq_some_iff] at h
  obtain⟨hh,h1,l,h2,h3⟩:=h
  split at h3
  ·rename_i hc
   simp only [Option.some.injEq] at h3;subst h3
   refine⟨.string (s.extract l hh),?_,by rw [← extract_list];exact .d (.str _)⟩
   have hb:=run_sliceBounds (P:=P) (w:=w) (b:=false) (cap:=s.size) (by rw [← size_eq] at h1;exact h1) h2 hhi hlo hc.1 (by rw [size_eq];exact hc.2)
   simp [Instr.sliceAt,Instr.slice,run_underlying hu,hb]
  ·cases h3
 ·cases h
theorem run_sliceV {a:Option Addr} {len cap h l k:Nat} {lo' hi':Option Value} {t e:TypeId} (hu:P.underlying t=some (.slice e)) (hs:sizeT P e=some k)
  (hbd:(Instr.sliceBounds true len cap lo' hi' none).run P w=.ok (l,h,cap) w) :
  (Instr.sliceAt t (.slice a len cap) lo' hi' none).run P w=.ok (.slice (if cap=l then a else a.map (·.add (l*k))) (h - l) (cap - l)) w:=by
 simp only [Instr.sliceAt,Instr.slice,Sem.run_bind,run_underlying hu,Result.andThen_ok,hbd,run_sizeOf w hs];rfl
theorem slV_rel {n:Nat} {x z:IV} {x':Value} {lo hi:Option IV} {lo' hi':Option Value} {t e k:Nat} (h:slV (k+1) x lo hi=some z) (hx:VRel F r n x x') (hhi:Opt F r n hi hi') (hlo:Opt F r n lo lo')
  (hu:P.underlying t=some (.slice e)) (hs:sizeT P e=some (k+1)) :
  ∃ z',(Instr.sliceAt t x' lo' hi' none).run P w=.ok z' w∧VRel F r n z z':=by
 unfold slV at h
 split at h
 ·rename_i b sz off len
  simp only [Option.bind_eq_some_iff] at h
  obtain⟨hh,h1,l,h2,h3⟩:=h
  split at h3
  ·rename_i hc
   obtain⟨rfl,hc⟩:=hc
   simp only [Option.some.injEq] at h3;subst h3
   cases hx with
   | vec _ _ _ _ cap hb hlen h00 hcap=>
    have hbd:=run_sliceBounds (P:=P) (w:=w) (b:=true) (cap:=cap) h1 h2 hhi hlo hc.1 (by omega)
    refine⟨_,run_sliceV hu hs hbd,?_⟩
    by_cases hm:cap=l
    ·rw [if_pos hm,show hh - l=0 by omega,show cap - l=0 by omega]
     have hpos:0<cap*(k+1):=Nat.mul_pos h00 (by omega)
     exact .vec0 _ _ _ _ hb (by omega) (λ_=>by omega)
    ·rw [if_neg hm]
     simp only [Option.map_some,add_none,Nat.add_assoc]
     refine .vec _ _ _ _ _ hb (by omega) (by omega) ?_
     have h4:l*(k+1)+(cap - l)*(k+1)=cap*(k+1):=by rw [← Nat.add_mul];congr 1;omega
     omega
   | vec0 _ _ _ a hb ho hs0=>
    have hbd:=run_sliceBounds (P:=P) (w:=w) (b:=true) (cap:=0) h1 h2 hhi hlo hc.1 (by omega)
    refine⟨_,run_sliceV hu hs hbd,?_⟩
    have e1:l=0:=by omega
    have e2:hh=0:=by omega
    subst e1 e2
    exact .vec0 _ _ _ _ hb ho hs0
  ·cases h3
 ·rename_i els
  simp only [Option.bind_eq_some_iff] at h
  obtain⟨hh,h1,l,h2,h3⟩:=h
  split at h3
  ·rename_i hc
   obtain⟨hc1,hc2,hc3⟩:=hc
   simp only [Option.some.injEq] at h3;subst h3
   have hel:∀ i (hi:i<els.length),(els[i]).cells.length=k+1:=by
    intro i hi
    have:=List.all_eq_true.1 hc3 els[i] (List.getElem_mem hi)
    simpa using this
   have main:∃ a cap,x'=.slice a els.length cap∧els.length≤cap:=by
    cases hx with
    | d hx=>
     cases hx with
     | nil a cap=>exact⟨a,cap,rfl,Nat.zero_le _⟩
     | lst els bl off cap sz c hcap=>exact⟨_,cap,rfl,hcap⟩
   obtain⟨a,cap,rfl,hcap⟩:=main
   have hbd:=run_sliceBounds (P:=P) (w:=w) (b:=true) (cap:=cap) h1 h2 hhi hlo hc1 (by omega)
   refine⟨_,run_sliceV hu hs hbd,?_⟩
   have hlen:((els.take hh).drop l).length=hh - l:=by simp;omega
   by_cases hz:hh - l=0
   ·have e:(els.take hh).drop l=[]:=by apply List.eq_nil_of_length_eq_zero;omega
    rw [e,hz];exact .d (.nil _ _)
   ·have hm:¬ cap=l:=by omega
    rw [if_neg hm,← hlen]
    cases hx with
    | d hx=>
     generalize hg:els.length=m at hx
     cases hx with
     | nil a cap=>simp at hc2;omega
     | lst _ bl off _ sz c hcap hsz hF hd=>
      have hget:∀ i (hi:i<((els.take hh).drop l).length),((els.take hh).drop l)[i]=els[l+i]'(by simp at hi;omega):=by
       intro i hi;simp
      have esz:sz=k+1:=by
       have h0:=hel l (by omega);have h0':=hsz l (by omega);omega
      subst esz
      simp only [Option.map_some,add_none]
      refine .d (.lst _ bl (off+l*(k+1)) (cap - l) (k+1) (λi j=>c (l+i) j) (by omega) (λi hi=>?_) (λi j hi hj=>?_) (λi hi j hj=>?_))
      ·rw [hget i hi];exact hel _ _
      ·have:=hF (l+i) j (by omega) hj
       rw [← this];congr 1;rw [Nat.add_mul];omega
      ·have:=hd (l+i) (by omega) j (by rw [hget i hi] at hj;exact hj)
       simp only [hget i hi];exact this
  ·cases h3
 ·simp only [Option.bind_eq_some_iff] at h
  obtain⟨hh,h1,l,h2,h3⟩:=h
  split at h3
  ·rename_i hc
   simp only [Option.some.injEq] at h3;subst h3
   cases hx
   have e1:hh=0:=by omega
   have e2:l=0:=by omega
   subst e1 e2
   have hbd:=run_sliceBounds (P:=P) (w:=w) (b:=true) (len:=0) (cap:=0) h1 h2 hhi hlo (by omega) (by omega)
   exact⟨_,run_sliceV hu hs hbd,.vnil⟩
  ·cases h3
 ·cases h
theorem iSlice_rel {n:Nat} {x z:IV} {x':Value} {lo hi mx:Option IV} {lo' hi' mx':Option Value} {t:TypeId} (h:iSlice P t x lo hi mx=some z) (hx:VRel F r n x x') (hhi:Opt F r n hi hi') (hlo:Opt F r n lo lo') (hmx:Opt F r n mx mx') :
  ∃ z',(Instr.sliceAt t x' lo' hi' mx').run P w=.ok z' w∧VRel F r n z z':=by
 unfold iSlice at h
 split at h
 ·cases h
 ·cases mx' with
  | some v=>exact absurd hmx (by simp [Opt])
  | none=>
   split at h
   ·rename_i hu;exact slS_rel h hx hhi hlo hu
   ·rename_i e hu
    split at h
    ·rename_i k hk;exact slV_rel h hx hhi hlo hu hk
    ·cases h
   ·cases h
theorem wr_rel (hw:WRel B W0 L F r H w) {b T:Nat} (hb:b<H.length):∀ (vs:List IV) (off:Nat) (cs:List IV) (H':Hp) (w':World) (vs':List Value) (i o:Nat),WRel B W0 L F r H' w'→H'.length=H.length→H'[b]? = some (.cells T cs)→off+vs.length≤cs.length →
  vs'.length=vs.length→(∀ j (hj:j<vs.length),VRel F r H.length vs[j] (vs'.getD j undef)∧(vs[j].one=true)∧(∀ m,L m→b<m→VRel F r m vs[j] (vs'.getD j undef)))→o+i=(r b).base+off →
  ∃ w'',(storeCells ⟨(r b).blk,o,none⟩ vs' i).run P w'=.ok () w''∧WRel B W0 L F r (H'.set b (.cells T (wr cs off vs))) w'':=by
 intro vs
 induction vs with
 | nil=>
  intro off cs H' w' vs' i o hw' hl hH _ hlen _ _
  have:vs'=[]:=List.eq_nil_of_length_eq_zero (by simpa using hlen)
  subst this
  refine⟨w',rfl,?_⟩
  simp only [wr]
  obtain⟨h1,h2⟩:=getElem_of_get? hH
  have:H'.set b (.cells T cs)=H':=by rw [← h2];exact List.set_getElem_self h1
  rw [this];exact hw'
 | cons v vs ih=>
  intro off cs H' w' vs' i o hw' hl hH hle hlen hv ho
  cases vs' with
  | nil=>simp at hlen
  | cons v' vs'=>
   have hoff:off<cs.length:=by simp at hle;omega
   obtain⟨h1,h2,h3⟩:=hv 0 (by simp)
   simp at h1 h2 h3
   obtain⟨u,hu,_,hfro,_⟩:=hw'.cell hH hoff
   have hw2:=hw'.set1 hH hoff (v:=v) (v':=v') (by rw [hl];exact h1) (h1.one h2) h3
   have hst:(store ((⟨(r b).blk,o,none⟩:Addr).add i) v').run P w'=.ok () (w'.setCell ⟨(r b).blk,(r b).base+off,none⟩ v'):=by
    rw [add_none,ho,run_store P w' _ v' _ (h1.one h2),hu]
    simp [hfro]
   obtain⟨w'',e1,e2⟩:=ih (off+1) (cs.set off v) (H'.set b (.cells T (cs.set off v))) _ vs' (i+1) o hw2 (by simpa using hl)
    (by rw [List.getElem?_set_self (by omega)]) (by simp at hle ⊢;omega) (by simpa using hlen)
    (λj hj=>by have:=hv (j+1) (by simp;omega);simpa using this) (by omega)
   refine⟨w'',by simp only [storeCells,Sem.run_bind,hst,Result.andThen_ok,e1],?_⟩
   simp only [List.set_set] at e2
   simpa [wr] using e2
theorem st_rel (hw:WRel B W0 L F r H w) (hL:∀ m,L m→m≤H.length) {lim ro:Nat} (hlim:∀ m,L m→m≤lim) {t k:Nat} {a v:IV} {a' v':Value} {H':Hp} (hs:sizeT P t=some k) (h:st k lim ro a v H=some H') (ha:VRel F r H.length a a') (hv:VRel F r H.length v v') :
  ∃ w',(Instr.storeAt t a' v').run P w=.ok () w'∧WRel B W0 L F r H' w'∧H'.length=H.length∧∀ b,b<ro→H'[b]? = H[b]?:=by
 unfold st at h
 split at h
 ·rename_i b off
  split at h
  ·rename_i T cs hH
   split at h
   ·rename_i hc
    obtain⟨c1,c2,c3,c4,c5⟩:=hc
    simp only [Option.some.injEq] at h;subst h
    obtain⟨hb,hHb⟩:=getElem_of_get? hH
    cases ha with
    | ptr _ _ hb'=>
     have hcs:=hv.cells c3
     obtain⟨w',e1,e2⟩:=wr_rel (P:=P) hw hb v.cells off cs H w v'.cells.toList 0 ((r b).base+off) hw rfl hH (by omega) (by simpa using hcs.1)
      (λj hj=>by
       have h1:=hcs.2 j hj
       have e:v'.cells.toList.getD j undef=v'.cells.getD j undef:=by simp [List.getD_eq_getElem?_getD,Array.getD_eq_getD_getElem?]
       rw [e]
       refine⟨h1,List.all_eq_true.1 c3 _ (List.getElem_mem hj),λm hm hbm=>?_⟩
       rcases c5 with c5 | c5
       ·have:=hlim m hm;omega
       ·exact h1.plain (List.all_eq_true.1 c5 _ (List.getElem_mem hj))) (by omega)
     refine⟨w',?_,e2,by simp,λx hx=>by rw [List.getElem?_set_ne (by omega)]⟩
     have hsz:v'.cells.size=k:=by rw [hcs.1];exact c1
     simp [Instr.storeAt,Instr.sureAddr,storeVar,run_sizeOf w hs,hsz,e1]
   ·cases h
  ·cases h
 ·cases h
theorem zeroT_rel {t:TypeId} {z:IV} {n:Nat} (h:zeroT P t=some z):∃ i z',P.info? t=some i∧i.zero=some z'∧VRel F r n z z':=by
 unfold zeroT at h
 simp only [Option.bind_eq_some_iff] at h
 obtain⟨z',⟨i,hi,hz⟩,hz'⟩:=h
 exact⟨i,z',hi,hz,rel_ofZ _ _ _ hz'⟩
end
end Go.Tg
namespace Go.Tg
variable [Globs]
section
variable {P:Program} {B:Nat} {W0:Base} {L:Nat→Prop} {F:Fz} {r:Rm} {H:Hp} {w:World}
theorem vs_set {n:Nat} {l:List IV} {vs:Array Value} (h:Vs F r n l vs) (i:Nat) {x:IV} {v:Value} (hx:VRel F r n x v):Vs F r n (l.set i x) (vs.setIfInBounds i v):=by
 refine⟨by simpa using h.1,λj hj=>?_⟩
 have hj':j<l.length:=by simpa using hj
 rw [List.getElem_set]
 by_cases e:i=j
 ·subst e
  have:i<vs.size:=by rw [h.1];exact hj'
  simp [this,hx]
 ·rw [if_neg e]
  have:=h.2 j hj'
  simp only [Array.getD_eq_getD_getElem?] at this ⊢
  rw [Array.getElem?_setIfInBounds_ne e];exact this
theorem wr_vs {n:Nat}:∀ (xs:List IV) (l:List IV) (vs:Array Value) (off k:Nat) (ys:List Value),Vs F r n l vs→ys.length=xs.length→(∀ j (hj:j<xs.length),VRel F r n xs[j] (ys.getD j undef)) →
  Vs F r n (wr l (off+k) xs) ((ys.zipIdx k).foldl (λcs (p:Value×Nat)=>cs.setIfInBounds (off+p.2) p.1) vs):=by
 intro xs
 induction xs with
 | nil=>
  intro l vs off k ys h hl _
  have:ys=[]:=List.eq_nil_of_length_eq_zero (by simpa using hl)
  subst this;exact h
 | cons x xs ih=>
  intro l vs off k ys h hl hr
  cases ys with
  | nil=>simp at hl
  | cons y ys=>
   have h0:=hr 0 (by simp)
   simp at h0
   simp only [wr,List.zipIdx_cons,List.foldl_cons]
   have:=ih (l.set (off+k) x) (vs.setIfInBounds (off+k) y) off (k+1) ys (vs_set h _ h0) (by simpa using hl) (λj hj=>by have:=hr (j+1) (by simp;omega);simpa using this)
   simpa [Nat.add_assoc] using this
theorem wr_one:∀ (xs l:List IV) (o:Nat),l.all IV.one=true→xs.all IV.one=true→(wr l o xs).all IV.one=true:=by
 intro xs
 induction xs with
 | nil=>intro l o h _;exact h
 | cons x xs ih=>
  intro l o h hx
  simp only [List.all_cons,Bool.and_eq_true] at hx
  refine ih _ _ ?_ hx.2
  rw [List.all_eq_true] at h ⊢
  intro y hy
  rcases List.mem_or_eq_of_mem_set hy with hy | rfl
  ·exact h y hy
  ·exact hx.1
theorem ifill_one (place:Nat→Option (Nat×Nat)):∀ (ps:List (Nat×IV)) (a b:List IV),a.all IV.one=true→ifill place a ps=some b→b.all IV.one=true:=by
 intro ps
 induction ps with
 | nil=>intro a b h h2;simp only [ifill,Option.some.injEq] at h2;rw [← h2];exact h
 | cons p ps ih=>
  intro a b h h2
  obtain⟨i,v⟩:=p
  rw [ifill] at h2
  split at h2
  ·cases h2
  ·split at h2
   ·cases h2
   ·rename_i hc
    simp only [not_or,Decidable.not_not] at hc
    exact ih _ _ (wr_one _ _ _ h (by simpa using hc.2.2)) h2
theorem Vs.allOne {n:Nat} {l:List IV} {vs:Array Value} (h:Vs F r n l vs) (h1:l.all IV.one=true):∀ j,j<l.length→(vs.getD j undef).oneCell'=true:=
 λj hj=>(h.2 j hj).one (List.all_eq_true.1 h1 _ (List.getElem_mem hj))
theorem reps_one {n:Nat} {l:List IV} (h:l.all IV.one=true):(reps n l).all IV.one=true:=by
 induction n with
 | zero=>rfl
 | succ n ih=>simp only [reps,List.all_append,Bool.and_eq_true];exact⟨h,ih⟩
theorem ifill_rel {n:Nat} (place:Nat→Option (Nat×Nat)):∀ (parts:List (Nat×IV)) (parts':List (Nat×Value)) (cells out:List IV) (cells':Array Value),ifill place cells parts=some out→Vs F r n cells cells' →
  parts'.length=parts.length→(∀ j (hj:j<parts.length),(parts'.getD j default).1=parts[j].1∧VRel F r n parts[j].2 (parts'.getD j default).2)→∃ out',Instr.fill place cells' parts'=some out'∧Vs F r n out out':=by
 intro parts
 induction parts with
 | nil=>
  intro parts' cells out cells' h hc hl _
  have:parts'=[]:=List.eq_nil_of_length_eq_zero (by simpa using hl)
  subst this
  simp only [ifill,Option.some.injEq] at h;subst h
  exact⟨cells',rfl,hc⟩
 | cons p parts ih=>
  intro parts' cells out cells' h hc hl hr
  cases parts' with
  | nil=>simp at hl
  | cons p' parts'=>
   obtain⟨i,v⟩:=p
   obtain⟨i',v'⟩:=p'
   have h0:=hr 0 (by simp)
   simp at h0
   obtain⟨rfl,hv⟩:=h0
   rw [ifill] at h
   split at h
   ·cases h
   ·rename_i off size hp
    split at h
    ·cases h
    ·rename_i hcond
     simp only [not_or,Decidable.not_not] at hcond
     obtain⟨c1,c2,c3⟩:=hcond
     have c3':v.cells.all IV.one=true:=by simpa using c3
     have hcs:=hv.cells c3'
     have hw:=wr_vs v.cells cells cells' off 0 v'.cells.toList hc (by simpa using hcs.1) (λj hj=>by
      have h1:=hcs.2 j hj
      have e:v'.cells.toList.getD j undef=v'.cells.getD j undef:=by simp [List.getD_eq_getElem?_getD,Array.getD_eq_getD_getElem?]
      rw [e];exact h1)
     obtain⟨out',e1,e2⟩:=ih parts' _ out _ h hw (by simpa using hl) (λj hj=>by have:=hr (j+1) (by simp;omega);simpa using this)
     refine⟨out',?_,e2⟩
     rw [Instr.fill]
     simp only [hp]
     rw [if_neg]
     ·rw [← e1,← Array.foldl_toList,Array.toList_zipIdx]
     ·have s1:v'.cells.size=v.cells.length:=hcs.1
      have s2:cells'.size=cells.length:=hc.1
      simp;omega
theorem parts_rel {n:Nat} {e:Env} {a:Act} (h:Vs F r n e a.tmps) (ps:Array (Nat×Operand)) :
  (ps.map λ((i,x):Nat×Operand)=>(i,a.eval x)).toList.length=(ps.toList.map λp=>(p.1,ev e p.2)).length ∧
  ∀ j (hj:j<(ps.toList.map λp=>(p.1,ev e p.2)).length),((ps.map λ((i,x):Nat×Operand)=>(i,a.eval x)).toList.getD j default).1=(ps.toList.map λp=>(p.1,ev e p.2))[j].1 ∧
   VRel F r n (ps.toList.map λp=>(p.1,ev e p.2))[j].2 ((ps.map λ((i,x):Nat×Operand)=>(i,a.eval x)).toList.getD j default).2:=by
 refine⟨by simp,λj hj=>?_⟩
 have hj':j<ps.size:=by simpa using hj
 have:(ps.map λ((i,x):Nat×Operand)=>(i,a.eval x)).toList.getD j default=(ps[j].1,a.eval ps[j].2):=by
  simp [List.getD_eq_getElem?_getD,hj']
 rw [this]
 simp only [List.getElem_map,Array.getElem_toList]
 exact⟨trivial,rel_ev h _⟩
theorem mapM_run {α β:Type} (w:World) (f:α→Sem β) (g:α→Option β) (hfg:∀ a b,g a=some b→(f a).run P w=.ok b w) (l:List α):∀ (out:List β),l.mapM g=some out→(l.mapM f).run P w=.ok out w:=by
 induction l with
 | nil=>intro out h;simp at h;subst h;simp
 | cons x xs ih=>
  intro out h
  simp only [List.mapM_cons,Option.bind_eq_bind,Option.bind_eq_some_iff,Option.pure_def,Option.some.injEq] at h
  obtain⟨b,hb,bs,hbs,rfl⟩:=h
  simp [List.mapM_cons,Sem.run_bind,hfg _ _ hb,ih _ hbs]
theorem iBuild_rel {n:Nat} {t:TypeId} {parts:List (Nat×IV)} {parts':Array (Nat×Value)} {z:IV} (h:iBuild P t parts=some z) (hl:parts'.toList.length=parts.length)
  (hr:∀ j (hj:j<parts.length),(parts'.toList.getD j default).1=parts[j].1∧VRel F r n parts[j].2 (parts'.toList.getD j default).2) :
  ∃ z',(Instr.build t parts').run P w=.ok z' w∧VRel F r n z z':=by
 unfold iBuild at h
 split at h
 ·rename_i fs zz hu hz
  simp only [Option.bind_eq_some_iff] at h
  obtain⟨places,hpl,h⟩:=h
  split at h
  ·rename_i h1
   simp only [Option.map_eq_some_iff] at h
   obtain⟨out,ho,rfl⟩:=h
   obtain⟨i,z',hi,hzz,hzr⟩:=zeroT_rel (F:=F) (r:=r) (n:=n) hz
   have hm:=mapM_run (P:=P) w (λf:Field=>(do pure (f.offset,← sizeOf f.type):Sem (Nat×Nat))) (λf=>(sizeT P f.type).map λn=>(f.offset,n))
    (λf b hb=>by
     simp only [Option.map_eq_some_iff] at hb
     obtain⟨k,hk,rfl⟩:=hb
     simp [run_sizeOf w hk]) fs.toList places hpl
   have hm2:(fs.mapM (λf:Field=>(do pure (f.offset,← sizeOf f.type):Sem (Nat×Nat)))).run P w=.ok places.toArray w:=by
    rw [Array.mapM_eq_mapM_toList,Sem.run_map,hm];rfl
   obtain⟨out',e1,e2⟩:=ifill_rel (λi=>places[i]?) parts parts'.toList _ out _ ho (hzr.cells h1) hl hr
   refine⟨.agg out',?_,.agg _ _ e2.1 e2.2⟩
   simp only [Instr.build,zeroValue,typeInfo,Sem.run_bind,run_program,hi,hzz,run_underlying hu,Result.andThen_ok,Sem.run_pure,hm2]
   simp [e1]
  ·cases h
 ·cases h
theorem reps_length (n:Nat) (l:List IV):(reps n l).length=n*l.length:=by
 induction n with
 | zero=>simp [reps]
 | succ n ih=>simp [reps,ih,Nat.add_mul];omega
theorem reps_get (l:List IV):∀ (n j:Nat) (hj:j<(reps n l).length),∃ h:j % l.length<l.length,(reps n l)[j]=l[j % l.length]:=by
 intro n
 induction n with
 | zero=>intro j hj;simp [reps] at hj
 | succ n ih=>
  intro j hj
  have hlen:(reps (n+1) l).length=(n+1)*l.length:=reps_length _ _
  have hpos:0<l.length:=by
   rcases Nat.eq_zero_or_pos l.length with h | h
   ·rw [hlen,h] at hj;simp at hj
   ·exact h
  simp only [reps]
  by_cases h:j<l.length
  ·refine⟨by rw [Nat.mod_eq_of_lt h];exact h,?_⟩
   rw [List.getElem_append_left h]
   simp only [Nat.mod_eq_of_lt h]
  ·have hj2:j - l.length<(reps n l).length:=by
    rw [hlen,Nat.add_mul] at hj;rw [reps_length];omega
   obtain⟨h1,h2⟩:=ih (j - l.length) hj2
   have e:(j - l.length) % l.length=j % l.length:=by
    conv=>rhs;rw [show j=(j - l.length)+l.length by omega]
    rw [Nat.add_mod_right]
   refine⟨by rw [← e];exact h1,?_⟩
   rw [List.getElem_append_right (by omega),h2]
   simp only [e]
theorem reps_rel {n k m:Nat} {l:List IV} {c:Array Value} (h:Vs F r n l c) (hk:l.length=k) (hp:0<k):Vs F r n (reps m l) ((Array.range (m*k)).map (c[· % c.size]!)):=by
 have hs:c.size=k:=by rw [h.1];exact hk
 refine⟨by simp [reps_length,hk],λj hj=>?_⟩
 obtain⟨h1,h2⟩:=reps_get l m j hj
 have hj2:j<m*k:=by rw [reps_length,hk] at hj;exact hj
 rw [h2]
 have:=h.2 (j % l.length) h1
 have hlt:j % k<c.size:=by rw [hs];exact Nat.mod_lt _ hp
 simp only [hk] at this ⊢
 simp [Array.getD_eq_getD_getElem?,hj2,hs] at this ⊢
 rw [getElem!_pos c (j % k) hlt]
 simpa [hlt] using this
theorem vec_new {n:Nat} {c:Array Value} {k len:Nat} (hn:H.length<n) (cap:Nat) (hcap:len≤cap) (hc:cap*k≤c.size) :
  VRel F (upd r H.length ⟨w.heap.size,0,c.size,false⟩) n (.vec H.length k 0 len) (.slice (some ⟨w.heap.size,0,none⟩) len cap):=by
 by_cases h0:cap=0
 ·subst h0
  have:len=0:=by omega
  subst this
  have:=VRel.vec0 (F:=F) (r:=upd r H.length ⟨w.heap.size,0,c.size,false⟩) (n:=n) H.length k 0 0 hn (by omega) (by rw [upd_same];intro h;cases h)
  simpa [upd_same] using this
 ·have:=VRel.vec (F:=F) (r:=upd r H.length ⟨w.heap.size,0,c.size,false⟩) (n:=n) H.length k 0 len cap hn hcap (by omega) (by rw [upd_same];simpa using hc)
  simpa [upd_same] using this
theorem iBuildSlice_rel (hw:WRel B W0 L F r H w) (hL:∀ m,L m→m≤H.length) {t len:Nat} {parts:List (Nat×IV)} {parts':Array (Nat×Value)} {z:IV} {H':Hp} (h:iBuildSlice P t len parts H=some (z,H'))
  (hl:parts'.toList.length=parts.length)
  (hr:∀ j (hj:j<parts.length),(parts'.toList.getD j default).1=parts[j].1∧VRel F r H.length parts[j].2 (parts'.toList.getD j default).2) (ro:Nat) (hro:ro≤H.length) :
  ∃ r' w' z',(Instr.buildSlice t len parts').run P w=.ok z' w'∧Ext ro F r H F r' H'∧WRel B W0 L F r' H' w'∧VRel F r' H'.length z z':=by
 unfold iBuildSlice at h
 split at h
 ·rename_i e hu
  split at h
  ·rename_i k zz hk hz
   split at h
   ·rename_i hc
    obtain⟨hc1,hc2,hc3⟩:=hc
    simp only [Option.map_eq_some_iff] at h
    obtain⟨out,ho,h⟩:=h
    simp only [Prod.mk.injEq] at h
    obtain⟨rfl,rfl⟩:=h
    obtain⟨i,z',hi,hzz,hzr⟩:=zeroT_rel (F:=F) (r:=r) (n:=H.length) hz
    have hsz:i.size=k+1:=by unfold sizeT at hk;rw [hi] at hk;simpa using hk
    have hzc:=hzr.cells hc3
    have hbase:Vs F r H.length (reps len zz.cells) ((Array.range (len*(k+1))).map ((if len*(k+1)=0 then #[] else z'.cells)[· % (if len*(k+1)=0 then #[] else z'.cells).size]!)):=by
     by_cases h0:len*(k+1)=0
     ·have:len=0:=by
       rcases Nat.mul_eq_zero.1 h0 with h | h
       ·exact h
       ·omega
      subst this
      exact⟨by simp [reps],λi hi=>by simp [reps] at hi⟩
     ·simp only [if_neg h0];exact reps_rel hzc hc1 (by omega)
    obtain⟨out',e1,e2⟩:=ifill_rel (λi=>some (i*(k+1),k+1)) parts parts'.toList _ out _ ho hbase hl hr
    have hlen:out.length=len*(k+1):=by
     have key:∀ (ps:List (Nat×IV)) (a b:List IV),ifill (λi=>some (i*(k+1),k+1)) a ps=some b→b.length=a.length:=by
      intro ps
      induction ps with
      | nil=>intro a b h;simp only [ifill,Option.some.injEq] at h;rw [h]
      | cons p ps ih=>
       intro a b h
       obtain⟨i,v⟩:=p
       simp only [ifill] at h
       split at h
       ·cases h
       ·rw [ih _ _ h]
        have:∀ (xs l:List IV) (o:Nat),(wr l o xs).length=l.length:=by
         intro xs
         induction xs with
         | nil=>intro l o;rfl
         | cons x xs ih=>intro l o;simp [wr,ih]
        exact this _ _ _
     rw [key _ _ _ ho,reps_length,hc1]
    have hp:=hw.pushCells hL (cs:=out) (c:=out') e (by rw [e2.1];exact Nat.le_refl _) e2.2 (e2.allOne (ifill_one _ _ _ _ (reps_one hc3) ho))
    refine⟨_,_,.slice (some ⟨w.heap.size,0,none⟩) len len,?_,⟨Fz.le_refl F,upd_le _ _ _,by simp,λb hb=>by rw [List.getElem?_append_left (by omega)]⟩,hp,
     vec_new (by simp) len (Nat.le_refl _) (by rw [e2.1,hlen];exact Nat.le_refl _)⟩
    have hb24:¬ (len*(k+1) > 2 ^ 24):=by omega
    have hb0:¬ (0 > 2 ^ 24):=by decide
    by_cases h0:len*(k+1)=0
    ·simp only [h0,if_true] at e1
     simp only [Instr.buildSlice,sizeOf,typeInfo,Sem.run_bind,run_program,hi,run_underlying hu,Result.andThen_ok,Sem.run_pure,hsz,h0,if_neg hb0,if_true,e1]
     rfl
    ·simp only [h0,if_false] at e1
     simp only [Instr.buildSlice,sizeOf,typeInfo,zeroValue,Sem.run_bind,run_program,hi,hzz,run_underlying hu,Result.andThen_ok,Sem.run_pure,hsz,if_neg hb24,h0,if_false,e1]
     rfl
   ·cases h
  ·cases h
 ·cases h
theorem wrap_id {n:Int} (h0:0≤n) (h:n≤2 ^ 62):IntKind.i64.wrap n=n:=by
 have h1:n % (2 ^ IntKind.i64.bits:Int)=n:=Int.emod_eq_of_lt h0 (by
                                       have:(2 ^ IntKind.i64.bits:Int)=18446744073709551616:=by decide
                                       rw [this];omega)
 have h2:¬ (n ≥ (2 ^ (IntKind.i64.bits - 1):Int)):=by
  have:(2 ^ (IntKind.i64.bits - 1):Int)=9223372036854775808:=by decide
  rw [this];omega
 simp only [IntKind.wrap,h1]
 rw [if_neg]
 simp [h2]
theorem iMakeSlice_rel (hw:WRel B W0 L F r H w) (hL:∀ m,L m→m≤H.length) {t:TypeId} {l c z:IV} {l' c':Value} {H':Hp} (h:iMakeSlice P t l c H=some (z,H')) (hl:VRel F r H.length l l') (hc:VRel F r H.length c c') (ro:Nat) (hro:ro≤H.length) :
  ∃ r' w' z',(Instr.makeSlice t l' c').run P w=.ok z' w'∧Ext ro F r H F r' H'∧WRel B W0 L F r' H' w'∧VRel F r' H'.length z z':=by
 unfold iMakeSlice at h
 split at h
 ·rename_i e kl li kc ci hu
  split at h
  ·rename_i k zz by_ hk hz hby
   split at h
   ·rename_i hcond
    obtain⟨c1,c2,c3,c4,c5,c6⟩:=hcond
    simp only [Option.some.injEq,Prod.mk.injEq] at h
    obtain⟨rfl,rfl⟩:=h
    obtain⟨i,z',hi,hzz,hzr⟩:=zeroT_rel (F:=F) (r:=r) (n:=H.length) hz
    have hsz:i.size=k+1:=by unfold sizeT at hk;rw [hi] at hk;simpa using hk
    have hbytes:i.bytes=by_:=by rw [hi] at hby;simpa using hby
    have hzc:=hzr.cells c2
    rw [rel_int hl,rel_int hc]
    have wl:=wrap_id c3 (by omega)
    have wc:=wrap_id (n:=ci) (by omega) c5
    have hbase:Vs F r H.length (reps ci.toNat zz.cells) ((Array.range (ci.toNat*(k+1))).map ((if ci.toNat*(k+1)=0 then #[] else z'.cells)[· % (if ci.toNat*(k+1)=0 then #[] else z'.cells).size]!)):=by
     by_cases h0:ci.toNat*(k+1)=0
     ·have:ci.toNat=0:=by
       rcases Nat.mul_eq_zero.1 h0 with h | h
       ·exact h
       ·omega
      rw [this]
      exact⟨by simp [reps],λi hi=>by simp [reps] at hi⟩
     ·simp only [if_neg h0];exact reps_rel hzc c1 (by omega)
    have hp:=hw.pushCells hL (cs:=reps ci.toNat zz.cells) (c:=_) e (by rw [hbase.1];exact Nat.le_refl _) hbase.2 (hbase.allOne (reps_one c2))
    have hcsz:((Array.range (ci.toNat*(k+1))).map ((if ci.toNat*(k+1)=0 then #[] else z'.cells)[· % (if ci.toNat*(k+1)=0 then #[] else z'.cells).size]!)).size=ci.toNat*(k+1):=by simp
    refine⟨_,_,.slice (some ⟨w.heap.size,0,none⟩) li.toNat ci.toNat,?_,⟨Fz.le_refl F,upd_le _ _ _,by simp,λb hb=>by rw [List.getElem?_append_left (by omega)]⟩,hp,
     vec_new (by simp) ci.toNat (by omega) (by rw [hcsz];exact Nat.le_refl _)⟩
    have t1:¬ (ci<0):=by omega
    have t2:¬ ((by_:Int)*ci > 2 ^ 48):=by omega
    have t3:¬ (li<0):=by omega
    have t4:¬ (li > ci):=by omega
    by_cases h0:ci.toNat*(k+1)=0
    ·simp only [Instr.makeSlice,sizeOf,typeInfo,asInt,asIntOf,Sem.run_bind,run_program,hi,run_underlying hu,Result.andThen_ok,Sem.run_pure,hsz,wl,wc,hbytes,t1,t2,t3,t4,decide_false,Bool.or_false,Bool.or_self,Bool.false_eq_true,if_false,run_askRoom,h0,if_true,newRow,run_newObj]
     rfl
    ·simp only [Instr.makeSlice,sizeOf,typeInfo,zeroValue,asInt,asIntOf,Sem.run_bind,run_program,hi,hzz,run_underlying hu,Result.andThen_ok,Sem.run_pure,hsz,wl,wc,hbytes,t1,t2,t3,t4,decide_false,Bool.or_false,Bool.or_self,Bool.false_eq_true,if_false,run_askRoom,h0,newRow,run_newObj]
     rfl
   ·cases h
  ·cases h
 ·cases h
end
end Go.Tg
namespace Go.Tg
variable [Globs]
section
variable {P:Program} {B:Nat} {W0:Base} {L:Nat→Prop} {F:Fz} {r:Rm} {H:Hp} {w:World}
theorem mapM_get {α β:Type} (f:α→Option β):∀ (l:List α) (out:List β),l.mapM f=some out→out.length=l.length∧∀ i (hi:i<l.length) (ho:i<out.length),f l[i]=some out[i]:=by
 intro l
 induction l with
 | nil=>intro out h;simp at h;subst h;exact⟨rfl,λi hi=>by simp at hi⟩
 | cons x xs ih=>
  intro out h
  simp only [List.mapM_cons,Option.bind_eq_bind,Option.bind_eq_some_iff,Option.pure_def,Option.some.injEq] at h
  obtain⟨b,hb,bs,hbs,rfl⟩:=h
  obtain⟨e1,e2⟩:=ih bs hbs
  refine⟨by simp [e1],λi hi ho=>?_⟩
  cases i with
  | zero=>simpa using hb
  | succ i=>simpa using e2 i (by simpa using hi) (by simpa using ho)
theorem srcCells_rel (hw:WRel B W0 L F r H w) {sz m:Nat} {x:IV} {x':Value} {new:List IV} (hsz:0<sz) (h:srcCells sz x H=some (m,new)) (hx:VRel F r H.length x x') :
  Builtin.lenOf x'=Sem.pure m∧new.length=m*sz∧∃ news:Array Value,Vs F r H.length new news∧(∀ j,j<new.length→(news.getD j undef).oneCell'=true) ∧
   (∀ w',Later w w'→(Builtin.firstCells sz m x').run P w'=.ok news w') ∧
   ((
    ∃ s,x'=.string s)∨∃ a cap,x'=.slice a m cap∧(0<m→∃ bl off,a=some ⟨bl,off,none⟩∧(∀ j,j<m*sz→(w.cell? ⟨bl,off+j,none⟩).isSome=true) ∧
    ((∃ b z o l,x=.vec b z o l∧bl=(r b).blk)∨(∀ b (hb:b<H.length),H[b].live=true→bl≠(r b).blk)))):=by
 have none_case:∀ (a:Option Addr) (cap:Nat) (l:List IV),l=[]→x'=.slice a 0 cap→∃ news:Array Value,Vs F r H.length l news∧(∀ j,j<l.length→(news.getD j undef).oneCell'=true) ∧
   (∀ w',Later w w'→(Builtin.firstCells sz 0 x').run P w'=.ok news w'):=by
  rintro a cap l rfl rfl
  refine⟨#[],Vs.nil,λj hj=>by simp at hj,λw' _=>?_⟩
  cases a with
  | none=>simp [Builtin.firstCells]
  | some a=>simp [Builtin.firstCells,loadCells,loadCellsFrom]
 have row_case:∀ (bl off cap:Nat) (l:List IV),l.length=m*sz→Row F r H.length w bl off l→x'=.slice (some ⟨bl,off,none⟩) m cap →
   ∃ news:Array Value,Vs F r H.length l news∧(∀ j,j<l.length→(news.getD j undef).oneCell'=true)∧(∀ w',Later w w'→(Builtin.firstCells sz m x').run P w'=.ok news w'):=by
  rintro bl off cap l hl hr rfl
  let f:Nat→Value:=λj=>(w.cell? ⟨bl,off+j,none⟩).getD undef
  refine⟨((List.range (m*sz)).map f).toArray,⟨by simp [hl],λi hi=>?_⟩,λi hi=>?_,λw' hw'=>?_⟩
  ·obtain⟨v,hv,hr1,_⟩:=hr i hi
   have hi':i<m*sz:=by omega
   simp [Array.getD_eq_getD_getElem?,hi',f,hv,hr1]
  ·obtain⟨v,hv,_,hr1⟩:=hr i hi
   have hi':i<m*sz:=by omega
   simp [Array.getD_eq_getD_getElem?,hi',f,hv,hr1]
  ·simp only [Builtin.firstCells]
   refine run_loadCells w' _ _ f (λj hj=>?_)
   obtain⟨v,hv,_⟩:=hr j (by omega)
   rw [add_none,cell_keep (hw'.block bl (cell_lt hv)),hv]
   simp [f,hv]
 unfold srcCells at h
 split at h
 ·simp only [Option.some.injEq,Prod.mk.injEq] at h
  obtain⟨rfl,rfl⟩:=h
  cases hx
  refine⟨rfl,by simp,?_⟩
  obtain⟨news,a1,a2,a3⟩:=none_case none 0 [] rfl rfl
  exact⟨news,a1,a2,a3,.inr ⟨none,0,rfl,λh=>absurd h (Nat.lt_irrefl _)⟩⟩
 ·rename_i els
  split at h
  ·rename_i hall
   simp only [Option.some.injEq,Prod.mk.injEq] at h
   obtain⟨rfl,rfl⟩:=h
   have hel:∀ i (hi:i<els.length),(els[i]).cells.length=sz:=by
    intro i hi
    have:=List.all_eq_true.1 hall els[i] (List.getElem_mem hi)
    simpa using this
   have hlen:∀ (l:List D),(∀ i (hi:i<l.length),(l[i]).cells.length=sz)→(l.flatMap D.cells).length=l.length*sz:=by
    intro l
    induction l with
    | nil=>intro _;simp
    | cons d l ih=>
     intro hc
     have h0:=hc 0 (by simp)
     simp at h0
     simp only [List.flatMap_cons,List.length_append,ih (λi hi=>by have:=hc (i+1) (by simp;omega);simpa using this),h0,List.length_cons,Nat.add_mul]
     omega
   have hget:∀ (l:List D),(∀ i (hi:i<l.length),(l[i]).cells.length=sz)→∀ j (hj:j<(l.flatMap D.cells).length),∃ (h1:j / sz<l.length) (h2:j % sz<(l[j / sz]).cells.length),(l.flatMap D.cells)[j]=(l[j / sz]).cells[j % sz]:=by
    intro l
    induction l with
    | nil=>intro _ j hj;simp at hj
    | cons d l ih=>
     intro hc j hj
     have h0:=hc 0 (by simp)
     simp at h0
     have hc':∀ i (hi:i<l.length),(l[i]).cells.length=sz:=λi hi=>by have:=hc (i+1) (by simp;omega);simpa using this
     simp only [List.flatMap_cons] at hj ⊢
     by_cases hlt:j<sz
     ·have e1:j / sz=0:=Nat.div_eq_of_lt hlt
      have e2:j % sz=j:=Nat.mod_eq_of_lt hlt
      refine⟨by rw [e1];simp,by simp only [e1,e2];simpa [h0] using hlt,?_⟩
      rw [List.getElem_append_left (by omega)]
      simp only [e1,e2,List.getElem_cons_zero]
     ·have hj2:j - sz<(l.flatMap D.cells).length:=by simp at hj;simp;omega
      obtain⟨g1,g2,g3⟩:=ih hc' (j - sz) hj2
      have e1:j / sz=(j - sz) / sz+1:=by
       rw [← Nat.add_div_right _ hsz];congr 1;omega
      have e2:j % sz=(j - sz) % sz:=by
       conv=>lhs;rw [show j=(j - sz)+sz by omega]
       rw [Nat.add_mod_right]
      refine⟨by rw [e1];simp;omega,by simp only [e1,e2,List.getElem_cons_succ];exact g2,?_⟩
      rw [List.getElem_append_right (by omega)]
      simp only [e1,e2,List.getElem_cons_succ,h0]
      exact g3
   have hl2:((els.flatMap D.cells).map IV.d).length=els.length*sz:=by simp only [List.length_map];exact hlen els hel
   cases hx with
   | d hx=>
    generalize hg:els=els0 at hx
    cases hx with
    | nil a cap=>
     subst hg
     refine⟨rfl,by simp,?_⟩
     obtain⟨news,a1,a2,a3⟩:=none_case a cap _ rfl rfl
     exact⟨news,a1,a2,a3,.inr ⟨a,cap,rfl,λh=>absurd h (Nat.lt_irrefl _)⟩⟩
    | lst _ bl off cap sz' c hcap hsz' hF hd=>
     subst hg
     refine⟨rfl,hl2,?_⟩
     have esz:∀ (h:0<els.length),sz'=sz:=λh=>(hsz' 0 h).symm.trans (hel 0 h)
     have hrow:Row F r H.length w bl off ((els.flatMap D.cells).map .d):=by
      intro j hj
      simp only [List.length_map] at hj
      obtain⟨g1,g2,g3⟩:=hget els hel j hj
      have e0:=esz (Nat.lt_of_le_of_lt (Nat.zero_le _) g1)
      subst e0
      have hm:j % sz'<sz':=Nat.mod_lt _ hsz
      have hc:=hF (j / sz') (j % sz') g1 hm
      have e3:off+j / sz'*sz'+j % sz'=off+j:=by rw [Nat.add_assoc,Nat.mul_comm,Nat.div_add_mod]
      rw [e3] at hc
      refine⟨c (j / sz') (j % sz'),hw.fz _ _ _ hc,?_,hw.one _ _ _ hc⟩
      simp only [List.getElem_map,g3]
      exact .d (hd _ g1 _ g2)
     obtain⟨news,a1,a2,a3⟩:=row_case bl off cap _ hl2 hrow rfl
     refine⟨news,a1,a2,a3,.inr ⟨_,cap,rfl,λh0=>⟨bl,off,rfl,λj hj=>?_,.inr λb hb hlive e=>?_⟩⟩⟩
     ·obtain⟨v,hv,_⟩:=hrow j (by rw [hl2];exact hj)
      rw [hv];rfl
     ·have e0:=esz h0
      subst e0
      have hc:=hF 0 0 h0 hsz
      have hbr:=hw.blk b hb
      have:F (r b).blk (off+0*sz'+0)=none:=by
       cases hb2:H[b] with
       | cells T cs=>rw [hb2] at hbr;obtain⟨_,_,_,_,_,_,_,h6⟩:=hbr;exact h6 _
       | it s pos=>rw [hb2] at hbr;obtain⟨_,_,_,_,h6⟩:=hbr;exact h6 _
       | mp es=>rw [hb2] at hbr;obtain⟨_,_,_,_,_,h6⟩:=hbr;exact h6 _
       | frz cs=>rw [hb2] at hlive;simp [Blk.live] at hlive
       | dead=>rw [hb2] at hlive;simp [Blk.live] at hlive
      rw [e] at hc;rw [hc] at this;cases this
  ·cases h
 ·split at h
  ·rename_i h1
   subst h1
   obtain⟨s,rfl,rfl⟩:=rel_str hx
   simp only [Option.some.injEq,Prod.mk.injEq] at h
   obtain⟨rfl,rfl⟩:=h
   refine⟨by rw [← size_eq];rfl,by simp,s.data.map (λb=>.int .u8 b.toNat),⟨by simp,λi hi=>?_⟩,λj hj=>?_,λw' _=>?_,.inl ⟨s,rfl⟩⟩
   ·have hi':i<s.data.size:=by simpa using hi
    have e:s.data[i]? = some s.data[i]:=Array.getElem?_eq_getElem hi'
    simp [Array.getD_eq_getD_getElem?,e]
    exact .d (.int _ _)
   ·have hj':j<s.data.size:=by simpa using hj
    have e:s.data[j]? = some s.data[j]:=Array.getElem?_eq_getElem hj'
    simp [Array.getD_eq_getD_getElem?,e]
    rfl
   ·simp only [Builtin.firstCells,Sem.run_pure]
    congr 2
    rw [← size_eq]
    simp [ByteArray.extract_zero_size]
  ·cases h
 ·rename_i b z off len
  split at h
  ·rename_i hz
   subst hz
   have main:∀ (l:List IV),Row F r H.length w (r b).blk (r b).base l→off+len*z≤l.length→m=len→new=(l.drop off).take (len*z) →
     Builtin.lenOf x'=Sem.pure m∧new.length=m*z∧∃ news:Array Value,Vs F r H.length new news∧(∀ j,j<new.length→(news.getD j undef).oneCell'=true) ∧
      (∀ w',Later w w'→(Builtin.firstCells z m x').run P w'=.ok news w') ∧
      ((
       ∃ s,x'=.string s)∨∃ a cap,x'=.slice a m cap∧(0<m→∃ bl off',a=some ⟨bl,off',none⟩∧(∀ j,j<m*z→(w.cell? ⟨bl,off'+j,none⟩).isSome=true) ∧
       ((∃ b' z' o l,IV.vec b z off len=.vec b' z' o l∧bl=(r b').blk)∨(∀ b (hb:b<H.length),H[b].live=true→bl≠(r b).blk)))):=by
    rintro l hr hle rfl rfl
    have hlen:((l.drop off).take (m*z)).length=m*z:=by simp;omega
    have hr2:=(hr.drop off).take (m*z)
    cases hx with
    | vec _ _ _ _ cap hb hlen' h00 hcap=>
     obtain⟨news,a1,a2,a3⟩:=row_case _ _ cap _ hlen hr2 rfl
     refine⟨rfl,hlen,news,a1,a2,a3,.inr ⟨_,cap,rfl,λh0=>⟨_,_,rfl,λj hj=>?_,.inl ⟨b,z,off,m,rfl,rfl⟩⟩⟩⟩
     obtain⟨v,hv,_⟩:=hr2 j (by omega)
     rw [hv];rfl
    | vec0 _ _ _ o0 hb ho hs0=>
     have e:(l.drop off).take (0*z)=[]:=by simp
     rw [e]
     obtain⟨news,a1,a2,a3⟩:=none_case _ 0 [] rfl rfl
     exact⟨rfl,by simp,news,a1,a2,a3,.inr ⟨_,0,rfl,λh=>absurd h (Nat.lt_irrefl _)⟩⟩
   split at h
   ·rename_i cs hH
    split at h
    ·rename_i hle
     simp only [Option.some.injEq,Prod.mk.injEq] at h
     exact main cs (row_cells hw hH) hle h.1.symm h.2.symm
    ·cases h
   ·rename_i cs hH
    split at h
    ·rename_i hle
     simp only [Option.some.injEq,Prod.mk.injEq] at h
     refine main (cs.map .d) (row_frz hw hH) (by simpa using hle) h.1.symm ?_
     rw [← h.2,List.map_take,List.map_drop]
    ·cases h
   ·cases h
  ·cases h
 ·cases h
end
end Go.Tg
