/- Every operation of the ideal run is met by the model's. Part 7: append. -/
import Derived.Test.YtnkobejhnphmhaaGreatDoorAb
import Derived.Lib.ConvBytes
set_option linter.all false
namespace Go.Tg
variable [Globs]
section
variable {P:Program} {B:Nat} {W0:Base} {L:Nat→Prop} {F:Fz} {r:Rm} {H:Hp} {w:World}
theorem run_append_in (t u ty e:TypeId) (i:TypeInfo) (d:TypeDesc) (ht:P.underlying t=some (.slice e)) (hi:P.info? e=some i) (hu:P.underlying u=some d) (hd:∀ k,d≠.int k)
  (base:Option Addr) (sLen sCap n:Nat) (x:Value) (news:Array Value) (hlen:Builtin.lenOf x=Sem.pure n) (hnew:(Builtin.firstCells i.size n x).run P w=.ok news w) (hg:sLen+n≤sCap) {w':World}
  (hst:(match base with | some a=>storeCells (a.add (sLen*i.size)) news.toList | none=>pure ()).run P w=.ok () w') :
  (Builtin.append_ #[t,u] ty #[.slice base sLen sCap,x]).run P w=.ok (.slice base (sLen+n) sCap) w':=by
 cases base with
 | none=>
  simp only at hst
  simp [Builtin.append_,run_underlying ht,run_underlying hu,sizeOf,typeInfo,hi,hlen,hg,hnew]
  simpa using hst
 | some a=>
  simp only at hst
  simp [Builtin.append_,run_underlying ht,run_underlying hu,sizeOf,typeInfo,hi,hlen,hg,hnew,hst]
theorem run_append_out (t u ty e:TypeId) (i:TypeInfo) (z:Value) (d:TypeDesc) (ht:P.underlying t=some (.slice e)) (hi:P.info? e=some i) (hz:i.zero=some z) (hu:P.underlying u=some d) (hd:∀ k,d≠.int k)
  (base:Option Addr) (sLen sCap n:Nat) (x:Value) (olds news:Array Value) (hlen:Builtin.lenOf x=Sem.pure n) (hold:(Builtin.firstCells i.size sLen (.slice base sLen sCap)).run P w.drew=.ok olds w.drew)
  (hnew:(Builtin.firstCells i.size n x).run P w.drew=.ok news w.drew) (hg:sCap<sLen+n) (hb:0<i.bytes) (hfit:Builtin.nextslicecap (sLen+n) sCap*i.bytes≤281474976710656) :
  (Builtin.append_ #[t,u] ty #[.slice base sLen sCap,x]).run P w=.ok (.slice (some ⟨w.heap.size,0,none⟩) (sLen+n) (grownCap w (sLen+n) sCap e))
   (w.drew.alloc (.cells (olds++news++Builtin.zeroCells z.cells (grownCap w (sLen+n) sCap e - (sLen+n))) e)):=by
 have hn:¬ (sLen+n≤sCap):=by omega
 have h48':¬ (281474976710656<Builtin.nextslicecap (sLen+n) sCap*i.bytes):=by omega
 have hb':i.bytes≠0:=by omega
 simp [Builtin.append_,run_underlying ht,run_underlying hu,sizeOf,typeInfo,zeroValue,hi,hz,hlen,hn,h48',hb',Question.forced,hnew,hold,newRow,grownCap]
theorem grownCap_le (w:World) (need old:Nat) (e:TypeId):need≤grownCap w need old e:=by
 unfold grownCap Question.cut;exact Nat.le_add_right _ _
theorem vs_append {n:Nat} {l1 l2:List IV} {v1 v2:Array Value} (h1:Vs F r n l1 v1) (h2:Vs F r n l2 v2):Vs F r n (l1++l2) (v1++v2):=by
 refine⟨by simp [h1.1,h2.1],λi hi=>?_⟩
 by_cases hlt:i<l1.length
 ·rw [List.getElem_append_left hlt]
  have h3:i<v1.size:=by rw [h1.1];exact hlt
  have:=h1.2 i hlt
  simpa [Array.getD_eq_getD_getElem?,Array.getElem?_append_left h3] using this
 ·rw [List.getElem_append_right (by omega)]
  have h3:v1.size≤i:=by rw [h1.1];omega
  have:=h2.2 (i - l1.length) (by simp at hi;omega)
  simpa [Array.getD_eq_getD_getElem?,Array.getElem?_append_right h3,h1.1] using this
theorem run_storeCells_row (blk:Nat):∀ (vs:List Value) (o i:Nat) (c:Array Value) (T:TypeId) (z:Nat×Nat) (w:World),w.heap[blk]? = some (.cells c T z)→(∀ k,k<c.size→¬ (z.1≤k∧k<z.2))→o+i+vs.length≤c.size→(∀ v ∈ vs,v.oneCell'=true) →
  ∃ w',(storeCells ⟨blk,o,none⟩ vs i).run P w=.ok () w'∧w'.os=w.os∧w'.tape=w.tape∧w'.output=w.output∧w'.heap.size=w.heap.size∧(∀ k,k≠blk→w'.heap[k]? = w.heap[k]?) ∧
   ∃ c',w'.heap[blk]? = some (.cells c' T z)∧c'.size=c.size∧(∀ j,j<o+i→c'.getD j undef=c.getD j undef)∧(∀ j,j<vs.length→c'.getD (o+i+j) undef=vs.getD j undef):=by
 intro vs
 induction vs with
 | nil=>intro o i c T z w h _ _ _;exact⟨w,rfl,rfl,rfl,rfl,rfl,λ_ _=>rfl,c,h,rfl,λ_ _=>rfl,λj hj=>by simp at hj⟩
 | cons v vs ih=>
  intro o i c T z w h hz hle h1
  have hlt:o+i<c.size:=by simp at hle;omega
  have hcell:w.cell? ⟨blk,o+i,none⟩=some c[o+i]:=by rw [cell_of h];simp [hlt]
  have hfro:w.frozen? ⟨blk,o+i,none⟩=false:=by
   obtain⟨z1,z2⟩:=z
   have:=hz _ hlt
   simp at this
   simp [World.frozen?,h];omega
  have hst:(store ((⟨blk,o,none⟩:Addr).add i) v).run P w=.ok () (w.setCell ⟨blk,o+i,none⟩ v):=by
   rw [add_none,run_store P w _ v _ (h1 v (by simp)),hcell];simp [hfro]
  obtain⟨w',e1,e2,e3,e4,e5,e6,c',e7,e8,e9,e10⟩:=ih o (i+1) (c.setIfInBounds (o+i) v) T z (w.setCell ⟨blk,o+i,none⟩ v) (heap_setCell w blk (o+i) v h)
   (by simpa using hz) (by simp at hle ⊢;omega) (λx hx=>h1 x (by simp [hx]))
  refine⟨w',by simp only [storeCells,Sem.run_bind,hst,Result.andThen_ok,e1],e2,e3,e4,by rw [e5];simp,λk hk=>by rw [e6 k hk,heap_setCell_ne _ _ _ _ _ hk],c',e7,by rw [e8];simp,λj hj=>?_,λj hj=>?_⟩
  ·rw [e9 j (by omega)]
   simp only [Array.getD_eq_getD_getElem?]
   rw [Array.getElem?_setIfInBounds_ne (by omega)]
  ·cases j with
   | zero=>
    simp only [Nat.add_zero]
    rw [e9 (o+i) (by omega)]
    simp [hlt]
   | succ j=>
    have:=e10 j (by simpa using hj)
    rw [show o+i+(j+1)=o+(i+1)+j by omega,this]
    simp
theorem app_rel (hw:WRel B W0 L F r H w) (hL:∀ m,L m→m≤H.length) {k ro e:Nat} {s x z:IV} {s' x':Value} {H':Hp} (h:app e (k+1) ro s x H=some (z,H')) (hs:VRel F r H.length s s') (hx:VRel F r H.length x x') (hro:ro≤H.length)
  (t u ty:TypeId) (i:TypeInfo) (zz:IV) (z0:Value) (d:TypeDesc) (ht:P.underlying t=some (.slice e)) (hi:P.info? e=some i) (hz:i.zero=some z0) (hu:P.underlying u=some d) (hd:∀ k,d≠.int k)
  (hsize:i.size=k+1) (hby:0<i.bytes) (hbe:i.bytes≤4096) (hzr:VRel F r H.length zz z0) (hz1:zz.cells.length=k+1) (hz2:zz.cells.all IV.one=true) :
  (∃ r' w' z',(Builtin.append_ #[t,u] ty #[s',x']).run P w=.ok z' w'∧Ext ro F r H F r' H'∧WRel B W0 L F r' H' w'∧VRel F r' H'.length z z'):=by
 unfold app at h
 simp only [Option.bind_eq_some_iff] at h
 obtain⟨⟨n,new⟩,hsrc,h⟩:=h
 obtain⟨hlen,hnl,news,hv,hone,hrun,hkind⟩:=srcCells_rel (P:=P) hw (by omega) hsrc hx
 simp only at h
 split at h
 ·cases h
 rename_i hsame
 have hzc:=hzr.cells hz2
 have hz0:z0.cells.size=k+1:=by rw [hzc.1];exact hz1
 have hrun':∀ w',Later w w'→(Builtin.firstCells i.size n x').run P w'=.ok news w':=by rw [hsize];exact hrun
 have zero:n=0→∀ base sLen sCap,s'=.slice base sLen sCap→sLen≤sCap→(Builtin.append_ #[t,u] ty #[s',x']).run P w=.ok s' w:=by
  rintro rfl base sLen sCap rfl hle
  have hn0:news=#[]:=by
   apply Array.eq_empty_of_size_eq_zero
   rw [hv.1,hnl];simp
  refine run_append_in t u ty e i d ht hi hu hd base sLen sCap 0 x' news hlen (hrun' w (Later.refl w)) (by omega) ?_
  rw [hn0]
  cases base <;> rfl
 have fits:∀ (base:Option Addr) sLen sCap,sCap<sLen+n→sLen+n≤34359738368→Builtin.nextslicecap (sLen+n) sCap*i.bytes≤281474976710656:=by
  intro base sLen sCap hg hb
  refine growslice_fits hg ?_
  have:(sLen+n)*i.bytes≤34359738368*4096:=Nat.mul_le_mul hb hbe
  omega
 have fresh:∀ base sLen sCap (old:List IV) (olds:Array Value) (H1:Hp),s'=.slice base sLen sCap→sCap<sLen+n→Builtin.nextslicecap (sLen+n) sCap*i.bytes≤281474976710656 →
   (Builtin.firstCells i.size sLen (.slice base sLen sCap)).run P w.drew=.ok olds w.drew→Vs F r H.length old olds→(∀ j,j<old.length→(olds.getD j undef).oneCell'=true)→old.length=sLen*(k+1) →
   WRel B W0 L F r H1 w→H1.length=H.length →
   ∃ r' w' z',(Builtin.append_ #[t,u] ty #[s',x']).run P w=.ok z' w'∧Rm.le H.length r r'∧WRel B W0 L F r' (H1++[.cells (2*e) (old++new)]) w'∧VRel F r' (H.length+1) (.vec H.length (k+1) 0 (sLen+n)) z':=by
  rintro base sLen sCap old olds H1 rfl hg hfit hold ho ho1 hol hw1 hH1
  have hr:=run_append_out t u ty e i z0 d ht hi hz hu hd base sLen sCap n x' olds news hlen hold (hrun' _ (Later.drew w)) hg hby hfit
  have hcap:=grownCap_le w (sLen+n) sCap e
  have hva:=vs_append ho hv
  have hcs:(olds++news++Builtin.zeroCells z0.cells (grownCap w (sLen+n) sCap e - (sLen+n))).size=grownCap w (sLen+n) sCap e*(k+1):=by
   simp only [Array.size_append,ho.1,hv.1,hol,hnl,Builtin.zeroCells,Array.size_map,Array.size_range,hz0]
   rw [← Nat.add_mul,← Nat.add_mul];congr 1;omega
  have hsz2:(old++new).length=(sLen+n)*(k+1):=by simp [hol,hnl,Nat.add_mul]
  have hgetD:∀ j,j<(old++new).length→(olds++news++Builtin.zeroCells z0.cells (grownCap w (sLen+n) sCap e - (sLen+n))).getD j undef=(olds++news).getD j undef:=by
   intro j hj
   have:j<(olds++news).size:=by rw [hva.1];exact hj
   simp only [Array.getD_eq_getD_getElem?]
   rw [Array.getElem?_append_left this]
  have hp:=(hw1.later (Later.drew w)).pushCells (by rw [hH1];exact hL) (cs:=old++new) (c:=olds++news++Builtin.zeroCells z0.cells (grownCap w (sLen+n) sCap e - (sLen+n))) e
   (by rw [hcs,hsz2];exact Nat.mul_le_mul_right _ hcap) (λj hj=>by rw [hgetD j hj,hH1];exact hva.2 j hj) (λj hj=>by
    rw [hgetD j hj]
    by_cases hlt:j<old.length
    ·have h3:j<olds.size:=by rw [ho.1];exact hlt
     have:=ho1 j hlt
     simpa [Array.getD_eq_getD_getElem?,Array.getElem?_append_left h3] using this
    ·have h3:olds.size≤j:=by rw [ho.1];omega
     have:=hone (j - old.length) (by simp at hj;omega)
     simpa [Array.getD_eq_getD_getElem?,Array.getElem?_append_right h3,ho.1] using this)
  rw [hH1] at hp
  refine⟨_,_,_,hr,upd_le _ _ _,hp,?_⟩
  exact vec_new (w:=w) (H:=H) (n:=H.length+1) (Nat.lt_succ_self _) (grownCap w (sLen+n) sCap e) hcap (by rw [hcs];exact Nat.le_refl _)
 split at h
 ·
  cases hs
  split at h
  ·rename_i hn
   simp only [Option.some.injEq,Prod.mk.injEq] at h
   obtain⟨rfl,rfl⟩:=h
   exact⟨r,w,_,zero hn none 0 0 rfl (Nat.le_refl _),Ext.refl _ _ _ _,hw,.vnil⟩
  ·rename_i hn
   split at h
   ·rename_i hsm
    simp only [Option.some.injEq,Prod.mk.injEq] at h
    obtain⟨rfl,rfl⟩:=h
    have hfit:=fits none 0 0 (by omega) (by omega)
    obtain⟨r',w',z',h1,h2,h3,h4⟩:=fresh none 0 0 [] #[] H rfl (by omega) hfit (by simp [Builtin.firstCells]) Vs.nil (λj hj=>by simp at hj) (by simp) hw rfl
    refine⟨r',w',z',h1,⟨Fz.le_refl F,h2,by simp,λb hb=>by rw [List.getElem?_append_left (by omega)]⟩,by simpa using h3,by simpa using h4⟩
   ·cases h
 ·
  cases hs with
  | emp a0=>
   split at h
   ·rename_i hn
    simp only [Option.some.injEq,Prod.mk.injEq] at h
    obtain⟨rfl,rfl⟩:=h
    exact⟨r,w,_,zero hn a0 0 0 rfl (Nat.le_refl _),Ext.refl _ _ _ _,hw,.emp a0⟩
   ·rename_i hn
    split at h
    ·rename_i hsm
     simp only [Option.some.injEq,Prod.mk.injEq] at h
     obtain⟨rfl,rfl⟩:=h
     have hfit:=fits a0 0 0 (by omega) (by omega)
     obtain⟨r',w',z',h1,h2,h3,h4⟩:=fresh a0 0 0 [] #[] H rfl (by omega) hfit (by cases a0 <;> simp [Builtin.firstCells,loadCells,loadCellsFrom]) Vs.nil (λj hj=>by simp at hj) (by simp) hw rfl
     exact⟨r',w',z',h1,⟨Fz.le_refl F,h2,by simp,λb hb=>by rw [List.getElem?_append_left (by omega)]⟩,by simpa using h3,by simpa using h4⟩
    ·cases h
 ·
  rename_i b zsz off len
  split at h
  ·rename_i t0 cs hH
   split at h
   ·rename_i hc
    obtain⟨ht0,hzk,hle,hrob⟩:=hc
    rw [ht0] at hH
    subst hzk
    have hrow:=row_cells hw hH
    obtain⟨hb,hHb⟩:=getElem_of_get? hH
    have hlive:H[b].live=true:=by rw [hHb];rfl
    have hshape:∃ a cap,s'=.slice (some ⟨(r b).blk,a,none⟩) len cap∧len≤cap∧(0<cap→a=(r b).base+off∧off+cap*(k+1)≤(r b).size)∧(cap=0→a≤(r b).base+(r b).size∧((r b).str=true→a<(r b).base+(r b).size)):=by
     cases hs with
     | vec _ _ _ _ cap _ h1 h2 h3=>exact⟨_,cap,rfl,h1,λ_=>⟨rfl,h3⟩,λh=>by omega⟩
     | vec0 _ _ _ o _ h1 h2=>exact⟨o,0,rfl,Nat.le_refl _,λh=>absurd h (Nat.lt_irrefl _),λ_=>⟨h1,h2⟩⟩
    obtain⟨a,cap,rfl,hlc,hpos,hzero⟩:=hshape
    split at h
    ·rename_i hn
     simp only [Option.some.injEq,Prod.mk.injEq] at h
     obtain⟨rfl,rfl⟩:=h
     exact⟨r,w,_,zero hn _ len cap rfl hlc,Ext.refl _ _ _ _,hw,hs⟩
    ·rename_i hn
     split at h
     case isFalse=>cases h
     rename_i hsm
     simp only [Option.some.injEq,Prod.mk.injEq] at h
     obtain⟨rfl,rfl⟩:=h
     have hbr:=hw.blk b hb
     rw [hHb] at hbr
     obtain⟨c,zf,h1,h2,h3,h4,h5,h6⟩:=hbr
     by_cases hroom:len+n≤cap
     ·
      have hcap0:0<cap:=by omega
      obtain⟨rfl,hcap⟩:=hpos hcap0
      have hmul:len*(k+1)+n*(k+1)≤cap*(k+1):=by rw [← Nat.add_mul];exact Nat.mul_le_mul_right _ hroom
      have hadd:((⟨(r b).blk,(r b).base+off,none⟩:Addr).add (len*i.size))=⟨(r b).blk,(r b).base+off+len*(k+1),none⟩:=by rw [add_none,hsize]
      obtain⟨w',e1,e2,e3,e4,e5,e6,c',e7,e8,e9,e10⟩:=run_storeCells_row (P:=P) (r b).blk news.toList ((r b).base+off+len*(k+1)) 0 c _ zf w h1 (λo ho=>h5 o (.inr ho))
       (by simp only [Array.length_toList,hv.1,hnl];omega) (λv hvm=>by
        obtain⟨j,hj,rfl⟩:=List.getElem_of_mem hvm
        have hj2:j<new.length:=by rw [← hv.1];simpa using hj
        have:=hone j hj2
        have hj3:j<news.size:=by rw [hv.1];exact hj2
        simpa [Array.getD_eq_getD_getElem?,hj3] using this)
      have hr:=run_append_in t u ty e i d ht hi hu hd (some ⟨(r b).blk,(r b).base+off,none⟩) len cap n x' news hlen (hrun' w (Later.refl w)) hroom (w':=w') (by simp only [hadd];exact e1)
      have hkill:=hw.kill b
      refine⟨upd r H.length ⟨(r b).blk,(r b).base+off,(r b).size - off,(r b).str⟩,w',_,hr,⟨Fz.le_refl F,upd_le _ _ _,by simp,λx hx=>?_⟩,?_,?_⟩
      ·rw [List.getElem?_append_left (by simp;omega),List.getElem?_set_ne (by omega)]
      ·have hHl:(H.set b .dead).length=H.length:=by simp
       have:=hkill.add (by rw [hHl];exact hL) (w':=w') (λq hq hcond=>?_) (by omega) e2 e3 e4 (.cells (2*e) ((cs.drop off).take (len*(k+1))++new)) ⟨(r b).blk,(r b).base+off,(r b).size - off,(r b).str⟩ ?_ (λ_=>hw.own b hb hlive) (λ_ a ha hla e=>?_)
       ·rw [hHl] at this;exact this
       ·refine e6 q (λe=>?_)
        subst e
        rcases hcond with ⟨a,ha,hla,e⟩ | ⟨o,v,hF⟩ | hB
        ·obtain⟨hne,ha2,hl2⟩:=live_set_dead ha hla
         exact hne (hw.inj a b ha2 hb hl2 hlive e)
        ·rw [h6 o] at hF;cases hF
        ·have:=hw.own b hb hlive;omega
       ·rw [hHl]
        have hlen2:((cs.drop off).take (len*(k+1))).length=len*(k+1):=by simp;omega
        refine⟨c',zf,?_,?_,?_,?_,?_,?_⟩
        ·rw [upd_same];exact e7
        ·rw [upd_same,e8];simp only;omega
        ·rw [upd_same];simp only [List.length_append,hlen2,hnl];omega
        ·intro j hj
         rw [upd_same]
         simp only
         by_cases hlt:j<len*(k+1)
         ·rw [List.getElem_append_left (by rw [hlen2];exact hlt),e9 _ (by omega)]
          have:=h4 (off+j) (by omega)
          simp only [List.getElem_take,List.getElem_drop]
          rw [show (r b).base+off+j=(r b).base+(off+j) by omega]
          exact⟨this.1.mono (Fz.le_refl F) (upd_le _ _ _) (by omega),this.2⟩
         ·have hj2:j - len*(k+1)<new.length:=by simp only [List.length_append,hlen2] at hj;omega
          rw [List.getElem_append_right (by omega)]
          simp only [hlen2]
          have:=e10 (j - len*(k+1)) (by simp only [Array.length_toList,hv.1];exact hj2)
          rw [show (r b).base+off+len*(k+1)+0+(j - len*(k+1))=(r b).base+off+j by omega] at this
          rw [this]
          have e:news.toList.getD (j - len*(k+1)) undef=news.getD (j - len*(k+1)) undef:=by simp [List.getD_eq_getElem?_getD,Array.getD_eq_getD_getElem?]
          rw [e]
          exact⟨(hv.2 _ hj2).mono (Fz.le_refl F) (upd_le _ _ _) (by omega),hone _ hj2⟩
        ·rw [upd_same]
         intro o ho
         refine h5 o (ho.imp id (λh=>by rw [e8] at h;exact h))
        ·rw [upd_same];exact h6
       ·obtain⟨hne,ha2,hl2⟩:=live_set_dead ha hla
        exact hne (hw.inj a b ha2 hb hl2 hlive e)
      ·have:=VRel.vec (F:=F) (r:=upd r H.length ⟨(r b).blk,(r b).base+off,(r b).size - off,(r b).str⟩) (n:=(H.set b .dead++[Blk.cells (2*e) ((cs.drop off).take (len*(k+1))++new)]).length) H.length (k+1) 0 (len+n) cap (by simp) hroom hcap0
        (by rw [upd_same];simp only;omega)
       simpa [upd_same] using this
     ·
      have hrow2:Row F r H.length w (r b).blk ((r b).base+off) ((cs.drop off).take (len*(k+1))):=(hrow.drop off).take _
      have hlen2:((cs.drop off).take (len*(k+1))).length=len*(k+1):=by simp;omega
      have hfit:=fits none len cap (by omega) hsm
      ·have holds:∃ olds:Array Value,Vs F r H.length ((cs.drop off).take (len*(k+1))) olds∧(∀ j,j<((cs.drop off).take (len*(k+1))).length→(olds.getD j undef).oneCell'=true) ∧
         (Builtin.firstCells i.size len (.slice (some ⟨(r b).blk,a,none⟩) len cap)).run P w.drew=.ok olds w.drew:=by
        by_cases hc0:0<cap
        ·obtain⟨rfl,_⟩:=hpos hc0
         have hrow3:Row F r H.length w.drew (r b).blk ((r b).base+off) ((cs.drop off).take (len*(k+1))):=hrow2
         obtain⟨olds,g1,g2,g3⟩:=hrow3.load (P:=P) hlen2
         exact⟨olds,g2,g3,by simp only [Builtin.firstCells,hsize];exact g1⟩
        ·have:len=0:=by omega
         subst this
         exact⟨#[],by simpa using Vs.nil,λj hj=>by simp at hj,by simp [Builtin.firstCells,loadCells,loadCellsFrom]⟩
       obtain⟨olds,g1,g2,g3⟩:=holds
       obtain⟨r',w',z',q1,q2,q3,q4⟩:=fresh (some ⟨(r b).blk,a,none⟩) len cap _ olds (H.set b .dead) rfl (by omega) hfit g3 g1 g2 hlen2 (hw.kill b) (by simp)
       refine⟨r',w',z',q1,⟨Fz.le_refl F,q2,by simp,λx hx=>?_⟩,q3,by simpa using q4⟩
       rw [List.getElem?_append_left (by simp;omega),List.getElem?_set_ne (by omega)]
   ·cases h
  ·cases h
 ·cases h
theorem iAppend_rel (hw:WRel B W0 L F r H w) (hL:∀ m,L m→m≤H.length) {ro:Nat} {ts:Array TypeId} {s x z:IV} {s' x':Value} {H':Hp} (h:iAppend P ts ro s x H=some (z,H')) (hs:VRel F r H.length s s') (hx:VRel F r H.length x x') (hro:ro≤H.length) (ty:TypeId) :
  ∃ t u,ts=#[t,u]∧((∃ r' w' z',(Builtin.append_ #[t,u] ty #[s',x']).run P w=.ok z' w'∧Ext ro F r H F r' H'∧WRel B W0 L F r' H' w'∧VRel F r' H'.length z z')):=by
 unfold iAppend at h
 split at h
 ·rename_i t u hts
  have hts':ts=#[t,u]:=by
   apply Array.ext';simpa using hts
  refine⟨t,u,hts',?_⟩
  have main:∀ (e:TypeId) (d:TypeDesc),P.underlying t=some (.slice e)→P.underlying u=some d→(∀ k,d≠.int k)→(match sizeT P e,zeroT P e,(P.info? e).map (·.bytes) with
    | some (n+1),some z,some (by_+1)=>if z.cells.length=n+1∧z.cells.all IV.one=true∧by_<4096 then app e (n+1) ro s x H else none
    | _,_,_=>none)=some (z,H')→((∃ r' w' z',(Builtin.append_ #[t,u] ty #[s',x']).run P w=.ok z' w'∧Ext ro F r H F r' H'∧WRel B W0 L F r' H' w'∧VRel F r' H'.length z z')):=by
   intro e d hu hu2 hd hm
   split at hm
   ·rename_i k zz kb hk hz hby
    split at hm
    ·rename_i hc
     obtain⟨i,z0,hi,hz0,hzr⟩:=zeroT_rel (F:=F) (r:=r) (n:=H.length) hz
     have hsize:i.size=k+1:=by unfold sizeT at hk;rw [hi] at hk;simpa using hk
     have hbytes:0<i.bytes∧i.bytes≤4096:=by
      have h3:=hc.2.2
      rw [hi] at hby;simp at hby;omega
     exact app_rel hw hL hm hs hx hro t u ty i zz z0 d hu hi hz0 hu2 hd hsize hbytes.1 hbytes.2 hzr hc.1 hc.2.1
    ·cases hm
   ·cases hm
  split at h
  ·rename_i e e2 hu hu2;exact main e _ hu hu2 (by simp) h
  ·rename_i e hu hu2;exact main e _ hu hu2 (by simp) h
  ·cases h
 ·cases h
end
end Go.Tg
namespace Go.Tg
variable [Globs]
open Go.Lib (bytesWorld bytesCells bytesWorld_at_old bytesWorld_at_new bytesWorld_size bytesWorld_cell run_convert_string_bytes)
section
variable {P:Program} {B:Nat} {W0:Base} {L:Nat→Prop} {F:Fz} {r:Rm} {H:Hp} {w:World}
theorem iConvInt_rel {n:Nat} {k k':IntKind} {x z:IV} {x':Value} {src dst:TypeId} (hs:P.underlying src=some (.int k')) (hd:P.underlying dst=some (.int k)) (h:iConvInt k x=some z) (hx:VRel F r n x x') :
  ∃ z',(convert src dst x').run P w=.ok z' w∧VRel F r n z z':=by
 unfold iConvInt at h
 split at h
 ·simp only [Option.some.injEq] at h;subst h
  rw [rel_int hx]
  exact⟨.int k _,by simp [convert,run_underlying hs,run_underlying hd,Conv.intToInt],.d (.int _ _)⟩
 ·cases h
theorem byteOf_rel {n:Nat} {v:IV} {b:UInt8} {v':Value} (h:byteOf v=some b) (hv:VRel F r n v v'):∃ m:Int,v'=.int .u8 m∧UInt8.ofNat m.toNat=b:=by
 unfold byteOf at h
 split at h
 ·rw [rel_int hv]
  simp only [Option.some.injEq] at h
  exact⟨_,rfl,h⟩
 ·cases h
theorem foldl_push (l:List UInt8):∀ (s:ByteArray),(l.foldl (λr b=>r.push b) s).data.toList=s.data.toList++l:=by
 induction l with
 | nil=>intro s;simp
 | cons b l ih=>intro s;simp only [List.foldl_cons,ih];simp
theorem bstr_rel (hw:WRel B W0 L F r H w) {x z:IV} {x':Value} {src dst e:TypeId} (hs:P.underlying src=some (.slice e)) (he:P.underlying e=some (.int .u8)) (hd:P.underlying dst=some .string) (h:bstr x H=some z) (hx:VRel F r H.length x x') :
  ∃ z',(convert src dst x').run P w=.ok z' w∧VRel F r H.length z z':=by
 have empty:∀ (a:Option Addr) (c:Nat),(convert src dst (.slice a 0 c)).run P w=.ok (.string .empty) w:=by
  intro a c
  rw [run_convert_bytes_string w src dst e a 0 c hs he hd]
  cases a with
  | none=>rfl
  | some a=>
   have:=run_bytesToString (P:=P) (w:=w) a 0 c [] (by simp [loadCells,loadCellsFrom])
   simpa using this
 unfold bstr at h
 split at h
 ·simp only [Option.some.injEq] at h;subst h
  cases hx
  exact⟨_,empty none 0,.d (.str .empty)⟩
 ·simp only [Option.some.injEq] at h;subst h
  cases hx with
  | d hx=>
   cases hx with
   | nil a cap=>exact⟨_,empty a cap,.d (.str .empty)⟩
   | lst=>exact⟨_,empty _ _,.d (.str .empty)⟩
 ·rename_i b zz off len
  simp only [Option.bind_eq_some_iff,Option.map_eq_some_iff] at h
  obtain⟨⟨m,cs⟩,h1,l,h2,rfl⟩:=h
  simp only at h2
  obtain⟨g1,g2,news,g3,g4,g5,_⟩:=srcCells_rel (P:=P) hw (by omega) h1 hx
  have hm:m=len:=by
   cases hx with
   | vec=>simp only [Builtin.lenOf] at g1;injection g1 with g1;exact g1.symm
   | vec0=>simp only [Builtin.lenOf] at g1;injection g1 with g1;exact g1.symm
  obtain⟨e1,e2⟩:=mapM_get _ _ _ h2
  have hcs:cs.length=m:=by simpa using g2
  let ns:List Int:=(List.range m).map λj=>match news.getD j undef with | .int _ q=>q | _=>0
  have hns:∀ j (hj:j<m),∃ q:Int,news.getD j undef=.int .u8 q∧UInt8.ofNat q.toNat=l[j]'(by omega):=λj hj=>
   byteOf_rel (e2 j (by omega) (by omega)) (g3.2 j (by omega))
  have hnews:news=(ns.map (Value.int .u8)).toArray:=by
   apply Array.ext'
   apply List.ext_getElem
   ·simp [ns,g3.1,hcs]
   ·intro j hj1 hj2
    have hj:j<m:=by simpa [g3.1,hcs] using hj1
    obtain⟨q,hq,_⟩:=hns j hj
    have hj3:j<news.size:=by rw [g3.1];omega
    simp only [List.getElem_map,ns,List.getElem_range,hq,Array.getElem_toList]
    simpa [hj3] using hq
  have hfold:ns.foldl (λr q=>r.push (UInt8.ofNat q.toNat)) ByteArray.empty=(l.foldl (λr b=>r.push b) ByteArray.empty):=by
   have:ns.map (λq=>UInt8.ofNat q.toNat)=l:=by
    apply List.ext_getElem
    ·simp [ns];omega
    ·intro j hj1 hj2
     have hj:j<m:=by simpa [ns] using hj1
     obtain⟨q,hq,hq2⟩:=hns j hj
     simp [ns,← hq2]
     have:=hq
     simp only [Array.getD_eq_getD_getElem?] at this
     simp [this]
   conv=>rhs;rw [← this,List.foldl_map]
  have fin:∀ (a:Option Addr) (cap:Nat),x'=.slice a m cap→∃ z',(convert src dst x').run P w=.ok z' w∧VRel F r H.length (.d (.str l)) z':=by
   rintro a cap rfl
   cases a with
   | none=>
    by_cases hm0:m=0
    ·subst hm0
     have:l=[]:=List.eq_nil_of_length_eq_zero (by omega)
     subst this
     exact⟨_,empty none cap,.d (.str .empty)⟩
    ·cases hx
   | some a=>
    rw [run_convert_bytes_string w src dst e _ m cap hs he hd]
    have hl:(loadCells a m).run P w=.ok news w:=by
     have:=g5 w (Later.refl w)
     simpa [Builtin.firstCells] using this
    rw [run_bytesToString w a m cap ns (by rw [hl,hnews]),hfold]
    refine⟨_,rfl,?_⟩
    have:=VRel.d (F:=F) (r:=r) (n:=H.length) (DRel.str (F:=F) (l.foldl (λr b=>r.push b) ByteArray.empty))
    rw [foldl_push] at this
    simpa using this
  subst hm
  cases hx with
  | vec _ _ _ _ cap=>exact fin _ _ rfl
  | vec0=>exact fin _ _ rfl
 ·cases h
theorem sbyt_rel (hw:WRel B W0 L F r H w) (hL:∀ m,L m→m≤H.length) {x z:IV} {x':Value} {H':Hp} {src dst e:TypeId} (hs:P.underlying src=some .string) (hd:P.underlying dst=some (.slice e)) (he:P.underlying e=some (.int .u8)) (h:sbyt e x H=some (z,H')) (hx:VRel F r H.length x x') (ro:Nat) (hro:ro≤H.length) :
  ∃ r' w' z',(convert src dst x').run P w=.ok z' w'∧Ext ro F r H F r' H'∧WRel B W0 L F r' H' w'∧VRel F r' H'.length z z':=by
 unfold sbyt at h
 split at h
 ·simp only [Option.some.injEq,Prod.mk.injEq] at h
  obtain⟨rfl,rfl⟩:=h
  obtain⟨s,rfl,hs2⟩:=rel_str hx
  have hs0:s.size=0:=by rw [size_eq,hs2];rfl
  have hl:Later w (bytesWorld w e s):=⟨rfl,rfl,rfl,by rw [bytesWorld_size];omega,λk hk=>bytesWorld_at_old w e s k hk⟩
  refine⟨r,_,_,run_convert_string_bytes w src dst e s hs hd he,Ext.refl _ _ _ _,hw.later hl,?_⟩
  rw [hs0];exact .d (.nil _ _)
 ·rename_i c0 s0
  simp only [Option.some.injEq,Prod.mk.injEq] at h
  obtain⟨rfl,rfl⟩:=h
  obtain⟨s,rfl,hs2⟩:=rel_str hx
  have hs0:s.size=s0.length+1:=by rw [size_eq,hs2];rfl
  have hcsz:(bytesCells w e s).size=grownCap w s.size 0 e:=by
   have h1:=grownCap_le w s.size 0 e
   have h2:s.data.size=s.size:=rfl
   simp [bytesCells,h2];omega
  have hcap:=grownCap_le w s.size 0 e
  have hget:∀ j (hj:j<s.size),(bytesCells w e s).getD j undef=.int .u8 ((s.data.toList.getD j 0).toNat:Int):=by
   intro j hj
   have:=bytesWorld_cell w e s j hj
   rw [cell_of (bytesWorld_at_new w e s)] at this
   simp [Array.getD_eq_getD_getElem?,this]
  rw [← hs2]
  have hadd:=hw.add hL (w':=bytesWorld w e s) (λk hk _=>bytesWorld_at_old w e s k hk) (by rw [bytesWorld_size];omega) rfl rfl rfl (.cells (2*e) (s.data.toList.map λb=>.d (.int .u8 b.toNat))) ⟨w.heap.size,0,grownCap w s.size 0 e,true⟩ ?_ (λ_=>hw.size) (λ_ a ha hla e=>?_)
  ·refine⟨_,_,_,run_convert_string_bytes w src dst e s hs hd he,⟨Fz.le_refl F,upd_le _ _ _,by simp,λb hb=>by rw [List.getElem?_append_left (by omega)]⟩,hadd,?_⟩
   have:=VRel.vec (F:=F) (r:=upd r H.length ⟨w.heap.size,0,grownCap w s.size 0 e,true⟩) (n:=(H++[Blk.cells (2*e) (s.data.toList.map λb=>IV.d (.int .u8 b.toNat))]).length) H.length 1 0 s.size (grownCap w s.size 0 e) (by simp) hcap (by omega) (by rw [upd_same];simp)
   simpa [upd_same,hs0] using this
  ·refine⟨bytesCells w e s,((bytesCells w e s).size,(bytesCells w e s).size+1),?_,?_,?_,?_,?_,?_⟩
   ·rw [upd_same,show 2*e / 2=e from Nat.mul_div_cancel_left e (by decide)];exact bytesWorld_at_new w e s
   ·rw [upd_same,hcsz];simp
   ·rw [upd_same];simp only [List.length_map,← size_eq];exact hcap
   ·intro j hj
    rw [upd_same]
    have hj2:j<s.size:=by rw [size_eq];simpa only [List.length_map] using hj
    simp only [Nat.zero_add,hget j hj2,List.getElem_map]
    have:s.data.toList.getD j 0=s.data.toList[j]'(by simpa using hj):=by simp [List.getD_eq_getElem?_getD,hj2]
    rw [this]
    exact⟨.d (.int _ _),rfl⟩
   ·rw [upd_same]
    intro o ho ⟨h1,_⟩
    rcases ho with ho | ho
    ·cases ho
    ·simp only at h1;omega
   ·intro o;rw [upd_same];exact hw.fz_new o
  ·have:=(hw.blk a ha).lt hla
   rw [e] at this;exact absurd this (Nat.lt_irrefl _)
 ·cases h
theorem iMin_rel {n:Nat} {x y z:IV} {x' y':Value} (h:iMin x y=some z) (hx:VRel F r n x x') (hy:VRel F r n y y') (ts:Array TypeId) (ty:TypeId):∃ z',(Builtin.min_ ts ty #[x',y']).run P w=.ok z' w∧VRel F r n z z':=by
 unfold iMin at h
 split at h
 ·split at h
  ·simp only [Option.some.injEq] at h;subst h
   rw [rel_int hx,rel_int hy]
   exact⟨.int _ _,by simp [Builtin.min_,Builtin.min2],.d (.int _ _)⟩
  ·cases h
 ·cases h
theorem iMax_rel {n:Nat} {x y z:IV} {x' y':Value} (h:iMax x y=some z) (hx:VRel F r n x x') (hy:VRel F r n y y') (ts:Array TypeId) (ty:TypeId):∃ z',(Builtin.max_ ts ty #[x',y']).run P w=.ok z' w∧VRel F r n z z':=by
 unfold iMax at h
 split at h
 ·split at h
  ·simp only [Option.some.injEq] at h;subst h
   rw [rel_int hx,rel_int hy]
   exact⟨.int _ _,by simp [Builtin.max_,Builtin.max2],.d (.int _ _)⟩
  ·cases h
 ·cases h
theorem iMin3_rel {n:Nat} {x y u z:IV} {x' y' u':Value} (h:((iMin x y).bind λv=>iMin v u)=some z) (hx:VRel F r n x x') (hy:VRel F r n y y') (hu:VRel F r n u u') (ts:Array TypeId) (ty:TypeId):∃ z',(Builtin.min_ ts ty #[x',y',u']).run P w=.ok z' w∧VRel F r n z z':=by
 rw [Option.bind_eq_some_iff] at h
 obtain⟨v,h1,h2⟩:=h
 unfold iMin at h1
 split at h1
 ·split at h1
  ·simp only [Option.some.injEq] at h1;subst h1
   rw [rel_int hx,rel_int hy]
   unfold iMin at h2
   split at h2
   ·rename_i heq
    split at h2
    ·simp only [Option.some.injEq] at h2;subst h2
     simp only [IV.d.injEq,D.int.injEq] at heq
     obtain⟨rfl,rfl⟩:=heq
     rw [rel_int hu]
     exact⟨.int _ _,by simp [Builtin.min_,Builtin.min2, *],.d (.int _ _)⟩
    ·cases h2
   ·cases h2
  ·cases h1
 ·cases h1
theorem iMax3_rel {n:Nat} {x y u z:IV} {x' y' u':Value} (h:((iMax x y).bind λv=>iMax v u)=some z) (hx:VRel F r n x x') (hy:VRel F r n y y') (hu:VRel F r n u u') (ts:Array TypeId) (ty:TypeId):∃ z',(Builtin.max_ ts ty #[x',y',u']).run P w=.ok z' w∧VRel F r n z z':=by
 rw [Option.bind_eq_some_iff] at h
 obtain⟨v,h1,h2⟩:=h
 unfold iMax at h1
 split at h1
 ·split at h1
  ·simp only [Option.some.injEq] at h1;subst h1
   rw [rel_int hx,rel_int hy]
   unfold iMax at h2
   split at h2
   ·rename_i heq
    split at h2
    ·simp only [Option.some.injEq] at h2;subst h2
     simp only [IV.d.injEq,D.int.injEq] at heq
     obtain⟨rfl,rfl⟩:=heq
     rw [rel_int hu]
     exact⟨.int _ _,by simp [Builtin.max_,Builtin.max2, *],.d (.int _ _)⟩
    ·cases h2
   ·cases h2
  ·cases h1
 ·cases h1
end
end Go.Tg
namespace Go.Tg
variable [Globs]
section
variable {P:Program} {B:Nat} {W0:Base} {L:Nat→Prop}
theorem DRel.one {F:Fz} {x:D} {v:Value} (h:DRel F x v) (h1:v.oneCell'=true):x.cells=[x]:=by
 cases h <;> first | rfl | simp [Value.oneCell'] at h1
theorem group_length (sz:Nat):∀ (len:Nat) (l:List D),(frz.group sz len l).length=len:=by
 intro len
 induction len with
 | zero=>intro l;rfl
 | succ len ih=>intro l;simp [frz.group,ih]
theorem group_get (sz:Nat):∀ (len:Nat) (l:List D) (i:Nat) (hi:i<(frz.group sz len l).length),i*sz+sz≤l.length →
  (frz.group sz len l)[i]=if h:sz=1∧i<l.length then l[i]'h.2 else .agg ((l.drop (i*sz)).take sz):=by
 intro len
 induction len with
 | zero=>intro l i hi;simp [frz.group] at hi
 | succ len ih=>
  intro l i hi hle
  simp only [frz.group]
  cases i with
  | zero=>
   simp only [List.getElem_cons_zero]
   by_cases h1:sz=1
   ·subst h1
    cases l with
    | nil=>simp at hle
    | cons x l=>simp
   ·simp [h1]
  | succ i=>
   simp only [List.getElem_cons_succ]
   rw [ih (l.drop sz) i (by simpa [frz.group] using hi) (by simp;rw [Nat.add_mul] at hle;omega)]
   by_cases h1:sz=1
   ·subst h1
    have h2:i+1<l.length:=by omega
    have h3:i<(l.drop 1).length:=by simp;omega
    rw [dif_pos ⟨rfl,h3⟩,dif_pos ⟨rfl,h2⟩]
    simp [Nat.add_comm]
   ·rw [dif_neg (λh=>h1 h.1),dif_neg (λh=>h1 h.1)]
    simp only [List.drop_drop]
    congr 3
    rw [Nat.add_mul];omega
def Frz (ro:Nat) (H H':Hp):Prop:=H'.length=H.length∧∀ b,H'[b]? = H[b]? ∨ (ro≤b∧(∃ T cs,H[b]? = some (.cells T cs))∧∃ l,H'[b]? = some (.frz l))
theorem Frz.refl (ro:Nat) (H:Hp):Frz ro H H:=⟨rfl,λ_=>.inl rfl⟩
theorem Frz.trans {ro:Nat} {H H' H'':Hp} (h:Frz ro H H') (h':Frz ro H' H''):Frz ro H H'':=by
 refine⟨h'.1.trans h.1,λb=>?_⟩
 rcases h.2 b with e | ⟨e1,e2,l,e3⟩
 ·rcases h'.2 b with f | ⟨f1,f2,f3⟩
  ·exact .inl (f.trans e)
  ·rw [e] at f2;exact .inr ⟨f1,f2,f3⟩
 ·rcases h'.2 b with f | ⟨_,⟨T,cs,f2⟩,_⟩
  ·exact .inr ⟨e1,e2,l,f.trans e3⟩
  ·rw [e3] at f2;cases f2
theorem Frz.ro {ro:Nat} {H H':Hp} (h:Frz ro H H'):∀ b,b<ro→H'[b]? = H[b]?:=by
 intro b hb
 rcases h.2 b with e | ⟨e1,_⟩
 ·exact e
 ·omega
theorem frz_rel (w:World) (r:Rm) (ro:Nat):∀ (n:Nat) (v:IV) (H:Hp) (x:D) (H':Hp) (F:Fz) (v':Value),frz ro n v H=some (x,H')→WRel B W0 L F r H w→VRel F r H.length v v' →
  ∃ F',F.le F'∧WRel B W0 L F' r H' w∧DRel F' x v'∧Frz ro H H':=by
 intro n
 induction n with
 | zero=>intro v H x H' F v' h;simp [frz] at h
 | succ n ih=>
  have many:∀ (cs:List IV) (H:Hp) (l:List D) (H':Hp) (F:Fz) (vs:Nat→Value),frz.many ro n cs H=some (l,H')→WRel B W0 L F r H w→(∀ i (hi:i<cs.length),VRel F r H.length cs[i] (vs i)) →
    ∃ F',F.le F'∧WRel B W0 L F' r H' w∧l.length=cs.length∧(∀ i (hi:i<l.length),DRel F' l[i] (vs i))∧Frz ro H H':=by
   intro cs
   induction cs with
   | nil=>
    intro H l H' F vs h hw _
    simp only [frz.many,frzMany,Option.some.injEq,Prod.mk.injEq] at h
    obtain⟨rfl,rfl⟩:=h
    exact⟨F,Fz.le_refl F,hw,rfl,λi hi=>by simp at hi,Frz.refl _ _⟩
   | cons c cs ihc=>
    intro H l H' F vs h hw hv
    simp only [frz.many,frzMany,Option.bind_eq_some_iff,Option.map_eq_some_iff,Prod.mk.injEq] at h
    obtain⟨⟨x,H1⟩,h1,⟨l1,H2⟩,h2,rfl,rfl⟩:=h
    obtain⟨F1,a1,a2,a3,a4⟩:=ih c H x H1 F (vs 0) h1 hw (hv 0 (by simp))
    obtain⟨F2,b1,b2,b3,b4,b5⟩:=ihc H1 l1 H2 F1 (λi=>vs (i+1)) h2 a2 (λi hi=>by
     have:=hv (i+1) (by simp;omega)
     simp only [List.getElem_cons_succ] at this
     exact this.mono a1 (Rm.le_refl _ r) (by rw [a4.1];exact Nat.le_refl _))
    refine⟨F2,Fz.le_trans a1 b1,b2,by simp [b3],λi hi=>?_,a4.trans b5⟩
    cases i with
    | zero=>simpa using a3.mono b1
    | succ i=>simpa using b4 i (by simpa using hi)
  intro v H x H' F v' h hw hv
  unfold frz at h
  split at h
  ·simp only [Option.some.injEq,Prod.mk.injEq] at h
   obtain⟨rfl,rfl⟩:=h
   cases hv with
   | d hv=>exact⟨F,Fz.le_refl F,hw,hv,Frz.refl _ _⟩
  ·simp only [Option.some.injEq,Prod.mk.injEq] at h
   obtain⟨rfl,rfl⟩:=h
   cases hv
   exact⟨F,Fz.le_refl F,hw,.nil _ _,Frz.refl _ _⟩
  ·simp only [Option.some.injEq,Prod.mk.injEq] at h
   obtain⟨rfl,rfl⟩:=h
   cases hv
   exact⟨F,Fz.le_refl F,hw,.nil _ _,Frz.refl _ _⟩
  ·rename_i cs
   simp only [Option.map_eq_some_iff,Prod.mk.injEq] at h
   obtain⟨⟨l,H1⟩,h1,rfl,rfl⟩:=h
   cases hv with
   | agg _ vs hl hg=>
    obtain⟨F1,a1,a2,a3,a4,a5⟩:=many cs H l H1 F (λi=>vs.getD i undef) h1 hw hg
    exact⟨F1,a1,a2,.agg _ _ (by rw [hl,a3]) a4,a5⟩
  ·rename_i b sz off len
   have part:∀ (l:List D) (H1:Hp) (F1:Fz),F.le F1→WRel B W0 L F1 r H1 w→H1.length=H.length→H1[b]? = some (.frz l)→off+len*sz≤l.length→DRel F1 (.lst (frz.group sz len (l.drop off))) v':=by
    intro l H1 F1 hF hw1 hlen hH1 hle
    have hv1:=hv.mono hF (Rm.le_refl H.length r) (n':=H1.length) (by rw [hlen];exact Nat.le_refl _)
    obtain⟨hb,hHb⟩:=getElem_of_get? hH1
    have hbr:=hw1.blk b hb
    rw [hHb] at hbr
    obtain⟨c,h1,h2⟩:=hbr
    cases hv1 with
    | vec0=>simpa [frz.group] using DRel.nil (F:=F1) _ _
    | vec _ _ _ _ cap _ hlc hc0 hcap=>
     have hgl:=group_length sz len (l.drop off)
     have hidx:∀ i,i<len→i*sz+sz≤len*sz:=λi hi=>by
      have:(i+1)*sz≤len*sz:=Nat.mul_le_mul_right _ hi
      rw [Nat.add_mul] at this;omega
     have hel:∀ i (hi:i<(frz.group sz len (l.drop off)).length),((frz.group sz len (l.drop off))[i]).cells.length=sz∧∀ j (hj:j<((frz.group sz len (l.drop off))[i]).cells.length),∃ hk:off+i*sz+j<l.length,((frz.group sz len (l.drop off))[i]).cells[j]=l[off+i*sz+j]:=by
      intro i hi
      have hi':i<len:=by rw [hgl] at hi;exact hi
      have h3:=hidx i hi'
      rw [group_get sz len (l.drop off) i hi (by simp;omega)]
      by_cases hs:sz=1
      ·subst hs
       have hk:off+i<l.length:=by omega
       rw [dif_pos ⟨rfl,by simp;omega⟩]
       have e:(l.drop off)[i]'(by simp;omega)=l[off+i]:=by simp
       have hone:l[off+i].cells=[l[off+i]]:=(h2 (off+i) hk).one (hw1.one _ _ _ (h1 (off+i) hk))
       rw [e,hone]
       refine⟨rfl,λj hj=>?_⟩
       have:j=0:=by simp at hj;omega
       subst this
       exact⟨by omega,by simp⟩
      ·rw [dif_neg (λh=>hs h.1)]
       simp only [D.cells]
       refine⟨by simp;omega,λj hj=>?_⟩
       have hj':j<sz:=by simp at hj;omega
       exact⟨by omega,by simp [Nat.add_assoc]⟩
     have:=DRel.lst (F:=F1) (frz.group sz len (l.drop off)) (r b).blk ((r b).base+off) cap sz (λi j=>c (off+i*sz+j)) (by rw [hgl];exact hlc) (λi hi=>(hel i hi).1)
      (λi j hi hj=>by
       have hi':i<len:=by rw [hgl] at hi;exact hi
       have h3:=hidx i hi'
       have:=h1 (off+i*sz+j) (by omega)
       rw [show (r b).base+off+i*sz+j=(r b).base+(off+i*sz+j) by omega];exact this)
      (λi hi j hj=>by
       obtain⟨hk,e⟩:=(hel i hi).2 j hj
       rw [e];exact h2 _ hk)
     rw [hgl] at this;exact this
   split at h
   ·rename_i l hH
    split at h
    ·rename_i hle
     simp only [Option.some.injEq,Prod.mk.injEq] at h
     obtain⟨rfl,rfl⟩:=h
     exact⟨F,Fz.le_refl F,hw,part l H F (Fz.le_refl F) hw rfl hH hle,Frz.refl _ _⟩
    ·cases h
   ·rename_i cs hH
    split at h
    ·rename_i hc
     obtain⟨hle,hro⟩:=hc
     simp only [Option.bind_eq_some_iff] at h
     obtain⟨⟨l,H1⟩,h1,h⟩:=h
     simp only at h
     obtain⟨F1,a1,a2,a3,a4,a5⟩:=many cs H l H1 F (λj=>(w.cell? ⟨(r b).blk,(r b).base+j,none⟩).getD undef) h1 hw (λi hi=>by
      obtain⟨u,hu,hu2,_⟩:=hw.cell hH hi
      rw [hu];exact hu2)
     split at h
     ·rename_i T2 cs2 hH1
      simp only [Option.some.injEq,Prod.mk.injEq] at h
      obtain⟨rfl,rfl⟩:=h
      have hcs:cs2=cs:=by
       rcases a5.2 b with e | ⟨_,_,l2,e⟩
       ·rw [e,hH] at hH1;exact ((by simpa using hH1.symm:T2=_∧cs2=cs)).2
       ·rw [e] at hH1;cases hH1
      subst hcs
      obtain⟨F2,b1,b2⟩:=a2.freeze hH1 l a3 (λvv hvv j hj=>by
       have h5:=a4 j hj
       have h6:=hvv j (by omega)
       rw [h6] at h5;exact h5)
      have hlen1:(H1.set b (.frz l)).length=H.length:=by simp [a5.1]
      have hget:(H1.set b (.frz l))[b]? = some (.frz l):=by
       rw [List.getElem?_set_self];exact (getElem_of_get? hH1).1
      refine⟨F2,Fz.le_trans a1 b1,b2,part l _ F2 (Fz.le_trans a1 b1) b2 hlen1 hget (by omega),hlen1,λb'=>?_⟩
      by_cases e:b'=b
      ·subst e;exact .inr ⟨hro,⟨_,_,hH⟩,l,hget⟩
      ·rw [List.getElem?_set_ne (Ne.symm e)];exact a5.2 b'
     ·cases h
    ·cases h
   ·cases h
  ·cases h
theorem frzA_rel (w:World) (r:Rm) (ro:Nat) {v:IV} {H:Hp} {F:Fz} {v':Value} (hw:WRel B W0 L F r H w) (hv:VRel F r H.length v v') :
  ∃ F',F.le F'∧WRel B W0 L F' r (frzA ro v H).2 w∧VRel F' r H.length (frzA ro v H).1 v'∧Frz ro H (frzA ro v H).2:=by
 unfold frzA
 split
 ·exact⟨F,Fz.le_refl F,hw,hv,Frz.refl _ _⟩
 ·split
  ·rename_i x H1 h
   obtain⟨F1,a1,a2,a3,a4⟩:=frz_rel w r ro 6 _ H x H1 F v' h hw hv
   exact⟨F1,a1,a2,.d a3,a4⟩
  ·exact⟨F,Fz.le_refl F,hw,hv,Frz.refl _ _⟩
theorem frzArgs_rel (w:World) (r:Rm) (ro:Nat):∀ (vs:List (Bool×IV)) (H:Hp) (F:Fz) (vs':Nat→Value),WRel B W0 L F r H w→(∀ i (hi:i<vs.length),VRel F r H.length vs[i].2 (vs' i)) →
  ∃ F',F.le F'∧WRel B W0 L F' r (frzArgs ro vs H).2 w∧(frzArgs ro vs H).1.length=vs.length∧(∀ i (hi:i<(frzArgs ro vs H).1.length),VRel F' r H.length (frzArgs ro vs H).1[i] (vs' i))∧Frz ro H (frzArgs ro vs H).2:=by
 intro vs
 induction vs with
 | nil=>intro H F vs' hw _;exact⟨F,Fz.le_refl F,hw,rfl,λi hi=>by simp [frzArgs] at hi,Frz.refl _ _⟩
 | cons p vs ih=>
  intro H F vs' hw hv
  obtain⟨s,v⟩:=p
  have h0:=hv 0 (by simp)
  simp only [List.getElem_cons_zero] at h0
  rw [frzArgs]
  split
  ·obtain⟨F1,a1,a2,a3,a4⟩:=frzA_rel w r ro hw h0
   obtain⟨F2,b1,b2,b3,b4,b5⟩:=ih (frzA ro v H).2 F1 (λi=>vs' (i+1)) a2 (λi hi=>by
    have:=hv (i+1) (by simp;omega)
    simp only [List.getElem_cons_succ] at this
    exact this.mono a1 (Rm.le_refl _ r) (by rw [a4.1];exact Nat.le_refl _))
   refine⟨F2,Fz.le_trans a1 b1,b2,by simp [b3],λi hi=>?_,a4.trans b5⟩
   cases i with
   | zero=>simpa using a3.mono b1 (Rm.le_refl _ r) (Nat.le_refl _)
   | succ i=>
    have:=b4 i (by simpa using hi)
    rw [a4.1] at this
    simpa using this
  ·obtain⟨F2,b1,b2,b3,b4,b5⟩:=ih H F (λi=>vs' (i+1)) hw (λi hi=>by
    have:=hv (i+1) (by simp;omega)
    simpa using this)
   refine⟨F2,b1,b2,by simp [b3],λi hi=>?_,b5⟩
   cases i with
   | zero=>simpa using h0.mono b1 (Rm.le_refl _ r) (Nat.le_refl _)
   | succ i=>simpa using b4 i (by simpa using hi)
theorem frzR_rel (w:World) (r:Rm) (ro n0:Nat) {v z:IV} {H H':Hp} {F:Fz} {v':Value} (h:frzR ro v H=some (z,H')) (hw:WRel B W0 L F r H w) (hv:VRel F r H.length v v') :
  ∃ F',F.le F'∧WRel B W0 L F' r H' w∧VRel F' r n0 z v'∧Frz ro H H':=by
 unfold frzR at h
 split at h
 ·simp only [Option.some.injEq,Prod.mk.injEq] at h
  obtain⟨rfl,rfl⟩:=h
  cases hv with
  | d hv=>exact⟨F,Fz.le_refl F,hw,.d hv,Frz.refl _ _⟩
 ·simp only [Option.some.injEq,Prod.mk.injEq] at h
  obtain⟨rfl,rfl⟩:=h
  cases hv
  exact⟨F,Fz.le_refl F,hw,.nul,Frz.refl _ _⟩
 ·simp only [Option.map_eq_some_iff,Prod.mk.injEq] at h
  obtain⟨⟨x,H1⟩,h1,rfl,rfl⟩:=h
  cases hv with
  | ifc _ hv=>
   obtain⟨F1,a1,a2,a3,a4⟩:=frz_rel w r ro 6 _ H x H1 F _ h1 hw hv
   exact⟨F1,a1,a2,.ifc _ (.d a3),a4⟩
 ·simp only [Option.some.injEq,Prod.mk.injEq] at h
  obtain⟨rfl,rfl⟩:=h
  cases hv
  exact⟨F,Fz.le_refl F,hw,.noifc,Frz.refl _ _⟩
 ·simp only [Option.map_eq_some_iff,Prod.mk.injEq] at h
  obtain⟨⟨x,H1⟩,h1,rfl,rfl⟩:=h
  obtain⟨F1,a1,a2,a3,a4⟩:=frz_rel w r ro 6 _ H x H1 F _ h1 hw hv
  exact⟨F1,a1,a2,.d a3,a4⟩
theorem frzRs_rel (w:World) (r:Rm) (ro n0:Nat):∀ (vs:List IV) (H:Hp) (F:Fz) (vs':Nat→Value) (out:List IV) (H':Hp),frzRs ro vs H=some (out,H')→WRel B W0 L F r H w→(∀ i (hi:i<vs.length),VRel F r H.length vs[i] (vs' i)) →
  ∃ F',F.le F'∧WRel B W0 L F' r H' w∧out.length=vs.length∧(∀ i (hi:i<out.length),VRel F' r n0 out[i] (vs' i))∧Frz ro H H':=by
 intro vs
 induction vs with
 | nil=>
  intro H F vs' out H' h hw _
  simp only [frzRs,Option.some.injEq,Prod.mk.injEq] at h
  obtain⟨rfl,rfl⟩:=h
  exact⟨F,Fz.le_refl F,hw,rfl,λi hi=>by simp at hi,Frz.refl _ _⟩
 | cons v vs ih=>
  intro H F vs' out H' h hw hv
  simp only [frzRs,Option.bind_eq_some_iff,Option.map_eq_some_iff,Prod.mk.injEq] at h
  obtain⟨⟨x,H1⟩,h1,⟨l,H2⟩,h2,rfl,rfl⟩:=h
  obtain⟨F1,a1,a2,a3,a4⟩:=frzR_rel w r ro n0 h1 hw (hv 0 (by simp))
  obtain⟨F2,b1,b2,b3,b4,b5⟩:=ih H1 F1 (λi=>vs' (i+1)) l H2 h2 a2 (λi hi=>by
   have:=hv (i+1) (by simp;omega)
   simp only [List.getElem_cons_succ] at this
   exact this.mono a1 (Rm.le_refl _ r) (by rw [a4.1];exact Nat.le_refl _))
  refine⟨F2,Fz.le_trans a1 b1,b2,by simp [b3],λi hi=>?_,a4.trans b5⟩
  cases i with
  | zero=>simpa using a3.mono b1 (Rm.le_refl _ r) (Nat.le_refl _)
  | succ i=>simpa using b4 i (by simpa using hi)
end
end Go.Tg
