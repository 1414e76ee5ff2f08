/- The other operations: maps, the letters of texts, unsafe texts, arrays. -/
import Derived.Test.YtnkobejhnphmhaaGreatDoorAc
set_option linter.all false
namespace Go.Tg
variable [Globs]
section
variable {P:Program} {B:Nat} {W0:Base} {L:Nat→Prop} {F:Fz} {r:Rm} {H:Hp} {w:World}
def turned (w:World) (k:Nat) (o:Obj):World:={ w with heap:=w.heap.setIfInBounds k o }
theorem run_getObj {k:Nat} {o:Obj} (h:w.heap[k]? = some o) (hc:∀ c t z,o≠.cells c t z):(getObj k).run P w=.ok o w:=by
 cases o <;> first | (simp only [getObj,Sem.run,h];done) | exact absurd rfl (hc _ _ _)
theorem run_setObj {k:Nat} {o:Obj} (o':Obj) (h:w.heap[k]? = some o) (hc:∀ c t z,o≠.cells c t z):(setObj k o').run P w=.ok () (turned w k o'):=by
 cases o <;> first | (simp only [setObj,Sem.run,h];rfl) | exact absurd rfl (hc _ _ _)
theorem turned_same {k:Nat} {o:Obj} (o':Obj) (h:w.heap[k]? = some o):(turned w k o').heap[k]? = some o':=by
 have:=heap_lt h
 simp [turned,this]
theorem turned_ne {k j:Nat} (o':Obj) (h:j≠k):(turned w k o').heap[j]? = w.heap[j]?:=by
 simp only [turned,Array.getElem?_setIfInBounds];rw [if_neg (λe=>h e.symm)]
theorem WRel.obj (h:WRel B W0 L F r H w) {b:Nat} {o:Blk} (hH:H[b]? = some o) (hlive:o.live=true) (hF:∀ x,F (r b).blk x=none) (nb:Blk) {ob:Obj} (hob:w.heap[(r b).blk]? = some ob) (o':Obj)
  (hnew:BRel F r H.length (turned w (r b).blk o') b nb) (hlow:∀ m,L m→b<m→BRel F r m (turned w (r b).blk o') b nb):WRel B W0 L F r (H.set b nb) (turned w (r b).blk o'):=by
 obtain⟨hb,hHb⟩:=getElem_of_get? hH
 exact h.turn hb (by rw [hHb];exact hlive) hF nb (λk hk=>turned_ne _ hk) (by simp [turned]) rfl rfl rfl hnew hlow
theorem WRel.pushObj (h:WRel B W0 L F r H w) (hL:∀ m,L m→m≤H.length) (nb:Blk) (o:Obj)
  (hnew:∀ l:Loc,l=⟨w.heap.size,0,0,false⟩→(w.alloc o).heap[l.blk]? = some o→(∀ x,F l.blk x=none)→BRel F (upd r H.length l) (H.length+1) (w.alloc o) H.length nb) :
  WRel B W0 L F (upd r H.length ⟨w.heap.size,0,0,false⟩) (H++[nb]) (w.alloc o):=by
 refine h.add hL (λk hk _=>(Later.alloc w _).block k hk) (Later.alloc w _).size rfl rfl rfl nb _ (hnew _ rfl ?_ (λx=>h.fz_new x)) (λ_=>h.size) (λ_ a ha hl e=>?_)
 ·show (w.heap.push o)[_]? = _;simp
 ·have:=(h.blk a ha).lt hl;rw [e] at this;exact absurd this (Nat.lt_irrefl _)
theorem keyEq_same {x y:IV} (h:keyEq x y=some true):y=x:=by
 unfold keyEq at h
 cases x with
 | d x=>
  cases y with
  | d y=>
   cases x <;> cases y <;> first | (simp only at h;cases h;done) | skip
   all_goals first
    | (
      simp only at h;split at h
      ·rename_i e;subst e;simp at h;rw [h]
      ·cases h)
    | (simp at h;rw [h])
    | (simp at h)
  | _=>cases x <;> cases h
 | _=>cases h
theorem mFind_ge {k:IV}:∀ {es:List (IV×IV)} {i0 i:Nat} {v:IV},mFind k es i0=some (some (i,v))→i0≤i:=by
 intro es
 induction es with
 | nil=>intro i0 i v h;simp [mFind] at h
 | cons e es ih=>
  obtain⟨x,u⟩:=e
  intro i0 i v h
  simp only [mFind] at h
  cases hq:keyEq k x with
  | none=>rw [hq] at h;cases h
  | some t=>
   rw [hq] at h
   cases t with
   | true=>
    simp only [Option.some.injEq,Prod.mk.injEq] at h
    omega
   | false=>exact Nat.le_of_succ_le (ih h)
def Ents (F:Fz) (r:Rm) (n:Nat) (es:List (IV×IV)) (m:Array MapEntry):Prop:=
 m.size=es.length∧∀ j (hj:j<es.length),VRel F r n es[j].1 (m.getD j default).key∧VRel F r n es[j].2 (m.getD j default).val
inductive KindOK:TypeDesc→IV→Prop
 | int (k j:IntKind) (n:Int):KindOK (.int k) (.d (.int j n))
 | str (s:List UInt8):KindOK .string (.d (.str s))
theorem bytes_beq (a b:ByteArray):(a == b)=(a.data.toList == b.data.toList):=by
 rw [Bool.eq_iff_iff]
 cases a with | mk x=>cases b with | mk y=>
  show (x == y)=true↔_
  simp
theorem keyEq_rel {n:Nat} {x y:IV} {x' y':Value} {t:Bool} {kind:TypeDesc} (h:keyEq x y=some t) (hk:KindOK kind x) (hx:VRel F r n x x') (hy:VRel F r n y y'):Instr.sameNow kind x' y'=some t:=by
 cases hk with
 | int k j a=>
  unfold keyEq at h
  cases y with
  | d y=>
   cases y with
   | int j2 a2=>
    simp only at h
    split at h
    ·rename_i hkk
     subst hkk
     simp only [Option.some.injEq] at h
     subst h
     have h1:=rel_int hx
     have h2:=rel_int hy
     subst h1;subst h2
     simp [Instr.sameNow]
    ·cases h
   | _=>cases h
  | _=>cases h
 | str a=>
  unfold keyEq at h
  cases y with
  | d y=>
   cases y with
   | str a2=>
    simp only [Option.some.injEq] at h
    subst h
    obtain⟨s1,rfl,rfl⟩:=rel_str hx
    obtain⟨s2,rfl,rfl⟩:=rel_str hy
    simp only [Instr.sameNow,Option.some.injEq]
    exact bytes_beq s1 s2
   | _=>cases h
  | _=>cases h
theorem keyT_kind {t:TypeId} {k:IV} (h:keyT P t k=true):∃ kind,P.underlying t=some kind∧KindOK kind k:=by
 unfold keyT at h
 split at h
 ·rename_i h1;exact⟨_,h1,.int _ _ _⟩
 ·rename_i h1;exact⟨_,h1,.str _⟩
 ·cases h
theorem checkKey_ok {t:TypeId} {kind:TypeDesc} {k:IV} {k':Value} (hk:P.underlying t=some kind) (hkk:KindOK kind k) (e:Bool) (n:Nat):(Instr.checkKey e (n+1) t k').run P w=.ok () w:=by
 unfold Instr.checkKey
 simp only [Sem.run_bind,run_underlying hk,Result.andThen_ok]
 cases hkk <;> rfl
theorem mFind_rel {n:Nat} {k:IV} {k':Value} {kind:TypeDesc} (hkk:KindOK kind k) (hk:VRel F r n k k'):∀ (es:List (IV×IV)) (ms:List MapEntry) (i:Nat) (res:Option (Nat×IV)),
  mFind k es i=some res→ms.length=es.length→(∀ j (hj:j<es.length),VRel F r n es[j].1 (ms.getD j default).key∧VRel F r n es[j].2 (ms.getD j default).val) →
  ∃ res',Instr.findNow kind k' ms i=some res'∧(match res,res' with | none,none=>True | some (a,v),some (a',v')=>a=a'∧VRel F r n v v'∧i≤a∧a - i<es.length | _,_=>False):=by
 intro es
 induction es with
 | nil=>
  intro ms i res h hl _
  have:ms=[]:=List.eq_nil_of_length_eq_zero (by simpa using hl)
  subst this
  simp only [mFind,Option.some.injEq] at h
  subst h
  exact⟨none,rfl,trivial⟩
 | cons e es ih=>
  intro ms i res h hl hr
  obtain⟨x,v⟩:=e
  cases ms with
  | nil=>simp at hl
  | cons m ms=>
   obtain⟨h0k,h0v⟩:=hr 0 (by simp)
   simp only [List.getElem_cons_zero,List.getD_cons_zero] at h0k h0v
   simp only [mFind] at h
   cases hq:keyEq k x with
   | none=>rw [hq] at h;cases h
   | some t=>
    rw [hq] at h
    have hs:=keyEq_rel hq hkk hk h0k
    cases t with
    | true=>
     simp only [Option.some.injEq] at h
     subst h
     exact⟨some (i,m.val),by simp [Instr.findNow,hs],rfl,h0v,Nat.le_refl _,by simp⟩
    | false=>
     simp only at h
     obtain⟨res',g1,g2⟩:=ih ms (i+1) res h (by simpa using hl) (λj hj=>by
      have:=hr (j+1) (by simp;omega)
      simpa using this)
     refine⟨res',by simp [Instr.findNow,hs,g1],?_⟩
     cases res with
     | none=>cases res' with
      | none=>trivial
      | some _=>exact g2
     | some p=>cases res' with
      | none=>exact g2
      | some p'=>
       obtain⟨a1,a2,a3,a4⟩:=g2
       exact⟨a1,a2,by omega,by simp;omega⟩
theorem ents_list {n:Nat} {es:List (IV×IV)} {m:Array MapEntry} (h:Ents F r n es m):m.toList.length=es.length∧∀ j (hj:j<es.length),VRel F r n es[j].1 (m.toList.getD j default).key∧VRel F r n es[j].2 (m.toList.getD j default).val:=by
 refine⟨by simpa using h.1,λj hj=>?_⟩
 have:=h.2 j hj
 have e:m.toList.getD j default=m.getD j default:=by simp [List.getD_eq_getElem?_getD,Array.getD_eq_getD_getElem?]
 rw [e];exact this
theorem findKey_rel {n:Nat} {kt:TypeId} {k:IV} {k':Value} {kind:TypeDesc} {es:List (IV×IV)} {m:Array MapEntry} {res:Option (Nat×IV)} (hu:P.underlying kt=some kind) (hkk:KindOK kind k)
  (hk:VRel F r n k k') (h:mFind k es 0=some res) (he:Ents F r n es m) :
  ∃ res',(Instr.findKey kt k' m.toList).run P w=.ok res' w∧(match res,res' with | none,none=>True | some (a,v),some (a',v')=>a=a'∧VRel F r n v v'∧a<es.length | _,_=>False):=by
 obtain⟨g0,g1⟩:=ents_list he
 obtain⟨res',h1,h2⟩:=mFind_rel hkk hk es m.toList 0 res h g0 g1
 refine⟨res',by simp [Instr.findKey,run_underlying hu,h1],?_⟩
 cases res with
 | none=>cases res' <;> exact h2
 | some p=>cases res' with
  | none=>exact h2
  | some p'=>exact⟨h2.1,h2.2.1,by omega⟩
theorem mapOf_rel (hw:WRel B W0 L F r H w) {x:IV} {x':Value} {es:List (IV×IV)} (h:mapOf x H=some es) (hx:VRel F r H.length x x') :
  ∃ m:Array MapEntry,Ents F r H.length es m∧((x'=.map none∧m=#[])∨∃ k c,x'=.map (some k)∧w.heap[k]? = some (.map m c)):=by
 unfold mapOf at h
 split at h
 ·simp only [Option.some.injEq] at h;subst h
  cases hx
  exact⟨#[],⟨rfl,λj hj=>by simp at hj⟩,.inl ⟨rfl,rfl⟩⟩
 ·split at h
  ·rename_i hH
   simp only [Option.some.injEq] at h;subst h
   cases hx with
   | map b hb=>
    obtain⟨hb',hHb⟩:=getElem_of_get? hH
    have:=hw.blk _ hb'
    rw [hHb] at this
    obtain⟨m,k,h1,h2,h3,_⟩:=this
    exact⟨m,⟨h2,h3⟩,.inr ⟨_,k,rfl,h1⟩⟩
  ·cases h
 ·cases h
theorem iLookup_rel (hw:WRel B W0 L F r H w) {t:TypeId} {x i z:IV} {x' i':Value} {ok:Bool} (h:iLookup P t x i ok H=some z) (hx:VRel F r H.length x x') (hi:VRel F r H.length i i') :
  ∃ z',(Instr.lookup t x' i' ok).run P w=.ok z' w∧VRel F r H.length z z':=by
 unfold iLookup at h
 split at h
 ·rename_i kt el ht
  split at h
  ·rename_i hk
   obtain⟨kind,hu,hkk⟩:=keyT_kind hk
   simp only [Option.bind_eq_some_iff,Option.map_eq_some_iff] at h
   obtain⟨es,h1,res,h2,p,h3,rfl⟩:=h
   have fin:∀ (v:IV) (v':Value) (is:Bool),VRel F r H.length v v'→VRel F r H.length (if ok=true then .tup [v,.d (.bool is)] else v) (if ok=true then .tuple #[v',.bool is] else v'):=by
    intro v v' is hv
    cases ok with
    | false=>exact hv
    | true=>
     refine .tup _ _ rfl (λj hj=>?_)
     match j,hj with
     | 0,_=>exact hv
     | 1,_=>exact .d (.bool is)
   obtain⟨m,he,hm⟩:=mapOf_rel hw h1 hx
   obtain⟨res',h4,h5⟩:=findKey_rel (P:=P) (w:=w) hu hkk hi h2 he
   cases res with
   | none=>
    cases res' with
    | some _=>exact h5.elim
    | none=>
     simp only [Option.map_eq_some_iff] at h3
     obtain⟨z0,hz0,rfl⟩:=h3
     obtain⟨inf,zv,g1,g2,g3⟩:=zeroT_rel (P:=P) (F:=F) (r:=r) (n:=H.length) hz0
     refine⟨if ok=true then .tuple #[zv,.bool false] else zv,?_,fin _ _ _ g3⟩
     rcases hm with ⟨rfl,rfl⟩ | ⟨k,c,rfl,hc⟩
     ·simp [Instr.lookup,run_underlying ht,checkKey_ok (w:=w) hu hkk,h4,zeroValue,typeInfo,g1,g2]
     ·simp [Instr.lookup,run_underlying ht,checkKey_ok (w:=w) hu hkk,h4,zeroValue,typeInfo,g1,g2,run_getObj (P:=P) hc (by simp)]
   | some q=>
    obtain⟨a,v⟩:=q
    cases res' with
    | none=>exact h5.elim
    | some q'=>
     obtain⟨a',v'⟩:=q'
     simp only [Option.some.injEq] at h3
     subst h3
     refine⟨if ok=true then .tuple #[v',.bool true] else v',?_,fin _ _ _ h5.2.1⟩
     rcases hm with ⟨rfl,rfl⟩ | ⟨k,c,rfl,hc⟩
     ·simp [Instr.lookup,run_underlying ht,checkKey_ok (w:=w) hu hkk,h4]
     ·simp [Instr.lookup,run_underlying ht,checkKey_ok (w:=w) hu hkk,h4,run_getObj (P:=P) hc (by simp)]
  ·cases h
 ·cases h
theorem ents_set {n i:Nat} {es:List (IV×IV)} {m:Array MapEntry} (h:Ents F r n es m) {k v:IV} {k' v':Value} (hk:VRel F r n k k') (hv:VRel F r n v v') (hi:i<es.length):Ents F r n (es.set i (k,v)) (m.modify i λe=>{ e with key:=k',val:=v' }):=by
 refine⟨by simp [h.1],λj hj=>?_⟩
 have hj':j<es.length:=by simpa using hj
 have hjm:j<m.size:=by rw [h.1];exact hj'
 rw [list_set_get]
 simp only [Array.getD_eq_getD_getElem?,Array.getElem?_modify]
 by_cases e:i=j
 ·subst e
  simp [hjm,hk,hv]
 ·rw [if_neg e,if_neg e]
  have:=h.2 j hj'
  simpa [Array.getD_eq_getD_getElem?] using this
theorem ents_push {n:Nat} {es:List (IV×IV)} {m:Array MapEntry} (h:Ents F r n es m) {k v:IV} {e:MapEntry} (hk:VRel F r n k e.key) (hv:VRel F r n v e.val):Ents F r n (es++[(k,v)]) (m.push e):=by
 refine⟨by simp [h.1],λj hj=>?_⟩
 by_cases hlt:j<es.length
 ·have hjm:j<m.size:=by rw [h.1];exact hlt
  rw [List.getElem_append_left hlt]
  have:=h.2 j hlt
  simp only [Array.getD_eq_getD_getElem?] at this ⊢
  rw [Array.getElem?_push_lt hjm]
  simpa [hjm] using this
 ·have:j=es.length:=by simp at hj;omega
  subst this
  simp only [List.getElem_concat_length,Array.getD_eq_getD_getElem?]
  rw [← h.1]
  simp [hk,hv]
theorem ents_erase {n i:Nat} {es:List (IV×IV)} {m:Array MapEntry} (h:Ents F r n es m) (hi:i<es.length):Ents F r n (es.eraseIdx i) (m.eraseIdxIfInBounds i):=by
 have him:i<m.size:=by rw [h.1];exact hi
 have hs:(m.eraseIdxIfInBounds i).toList=m.toList.eraseIdx i:=by
  simp [Array.eraseIdxIfInBounds,him]
 refine⟨?_,λj hj=>?_⟩
 ·have:=congrArg List.length hs
  simp only [Array.length_toList] at this
  rw [this,List.length_eraseIdx,List.length_eraseIdx]
  simp [h.1]
 ·have e:(m.eraseIdxIfInBounds i).getD j default=(m.toList.eraseIdx i).getD j default:=by
   rw [← hs];rw [List.getD_eq_getElem?_getD,Array.getD_eq_getD_getElem?,Array.getElem?_toList]
  rw [e]
  have hj2:j<es.length - 1:=by rw [List.length_eraseIdx] at hj;simpa [hi] using hj
  obtain⟨g0,g1⟩:=ents_list h
  rw [List.getElem_eraseIdx]
  simp only [List.getD_eq_getElem?_getD,List.getElem?_eraseIdx]
  split
  ·have:=g1 j (by omega)
   simpa [List.getD_eq_getElem?_getD] using this
  ·have:=g1 (j+1) (by omega)
   simpa [List.getD_eq_getElem?_getD] using this
theorem sameKey {k:IV} {es:List (IV×IV)} {i0:Nat} {res:Option (Nat×IV)} (h:mFind k es i0=some res):∀ i v,res=some (i,v)→∀ (hi:i - i0<es.length),es[i - i0].1=k:=by
 intro i v hr
 subst hr
 induction es generalizing i0 with
 | nil=>simp [mFind] at h
 | cons e es ih=>
  obtain⟨x,u⟩:=e
  intro hi
  simp only [mFind] at h
  cases hq:keyEq k x with
  | none=>rw [hq] at h;cases h
  | some t=>
   rw [hq] at h
   cases t with
   | true=>
    simp only [Option.some.injEq,Prod.mk.injEq] at h
    obtain⟨rfl,rfl⟩:=h
    simp only [Nat.sub_self,List.getElem_cons_zero]
    exact keyEq_same hq
   | false=>
    simp only at h
    have hge:=mFind_ge h
    have:=ih h (by simp at hi;omega)
    have e:i - i0=(i - (i0+1))+1:=by omega
    simp only [e,List.getElem_cons_succ]
    exact this
theorem VRel.low {n m:Nat} {x:IV} {x':Value} (hp:x.plain=true) (h:VRel F r n x x'):VRel F r m x x':=h.plain hp
theorem iMapUpdate_rel (hw:WRel B W0 L F r H w) {lim ro:Nat} (hlim:∀ m,L m→m≤lim) {t:TypeId} {m k x:IV} {m' k' x':Value} {H':Hp} (h:iMapUpdate P t lim ro m k x H=some H') (hm:VRel F r H.length m m') (hk:VRel F r H.length k k') (hx:VRel F r H.length x x') :
  ∃ w',(Instr.mapUpdate t m' k' x').run P w=.ok () w'∧WRel B W0 L F r H' w'∧H'.length=H.length∧∀ b,b<ro→H'[b]? = H[b]?:=by
 unfold iMapUpdate at h
 split at h
 ·rename_i kt el b ht
  split at h
  ·rename_i es hH
   split at h
   ·rename_i hc
    obtain⟨c1,c2,c3⟩:=hc
    obtain⟨kind,hu,hkk⟩:=keyT_kind c1
    simp only [Option.map_eq_some_iff] at h
    obtain⟨res,h1,rfl⟩:=h
    obtain⟨hb,hHb⟩:=getElem_of_get? hH
    have hbr:=hw.blk _ hb
    rw [hHb] at hbr
    obtain⟨ma,cl,g1,g2,g3,g4⟩:=hbr
    cases hm with
    | map _ hb'=>
     have hkp:k.plain=true:=by
      unfold keyT at c1
      split at c1 <;> first | rfl | cases c1
     obtain⟨res',h4,h5⟩:=findKey_rel (P:=P) (w:=w) hu hkk hk h1 ⟨g2,g3⟩
     have hlowx:∀ q,L q→b<q→VRel F r q x x':=by
      intro q hq hbq
      rcases c3 with c3 | c3
      ·have:=hlim q hq;omega
      ·exact hx.low c3
     have hlowe:∀ q,L q→b<q→Ents F r q es ma:=by
      intro q hq hbq
      have:=hw.low q hq b hb hbq
      rw [hHb] at this
      obtain⟨ma2,cl2,f1,f2,f3,_⟩:=this
      rw [g1] at f1
      simp only [Option.some.injEq,Obj.map.injEq] at f1
      obtain⟨rfl,rfl⟩:=f1
      exact⟨f2,f3⟩
     have fin:∀ (es2:List (IV×IV)) (ma2:Array MapEntry) (cl2:Nat),(∀ q,(q=H.length∨(L q∧b<q))→Ents F r q es2 ma2)→WRel B W0 L F r (H.set b (.mp es2)) (turned w (r b).blk (.map ma2 cl2)):=by
      intro es2 ma2 cl2 he
      refine hw.obj hH rfl g4 (.mp es2) g1 (.map ma2 cl2) ?_ ?_
      ·obtain⟨e1,e2⟩:=he _ (.inl rfl)
       exact⟨ma2,cl2,turned_same _ g1,e1,e2,g4⟩
      ·intro q hq hbq
       obtain⟨e1,e2⟩:=he _ (.inr ⟨hq,hbq⟩)
       exact⟨ma2,cl2,turned_same _ g1,e1,e2,g4⟩
     cases res with
     | none=>
      cases res' with
      | some _=>exact h5.elim
      | none=>
       refine⟨turned w (r b).blk (.map (ma.push { key:=k',val:=x',born:=cl }) (cl+1)),?_,fin _ _ _ ?_,by simp,λq hq=>by rw [List.getElem?_set_ne (by omega)]⟩
       ·unfold Instr.mapUpdate
        simp only [Sem.run_bind,run_underlying ht,Result.andThen_ok,run_getObj (P:=P) g1 (by simp),checkKey_ok (w:=w) hu hkk]
        rw [h4]
        simp only [Result.andThen_ok]
        exact run_setObj _ g1 (by simp)
       ·rintro q (rfl | ⟨hq,hbq⟩)
        ·exact ents_push ⟨g2,g3⟩ hk hx
        ·exact ents_push (hlowe q hq hbq) (hk.low hkp) (hlowx q hq hbq)
     | some p=>
      obtain⟨i,v⟩:=p
      cases res' with
      | none=>exact h5.elim
      | some p'=>
       obtain⟨i',v'⟩:=p'
       obtain⟨rfl,_,hi⟩:=h5
       have him:i<ma.size:=by rw [g2];exact hi
       have hkey:∃ key2,∃ w2:World,(Instr.keyThatStays (((ma[i]?).map (·.key)).getD k') k').run P w=.ok key2 w2∧w2.heap=w.heap∧w2.os=w.os∧w2.tape=w.tape∧w2.output=w.output∧(key2=k'∨key2=(ma.getD i default).key):=by
        unfold Instr.keyThatStays
        split
        ·exact⟨k',w,rfl,rfl,rfl,rfl,rfl,.inl rfl⟩
        ·simp only [Sem.run_bind,run_choose]
         split
         ·simp only [Result.andThen_ok,Sem.run_pure]
          refine⟨_,_,rfl,rfl,rfl,rfl,rfl,?_⟩
          split
          ·exact .inl rfl
          ·right;simp [him,Array.getD_eq_getD_getElem?]
         ·simp only [Result.andThen_ok,Sem.run_pure]
          refine⟨_,_,rfl,rfl,rfl,rfl,rfl,?_⟩
          split
          ·exact .inl rfl
          ·right;simp [him,Array.getD_eq_getD_getElem?]
       obtain⟨key2,w2,e1,e2,e3,e4,e5,e6⟩:=hkey
       have hw2:WRel B W0 L F r H w2:=hw.later ⟨e3,e4,e5,by rw [e2];exact Nat.le_refl _,λq _=>by rw [e2]⟩
       have g1':w2.heap[(r b).blk]? = some (.map ma cl):=by rw [e2];exact g1
       have hkey:∀ q,(q=H.length∨(L q∧b<q))→VRel F r q k key2:=by
        intro q hq
        rcases e6 with e6 | e6
        ·rw [e6];exact hk.low hkp
        ·rw [e6]
         have heq:=sameKey h1
         have:VRel F r H.length es[i].1 (ma.getD i default).key:=(g3 i hi).1
         rw [show es[i].1=k from heq i v rfl hi] at this
         exact this.low hkp
       refine⟨turned w2 (r b).blk (.map (ma.modify i λe=>{ e with key:=key2,val:=x' }) cl),?_,?_,by simp,λq hq=>by rw [List.getElem?_set_ne (by omega)]⟩
       ·unfold Instr.mapUpdate
        simp only [Sem.run_bind,run_underlying ht,Result.andThen_ok,run_getObj (P:=P) g1 (by simp),checkKey_ok (w:=w) hu hkk]
        rw [h4]
        simp only [Result.andThen_ok,Sem.run_bind]
        rw [e1]
        simp only [Result.andThen_ok]
        exact run_setObj _ g1' (by simp)
       ·refine hw2.obj hH rfl g4 (.mp (es.set i (k,x))) g1' _ ?_ ?_
        ·obtain⟨f1,f2⟩:=ents_set (m:=ma) ⟨g2,g3⟩ (hkey _ (.inl rfl)) hx hi
         exact⟨_,cl,turned_same _ g1',f1,f2,g4⟩
        ·intro q hq hbq
         obtain⟨f1,f2⟩:=ents_set (hlowe q hq hbq) (hkey _ (.inr ⟨hq,hbq⟩)) (hlowx q hq hbq) hi
         exact⟨_,cl,turned_same _ g1',f1,f2,g4⟩
   ·cases h
  ·cases h
 ·cases h
theorem iDelete_rel (hw:WRel B W0 L F r H w) {ro:Nat} {ts:Array TypeId} {m k:IV} {m' k':Value} {H':Hp} (h:iDelete P ts ro m k H=some H') (hm:VRel F r H.length m m') (hk:VRel F r H.length k k') (ty:TypeId) :
  ∃ w',(Builtin.delete_ ts ty #[m',k']).run P w=.ok (.tuple #[]) w'∧WRel B W0 L F r H' w'∧H'.length=H.length∧∀ b,b<ro→H'[b]? = H[b]?:=by
 unfold iDelete at h
 split at h
 ·rename_i kt el b ht
  rw [Option.bind_eq_some_iff] at ht
  obtain⟨t,ht0,ht⟩:=ht
  split at h
  ·rename_i es hH
   split at h
   ·rename_i hc
    obtain⟨c1,c2⟩:=hc
    obtain⟨kind,hu,hkk⟩:=keyT_kind c1
    simp only [Option.map_eq_some_iff] at h
    obtain⟨res,h1,rfl⟩:=h
    obtain⟨hb,hHb⟩:=getElem_of_get? hH
    have hbr:=hw.blk _ hb
    rw [hHb] at hbr
    obtain⟨ma,cl,g1,g2,g3,g4⟩:=hbr
    cases hm with
    | map _ hb'=>
     obtain⟨res',h4,h5⟩:=findKey_rel (P:=P) (w:=w) hu hkk hk h1 ⟨g2,g3⟩
     have hlowe:∀ q,L q→b<q→Ents F r q es ma:=by
      intro q hq hbq
      have:=hw.low q hq b hb hbq
      rw [hHb] at this
      obtain⟨ma2,cl2,f1,f2,f3,_⟩:=this
      rw [g1] at f1
      simp only [Option.some.injEq,Obj.map.injEq] at f1
      obtain⟨rfl,rfl⟩:=f1
      exact⟨f2,f3⟩
     have fin:∀ (es2:List (IV×IV)) (ma2:Array MapEntry),(∀ q,(q=H.length∨(L q∧b<q))→Ents F r q es2 ma2)→WRel B W0 L F r (H.set b (.mp es2)) (turned w (r b).blk (.map ma2 cl)):=by
      intro es2 ma2 he
      refine hw.obj hH rfl g4 (.mp es2) g1 (.map ma2 cl) ?_ ?_
      ·obtain⟨e1,e2⟩:=he _ (.inl rfl)
       exact⟨ma2,cl,turned_same _ g1,e1,e2,g4⟩
      ·intro q hq hbq
       obtain⟨e1,e2⟩:=he _ (.inr ⟨hq,hbq⟩)
       exact⟨ma2,cl,turned_same _ g1,e1,e2,g4⟩
     cases res with
     | none=>
      cases res' with
      | some _=>exact h5.elim
      | none=>
       have hself:H.set b (.mp es)=H:=by rw [← hHb];exact List.set_getElem_self hb
       have:=fin es ma (by
        rintro q (rfl | ⟨hq,hbq⟩)
        ·exact⟨g2,g3⟩
        ·exact hlowe q hq hbq)
       rw [hself] at this
       refine⟨_,?_,this,rfl,λ_ _=>rfl⟩
       unfold Builtin.delete_
       simp only [ht0,Sem.run_bind,run_underlying ht,Result.andThen_ok]
       simp [run_underlying ht,run_getObj (P:=P) g1 (by simp),checkKey_ok (w:=w) hu hkk,h4,run_setObj (P:=P) _ g1 (by simp)]
     | some p=>
      obtain⟨i,v⟩:=p
      cases res' with
      | none=>exact h5.elim
      | some p'=>
       obtain⟨i',v'⟩:=p'
       obtain⟨rfl,_,hi⟩:=h5
       refine⟨turned w (r b).blk (.map (ma.eraseIdxIfInBounds i) cl),?_,fin _ _ ?_,by simp,λq hq=>by rw [List.getElem?_set_ne (by omega)]⟩
       ·unfold Builtin.delete_
        simp only [ht0,Sem.run_bind,run_underlying ht,Result.andThen_ok]
        simp [run_underlying ht,run_getObj (P:=P) g1 (by simp),checkKey_ok (w:=w) hu hkk,h4,run_setObj (P:=P) _ g1 (by simp)]
       ·rintro q (rfl | ⟨hq,hbq⟩)
        ·exact ents_erase ⟨g2,g3⟩ hi
        ·exact ents_erase (hlowe q hq hbq) hi
   ·cases h
  ·cases h
 ·cases h
theorem iClear_rel (hw:WRel B W0 L F r H w) {ro:Nat} {ts:Array TypeId} {m:IV} {m':Value} {H':Hp} (h:iClear P ts ro m H=some H') (hm:VRel F r H.length m m') (ty:TypeId) :
  ∃ w',(Builtin.clear_ ts ty #[m']).run P w=.ok (.tuple #[]) w'∧WRel B W0 L F r H' w'∧H'.length=H.length∧∀ b,b<ro→H'[b]? = H[b]?:=by
 unfold iClear at h
 split at h
 ·rename_i kt el b ht
  rw [Option.bind_eq_some_iff] at ht
  obtain⟨t,ht0,ht⟩:=ht
  split at h
  ·rename_i es hH
   split at h
   ·rename_i hro
    simp only [Option.some.injEq] at h;subst h
    obtain⟨hb,hHb⟩:=getElem_of_get? hH
    have hbr:=hw.blk _ hb
    rw [hHb] at hbr
    obtain⟨ma,cl,g1,g2,g3,g4⟩:=hbr
    cases hm with
    | map _ hb'=>
     refine⟨turned w (r b).blk (.map #[] cl),?_,?_,by simp,λq hq=>by rw [List.getElem?_set_ne (by omega)]⟩
     ·unfold Builtin.clear_
      simp only [ht0,Sem.run_bind,run_underlying ht,Result.andThen_ok]
      simp [run_underlying ht,run_getObj (P:=P) g1 (by simp),run_setObj (P:=P) _ g1 (by simp)]
     ·refine hw.obj hH rfl g4 (.mp []) g1 _ ?_ ?_
      ·exact⟨#[],cl,turned_same _ g1,rfl,λj hj=>by simp at hj,g4⟩
      ·intro q hq hbq;exact⟨#[],cl,turned_same _ g1,rfl,λj hj=>by simp at hj,g4⟩
   ·cases h
  ·cases h
 ·cases h
theorem iRange_rel (hw:WRel B W0 L F r H w) (hL:∀ m,L m→m≤H.length) {t:TypeId} {x z:IV} {x':Value} {H':Hp} (h:iRange P t x H=some (z,H')) (hx:VRel F r H.length x x') (ro:Nat) (hro:ro≤H.length) :
  ∃ r' w' z',(Instr.range t x').run P w=.ok z' w'∧Ext ro F r H F r' H'∧WRel B W0 L F r' H' w'∧VRel F r' H'.length z z':=by
 unfold iRange at h
 split at h
 ·rename_i s ht
  simp only [Option.some.injEq,Prod.mk.injEq] at h
  obtain⟨rfl,rfl⟩:=h
  obtain⟨t',rfl,rfl⟩:=rel_str hx
  refine⟨_,_,.pointer (some ⟨w.heap.size,0,none⟩),by simp [Instr.range,run_underlying ht],⟨Fz.le_refl F,upd_le _ _ _,by simp,λb hb=>by rw [List.getElem?_append_left (by omega)]⟩,
   hw.pushObj hL (.it t'.data.toList 0) (.stringIter t' 0) ?_,?_⟩
  ·rintro l rfl h1 h2
   exact⟨t',rfl,by rw [upd_same];exact h1,by rw [upd_same],λo=>by rw [upd_same];exact h2 o⟩
  ·have:=VRel.ptr (F:=F) (r:=upd r H.length ⟨w.heap.size,0,0,false⟩) (n:=(H++[Blk.it t'.data.toList 0]).length) H.length 0 (by simp)
   simpa [upd_same] using this
 ·cases h
theorem bytes_of_list (t:ByteArray):(⟨t.data.toList.toArray⟩:ByteArray)=t:=by cases t;rfl
theorem iNext_rel (hw:WRel B W0 L F r H w) {ro:Nat} {x z:IV} {x':Value} {H':Hp} (h:iNext ro x H=some (z,H')) (hx:VRel F r H.length x x') (ty:TypeId) :
  ∃ w' z',(Instr.next x' true ty).run P w=.ok z' w'∧WRel B W0 L F r H' w'∧H'.length=H.length∧(∀ b,b<ro→H'[b]? = H[b]?)∧VRel F r H'.length z z':=by
 unfold iNext at h
 split at h
 ·rename_i b
  split at h
  ·rename_i s pos hH
   split at h
   ·rename_i hro
    obtain⟨hb,hHb⟩:=getElem_of_get? hH
    have hbr:=hw.blk _ hb
    rw [hHb] at hbr
    obtain⟨t,g1,g2,g3,g4⟩:=hbr
    subst g1
    cases hx with
    | ptr _ _ hb'=>
     rw [bytes_of_list] at h
     have hsz:t.size=t.data.toList.length:=size_eq t
     split at h
     ·rename_i hlt
      simp only [Option.some.injEq,Prod.mk.injEq] at h
      obtain⟨rfl,rfl⟩:=h
      refine⟨turned w (r b).blk (.stringIter t (pos+(Utf8.decode t pos).2)),.tuple #[.bool true,goInt pos,.int .i32 (Utf8.decode t pos).1],?_,?_,by simp,λq hq=>by rw [List.getElem?_set_ne (by omega)],?_⟩
      ·rw [g3]
       have hlt2:pos<t.size:=by rw [hsz];exact hlt
       unfold Instr.next
       simp only [Nat.zero_add,Sem.run_bind,run_getObj (P:=P) g2 (by simp),Result.andThen_ok]
       rw [if_pos hlt2]
       simp only [Sem.run_bind,run_setObj (P:=P) _ g2 (by simp),Result.andThen_ok,Sem.run_pure]
      ·refine hw.obj hH rfl g4 _ g2 _ ⟨t,rfl,turned_same _ g2,g3,g4⟩ (λm hm hbm=>⟨t,rfl,turned_same _ g2,g3,g4⟩)
      ·refine .tup _ _ rfl (λj hj=>?_)
       match j,hj with
       | 0,_=>exact .d (.bool true)
       | 1,_=>exact .d (.int _ _)
       | 2,_=>exact .d (.int _ _)
     ·rename_i hlt
      simp only [Option.some.injEq,Prod.mk.injEq] at h
      obtain⟨rfl,rfl⟩:=h
      refine⟨w,.tuple #[.bool false],?_,hw,rfl,λ_ _=>rfl,?_⟩
      ·rw [g3]
       have hlt2:¬ pos<t.size:=by rw [hsz];exact hlt
       unfold Instr.next
       simp only [Nat.zero_add,Sem.run_bind,run_getObj (P:=P) g2 (by simp),Result.andThen_ok]
       rw [if_neg hlt2]
       rfl
      ·refine .tup _ _ rfl (λj hj=>?_)
       match j,hj with
       | 0,_=>exact .d (.bool false)
   ·cases h
  ·cases h
 ·cases h
theorem run_viewAt {k:Nat} {c:Array Value} {T:TypeId} {z:Nat×Nat} (h:w.heap[k]? = some (.cells c T z)):(viewAt k).run P w=.ok none w:=by
 simp [viewAt,World.shape?,h]
theorem iUnsafe_to (hw:WRel B W0 L F r H w) {src dst t n:Nat} {x z:IV} {x':Value} (hs:P.underlying src=some (.pointer t)) (hd:P.underlying dst=some .unsafePointer) (ht:sizeT P t=some (n+1)) (h:iUnsafe P x H none=some z) (hx:VRel F r H.length x x') :
  (convert src dst x').run P w=.ok x' w∧VRel F r H.length z x':=by
 unfold iUnsafe at h
 split at h
 ·simp only [Option.some.injEq] at h;subst h
  cases hx
  refine⟨?_,.nul⟩
  simp only [convert,Sem.run_bind,run_underlying hs,run_underlying hd,Result.andThen_ok,Conv.unsafePointer]
  rfl
 ·split at h
  ·rename_i b off _ ty cs hH
   simp only at h
   split at h
   ·rename_i hlt
    simp only [Option.some.injEq] at h;subst h
    obtain⟨hb,hHb⟩:=getElem_of_get? hH
    have hbr:=hw.blk _ hb
    rw [hHb] at hbr
    obtain⟨c,zz,g1,⟨g2,_⟩,g3,_⟩:=hbr
    cases hx with
    | ptr _ _ hb'=>
     refine⟨?_,.ptr b off hb'⟩
     have hc:(cellsIn (r b).blk).run P w=.ok (some c.size) w:=by simp [cellsIn,World.shape?,g1]
     have hno:¬ c.size≤(r b).base+off:=by omega
     simp only [convert,Sem.run_bind,run_underlying hs,run_underlying hd,Result.andThen_ok,Conv.unsafePointer,Conv.seenAt,run_viewAt (P:=P) g1,Sem.run_pure,hc,run_sizeOf w ht]
     simp [hno]
   ·cases h
  ·cases h
 ·cases h
theorem iUnsafe_from (hw:WRel B W0 L F r H w) {src dst u:Nat} {x z:IV} {x':Value} (hs:P.underlying src=some .unsafePointer) (hd:P.underlying dst=some (.pointer u)) (h:iUnsafe P x H (some u)=some z) (hx:VRel F r H.length x x') :
  (convert src dst x').run P w=.ok x' w∧VRel F r H.length z x':=by
 unfold iUnsafe at h
 split at h
 ·simp only [Option.some.injEq] at h;subst h
  cases hx
  refine⟨?_,.nul⟩
  simp only [convert,Sem.run_bind,run_underlying hs,run_underlying hd,Result.andThen_ok,Conv.unsafePointer]
  rfl
 ·split at h
  ·rename_i b off _ ty cs hH
   simp only at h
   split at h
   ·rename_i n hn
    split at h
    ·rename_i hc
     obtain⟨c1,c2,c3⟩:=hc
     subst c2
     simp only [Option.some.injEq] at h;subst h
     obtain⟨hb,hHb⟩:=getElem_of_get? hH
     have hbr:=hw.blk _ hb
     rw [hHb] at hbr
     obtain⟨c,zz,g1,⟨g2,g2'⟩,g3,_⟩:=hbr
     have hbase:=g2' (by omega)
     have hT:ty / 2=u:=by omega
     rw [hT] at g1
     cases hx with
     | ptr _ _ hb'=>
      refine⟨?_,.ptr b 0 hb'⟩
      have hsz:P.cellsOf u=n+1:=by
       unfold sizeT at hn
       unfold Program.cellsOf
       rw [hn];rfl
      have hdep:∃ d,P.depth=d+1:=⟨2*(P.types.size+Made.depth)+1,rfl⟩
      obtain⟨d,hdd⟩:=hdep
      have hlies:liesAt P P.depth u (c.size / (n+1)) 0 u 1=true:=by
       rw [hdd]
       unfold liesAt
       rw [hdd]
       have:rowAt P (λx=>sameLayout P (d+1) x u) (d+1) u (c.size / (n+1)) 0 1=true:=by
        unfold rowAt
        have h1:1≤c.size / (n+1):=by
         rw [Nat.le_div_iff_mul_le (by omega)];omega
        simp [hsz,sameLayout,h1]
       rw [this];rfl
      have hva:(variablesAt ⟨(r b).blk,(r b).base+0,none⟩ u 1).run P w=.ok true w:=by
       simp [variablesAt,World.shape?,g1,hbase,hsz,hlies]
      simp only [convert,Sem.run_bind,run_underlying hs,run_underlying hd,Result.andThen_ok,Conv.unsafePointer,Conv.seenAt,run_viewAt (P:=P) g1,Sem.run_pure,run_sizeOf w hn,hva]
      simp
    ·cases h
   ·cases h
  ·cases h
 ·cases h
theorem iSliceData_rel (hw:WRel B W0 L F r H w) {x z:IV} {x':Value} (h:iSliceData x=some z) (hx:VRel F r H.length x x') (ts:Array TypeId) (ty:TypeId) :
  ∃ z',(Builtin.unsafeSliceData_ ts ty #[x']).run P w=.ok z' w∧VRel F r H.length z z':=by
 unfold iSliceData at h
 split at h
 ·simp only [Option.some.injEq] at h;subst h
  cases hx
  exact⟨.pointer none,rfl,.nul⟩
 ·simp only [Option.some.injEq] at h;subst h
  cases hx with
  | vec _ _ _ _ cap hb h1 h2 h3=>
   refine⟨.pointer (some ⟨(r _).blk,(r _).base+_,none⟩),?_,.ptr _ _ hb⟩
   show (if cap≠0 then (pure (.pointer (some ⟨(r _).blk,(r _).base+_,none⟩)):Sem Value) else _).run P w=_
   rw [if_pos (by omega)]
   rfl
 ·cases h
theorem iArrAt_rel (w:World) {t:TypeId} {x ix z:IV} {x' i':Value} {n:Nat} (h:iArrAt P t x ix=some z) (hx:VRel F r n x x') (hi:VRel F r n ix i') :
  ∃ z',(Instr.indexAt t x' i').run P w=.ok z' w∧VRel F r n z z':=by
 unfold iArrAt at h
 split at h
 ·rename_i m e _ _ i ht
  split at h
  ·rename_i k hk
   split at h
   ·rename_i hc
    have h1:=rel_int hi
    subst h1
    obtain⟨a,rfl,hz⟩:=padd_rel h hx
    refine⟨_,?_,hz⟩
    simp [Instr.indexAt,asIntOf,run_underlying ht,Instr.sureAddr,run_sizeOf w hk,hc.1,hc.2]
   ·cases h
  ·cases h
 ·cases h
theorem datas_get:∀ {cs:List IV} {l:List D},datas cs=some l→l.length=cs.length∧∀ j (hj:j<cs.length) (hj2:j<l.length),cs[j]=.d l[j]:=by
 intro cs
 induction cs with
 | nil=>intro l h;simp only [datas,Option.some.injEq] at h;subst h;exact⟨rfl,λj hj=>by simp at hj⟩
 | cons v cs ih=>
  intro l h
  cases v with
  | d x=>
   simp only [datas,Option.map_eq_some_iff] at h
   obtain⟨l1,h1,rfl⟩:=h
   obtain⟨g1,g2⟩:=ih h1
   refine⟨by simp [g1],λj hj hj2=>?_⟩
   cases j with
   | zero=>rfl
   | succ j=>simpa using g2 j (by simpa using hj) (by simpa using hj2)
  | _=>cases h
theorem freeze_ne {a:Addr} {n k:Nat} (h:k≠a.block):(w.freeze a n).heap[k]? = w.heap[k]?:=by
 unfold World.freeze
 split
 ·rfl
 ·simp only [Array.getElem?_modify];rw [if_neg (λe=>h e.symm)]
theorem freeze_cell {a x:Addr} {n:Nat}:(w.freeze a n).cell? x=w.cell? x:=by
 unfold World.freeze
 split
 ·rfl
 ·unfold World.cell?
  by_cases e:x.block=a.block
  ·simp only [e,Array.getElem?_modify,if_true]
   cases hq:w.heap[a.block]? with
   | none=>rfl
   | some o=>cases o <;> rfl
  ·simp only [Array.getElem?_modify]
   rw [if_neg (λh=>e h.symm)]
theorem WRel.mark (h:WRel B W0 L F r H w) {a:Addr} {n:Nat} (hB:B≤a.block) (hne:∀ c (hc:c<H.length),H[c].live=true→(r c).blk≠a.block):WRel B W0 L F r H (w.freeze a n) where
 os:=by unfold World.freeze;split <;> exact h.os
 tape:=by unfold World.freeze;split <;> exact h.tape
 output:=by unfold World.freeze;split <;> exact h.output
 size:=by unfold World.freeze;split <;> simpa using h.size
 old k hk:=by rw [freeze_ne (by omega)];exact h.old k hk
 fz b o v hv:=by rw [freeze_cell];exact h.fz b o v hv
 one:=h.one
 blk b hb:=(h.blk b hb).keep (Fz.le_refl F) (Rm.le_refl _ r) (Nat.le_refl _) rfl (λhl=>⟨freeze_ne (hne b hb hl),λ_ x=>x⟩)
 low m hm b hb hbm:=(h.low m hm b hb hbm).keep (Fz.le_refl F) (Rm.le_refl _ r) (Nat.le_refl _) rfl (λhl=>⟨freeze_ne (hne b hb hl),λ_ x=>x⟩)
 own:=h.own
 gl:=h.gl
 fzB:=h.fzB
 inj:=h.inj
theorem loadBytes_row {bl off:Nat}:∀ (n o:Nat) (l:List IV) (s:List UInt8) (acc:ByteArray),l.length=n→(∀ j (hj:j<l.length),∃ v,w.cell? ⟨bl,off+(o+j),none⟩=some v∧VRel F r H.length l[j] v)→l.mapM byteOf=some s →
  (Go.loadBytes ⟨bl,off+o,none⟩ acc n).run P w=.ok ⟨acc.data++s.toArray⟩ w:=by
 intro n
 induction n with
 | zero=>
  intro o l s acc hl _ hs
  have:l=[]:=List.eq_nil_of_length_eq_zero hl
  subst this
  simp only [List.mapM_nil] at hs
  cases hs
  simp [Go.loadBytes]
 | succ n ih=>
  intro o l s acc hl hr hs
  cases l with
  | nil=>simp at hl
  | cons x l=>
   simp only [List.mapM_cons] at hs
   cases hx:byteOf x with
   | none=>rw [hx] at hs;cases hs
   | some c=>
    rw [hx] at hs
    cases hm:l.mapM byteOf with
    | none=>rw [hm] at hs;cases hs
    | some s2=>
     rw [hm] at hs
     cases hs
     obtain⟨v,hv,hvr⟩:=hr 0 (by simp)
     simp only [Nat.add_zero,List.getElem_cons_zero] at hv hvr
     unfold byteOf at hx
     split at hx
     ·rename_i k
      simp only [Option.some.injEq] at hx
      have hvi:=rel_int hvr
      subst hvi
      have:=ih (o+1) l s2 (acc.push c) (by simpa using hl) (λj hj=>by
       have:=hr (j+1) (by simp;omega)
       simp only [List.getElem_cons_succ] at this
       rw [show o+(j+1)=o+1+j by omega] at this
       exact this) hm
      unfold Go.loadBytes
      simp only [Sem.run_bind,run_load,hv,Result.andThen_ok]
      have e1:(⟨bl,off+o,none⟩:Addr).add 1=⟨bl,off+(o+1),none⟩:=by rw [add_none,Nat.add_assoc]
      have e2:k.toNat.toUInt8=c:=hx
      rw [e1,e2,this]
      simp [ByteArray.push]
     ·cases hx
theorem iUnsafeStr_rel (hw:WRel B W0 L F r H w) {ro:Nat} {ts:Array TypeId} {x n z:IV} {x' n':Value} {H':Hp} (h:iUnsafeStr P ts ro x n H=some (z,H')) (hx:VRel F r H.length x x') (hn:VRel F r H.length n n') (ty:TypeId) :
  ∃ F' w' z',(Builtin.unsafeString_ ts ty #[x',n']).run P w=.ok z' w'∧F.le F'∧WRel B W0 L F' r H' w'∧H'.length=H.length∧(∀ b,b<ro→H'[b]? = H[b]?)∧VRel F' r H'.length z z':=by
 unfold iUnsafeStr at h
 split at h
 ·rename_i k0
  split at h
  case isFalse=>cases h
  rename_i ht0
  simp only [Option.some.injEq,Prod.mk.injEq] at h
  obtain⟨rfl,rfl⟩:=h
  have h1:=rel_int hn
  cases hx
  obtain⟨t0,ht⟩:=Option.isSome_iff_exists.1 ht0
  refine⟨F,w,.string .empty,?_,Fz.le_refl F,hw,rfl,λ_ _=>rfl,.d (.str .empty)⟩
  refine (congrArg (λs=>Sem.run P s w) (show Builtin.unsafeString_ ts ty #[.pointer none,n']=(asInt n').bind _ from rfl)).trans ?_
  rw [Sem.run_bind',h1]
  simp [asInt,asIntOf,ht]
 ·rename_i b off k m
  split at h
  ·rename_i T cs u hH hu
   split at h
   ·rename_i hc
    obtain⟨c1,c2,c3,c4,c5⟩:=hc
    simp only [Option.bind_eq_some_iff,Option.map_eq_some_iff,Prod.mk.injEq] at h
    obtain⟨l,hl,s,hs,rfl,rfl⟩:=h
    rw [Option.bind_eq_some_iff] at hu
    obtain⟨t0,ht,hu⟩:=hu
    obtain⟨hb,hHb⟩:=getElem_of_get? hH
    have hlive:H[b].live=true:=by rw [hHb];rfl
    have hbr:=hw.blk _ hb
    rw [hHb] at hbr
    obtain⟨c,zz,g1,⟨g2,_⟩,g3,g4,g5,g6⟩:=hbr
    have h1:=rel_int hn
    obtain⟨hdl,hdg⟩:=datas_get hl
    obtain⟨F',hF,hfz⟩:=hw.freeze hH l hdl (λv hv j hj=>by
     have hj2:j<cs.length:=by omega
     obtain⟨y,hy,hyr,_⟩:=hw.cell hH hj2
     rw [hv j hj2] at hy
     cases hy
     rw [hdg j hj2 hj] at hyr
     cases hyr with | d hd=>exact hd)
    cases hx with
    | ptr _ _ hb'=>
     have hcs:P.cellsOf u=1:=by
      unfold sizeT at c4
      unfold Program.cellsOf
      rw [c4];rfl
     have hT:T / 2=u:=by omega
     rw [hT] at g1
     obtain⟨d,hdd⟩:∃ d,P.depth=d+1:=⟨2*(P.types.size+Made.depth)+1,rfl⟩
     have hva:(variablesAt ⟨(r b).blk,(r b).base+off,none⟩ u (m+1)).run P w=.ok true w:=by
      have hlies:liesAt P P.depth u (c.size / 1) ((r b).base+off) u (m+1)=true:=by
       rw [hdd]
       unfold liesAt
       rw [hdd]
       have:rowAt P (λx=>sameLayout P (d+1) x u) (d+1) u (c.size / 1) ((r b).base+off) (m+1)=true:=by
        unfold rowAt
        have h1:(r b).base+off+(m+1)≤c.size:=by omega
        simp [hcs,sameLayout,h1,Nat.mod_one]
       rw [this];rfl
      (try rw [Nat.div_one] at hlies);simp [variablesAt,World.shape?,g1,hcs,hlies]
     have hrow:(Go.loadBytes ⟨(r b).blk,(r b).base+off,none⟩ .empty (m+1)).run P w=.ok ⟨s.toArray⟩ w:=by
      have:=loadBytes_row (P:=P) (w:=w) (F:=F) (r:=r) (H:=H) (bl:=(r b).blk) (off:=(r b).base) (m+1) off ((cs.drop off).take (m+1)) s .empty (by simp;omega) (λj hj=>by
       have hj2:off+j<cs.length:=by simp at hj;omega
       obtain⟨y,hy,hyr,_⟩:=hw.cell hH hj2
       exact⟨y,hy,by simpa using hyr⟩) hs
      simpa using this
     refine⟨F',w.freeze ⟨(r b).blk,(r b).base+off,none⟩ (m+1),.string ⟨s.toArray⟩,?_,hF,?_,by simp,λq hq=>by rw [List.getElem?_set_ne (by omega)],?_⟩
     ·have hmax:¬ ((m:Int)+1 > IntKind.i64.max):=by
       have:IntKind.i64.max=9223372036854775807:=by decide
       rw [this];omega
      have helem:(elemOf t0).run P w=.ok u w:=by simp [elemOf,run_underlying hu]
      have e1:(Int.ofNat (m+1))=(m:Int)+1:=rfl
      refine (congrArg (λs=>Sem.run P s w) (show Builtin.unsafeString_ ts ty #[.pointer (some ⟨(r b).blk,(r b).base+off,none⟩),n']=(asInt n').bind _ from rfl)).trans ?_
      rw [Sem.run_bind',h1]
      simp only [ht,asInt,asIntOf,Sem.run_bind,Sem.run_map,Sem.run_pure,Result.andThen_ok]
      rw [e1,if_neg (by omega),if_neg hmax,if_neg (by omega)]
      simp only [Sem.run_bind,helem,Result.andThen_ok]
      have e2:((m:Int)+1).toNat=m+1:=by omega
      rw [e2,hva]
      simp [hrow]
     ·refine hfz.mark (hw.own b hb hlive) (λx hx hlx=>?_)
      have hx':x<H.length:=by simpa using hx
      rw [list_set_get] at hlx
      by_cases e:b=x
      ·subst e;simp [Blk.live] at hlx
      ·rw [if_neg e] at hlx
       exact λe'=>e (hw.inj b x hb hx' hlive hlx e'.symm)
     ·have:=DRel.str (F:=F') ⟨s.toArray⟩
      exact .d (by simpa using this)
   ·cases h
  ·cases h
 ·cases h
theorem opX_rel {C:Ctx} {o:Oper} {a:Act} {e:Env} {z:IV} {H':Hp} (hw:WRel B W0 L F r H w) (hL:∀ m,L m→m≤C.lim) (hlim:C.lim≤H.length) (hro:C.ro≤H.length) (he:Vs F r H.length e a.tmps) (h:opX C o e H=some (z,H')) :
  ∃ F' r' w' z',((execOp a.eval o).run C.P w=.ok (.value z') w'∨((execOp a.eval o).run C.P w=.ok .skip w'∧z=.un))∧Ext C.ro F r H F' r' H'∧WRel B W0 L F' r' H' w'∧VRel F' r' H'.length z z':=by
 have hLH:∀ m,L m→m≤H.length:=λm hm=>Nat.le_trans (hL m hm) hlim
 have same:∀ {z':Value} {w':World} {H':Hp},WRel B W0 L F r H' w'→H'.length=H.length→(∀ b,b<C.ro→H'[b]? = H[b]?)→Ext C.ro F r H F r H':=λ_ h2 h3=>⟨Fz.le_refl F,Rm.le_refl _ r,by rw [h2];exact Nat.le_refl _,h3⟩
 unfold opX at h
 split at h
 ·
  rename_i t ho
  simp only [Option.some.injEq,Prod.mk.injEq] at h
  obtain⟨rfl,rfl⟩:=h
  refine⟨F,_,_,.map (some w.heap.size),.inl (by simp [execOp,ho,Instr.makeMap]),⟨Fz.le_refl F,upd_le _ _ _,by simp,λb hb=>by rw [List.getElem?_append_left (by omega)]⟩,hw.pushObj hLH (.mp []) (.map #[] 0) ?_,?_⟩
  ·rintro l rfl h1 h2
   exact⟨#[],0,by rw [upd_same];exact h1,rfl,λj hj=>by simp at hj,λo=>by rw [upd_same];exact h2 o⟩
  ·have:=VRel.map (F:=F) (r:=upd r H.length ⟨w.heap.size,0,0,false⟩) (n:=(H++[Blk.mp []]).length) H.length (by simp)
   simpa [upd_same] using this
 ·rename_i t x i ok ho
  simp only [Option.map_eq_some_iff,Prod.mk.injEq] at h
  obtain⟨v,h1,rfl,rfl⟩:=h
  obtain⟨z',g1,g2⟩:=iLookup_rel (P:=C.P) hw h1 (rel_ev he x) (rel_ev he i)
  exact⟨F,r,w,z',.inl (by simp [execOp,ho,g1]),Ext.refl _ _ _ _,hw,g2⟩
 ·rename_i t m k x ho
  simp only [Option.map_eq_some_iff,Prod.mk.injEq] at h
  obtain⟨H2,h1,rfl,rfl⟩:=h
  obtain⟨w',g1,g2,g3,g4⟩:=iMapUpdate_rel (P:=C.P) hw hL h1 (rel_ev he m) (rel_ev he k) (rel_ev he x)
  exact⟨F,r,w',undef,.inr ⟨by simp [execOp,ho,g1],rfl⟩,same (z':=undef) g2 g3 g4,g2,.un _⟩
 ·rename_i t x ho
  obtain⟨r',w',z',g1,g2,g3,g4⟩:=iRange_rel (P:=C.P) hw hLH h (rel_ev he x) C.ro hro
  exact⟨F,r',w',z',.inl (by simp [execOp,ho,g1]),g2,g3,g4⟩
 ·rename_i x ho
  obtain⟨w',z',g1,g2,g3,g4,g5⟩:=iNext_rel (P:=C.P) hw h (rel_ev he x) o.type
  exact⟨F,r,w',z',.inl (by simp [execOp,ho,g1]),same (z':=z') g2 g3 g4,g2,g5⟩
 ·rename_i src dst x ho
  split at h
  ·rename_i t hs hd
   split at h
   ·rename_i n hn
    simp only [Option.map_eq_some_iff,Prod.mk.injEq] at h
    obtain⟨v,h1,rfl,rfl⟩:=h
    obtain⟨g1,g2⟩:=iUnsafe_to (P:=C.P) hw hs hd hn h1 (rel_ev he x)
    exact⟨F,r,w,_,.inl (by simp [execOp,ho,g1]),Ext.refl _ _ _ _,hw,g2⟩
   ·cases h
  ·rename_i u hs hd
   simp only [Option.map_eq_some_iff,Prod.mk.injEq] at h
   obtain⟨v,h1,rfl,rfl⟩:=h
   obtain⟨g1,g2⟩:=iUnsafe_from (P:=C.P) hw hs hd h1 (rel_ev he x)
   exact⟨F,r,w,_,.inl (by simp [execOp,ho,g1]),Ext.refl _ _ _ _,hw,g2⟩
  ·cases h
 ·rename_i t g i ho
  simp only [Option.map_eq_some_iff,Prod.mk.injEq] at h
  obtain⟨v,h1,rfl,rfl⟩:=h
  have hg:VRel F r H.length (.lptr (Globs.gl g) 0) (a.eval (.global g)):=by
   have hc:∀ j,j<(Globs.gl g).length→∃ v,F g j=some v∧∀ hj:j<(Globs.gl g).length,DRel F ((Globs.gl g)[j]) v:=by
    intro j hj
    obtain⟨v,g1,g2⟩:=hw.gl g j hj
    exact⟨v,g1,λ_=>g2⟩
   let cv:Nat→Value:=λj=>(F g j).getD undef
   have:=VRel.lptr (F:=F) (r:=r) (n:=H.length) (Globs.gl g) 0 g 0 cv (λj hj=>by
    obtain⟨v,g1,_⟩:=hc j hj
    simp [cv,g1]) (λj hj=>by
    obtain⟨v,g1,g2⟩:=hc j hj
    simpa [cv,g1] using g2 hj)
   exact this
  obtain⟨z',g1,g2⟩:=iArrAt_rel (P:=C.P) w h1 hg (rel_ev he i)
  exact⟨F,r,w,z',.inl (by simp [execOp,ho,g1]),Ext.refl _ _ _ _,hw,g2⟩
 ·rename_i t x i hx ho
  simp only [Option.map_eq_some_iff,Prod.mk.injEq] at h
  obtain⟨v,h1,rfl,rfl⟩:=h
  obtain⟨z',g1,g2⟩:=iArrAt_rel (P:=C.P) w h1 (rel_ev he x) (rel_ev he i)
  exact⟨F,r,w,z',.inl (by simp [execOp,ho,g1]),Ext.refl _ _ _ _,hw,g2⟩
 ·rename_i c ho
  split at h
  ·rename_i hcal
   split at h
   ·rename_i m k hargs
    simp only [Option.map_eq_some_iff,Prod.mk.injEq] at h
    obtain⟨H2,h1,rfl,rfl⟩:=h
    obtain⟨w',g1,g2,g3,g4⟩:=iDelete_rel (P:=C.P) hw h1 (rel_ev he m) (rel_ev he k) o.type
    have ha:c.args.map a.eval=#[a.eval m,a.eval k]:=by
     have:c.args=#[m,k]:=by apply Array.ext';simpa using hargs
     rw [this];simp
    exact⟨F,r,w',.tuple #[],.inl (by simp [execOp,ho,resolve,hcal,ha,invoke,builtin,g1]),same (z':=undef) g2 g3 g4,g2,.tup _ _ rfl (λj hj=>by simp at hj)⟩
   ·cases h
  ·rename_i hcal
   split at h
   ·rename_i m hargs
    simp only [Option.map_eq_some_iff,Prod.mk.injEq] at h
    obtain⟨H2,h1,rfl,rfl⟩:=h
    obtain⟨w',g1,g2,g3,g4⟩:=iClear_rel (P:=C.P) hw h1 (rel_ev he m) o.type
    have ha:c.args.map a.eval=#[a.eval m]:=by
     have:c.args=#[m]:=by apply Array.ext';simpa using hargs
     rw [this];simp
    exact⟨F,r,w',.tuple #[],.inl (by simp [execOp,ho,resolve,hcal,ha,invoke,builtin,g1]),same (z':=undef) g2 g3 g4,g2,.tup _ _ rfl (λj hj=>by simp at hj)⟩
   ·cases h
  ·rename_i hcal
   split at h
   ·rename_i x hargs
    simp only [Option.map_eq_some_iff,Prod.mk.injEq] at h
    obtain⟨v,h1,rfl,rfl⟩:=h
    obtain⟨z',g1,g2⟩:=iSliceData_rel (P:=C.P) hw h1 (rel_ev he x) c.argTypes o.type
    have ha:c.args.map a.eval=#[a.eval x]:=by
     have:c.args=#[x]:=by apply Array.ext';simpa using hargs
     rw [this];simp
    exact⟨F,r,w,z',.inl (by simp [execOp,ho,resolve,hcal,ha,invoke,builtin,g1]),Ext.refl _ _ _ _,hw,g2⟩
   ·cases h
  ·rename_i hcal
   split at h
   ·rename_i x n hargs
    have ha:c.args.map a.eval=#[a.eval x,a.eval n]:=by
     have:c.args=#[x,n]:=by apply Array.ext';simpa using hargs
     rw [this];simp
    obtain⟨F',w',z',g1,g2,g3,g4,g5,g6⟩:=iUnsafeStr_rel (P:=C.P) hw h (rel_ev he x) (rel_ev he n) o.type
    exact⟨F',r,w',z',.inl (by simp [execOp,ho,resolve,hcal,ha,invoke,builtin,g1]),⟨g2,Rm.le_refl _ r,by rw [g4];exact Nat.le_refl _,g5⟩,g3,g6⟩
   ·cases h
  ·cases h
 ·cases h
end
end Go.Tg
namespace Go.Tg
variable [Globs]
def Callable (P:Program) (f:Nat):Prop:=∃ fn,P.funcs[f]? = some fn∧fn.body.isSome=true∧fn.name ≠ "runtime.NumGoroutine"
def CPost (B:Nat) (W0:Base) (L:Nat→Prop) (ro:Nat) (F:Fz) (r:Rm) (H:Hp) (out:Out) (H':Hp) (e:Ending) (w':World):Prop:=
 ∃ F' r',Ext ro F r H F' r' H'∧WRel B W0 L F' r' H' w'∧match out with
  | .val v=>∃ v',e=.returned v'∧VRel F' r' H'.length v v'
  | .pan v=>∃ v',e=.panicked [{ v:=v',recovered:=false }]∧VRel F' r' H'.length v v'
def Enters (P:Program) (f:Nat) (args:Array Value) (w:World) (R:Ending→World→Prop):Prop:=
 ((callFunc f args).run P w=.ok (.enter f args) w∧Calls P f args w R)∨∃ v w',(callFunc f args).run P w=.ok (.value v) w'∧R (.returned v) w'
def Says (P:Program) (lim ro f:Nat) (args:List IV) (H:Hp) (out:Out) (H':Hp):Prop:=
 ∀ (B:Nat) (W0:Base) (L:Nat→Prop) (F:Fz) (r:Rm) (w:World) (args':Array Value),WRel B W0 L F r H w→(∀ m,L m→m≤lim)→lim≤H.length→ro≤H.length→Vs F r H.length args args' →
  Enters P f args' w (CPost B W0 L ro F r H out H')
structure Sound (P:Program) (call:Oracle):Prop where
 says:∀ (lim ro f:Nat) (args:List IV) (H:Hp) (out:Out) (H':Hp),call lim ro f args H=some (out,H')→Says P lim ro f args H out H'
omit [Globs] in
theorem run_callFunc {P:Program} {w:World} {f:Nat} (h:Callable P f) (args:Array Value):(callFunc f args).run P w=.ok (.enter f args) w:=by
 obtain⟨fn,h1,h2,h3⟩:=h
 simp [callFunc,h1,h3]
 intro hb
 rw [hb] at h2;cases h2
section
variable {B:Nat} {W0:Base} {L:Nat→Prop} {F:Fz} {r:Rm} {H:Hp} {w:World} {C:Ctx} {e:Env} {a:Act} {o:Oper} {ρ:Type} {res:ρ} {kv kp:IV→Hp→Option ρ} {K:Act→World→Prop} {Q:Exit→Act→World→Prop}
theorem goes_lift (hw:WRel B W0 L F r H w) {x:Option IV} (h:lift x H kv=some res) (hx:∀ z,x=some z→∃ z',(execOp a.eval o).run C.P w=.ok (.value z') w∧VRel F r H.length z z')
  (hk:∀ v H' F' r' w' v',Ext C.ro F r H F' r' H'→WRel B W0 L F' r' H' w'→VRel F' r' H'.length v v'→kv v H'=some res→K (a.put o.dst v') w'):Goes C.P o a w K Q:=by
 simp only [lift,Option.bind_eq_some_iff] at h
 obtain⟨z,hz,h⟩:=h
 obtain⟨z',h1,h2⟩:=hx z hz
 exact .val h1 (hk z H F r w z' (Ext.refl _ _ _ _) hw h2 h)
theorem goes_liftH {x:Option (IV×Hp)} (h:liftH x kv=some res) (hx:∀ z H',x=some (z,H')→∃ r' w' z',(execOp a.eval o).run C.P w=.ok (.value z') w'∧Ext C.ro F r H F r' H'∧WRel B W0 L F r' H' w'∧VRel F r' H'.length z z')
  (hk:∀ v H' F' r' w' v',Ext C.ro F r H F' r' H'→WRel B W0 L F' r' H' w'→VRel F' r' H'.length v v'→kv v H'=some res→K (a.put o.dst v') w'):Goes C.P o a w K Q:=by
 simp only [liftH,Option.bind_eq_some_iff] at h
 obtain⟨⟨z,H'⟩,hz,h⟩:=h
 obtain⟨r',w',z',h1,h2,h3,h4⟩:=hx z H' hz
 exact .val h1 (hk z H' F r' w' z' h2 h3 h4 h)
theorem goes_call {P:Program} {ro:Nat} {out:Out} {H1 H':Hp} {F1:Fz} {f:Nat} {args:Array Value} (hrun:(execOp a.eval o).run P w=(callFunc f args).run P w) (hc:Enters P f args w (CPost B W0 L ro F1 r H1 out H'))
  (hext:∀ F' r',Ext ro F1 r H1 F' r' H'→Ext ro F r H F' r' H')
  (hresv:∀ v,out=.val v→kv v H'=some res) (hresp:∀ v,out=.pan v→kp v H'=some res)
  (hk:∀ v H' F' r' w' v',Ext ro F r H F' r' H'→WRel B W0 L F' r' H' w'→VRel F' r' H'.length v v'→kv v H'=some res→K (a.put o.dst v') w')
  (hp:∀ v H' F' r' w' v',Ext ro F r H F' r' H'→WRel B W0 L F' r' H' w'→VRel F' r' H'.length v v'→kp v H'=some res→Q (.panic [{ v:=v',recovered:=false }]) a w'):Goes P o a w K Q:=by
 left
 unfold Oper.wp
 rcases hc with ⟨hen,hc⟩ | ⟨v0,w',hval,hpost⟩
 case inr=>
  rw [hrun,hval]
  obtain⟨F',r',h1,h2,h3⟩:=hpost
  cases out with
  | val v=>
   obtain⟨v',e1,hv⟩:=h3
   cases e1
   exact hk v H' F' r' w' v0 (hext _ _ h1) h2 hv (hresv v rfl)
  | pan v=>
   obtain⟨v',e1,hv⟩:=h3
   cases e1
 rw [hrun,hen]
 show Calls P f args w _
 refine hc.mono (λe w' hpost=>?_)
 obtain⟨F',r',h1,h2,h3⟩:=hpost
 cases out with
 | val v=>
  obtain⟨v',rfl,hv⟩:=h3
  exact hk v H' F' r' w' v' (hext _ _ h1) h2 hv (hresv v rfl)
 | pan v=>
  obtain⟨v',rfl,hv⟩:=h3
  exact hp v H' F' r' w' v' (hext _ _ h1) h2 hv (hresp v rfl)
theorem zipB_length:∀ (bs:List Bool) (vs:List IV),(zipB bs vs).length=vs.length:=by
 intro bs
 induction bs with
 | nil=>intro vs;cases vs <;> simp [zipB]
 | cons b bs ih=>intro vs;cases vs with
  | nil=>simp [zipB]
  | cons v vs=>simp [zipB,ih]
theorem zipB_get:∀ (bs:List Bool) (vs:List IV) (i:Nat) (hi:i<(zipB bs vs).length),((zipB bs vs)[i]).2=vs[i]'(by rw [zipB_length] at hi;exact hi):=by
 intro bs
 induction bs with
 | nil=>
  intro vs i hi
  cases vs with
  | nil=>simp [zipB] at hi
  | cons v vs=>
   show (((v::vs).map λv=>(false,v))[i]'(by simpa [zipB] using hi)).2=_
   rw [List.getElem_map]
 | cons b bs ih=>
  intro vs i hi
  cases vs with
  | nil=>simp [zipB] at hi
  | cons v vs=>
   cases i with
   | zero=>simp [zipB]
   | succ i=>simpa [zipB] using ih vs i (by simpa [zipB] using hi)
theorem goCall_sound (hS:Sound C.P C.call) (hw:WRel B W0 L F r H w) (hL:∀ m,L m→m≤C.lim) (hlim:C.lim≤H.length) (hro:C.ro≤H.length) {f:Nat} {args:List IV} {args':Array Value} (h:goCall C f args H kv kp=some res)
  (hrun:(execOp a.eval o).run C.P w=(callFunc f args').run C.P w) (hargs:Vs F r H.length args args')
  (hk:∀ v H' F' r' w' v',Ext C.ro F r H F' r' H'→WRel B W0 L F' r' H' w'→VRel F' r' H'.length v v'→kv v H'=some res→K (a.put o.dst v') w')
  (hp:∀ v H' F' r' w' v',Ext C.ro F r H F' r' H'→WRel B W0 L F' r' H' w'→VRel F' r' H'.length v v'→kp v H'=some res→Q (.panic [{ v:=v',recovered:=false }]) a w'):Goes C.P o a w K Q:=by
 unfold goCall at h
 split at h
 ·simp only [liftR,Option.bind_eq_some_iff] at h
  obtain⟨⟨out,H'⟩,hc,h⟩:=h
  have h2:=hS.says _ _ _ _ _ _ _ hc
  exact goes_call hrun (h2 B W0 L F r w args' hw hL hlim hro hargs) (λ_ _ h=>h) (λv e=>by subst e;exact h) (λv e=>by subst e;exact h) hk hp
 ·simp only [liftR,Option.bind_eq_some_iff] at h
  obtain⟨⟨out,H'⟩,hc,h⟩:=h
  have h2:=hS.says _ _ _ _ _ _ _ hc
  obtain⟨F1,a1,a2,a3,a4,a5⟩:=frzArgs_rel w r C.ro (zipB (slArgs C.P f) args) H F (λi=>args'.getD i undef) hw (λi hi=>by
   rw [zipB_get];exact hargs.2 i _)
  have hlen:=a5.1
  refine goes_call hrun (h2 B W0 L F1 r w args' a2 hL (by rw [hlen];exact hlim) (by rw [hlen];exact hro) ⟨?_,λi hi=>?_⟩) (λF' r' hx=>?_) (λv e=>by subst e;exact h) (λv e=>by subst e;exact h) hk hp
  ·rw [a3,zipB_length];exact hargs.1
  ·rw [hlen];exact a4 i hi
  ·exact⟨Fz.le_trans a1 hx.F,by have:=hx.r;rw [hlen] at this;exact this,by have:=hx.len;rw [hlen] at this;exact this,λb hb=>(hx.ro b hb).trans (a5.ro b hb)⟩
theorem opt_map {n:Nat} (h:Vs F r n e a.tmps) (x:Option Operand):Opt F r n (x.map (ev e)) (x.map a.eval):=by
 cases x with
 | none=>trivial
 | some x=>exact rel_ev h x
theorem goes_X (hw:WRel B W0 L F r H w) (hL:∀ m,L m→m≤C.lim) (hlim:C.lim≤H.length) (hro:C.ro≤H.length) (he:Vs F r H.length e a.tmps) (h:liftH (opX C o e H) kv=some res)
  (hk:∀ v H' F' r' w' v',Ext C.ro F r H F' r' H'→WRel B W0 L F' r' H' w'→VRel F' r' H'.length v v'→kv v H'=some res→K (a.put o.dst v') w'):Goes C.P o a w K Q:=by
 simp only [liftH,Option.bind_eq_some_iff] at h
 obtain⟨⟨z,H'⟩,hz,h⟩:=h
 obtain⟨F',r',w',z',h1,h2,h3,h4⟩:=opX_rel hw hL hlim hro he hz
 rcases h1 with h1 | ⟨h1,rfl⟩
 ·exact .val h1 (hk z H' F' r' w' z' h2 h3 h4 h)
 ·exact .skip h1 (hk _ H' F' r' w' undef h2 h3 (.un _) h)
theorem args_two {c:Call} {x y:Operand} (h:c.args.toList=[x,y]):c.args.map a.eval=#[a.eval x,a.eval y]:=by
 have:c.args=#[x,y]:=by apply Array.ext';simpa using h
 rw [this];simp
theorem args_three {c:Call} {x y z:Operand} (h:c.args.toList=[x,y,z]):c.args.map a.eval=#[a.eval x,a.eval y,a.eval z]:=by
 have:c.args=#[x,y,z]:=by apply Array.ext';simpa using h
 rw [this];simp
theorem args_one {c:Call} {x:Operand} (h:c.args.toList=[x]):c.args.map a.eval=#[a.eval x]:=by
 have:c.args=#[x]:=by apply Array.ext';simpa using h
 rw [this];simp
theorem op_sound (hS:Sound C.P C.call) (hw:WRel B W0 L F r H w) (hL:∀ m,L m→m≤C.lim) (hlim:C.lim≤H.length) (hro:C.ro≤H.length) (he:Vs F r H.length e a.tmps) (h:opK C o e H kv kp=some res)
  (hk:∀ v H' F' r' w' v',Ext C.ro F r H F' r' H'→WRel B W0 L F' r' H' w'→VRel F' r' H'.length v v'→kv v H'=some res→K (a.put o.dst v') w')
  (hp:∀ v H' F' r' w' v',Ext C.ro F r H F' r' H'→WRel B W0 L F' r' H' w'→VRel F' r' H'.length v v'→kp v H'=some res→Q (.panic [{ v:=v',recovered:=false }]) a w'):Goes C.P o a w K Q:=by
 have hLH:∀ m,L m→m≤H.length:=λm hm=>Nat.le_trans (hL m hm) hlim
 unfold opK at h
 split at h
 ·
  rename_i x ho
  refine .val (v:=a.eval x) (w':=w) (by simp [execOp,ho]) (hk _ H F r w _ (Ext.refl _ _ _ _) hw (rel_ev he x) h)
 ·rename_i x ho
  refine .val (v:=a.eval x) (w':=w) (by simp [execOp,ho]) (hk _ H F r w _ (Ext.refl _ _ _ _) hw (rel_ev he x) h)
 ·rename_i c x y ho
  refine goes_lift hw h (λz hz=>?_) hk
  obtain⟨z',h1,h2⟩:=iPick_rel (P:=C.P) w hz (rel_ev he c) (rel_ev he x) (rel_ev he y)
  refine⟨z',?_,h2⟩
  simp only [execOp,ho,Sem.run_bind] at h1 ⊢
  revert h1
  generalize (asBool (a.eval c)).run C.P w=q
  cases q <;> simp [Result.andThen]
 ·
  rename_i t ho
  refine goes_liftH h (λz H' hz=>?_) hk
  simp only [Option.bind_eq_some_iff] at hz
  obtain⟨zz,hzz,hz⟩:=hz
  obtain⟨i,z0,hi,hz0,hzr⟩:=zeroT_rel (P:=C.P) (F:=F) (r:=r) (n:=H.length) hzz
  unfold iBox at hz
  split at hz
  ·rename_i h1
   simp only [Option.some.injEq,Prod.mk.injEq] at hz
   obtain⟨rfl,rfl⟩:=hz
   have hcs:=hzr.cells h1
   have hpu:=hw.pushVar hLH (cs:=zz.cells) (c:=z0.cells) t (by rw [hcs.1];exact Nat.le_refl _) hcs.2 (hcs.allOne h1)
   refine⟨_,_,.pointer (some ⟨w.heap.size,0,none⟩),?_,⟨Fz.le_refl F,upd_le _ _ _,by simp,λb hb=>by rw [List.getElem?_append_left (by omega)]⟩,hpu,?_⟩
   ·simp [execOp,ho,Instr.alloc,zeroValue,typeInfo,hi,hz0,newVar,newRow]
   ·have:=VRel.ptr (F:=F) (r:=upd r H.length ⟨w.heap.size,0,z0.cells.size,false⟩) (n:=(H++[Blk.cells (2*t+1) zz.cells]).length) H.length 0 (by simp)
    simpa [upd_same] using this
  ·cases hz
 ·
  rename_i t x ho
  refine goes_liftH h (λz H' hz=>?_) hk
  have hx:=rel_ev he x
  unfold iBox at hz
  split at hz
  ·rename_i h1
   simp only [Option.some.injEq,Prod.mk.injEq] at hz
   obtain⟨rfl,rfl⟩:=hz
   have hcs:=hx.cells h1
   have hpu:=hw.pushVar hLH (cs:=(ev e x).cells) (c:=(a.eval x).cells) t (by rw [hcs.1];exact Nat.le_refl _) hcs.2 (hcs.allOne h1)
   refine⟨_,_,.pointer (some ⟨w.heap.size,0,none⟩),?_,⟨Fz.le_refl F,upd_le _ _ _,by simp,λb hb=>by rw [List.getElem?_append_left (by omega)]⟩,hpu,?_⟩
   ·simp [execOp,ho,Instr.box,newVar,newRow]
   ·have:=VRel.ptr (F:=F) (r:=upd r H.length ⟨w.heap.size,0,(a.eval x).cells.size,false⟩) (n:=(H++[Blk.cells (2*t+1) (ev e x).cells]).length) H.length 0 (by simp)
    simpa [upd_same] using this
  ·cases hz
 ·
  rename_i t ps ho
  refine goes_lift hw h (λz hz=>?_) hk
  obtain⟨g1,g2⟩:=parts_rel he ps
  obtain⟨z',h1,h2⟩:=iBuild_rel (w:=w) hz g1 g2
  exact⟨z',by simp only [execOp,ho];exact run_v h1,h2⟩
 ·
  rename_i t n ps ho
  refine goes_liftH h (λz H' hz=>?_) hk
  obtain⟨g1,g2⟩:=parts_rel he ps
  obtain⟨r',w',z',h1,h2,h3,h4⟩:=iBuildSlice_rel hw hLH hz g1 g2 C.ro hro
  exact⟨r',w',z',by simp only [execOp,ho];exact run_v h1,h2,h3,h4⟩
 ·
  rename_i t x ho
  refine goes_lift hw h (λz hz=>?_) hk
  obtain⟨z',h1,h2⟩:=iLoad_rel hw hz (rel_ev he x)
  exact⟨z',by simp only [execOp,ho];exact run_v h1,h2⟩
 ·
  rename_i t x y ho
  simp only [liftU,Option.bind_eq_some_iff] at h
  obtain⟨H',⟨n,hn,hst⟩,h⟩:=h
  obtain⟨w',h1,h2,h3,h4⟩:=st_rel hw hLH hL hn hst (rel_ev he x) (rel_ev he y)
  refine .skip (w':=w') ?_ (hk .un H' F r w' undef ⟨Fz.le_refl F,Rm.le_refl _ r,by omega,h4⟩ h2 (.un _) h)
  simp only [execOp,ho,Sem.run_bind,h1,Result.andThen_ok];rfl
 ·
  rename_i x ho
  refine goes_lift hw h (λz hz=>?_) hk
  obtain⟨h1,h2⟩:=iNil_rel hz (rel_ev he x)
  refine⟨a.eval x,?_,h1⟩
  rcases h2 with ⟨ad,h2⟩ | ⟨f,l1,l2,h2⟩ <;> simp [execOp,ho,h2]
 ·
  rename_i op t x y yt ho
  refine goes_lift hw h (λz hz=>?_) hk
  obtain⟨z',h1,h2⟩:=iBin_rel w hz (rel_ev he x) (rel_ev he y) x y
  exact⟨z',by simp only [execOp,ho];exact run_v h1,h2⟩
 ·
  rename_i op t x ho
  refine goes_lift hw h (λz hz=>?_) hk
  obtain⟨z',h1,h2⟩:=iUn_rel (P:=C.P) w hz (rel_ev he x)
  exact⟨z',by simp only [execOp,ho];exact run_v h1,h2⟩
 ·
  rename_i src dst x ho
  have hx:=rel_ev he x
  split at h
  ·rename_i k' k hs hd
   refine goes_lift hw h (λz hz=>?_) hk
   obtain⟨z',h1,h2⟩:=iConvInt_rel (w:=w) hs hd hz hx
   exact⟨z',by simp only [execOp,ho];exact run_v h1,h2⟩
  ·rename_i hs hd
   refine goes_lift hw h (λz hz=>?_) hk
   split at hz
   ·rename_i s hs2
    simp only [Option.some.injEq] at hz;subst hz
    rw [hs2] at hx
    obtain⟨b,hb,rfl⟩:=rel_str hx
    rw [hb] at hx
    exact⟨.string b,by simp only [execOp,ho,hb];exact run_v (by simp [convert,run_underlying hs,run_underlying hd]),hx⟩
   ·cases hz
  ·rename_i el hs hd
   split at h
   ·rename_i hel hsz
    refine goes_liftH h (λz H' hz=>?_) hk
    obtain⟨r',w',z',h1,h2,h3,h4⟩:=sbyt_rel hw hLH hs hd hel hz hx C.ro hro
    exact⟨r',w',z',by simp only [execOp,ho];exact run_v h1,h2,h3,h4⟩
   ·cases h
  ·rename_i el hs hd
   split at h
   ·rename_i hel
    refine goes_lift hw h (λz hz=>?_) hk
    obtain⟨z',h1,h2⟩:=bstr_rel hw hs hel hd hz hx
    exact⟨z',by simp only [execOp,ho];exact run_v h1,h2⟩
   ·cases h
  ·exact goes_X hw hL hlim hro he h hk
 ·
  rename_i t x ho
  split at h
  ·cases h
  ·cases h
  ·rename_i d hd1 hu
   refine .val (v:=.iface t (a.eval x)) (w':=w) ?_ (hk _ H F r w _ (Ext.refl _ _ _ _) hw (.ifc t (rel_ev he x)) h)
   simp only [execOp,ho]
   refine run_v ?_
   simp only [Instr.makeInterface,Sem.run_bind,run_underlying hu,Result.andThen_ok]
   cases d <;> first | rfl | exact absurd rfl (hd1 _)
 ·
  rename_i f l1 l2 ho
  refine .val (v:=.func (.func f) (l1.map a.eval) (l2.map a.eval)) (w':=w) (by simp [execOp,ho,Instr.makeFunc]) (hk _ H F r w _ (Ext.refl _ _ _ _) hw ?_ h)
  have g1:=vs_map he l1
  have g2:=vs_map he l2
  exact .fn f _ _ _ _ g1.1 g2.1 g1.2 g2.2
 ·
  rename_i t l c ho
  refine goes_liftH h (λz H' hz=>?_) hk
  obtain⟨r',w',z',h1,h2,h3,h4⟩:=iMakeSlice_rel hw hLH hz (rel_ev he l) (rel_ev he c) C.ro hro
  exact⟨r',w',z',by simp only [execOp,ho];exact run_v h1,h2,h3,h4⟩
 ·
  rename_i t x lo hi mx ho
  refine goes_lift hw h (λz hz=>?_) hk
  obtain⟨z',h1,h2⟩:=iSlice_rel (w:=w) hz (rel_ev he x) (opt_map he hi) (opt_map he lo) (opt_map he mx)
  exact⟨z',by simp only [execOp,ho];exact run_v h1,h2⟩
 ·rename_i s x f ho
  refine goes_lift hw h (λz hz=>?_) hk
  obtain⟨z',h1,h2⟩:=iFieldAddr_rel w hz (rel_ev he x)
  exact⟨z',by simp only [execOp,ho];exact run_v h1,h2⟩
 ·rename_i s x f ho
  refine goes_lift hw h (λz hz=>?_) hk
  obtain⟨z',h1,h2⟩:=iField_rel w hz (rel_ev he x)
  exact⟨z',by simp only [execOp,ho];exact run_v h1,h2⟩
 ·rename_i t x i ho
  split at h
  ·rename_i z hz
   obtain⟨z',h1,h2⟩:=iIndexAddr_rel w hz (rel_ev he x) (rel_ev he i)
   exact .val (v:=z') (w':=w) (by simp only [execOp,ho];exact run_v h1) (hk z H F r w z' (Ext.refl _ _ _ _) hw h2 h)
  ·exact goes_X hw hL hlim hro he h hk
 ·rename_i t x i ho
  refine goes_lift hw h (λz hz=>?_) hk
  obtain⟨z',h1,h2⟩:=iIndex_rel (w:=w) hz (rel_ev he x) (rel_ev he i)
  exact⟨z',by simp only [execOp,ho];exact run_v h1,h2⟩
 ·rename_i x i ho
  refine goes_lift hw h (λz hz=>?_) hk
  obtain⟨z',h1,h2⟩:=iExtract_rel (P:=C.P) w hz (rel_ev he x)
  exact⟨z',by simp only [execOp,ho];exact run_v h1,h2⟩
 ·
  rename_i x ho
  split at h
  ·rename_i t v hx
   have hr:=rel_ev he x
   rw [hx] at hr
   have hi:∃ v',a.eval x=.iface t v':=by
    generalize a.eval x=q at hr
    cases hr;exact⟨_,rfl⟩
   obtain⟨v',hv'⟩:=hi
   left
   unfold Oper.wp
   have:(execOp a.eval o).run C.P w=.halt (.panic (.iface t v')) w:=by simp [execOp,ho,Instr.panic,hv']
   rw [this]
   exact hp _ H F r w _ (Ext.refl _ _ _ _) hw (by rw [← hv'];exact hr) h
  ·cases h
 ·
  rename_i c ho
  split at h
  ·rename_i f hc
   refine goCall_sound (args':=c.args.map a.eval) hS hw hL hlim hro h ?_ (vs_map he c.args) hk hp
   simp only [execOp,ho,resolve,hc,Act.eval,Deferred.ofValue,Sem.run_bind,Sem.run_pure,Result.andThen_ok,invoke]
   simp
  ·rename_i t hc
   have hf:=rel_ev (F:=F) (r:=r) (n:=H.length) he (.tmp t)
   unfold goVal at h
   split at h
   ·rename_i f l1 l2 hfv
    rw [hfv] at hf
    have hsh:∃ v1 v2,a.eval (.tmp t)=.func (.func f) v1 v2∧Vs F r H.length l1 v1∧Vs F r H.length l2 v2:=by
     generalize a.eval (.tmp t)=q at hf
     cases hf with
     | fn f l1 l2 v1 v2 h1 h2 g1 g2=>exact⟨v1,v2,rfl,⟨h1,g1⟩,⟨h2,g2⟩⟩
    obtain⟨v1,v2,hv,g1,g2⟩:=hsh
    simp only [liftR,Option.bind_eq_some_iff] at h
    obtain⟨⟨out,H'⟩,hcall,h⟩:=h
    have h2:=hS.says _ _ _ _ _ _ _ hcall
    refine goes_call (args:=v1++c.args.map a.eval++v2) ?_ (h2 B W0 L F r w _ hw hL hlim hro (vs_append (vs_append g1 (vs_map he c.args)) g2)) (λ_ _ h=>h) (λv e=>by subst e;exact h) (λv e=>by subst e;exact h) hk hp
    simp only [execOp,ho,resolve,hc,hv,Deferred.ofValue,Sem.run_bind,Sem.run_pure,Result.andThen_ok,invoke]
   ·cases h
  ·
   rename_i hc
   split at h
   ·rename_i x hx
    refine goes_lift hw h (λz hz=>?_) hk
    obtain⟨z',h1,h2⟩:=iLen_rel hw hz (rel_ev he x) o.type
    refine⟨z',?_,h2⟩
    simp only [execOp,ho,resolve,hc,Sem.run_bind,Sem.run_pure,Result.andThen_ok,invoke,builtin,args_one hx]
    simpa using run_v h1
   ·cases h
  ·
   rename_i hc
   split at h
   ·rename_i s x hx
    simp only [liftH,Option.bind_eq_some_iff] at h
    obtain⟨⟨z,H'⟩,hz,h⟩:=h
    obtain⟨t,u,hts,r',w',z',h1,h2,h3,h4⟩:=iAppend_rel hw hLH hz (rel_ev he s) (rel_ev he x) hro o.type
    refine .val ?_ (hk z H' F r' w' z' h2 h3 h4 h)
    simp only [execOp,ho,resolve,hc,Sem.run_bind,Sem.run_pure,Result.andThen_ok,invoke,builtin,args_two hx,hts]
    simpa using run_v h1
   ·cases h
  ·rename_i hc
   split at h
   ·rename_i x y hx
    refine goes_lift hw h (λz hz=>?_) hk
    obtain⟨z',h1,h2⟩:=iMin_rel (P:=C.P) (w:=w) hz (rel_ev he x) (rel_ev he y) c.argTypes o.type
    refine⟨z',?_,h2⟩
    simp only [execOp,ho,resolve,hc,Sem.run_bind,Sem.run_pure,Result.andThen_ok,invoke,builtin,args_two hx]
    simpa using run_v h1
   ·rename_i x y u hx
    refine goes_lift hw h (λz hz=>?_) hk
    obtain⟨z',h1,h2⟩:=iMin3_rel (P:=C.P) (w:=w) hz (rel_ev he x) (rel_ev he y) (rel_ev he u) c.argTypes o.type
    refine⟨z',?_,h2⟩
    simp only [execOp,ho,resolve,hc,Sem.run_bind,Sem.run_pure,Result.andThen_ok,invoke,builtin,args_three hx]
    simpa using run_v h1
   ·cases h
  ·rename_i hc
   split at h
   ·rename_i x y hx
    refine goes_lift hw h (λz hz=>?_) hk
    obtain⟨z',h1,h2⟩:=iMax_rel (P:=C.P) (w:=w) hz (rel_ev he x) (rel_ev he y) c.argTypes o.type
    refine⟨z',?_,h2⟩
    simp only [execOp,ho,resolve,hc,Sem.run_bind,Sem.run_pure,Result.andThen_ok,invoke,builtin,args_two hx]
    simpa using run_v h1
   ·rename_i x y u hx
    refine goes_lift hw h (λz hz=>?_) hk
    obtain⟨z',h1,h2⟩:=iMax3_rel (P:=C.P) (w:=w) hz (rel_ev he x) (rel_ev he y) (rel_ev he u) c.argTypes o.type
    refine⟨z',?_,h2⟩
    simp only [execOp,ho,resolve,hc,Sem.run_bind,Sem.run_pure,Result.andThen_ok,invoke,builtin,args_three hx]
    simpa using run_v h1
   ·cases h
  ·exact goes_X hw hL hlim hro he h hk
 ·exact goes_X hw hL hlim hro he h hk
end
end Go.Tg
namespace Go.Tg
variable [Globs]
inductive XRel (F:Fz) (r:Rm) (n:Nat):Ex→Exit→Prop
 | nor:XRel F r n .nor .normal
 | exi (id:Nat):XRel F r n (.exi id) (.exit id)
 | ret:XRel F r n .ret .ret
 | pan {v:IV} {v':Value} (h:VRel F r n v v'):XRel F r n (.pan v) (.panic [{ v:=v',recovered:=false }])
section
variable {B:Nat} {W0:Base} {L:Nat→Prop} {F:Fz} {r:Rm} {H:Hp} {w:World} {C:Ctx} {e:Env} {a:Act} {ρ:Type} {res:ρ}
def Meets (B:Nat) (W0:Base) (L:Nat→Prop) (ro:Nat) (F:Fz) (r:Rm) (H:Hp) (k:Ex→Env→Hp→Option ρ) (res:ρ) (Q:Exit→Act→World→Prop):Prop:=
 ∀ x x' e' H' F' r' a' w',Ext ro F r H F' r' H'→WRel B W0 L F' r' H' w'→XRel F' r' H'.length x x'→Vs F' r' H'.length e' a'.tmps→a'.defers=[]→k x e' H'=some res→Q x' a' w'
theorem Meets.ext {ro:Nat} {F':Fz} {r':Rm} {H':Hp} {k:Ex→Env→Hp→Option ρ} {Q:Exit→Act→World→Prop} (h:Meets B W0 L ro F r H k res Q) (hx:Ext ro F r H F' r' H'):Meets B W0 L ro F' r' H' k res Q:=
 λx x' e' H2 F2 r2 a' w' h1=>h x x' e' H2 F2 r2 a' w' (hx.trans h1)
theorem put_defers (a:Act) (d:Option Tmp) (v:Value):(a.put d v).defers=a.defers:=by cases d <;> rfl
theorem set_same {n d:Nat} {b:Bool} {vs:Array Value} (h:Vs F r n e vs) (hd:e.getD d .un=.d (.bool b)):Vs F r n (e.set d (.d (.bool b))) vs∧vs[d]? = some (.bool b):=by
 have hlt:d<e.length:=by
  rcases Nat.lt_or_ge d e.length with h1 | h1
  ·exact h1
  ·rw [List.getD_eq_getElem?_getD,List.getElem?_eq_none h1] at hd;cases hd
 have he:e[d]=.d (.bool b):=by simpa [List.getD_eq_getElem?_getD,hlt] using hd
 have hs:d<vs.size:=by rw [h.1];exact hlt
 have hv:=h.2 d hlt
 rw [he] at hv
 have hv2:vs.getD d undef=.bool b:=rel_bool hv
 refine⟨?_,?_⟩
 ·have:e.set d (.d (.bool b))=e:=by rw [← he];exact List.set_getElem_self hlt
  rw [this];exact h
 ·simpa [hs] using hv2
theorem br_some {c:IV} {x y:Option ρ} (h:br c x y=some res):∃ t,c=.d (.bool t)∧(if t=true then x else y)=some res:=by
 unfold br at h
 split at h
 ·rename_i t;exact⟨t,rfl,h⟩
 ·cases h
theorem brN_some {c:IV} {x y z:Option ρ} (h:brN c x y z=some res):(∃ t,c=.d (.bool t)∧(if t=true then x else y)=some res)∨(c=.no∧z=some res):=by
 unfold brN at h
 split at h
 ·rename_i t;exact .inl ⟨t,rfl,h⟩
 ·exact .inr ⟨rfl,h⟩
 ·cases h
theorem no_get {n d:Nat} {vs:Array Value} (h:Vs F r n e vs) (hd:e.getD d .un=.no):vs[d]? = some undef:=by
 have hlt:d<e.length:=by
  rcases Nat.lt_or_ge d e.length with h1 | h1
  ·exact h1
  ·rw [List.getD_eq_getElem?_getD,List.getElem?_eq_none h1] at hd;cases hd
 have he:e[d]=.no:=by simpa [List.getD_eq_getElem?_getD,hlt] using hd
 have hs:d<vs.size:=by rw [h.1];exact hlt
 have hv:=h.2 d hlt
 rw [he] at hv
 generalize hq:vs.getD d undef=q at hv
 cases hv
 simpa [hs] using hq
end
end Go.Tg
