/- The ideal run's operations, told as functions; a region whose order is open. -/
import Derived.Test.YtnkobejhnphmhaaGreatDoorAd
set_option linter.all false
namespace Go.Tg
variable [Globs]
section
variable {C:Ctx} {ρ:Type}
def thenK (kv kp:IV→Hp→Option ρ) (r:Out×Hp):Option ρ:=
 match r.1 with
 | .val v=>kv v r.2
 | .pan v=>kp v r.2
theorem lift_eq (x:Option IV) (H:Hp) (kv kp:IV→Hp→Option ρ):lift x H kv=(lift x H (λv H=>some (Out.val v,H))).bind (thenK kv kp):=by cases x <;> rfl
theorem liftH_eq (x:Option (IV×Hp)) (kv kp:IV→Hp→Option ρ):liftH x kv=(liftH x (λv H=>some (Out.val v,H))).bind (thenK kv kp):=by cases x <;> rfl
theorem liftU_eq (x:Option Hp) (kv kp:IV→Hp→Option ρ):liftU x kv=(liftU x (λv H=>some (Out.val v,H))).bind (thenK kv kp):=by cases x <;> rfl
theorem liftR_eq (x:Res) (kv kp:IV→Hp→Option ρ):liftR x kv kp=(liftR x (λv H=>some (Out.val v,H)) (λv H=>some (Out.pan v,H))).bind (thenK kv kp):=by
 cases x with
 | none=>rfl
 | some r=>obtain⟨o,H⟩:=r;cases o <;> rfl
theorem opK_eq (o:Oper) (e:Env) (H:Hp) (kv kp:IV→Hp→Option ρ):opK C o e H kv kp=(opR C o e H).bind (thenK kv kp):=by
 unfold opR opK
 split <;> first
  | rfl
  | exact lift_eq _ _ _ _
  | exact liftH_eq _ _ _
  | exact liftU_eq _ _ _
  | (split <;> first
    | rfl
    | exact lift_eq _ _ _ _
    | exact liftH_eq _ _ _
    | exact liftR_eq _ _ _
    | (unfold goCall;split <;> exact liftR_eq _ _ _)
    | (unfold goVal;split <;> first | rfl | exact liftR_eq _ _ _)
    | (split <;> first | rfl | exact lift_eq _ _ _ _ | exact liftH_eq _ _ _))
theorem map_congr_ops {α:Type} {f g:Operand→α} (l:List Operand) (h:∀ x ∈ l,f x=g x):l.map f=l.map g:=List.map_congr_left h
theorem opX_congr {o:Oper} {e e':Env} (h:∀ x ∈ o.op.operands,ev e x=ev e' x) (H:Hp):opX C o e H=opX C o e' H:=by
 obtain⟨dst,op,type,pos,after,guard⟩:=o
 cases op <;> simp only [Op.operands] at h <;> simp only [opX]
 case makeMap t r=>cases r <;> rfl
 case lookup t x i ok=>rw [h x (by simp),h i (by simp)]
 case mapUpdate t m k x=>rw [h m (by simp),h k (by simp),h x (by simp)]
 case range t x=>rw [h x (by simp)]
 case next x b=>cases b <;> simp only;rw [h x (by simp)]
 case convert s d x=>rw [h x (by simp)]
 case indexAddr t x i=>
  cases x with
  | global g=>simp only [h i (by simp)]
  | tmp t=>simp only [h i (by simp),h (.tmp t) (by simp)]
  | const v=>simp only [h i (by simp),h (.const v) (by simp)]
  | func f=>simp only [h i (by simp),h (.func f) (by simp)]
 case call c=>
  have one:∀ x,c.args.toList=[x]→ev e x=ev e' x:=λx hx=>h x (by simp [Call.operands];right;rw [← Array.mem_toList_iff,hx];simp)
  have two:∀ x y,c.args.toList=[x,y]→ev e x=ev e' x∧ev e y=ev e' y:=λx y hx=>⟨h x (by simp [Call.operands];right;rw [← Array.mem_toList_iff,hx];simp),h y (by simp [Call.operands];right;rw [← Array.mem_toList_iff,hx];simp)⟩
  cases hc:c.callee with
  | builtin b=>
   cases b <;> simp only <;> first
    | rfl
    | (
      split
      ·rename_i x hx;rw [one x hx]
      ·rfl)
    | (
      split
      ·rename_i x y hx;rw [(two x y hx).1,(two x y hx).2]
      ·rfl)
  | _=>rfl
theorem opK_congr {o:Oper} {e e':Env} (h:∀ x ∈ o.op.operands,ev e x=ev e' x) (H:Hp) (kv kp:IV→Hp→Option ρ):opK C o e H kv kp=opK C o e' H kv kp:=by
 have hX:=opX_congr (C:=C) h H
 obtain⟨dst,op,type,pos,after,guard⟩:=o
 have parts:∀ ps:Array (Nat×Operand),(∀ x ∈ (ps.toList.map (·.2)).toArray,ev e x=ev e' x)→(ps.toList.map λp=>(p.1,ev e p.2))=(ps.toList.map λp=>(p.1,ev e' p.2)):=by
  intro ps hp
  apply List.map_congr_left
  intro p hm
  rw [hp p.2 (by simpa using ⟨p.1,by simpa using hm⟩)]
 cases op <;> simp only [Op.operands] at h <;> simp only [opK]
 case move x=>rw [h x (by simp)]
 case assign x=>rw [h x (by simp)]
 case pick c a b=>rw [h c (by simp),h a (by simp),h b (by simp)]
 case box t x=>rw [h x (by simp)]
 case build t ps=>rw [parts ps h]
 case buildSlice t n ps=>rw [parts ps h]
 case load t x=>rw [h x (by simp)]
 case store t x y=>rw [h x (by simp),h y (by simp)]
 case nilCheck x=>rw [h x (by simp)]
 case binOp op t x y u=>rw [h x (by simp),h y (by simp)]
 case unOp op t x=>rw [h x (by simp)]
 case convert s d x=>rw [h x (by simp),hX]
 case makeInterface t x=>rw [h x (by simp)]
 case makeFunc fn l1 l2=>
  cases fn <;> simp only [hX]
  rw [map_congr_ops l1.toList (λx hx=>h x (by simp at hx ⊢;exact .inl hx)),map_congr_ops l2.toList (λx hx=>h x (by simp at hx ⊢;exact .inr hx))]
 case makeSlice t l c=>rw [h l (by simp),h c (by simp)]
 case slice t x lo hi mx=>
  have hx:=h x (by simp)
  have hlo:lo.map (ev e)=lo.map (ev e'):=by cases lo with | none=>rfl | some y=>simp [h y (by simp)]
  have hhi:hi.map (ev e)=hi.map (ev e'):=by cases hi with | none=>rfl | some y=>simp [h y (by simp)]
  have hmx:mx.map (ev e)=mx.map (ev e'):=by cases mx with | none=>rfl | some y=>simp [h y (by simp)]
  rw [hx,hlo,hhi,hmx]
 case fieldAddr s x f=>rw [h x (by simp)]
 case field s x f=>rw [h x (by simp)]
 case indexAddr t x i=>rw [h x (by simp),h i (by simp),hX]
 case index t x i=>rw [h x (by simp),h i (by simp)]
 case extract x i=>rw [h x (by simp)]
 case panic x=>rw [h x (by simp)]
 case call c=>
  have hargs:c.args.toList.map (ev e)=c.args.toList.map (ev e'):=map_congr_ops _ (λx hx=>h x (by simp [Call.operands];exact .inr (by simpa using hx)))
  have one:∀ x,c.args.toList=[x]→ev e x=ev e' x:=λx hx=>h x (by simp [Call.operands];right;rw [← Array.mem_toList_iff,hx];simp)
  have two:∀ x y,c.args.toList=[x,y]→ev e x=ev e' x∧ev e y=ev e' y:=λx y hx=>⟨h x (by simp [Call.operands];right;rw [← Array.mem_toList_iff,hx];simp),h y (by simp [Call.operands];right;rw [← Array.mem_toList_iff,hx];simp)⟩
  have three:∀ x y z,c.args.toList=[x,y,z]→ev e x=ev e' x∧ev e y=ev e' y∧ev e z=ev e' z:=λx y z hx=>⟨h x (by simp [Call.operands];right;rw [← Array.mem_toList_iff,hx];simp),h y (by simp [Call.operands];right;rw [← Array.mem_toList_iff,hx];simp),h z (by simp [Call.operands];right;rw [← Array.mem_toList_iff,hx];simp)⟩
  cases hc:c.callee with
  | invoke r m=>simp only [hX]
  | value f=>
   cases f with
   | func f=>simp only [hargs]
   | tmp t=>simp only [hargs];rw [h (.tmp t) (by simp [Call.operands,hc])]
   | const v=>simp only [hX]
   | global g=>simp only [hX]
  | builtin b=>
   cases b <;> simp only <;> first
    | rw [hX]
    | rfl
    | (
      split
      ·rename_i x hx;rw [one x hx]
      ·rfl)
    | (
      split
      ·rename_i x y hx;rw [(two x y hx).1,(two x y hx).2]
      ·rfl)
    | (
      split
      ·rename_i x y hx;rw [(two x y hx).1,(two x y hx).2]
      ·rename_i x y z hx;rw [(three x y z hx).1,(three x y z hx).2.1,(three x y z hx).2.2]
      ·rfl)
 all_goals rw [hX]
theorem opR_congr {o:Oper} {e e':Env} (h:∀ x ∈ o.op.operands,ev e x=ev e' x) (H:Hp):opR C o e H=opR C o e' H:=opK_congr h H _ _
def PureOK (C:Ctx):Prop:=∀ lim ro f args H out H',C.T.mode f=.pure→C.call lim ro f args H=some (out,H')→H'=H
theorem liftH_val {x:Option (IV×Hp)} {r:Out×Hp} (h:liftH x (λv H=>some (Out.val v,H))=some r):∃ v H',x=some (v,H')∧r=(.val v,H'):=by
 cases x with
 | none=>cases h
 | some p=>exact⟨p.1,p.2,rfl,by simpa [liftH] using h.symm⟩
theorem r0_any {o:Oper} {e:Env} (hc:clOf C o=.r0):∃ g:Option IV,∀ H,opR C o e H=g.map λv=>(.val v,H):=by
 have lf:∀ x:Option IV,∃ g:Option IV,∀ H:Hp,lift x H (λv H=>some (Out.val v,H))=g.map λv=>(.val v,H):=λx=>⟨x,λH=>by cases x <;> rfl⟩
 have nn:∃ g:Option IV,∀ H:Hp,(none:Option (Out×Hp))=g.map λv=>(.val v,H):=⟨none,λ_=>rfl⟩
 have yy:∀ v:IV,∃ g:Option IV,∀ H:Hp,some (Out.val v,H)=g.map λv=>(.val v,H):=λv=>⟨some v,λ_=>rfl⟩
 obtain⟨dst,op,type,pos,after,guard⟩:=o
 cases op <;> simp only [clOf,reduceCtorEq] at hc <;> simp only [opR,opK] <;> first
  | exact lf _
  | exact yy _
  | skip
 case convert src dst x=>
  split at hc <;> first | (cases hc;done) | skip
  ·rename_i h1 h2;simp only [h1,h2];exact lf _
  ·rename_i h1 h2;simp only [h1,h2];exact lf _
 case makeInterface t x=>
  split
  ·exact nn
  ·exact nn
  ·exact yy _
 case makeFunc fn l1 l2=>cases fn <;> first | exact yy _ | exact nn
 case makeMap t r=>cases r <;> cases hc
 case indexAddr t x i=>
  refine⟨match iIndexAddr C.P t (ev e x) (ev e i) with | some v=>some v | none=>(match x with | .global g=>iArrAt C.P t (.lptr (Globs.gl g) 0) (ev e i) | x=>iArrAt C.P t (ev e x) (ev e i)),λH=>?_⟩
  cases iIndexAddr C.P t (ev e x) (ev e i) with
  | some v=>rfl
  | none=>
   simp only [opX,liftH]
   cases x <;> simp only <;> (generalize iArrAt C.P t _ _=q;cases q <;> rfl)
 case call c=>
  cases hcal:c.callee with
  | invoke r m=>simp [hcal] at hc
  | value f=>
   cases f <;> simp [hcal] at hc
   split at hc <;> cases hc
  | builtin b=>
   cases b <;> simp [hcal] at hc <;> simp only
   ·split
    ·exact lf _
    ·exact lf _
    ·exact nn
   ·split
    ·exact lf _
    ·exact lf _
    ·exact nn
   ·simp only [opX,hcal]
    split
    ·rename_i x hx
     refine⟨iSliceData (ev e x),λH=>?_⟩
     cases iSliceData (ev e x) <;> rfl
    ·exact⟨none,λH=>rfl⟩
def okV (n:Nat):IV→Prop
 | .ptr b _ | .vec b _ _ _ | .map b=>b<n
 | _=>True
theorem okV_of {F:Fz} {r:Rm} {n:Nat} {v:IV} {v':Value} (h:VRel F r n v v'):okV n v:=by cases h <;> simp [okV] <;> assumption
def okA (o:Oper) (e:Env) (n:Nat):Prop:=∀ x ∈ o.op.operands,okV n (ev e x)
theorem get_more {H:Hp} {b:Nat} {x:Blk} (blk:Blk) (h:H[b]? = some x):(H++[blk])[b]? = some x:=by
 rw [List.getElem?_append_left (getElem_of_get? h).1];exact h
theorem get_back {H:Hp} {b:Nat} (blk:Blk) (h:b<H.length):(H++[blk])[b]? = H[b]?:=List.getElem?_append_left h
theorem ld1_more {a v:IV} {H:Hp} (blk:Blk) (h:ld1 a H=some v):ld1 a (H++[blk])=some v:=by
 unfold ld1 at h ⊢
 split at h
 ·split at h
  ·rename_i hH;simp only [get_more blk hH];exact h
  ·rename_i hH;simp only [get_more blk hH];exact h
  ·cases h
 ·exact h
 ·cases h
theorem ld1_back {a:IV} {H:Hp} (blk:Blk) (hok:okV H.length a):ld1 a (H++[blk])=ld1 a H:=by
 unfold ld1
 split
 ·simp only [okV] at hok;rw [get_back blk hok]
 ·rfl
 ·rfl
theorem ldN_more {n:Nat} {a v:IV} {H:Hp} (blk:Blk) (h:ldN n a H=some v):ldN n a (H++[blk])=some v:=by
 unfold ldN at h ⊢
 split at h
 ·split at h
  ·rename_i hH;simp only [get_more blk hH];exact h
  ·rename_i hH;simp only [get_more blk hH];exact h
  ·cases h
 ·exact h
 ·cases h
theorem ldN_back {n:Nat} {a:IV} {H:Hp} (blk:Blk) (hok:okV H.length a):ldN n a (H++[blk])=ldN n a H:=by
 unfold ldN
 split
 ·simp only [okV] at hok;rw [get_back blk hok]
 ·rfl
 ·rfl
theorem iLoad_more {P:Program} {t:TypeId} {a v:IV} {H:Hp} (blk:Blk) (h:iLoad P t a H=some v):iLoad P t a (H++[blk])=some v:=by
 unfold iLoad at h ⊢
 split at h
 ·split at h
  ·exact ldN_more blk h
  ·cases h
 ·exact ld1_more blk h
 ·cases h
theorem iLoad_back {P:Program} {t:TypeId} {a:IV} {H:Hp} (blk:Blk) (hok:okV H.length a):iLoad P t a (H++[blk])=iLoad P t a H:=by
 unfold iLoad
 split
 ·split
  ·exact ldN_back blk hok
  ·rfl
 ·exact ld1_back blk hok
 ·rfl
theorem iLen_more {P:Program} {ts:Array TypeId} {a v:IV} {H:Hp} (blk:Blk) (h:iLen P ts a H=some v):iLen P ts a (H++[blk])=some v:=by
 unfold iLen at h ⊢
 split at h
 ·split at h
  ·exact h
  ·exact h
  ·unfold lnM at h ⊢
   split at h
   ·exact h
   ·split at h
    ·rename_i hH;simp only [get_more blk hH];exact h
    ·cases h
   ·cases h
  ·cases h
 ·cases h
theorem iLen_back {P:Program} {ts:Array TypeId} {a:IV} {H:Hp} (blk:Blk) (hok:okV H.length a):iLen P ts a (H++[blk])=iLen P ts a H:=by
 unfold iLen
 split
 ·split
  ·rfl
  ·rfl
  ·unfold lnM
   split
   ·rfl
   ·simp only [okV] at hok;rw [get_back blk hok]
   ·rfl
  ·rfl
 ·rfl
theorem srcVec_more {b z off len:Nat} {H:Hp} {v:Nat×List IV} (blk:Blk) (h:srcCells 1 (.vec b z off len) H=some v):srcCells 1 (.vec b z off len) (H++[blk])=some v:=by
 unfold srcCells at h ⊢
 simp only at h ⊢
 split at h
 ·rename_i hz
  rw [if_pos hz]
  split at h
  ·rename_i hH;simp only [get_more blk hH];exact h
  ·rename_i hH;simp only [get_more blk hH];exact h
  ·cases h
 ·cases h
theorem bstr_more {a v:IV} {H:Hp} (blk:Blk) (h:bstr a H=some v):bstr a (H++[blk])=some v:=by
 unfold bstr at h ⊢
 split at h
 ·exact h
 ·exact h
 ·simp only [Option.bind_eq_some_iff] at h ⊢
  obtain⟨x,hx,h⟩:=h
  exact⟨x,srcVec_more blk hx,h⟩
 ·cases h
theorem bstr_back {a:IV} {H:Hp} (blk:Blk) (hok:okV H.length a):bstr a (H++[blk])=bstr a H:=by
 unfold bstr
 split
 ·rfl
 ·rfl
 ·simp only [okV] at hok
  simp only [srcCells,get_back blk hok]
 ·rfl
theorem mapOf_more {x:IV} {H:Hp} {es:List (IV×IV)} (blk:Blk) (h:mapOf x H=some es):mapOf x (H++[blk])=some es:=by
 unfold mapOf at h ⊢
 cases x with
 | map b=>
  simp only at h ⊢
  cases hb:H[b]? with
  | none=>rw [hb] at h;cases h
  | some y=>rw [get_more blk hb];rw [hb] at h;exact h
 | _=>exact h
theorem mapOf_back {x:IV} {H:Hp} (blk:Blk) (hok:okV H.length x):mapOf x (H++[blk])=mapOf x H:=by
 unfold mapOf
 cases x with
 | map b=>simp only;rw [get_back blk hok]
 | _=>rfl
theorem iLookup_more {P:Program} {t:TypeId} {x i v:IV} {ok:Bool} {H:Hp} (blk:Blk) (h:iLookup P t x i ok H=some v):iLookup P t x i ok (H++[blk])=some v:=by
 unfold iLookup at h ⊢
 split at h
 ·split at h
  ·rename_i hk
   rw [if_pos hk]
   rw [Option.bind_eq_some_iff] at h ⊢
   obtain⟨es,h1,h2⟩:=h
   exact⟨es,mapOf_more blk h1,h2⟩
  ·cases h
 ·cases h
theorem iLookup_back {P:Program} {t:TypeId} {x i:IV} {ok:Bool} {H:Hp} (blk:Blk) (hok:okV H.length x):iLookup P t x i ok (H++[blk])=iLookup P t x i ok H:=by
 unfold iLookup
 rw [mapOf_back blk hok]
theorem r1_read {o:Oper} {e:Env} (hc:clOf C o=.r1):∃ g:Hp→Option IV,(∀ H,opR C o e H=(g H).map λv=>(.val v,H))∧(∀ H v blk,g H=some v→g (H++[blk])=some v)∧∀ H blk,okA o e H.length→g (H++[blk])=g H:=by
 have lf:∀ (g:Hp→Option IV) (H:Hp),lift (g H) H (λv H=>some (Out.val v,H))=(g H).map λv=>(.val v,H):=λg H=>by cases g H <;> rfl
 obtain⟨dst,op,type,pos,after,guard⟩:=o
 cases op <;> simp only [clOf,reduceCtorEq] at hc <;> simp only [opR,opK]
 case load t x=>exact⟨λH=>iLoad C.P t (ev e x) H,λH=>lf (λH=>iLoad C.P t (ev e x) H) H,λH v blk h=>iLoad_more blk h,λH blk hok=>iLoad_back blk (hok x (by simp [Op.operands]))⟩
 case makeMap t r=>cases r <;> cases hc
 case lookup t x i ok=>
  refine⟨λH=>iLookup C.P t (ev e x) (ev e i) ok H,λH=>?_,λH v blk h=>iLookup_more blk h,λH blk hok=>iLookup_back blk (hok x (by simp [Op.operands]))⟩
  simp only [opX,liftH]
  cases iLookup C.P t (ev e x) (ev e i) ok H <;> rfl
 case convert src dst x=>
  split at hc <;> first | (cases hc;done) | skip
  rename_i el h1 h2
  simp only [h1,h2]
  split
  ·exact⟨λH=>bstr (ev e x) H,λH=>lf (λH=>bstr (ev e x) H) H,λH v blk h=>bstr_more blk h,λH blk hok=>bstr_back blk (hok x (by simp [Op.operands]))⟩
  ·exact⟨λ_=>none,λ_=>rfl,λ_ _ _ (h:none=some _)=>(nomatch h),λ_ _ _=>rfl⟩
 case call c=>
  cases hcal:c.callee with
  | invoke r m=>simp [hcal] at hc
  | value f=>
   cases f <;> simp [hcal] at hc
   split at hc <;> cases hc
  | builtin b=>
   cases b <;> simp [hcal] at hc <;> simp only
   split
   ·rename_i x hx
    exact⟨λH=>iLen C.P c.argTypes (ev e x) H,λH=>lf (λH=>iLen C.P c.argTypes (ev e x) H) H,λH v blk h=>iLen_more blk h,
     λH blk hok=>iLen_back blk (hok x (by simp [Op.operands,Call.operands];right;rw [← Array.mem_toList_iff,hx];simp))⟩
   ·exact⟨λ_=>none,λ_=>rfl,λ_ _ _ (h:none=some _)=>(nomatch h),λ_ _ _=>rfl⟩
theorem r0_op {o:Oper} {e:Env} {H H':Hp} {out:Out} (hc:clOf C o=.r0) (h:opR C o e H=some (out,H')):H'=H∧∀ H2,opR C o e H2=some (out,H2):=by
 obtain⟨g,hg⟩:=r0_any (e:=e) hc
 rw [hg] at h
 cases g with
 | none=>cases h
 | some v=>
  simp only [Option.map_some,Option.some.injEq,Prod.mk.injEq] at h
  obtain⟨rfl,rfl⟩:=h
  exact⟨rfl,λH2=>by rw [hg];rfl⟩
theorem al_op {o:Oper} {e:Env} {H H':Hp} {out:Out} (hc:clOf C o=.al) (h:opR C o e H=some (out,H')):∃ v blk,out=.val v∧H'=H++[blk]:=by
 have bx:∀ {t:Nat} {x z:IV} {H H':Hp},iBox t x H=some (z,H')→∃ blk,H'=H++[blk]:=by
  intro t x z H H' h
  unfold iBox at h
  split at h
  ·simp only [Option.some.injEq,Prod.mk.injEq] at h;exact⟨_,h.2.symm⟩
  ·cases h
 obtain⟨dst,op,type,pos,after,guard⟩:=o
 cases op <;> simp only [clOf,reduceCtorEq] at hc <;> simp only [opR,opK] at h
 case alloc t=>
  obtain⟨v,H2,h1,h2⟩:=liftH_val h
  simp only [Prod.mk.injEq] at h2
  obtain⟨rfl,rfl⟩:=h2
  simp only [Option.bind_eq_some_iff] at h1
  obtain⟨z,_,h1⟩:=h1
  obtain⟨blk,rfl⟩:=bx h1
  exact⟨v,blk,rfl,rfl⟩
 case box t x=>
  obtain⟨v,H2,h1,h2⟩:=liftH_val h
  simp only [Prod.mk.injEq] at h2
  obtain⟨rfl,rfl⟩:=h2
  obtain⟨blk,rfl⟩:=bx h1
  exact⟨v,blk,rfl,rfl⟩
 case buildSlice t n ps=>
  obtain⟨v,H2,h1,h2⟩:=liftH_val h
  simp only [Prod.mk.injEq] at h2
  obtain⟨rfl,rfl⟩:=h2
  unfold iBuildSlice at h1
  split at h1
  ·split at h1
   ·split at h1
    ·simp only [Option.map_eq_some_iff,Prod.mk.injEq] at h1
     obtain⟨cs,_,_,h1⟩:=h1
     exact⟨v,_,rfl,h1.symm⟩
    ·cases h1
   ·cases h1
  ·cases h1
 case convert src dst x=>
  split at hc <;> cases hc
 case makeMap t r=>
  cases r with
  | some _=>cases hc
  | none=>
   simp only [opX,liftH,Option.bind_some,Option.some.injEq,Prod.mk.injEq] at h
   exact⟨_,_,h.1.symm,h.2.symm⟩
 case makeSlice t l c=>
  obtain⟨v,H2,h1,h2⟩:=liftH_val h
  simp only [Prod.mk.injEq] at h2
  obtain⟨rfl,rfl⟩:=h2
  unfold iMakeSlice at h1
  split at h1
  ·split at h1
   ·split at h1
    ·simp only [Option.some.injEq,Prod.mk.injEq] at h1
     exact⟨v,_,rfl,h1.2.symm⟩
    ·cases h1
   ·cases h1
  ·cases h1
 case call c=>
  cases hcal:c.callee with
  | invoke r m=>simp [hcal] at hc
  | value f=>
   cases f <;> simp [hcal] at hc
   split at hc <;> cases hc
  | builtin b=>cases b <;> simp [hcal] at hc
theorem frz_noVec (ro:Nat):∀ (n:Nat) (v:IV) (H:Hp) (x:D) (H':Hp),noVec v=true→frz ro n v H=some (x,H')→H'=H:=by
 intro n
 induction n with
 | zero=>intro v H x H' _ h;simp [frz] at h
 | succ n ih=>
  intro v H x H' hv h
  unfold frz at h
  split at h
  ·simp only [Option.some.injEq,Prod.mk.injEq] at h;exact h.2.symm
  ·simp only [Option.some.injEq,Prod.mk.injEq] at h;exact h.2.symm
  ·simp only [Option.some.injEq,Prod.mk.injEq] at h;exact h.2.symm
  ·rename_i cs
   simp only [Option.map_eq_some_iff,Prod.mk.injEq] at h
   obtain⟨⟨l,H1⟩,h1,_,rfl⟩:=h
   simp only [noVec] at hv
   revert h1 hv
   have key:∀ (cs:List IV) (H:Hp) (l:List D) (H1:Hp),noVec.go cs=true→frz.many ro n cs H=some (l,H1)→H1=H:=by
    intro cs
    induction cs with
    | nil=>intro H l H1 _ h;simp only [frz.many,frzMany,Option.some.injEq,Prod.mk.injEq] at h;exact h.2.symm
    | cons c cs ihc=>
     intro H l H1 hv h
     simp only [noVec.go,Bool.and_eq_true] at hv
     simp only [frz.many,frzMany,Option.bind_eq_some_iff,Option.map_eq_some_iff,Prod.mk.injEq] at h
     obtain⟨⟨x,H2⟩,h1,⟨l2,H3⟩,h2,_,rfl⟩:=h
     have e1:=ih _ _ _ _ hv.1 h1
     simp only at h2
     rw [e1] at h2
     exact ihc _ _ _ hv.2 h2
   exact λh1 hv=>key _ _ _ _ h1 hv
  ·simp [noVec] at hv
  ·cases h
theorem frzArgs_noVec (ro:Nat):∀ (vs:List (Bool×IV)) (H:Hp),vs.all (λp=>!p.1 || noVec p.2)=true→(frzArgs ro vs H).2=H:=by
 intro vs
 induction vs with
 | nil=>intro H _;rfl
 | cons p vs ih=>
  intro H h
  obtain⟨s,v⟩:=p
  simp only [List.all_cons,Bool.and_eq_true] at h
  rw [frzArgs]
  split
  ·rename_i hs
   have hv:noVec v=true:=by have:=h.1;rw [hs] at this;simpa using this
   have e1:(frzA ro v H).2=H:=by
    unfold frzA
    split
    ·rfl
    ·split
     ·rename_i h2;exact frz_noVec ro 6 _ _ _ _ hv h2
     ·rfl
   simp only [e1];exact ih H h.2
  ·exact ih H h.2
theorem pc_op (hP:PureOK C) {o:Oper} {e:Env} {H H':Hp} {out:Out} (hc:clOf C o=.pc) {b:Bool} (h:fits C (some b) o e (opR C o e H)=some (out,H')):H'=H:=by
 obtain⟨dst,op,type,pos,after,guard⟩:=o
 cases op <;> simp only [clOf,reduceCtorEq] at hc
 case convert src dst x=>split at hc <;> cases hc
 case makeMap t r=>cases r <;> cases hc
 case call c=>
  cases hcal:c.callee with
  | invoke r m=>simp [hcal] at hc
  | builtin b=>cases b <;> simp [hcal] at hc
  | value f=>
   cases f with
   | tmp t=>simp [hcal] at hc
   | const v=>simp [hcal] at hc
   | global g=>simp [hcal] at hc
   | func f=>
    simp only [hcal] at hc
    split at hc
    ·rename_i hcond
     obtain⟨hm,hraw⟩:=hcond
     simp only [fits,hcal] at h
     split at h
     ·rename_i hall
      simp only [opR,opK,hcal,goCall,hraw,Bool.false_eq_true,if_false,liftR,Option.bind_eq_some_iff] at h
      obtain⟨⟨out2,H2⟩,hcall,h⟩:=h
      have e1:=frzArgs_noVec C.ro _ H (hall.resolve_left (by rw [hraw];simp))
      rw [e1] at hcall
      have e2:=hP _ _ _ _ _ _ _ hm hcall
      cases out2 <;> simp only [Option.some.injEq,Prod.mk.injEq] at h <;> rw [← h.2,e2]
     ·cases h
    ·cases hc
end
end Go.Tg
namespace Go.Tg
variable [Globs]
section
variable {C:Ctx} {ρ:Type} {res:ρ}
theorem fits_cases (b:Bool) (o:Oper) (e:Env):(∀ {ρ:Type} (x:Option ρ),fits C (some b) o e x=x)∨(∀ {ρ:Type} (x:Option ρ),fits C (some b) o e x=none):=by
 unfold fits
 simp only
 split
 ·split
  ·split
   ·exact .inl λ_=>rfl
   ·exact .inr λ_=>rfl
  ·exact .inl λ_=>rfl
 ·exact .inl λ_=>rfl
theorem fits_b (b:Bool) (o:Oper) (e:Env) (x:Option ρ):fits C (some b) o e x=fits C (some true) o e x:=rfl
theorem opF_some {o:Oper} {e:Env} {H:Hp} {r:Out×Hp} (h:opF C o e H=some r):opR C o e H=some r∧∀ H2,opF C o e H2=opR C o e H2:=by
 unfold opF at h ⊢
 rcases fits_cases (C:=C) true o e with h1 | h1
 ·rw [h1] at h;exact⟨h,λH2=>h1 _⟩
 ·rw [h1] at h;cases h
theorem swap_heap (hP:PureOK C) {i o:Oper} {e:Env} {H H1 H2:Hp} {vi vj:IV} (hf:(clOf C i).fit (clOf C o)=true) (hi:opF C i e H=some (.val vi,H1)) (hj:opF C o e H1=some (.val vj,H2))
  (hok:clOf C o=.r1→okA o e H.length):∃ H3,opF C o e H=some (.val vj,H3)∧opF C i e H3=some (.val vi,H2):=by
 obtain⟨hi1,hi2⟩:=opF_some hi
 obtain⟨hj1,hj2⟩:=opF_some hj
 have quiet:∀ {o:Oper} {H H':Hp} {out:Out},(clOf C o=.r1∨clOf C o=.pc)→opF C o e H=some (out,H')→H'=H:=by
  intro o H H' out hc h
  rcases hc with hc | hc
  ·obtain⟨g,hg,_⟩:=r1_read (e:=e) hc
   have:=(opF_some h).1
   rw [hg] at this
   simp only [Option.map_eq_some_iff,Prod.mk.injEq] at this
   obtain⟨_,_,_,rfl⟩:=this;rfl
  ·exact pc_op hP hc h
 cases hci:clOf C i with
 | r0=>
  obtain⟨rfl,hany⟩:=r0_op hci hi1
  exact⟨H2,by rw [hj2];exact hj1,by rw [hi2];exact hany H2⟩
 | r1=>
  cases hco:clOf C o with
  | r0=>
   obtain⟨rfl,hany⟩:=r0_op hco hj1
   exact⟨H,by rw [hj2];exact hany H,hi⟩
  | r1=>have e1:=quiet (.inl hci) hi;subst e1;have e2:=quiet (.inl hco) hj;subst e2;exact⟨_,hj,hi⟩
  | pc=>have e1:=quiet (.inl hci) hi;subst e1;have e2:=quiet (.inr hco) hj;subst e2;exact⟨_,hj,hi⟩
  | al=>
   have e1:=quiet (.inl hci) hi
   subst e1
   obtain⟨v,blk,_,rfl⟩:=al_op hco hj1
   obtain⟨g,hg,hm,_⟩:=r1_read (e:=e) hci
   refine⟨_,hj,?_⟩
   rw [hi2,hg]
   rw [hg] at hi1
   cases hgH:g H1 with
   | none=>rw [hgH] at hi1;cases hi1
   | some v=>
    rw [hgH] at hi1
    simp only [Option.map_some,Option.some.injEq,Prod.mk.injEq,Out.val.injEq,and_true] at hi1
    subst hi1
    rw [hm _ _ blk hgH];rfl
  | wr=>rw [hci,hco] at hf;cases hf
 | pc=>
  cases hco:clOf C o with
  | r0=>
   obtain⟨rfl,hany⟩:=r0_op hco hj1
   exact⟨H,by rw [hj2];exact hany H,hi⟩
  | r1=>have e1:=quiet (.inr hci) hi;subst e1;have e2:=quiet (.inl hco) hj;subst e2;exact⟨_,hj,hi⟩
  | pc=>have e1:=quiet (.inr hci) hi;subst e1;have e2:=quiet (.inr hco) hj;subst e2;exact⟨_,hj,hi⟩
  | al=>rw [hci,hco] at hf;cases hf
  | wr=>rw [hci,hco] at hf;cases hf
 | al=>
  cases hco:clOf C o with
  | r0=>
   obtain⟨rfl,hany⟩:=r0_op hco hj1
   exact⟨H,by rw [hj2];exact hany H,hi⟩
  | r1=>
   have e2:=quiet (.inl hco) hj
   subst e2
   obtain⟨v,blk,_,rfl⟩:=al_op hci hi1
   obtain⟨g,hg,_,hb⟩:=r1_read (e:=e) hco
   refine⟨H,?_,hi⟩
   rw [hj2,hg]
   rw [hg,hb H blk (hok hco)] at hj1
   cases hgH:g H with
   | none=>rw [hgH] at hj1;cases hj1
   | some v=>
    rw [hgH] at hj1
    simp only [Option.map_some,Option.some.injEq,Prod.mk.injEq,Out.val.injEq,and_true] at hj1
    subst hj1
    rfl
  | pc=>rw [hci,hco] at hf;cases hf
  | al=>rw [hci,hco] at hf;cases hf
  | wr=>rw [hci,hco] at hf;cases hf
 | wr=>
  cases hco:clOf C o with
  | r0=>
   obtain⟨rfl,hany⟩:=r0_op hco hj1
   exact⟨H,by rw [hj2];exact hany H,hi⟩
  | _=>rw [hci,hco] at hf;cases hf
theorem valO_cases {ops:Array Oper} {o:Oper} {e:Env} {H H':Hp} {v:IV} (h:valO C ops o e H=some (v,H')) :
  (opF C o e H=some (.val v,H')∧∀ H2,valO C ops o e H2=(opF C o e H2).bind λr=>match r.1 with | .val v=>some (v,r.2) | .pan _=>none)∨(v=.no∧H'=H∧∀ H2,valO C ops o e H2=some (.no,H2)):=by
 have val:∀ x:Option (Out×Hp),(x.bind λr=>match r.1 with | .val v=>some (v,r.2) | .pan _=>none)=some (v,H')→x=some (.val v,H'):=by
  intro x hx
  cases x with
  | none=>cases hx
  | some r=>
   obtain⟨o,H2⟩:=r
   cases o with
   | val v2=>simp only [Option.bind_some,Option.some.injEq,Prod.mk.injEq] at hx;rw [hx.1,hx.2]
   | pan v2=>cases hx
 unfold valO at h ⊢
 split at h
 ·exact .inl ⟨val _ h,λ_=>rfl⟩
 ·split at h
  ·cases h
  ·split at h
   ·split at h
    ·rename_i hq;exact .inl ⟨val _ h,λ_=>if_pos hq⟩
    ·rename_i hq;simp only [Option.some.injEq,Prod.mk.injEq] at h
     exact .inr ⟨h.1.symm,h.2.symm,λ_=>if_neg hq⟩
   ·simp only [Option.some.injEq,Prod.mk.injEq] at h
    exact .inr ⟨h.1.symm,h.2.symm,λ_=>rfl⟩
   ·cases h
theorem swap_val (hP:PureOK C) {ops:Array Oper} {i o:Oper} {e:Env} {H H1 H2:Hp} {vi vj:IV} (hf:(clOf C i).fit (clOf C o)=true) (hi:valO C ops i e H=some (vi,H1)) (hj:valO C ops o e H1=some (vj,H2))
  (hok:clOf C o=.r1→okA o e H.length):∃ H3,valO C ops o e H=some (vj,H3)∧valO C ops i e H3=some (vi,H2):=by
 rcases valO_cases hi with ⟨hi1,hi2⟩ | ⟨rfl,rfl,hi2⟩
 ·rcases valO_cases hj with ⟨hj1,hj2⟩ | ⟨rfl,rfl,hj2⟩
  ·obtain⟨H3,h1,h2⟩:=swap_heap hP hf hi1 hj1 hok
   exact⟨H3,by rw [hj2,h1];rfl,by rw [hi2,h2];rfl⟩
  ·exact⟨H,hj2 H,hi⟩
 ·exact⟨H2,hj,hi2 H2⟩
theorem getD_put {e:Env} {dst:Option Tmp} {v:IV} {t:Nat} (h:∀ d,dst=some d→d≠t):(put e dst v).getD t .un=e.getD t .un:=by
 cases dst with
 | none=>rfl
 | some d=>
  have:=h d rfl
  simp only [put,List.getD_eq_getElem?_getD]
  rw [List.getElem?_set_ne this]
theorem ev_put {e:Env} {dst:Option Tmp} {v:IV} {x:Operand} (h:∀ d,dst=some d→x≠.tmp d):ev (put e dst v) x=ev e x:=by
 cases x with
 | tmp t=>exact getD_put (λd hd e=>h d hd (by rw [e]))
 | _=>rfl
theorem looks_op {ops:Array Oper} {o:Oper} {d:Nat} (h:d ∉ o.looksAt ops):∀ x ∈ o.op.operands,x≠.tmp d:=by
 intro x hx e
 subst e
 apply h
 unfold Oper.looksAt
 exact List.mem_append_left _ (List.mem_filterMap.2 ⟨.tmp d,by simpa using hx,rfl⟩)
theorem looks_guard {ops:Array Oper} {o:Oper} {d j d':Nat} {want:Bool} (h:d ∉ o.looksAt ops) (hg:o.guard=some (j,want)) (hd:(ops[j]?).bind (·.dst)=some d'):d≠d':=by
 intro e
 subst e
 apply h
 unfold Oper.looksAt
 refine List.mem_append_right _ ?_
 simp [hg,hd]
theorem call_args_sub (o:Oper) (c:Call) (ho:o.op=.call c):∀ x ∈ c.args.toList,x ∈ o.op.operands:=by
 intro x hx
 rw [ho]
 simp [Op.operands,Call.operands]
 exact .inr (by simpa using hx)
theorem opF_put {ops:Array Oper} {o:Oper} {e:Env} {dst:Option Tmp} {v:IV} (h:∀ d,dst=some d→d ∉ o.looksAt ops) (H:Hp):opF C o (put e dst v) H=opF C o e H:=by
 have hev:∀ x ∈ o.op.operands,ev (put e dst v) x=ev e x:=λx hx=>ev_put (λd hd=>looks_op (h d hd) x hx)
 unfold opF
 rw [opR_congr hev]
 unfold fits
 simp only
 split
 ·rename_i c hc
  split
  ·rw [map_congr_ops c.args.toList (λx hx=>hev x (call_args_sub o c hc x hx))]
  ·rfl
 ·rfl
theorem valO_put {ops:Array Oper} {o:Oper} {e:Env} {dst:Option Tmp} {v:IV} (h:∀ d,dst=some d→d ∉ o.looksAt ops) (H:Hp):valO C ops o (put e dst v) H=valO C ops o e H:=by
 unfold valO
 cases hg:o.guard with
 | none=>simp only [opF_put h]
 | some g=>
  obtain⟨j,want⟩:=g
  simp only
  cases hd:(ops[j]?).bind (·.dst) with
  | none=>rfl
  | some d'=>
   simp only
   rw [getD_put (λd hdd=>looks_guard (h d hdd) hg hd)]
   simp only [opF_put h]
theorem put_comm' (e:Env) {x y:Option Tmp} (v u:IV) (h:∀ d,x=some d→y≠some d):put (put e x v) y u=put (put e y u) x v:=by
 cases x with
 | none=>rfl
 | some d=>
  cases y with
  | none=>rfl
  | some d'=>
   have:d≠d':=λe=>h d rfl (by rw [e])
   exact List.set_comm _ _ this
theorem okA_put {ops:Array Oper} {o:Oper} {e:Env} {dst:Option Tmp} {v:IV} {n m:Nat} (h:∀ d,dst=some d→d ∉ o.looksAt ops) (hn:n≤m) (hok:okA o e n):okA o (put e dst v) m:=by
 intro x hx
 rw [ev_put (λd hd=>looks_op (h d hd) x hx)]
 have:=hok x hx
 revert this
 generalize ev e x=q
 cases q <;> simp [okV] <;> omega
end
end Go.Tg
namespace Go.Tg
variable [Globs]
section
variable {C:Ctx} {ρ:Type} {res:ρ} {k:Ex→Env→Hp→Option ρ} {ops:Array Oper} {b:Bool}
theorem set_self {e:Env} {d:Nat} {v:IV} (h:e.getD d .un=v) (hv:v≠.un):e.set d v=e:=by
 have hlt:d<e.length:=by
  rcases Nat.lt_or_ge d e.length with h1 | h1
  ·exact h1
  ·rw [List.getD_eq_getElem?_getD,List.getElem?_eq_none h1] at h;exact absurd h.symm hv
 have he:e[d]=v:=by simpa [List.getD_eq_getElem?_getD,hlt] using h
 rw [← he];exact List.set_getElem_self hlt
theorem fits_some {o:Oper} {e:Env} {x:Option ρ} (h:fits C (some b) o e x=some res):x=some res∧∀ {τ:Type} (y:Option τ),fits C (some b) o e y=y:=by
 rcases fits_cases (C:=C) b o e with h1 | h1
 ·rw [h1] at h;exact⟨h,h1⟩
 ·rw [h1] at h;cases h
theorem opsK_step {o:Oper} {os:List Oper} {e:Env} {H:Hp} (h:opsK C (some b) ops (o::os) e H k=some res) :
  (∃ v H',valO C ops o e H=some (v,H')∧opsK C (some b) ops os (put e o.dst v) H' k=some res)∨(os=[]∧b=true):=by
 have one:∀ e0,e0=e→fits C (some b) o e0 (opK C o e0 H (λv H=>opsK C (some b) ops os (put e0 o.dst v) H k) (pan (some b) os e k))=some res →
   (∃ v H',((opF C o e H).bind λr=>match r.1 with | .val v=>some (v,r.2) | .pan _=>none)=some (v,H')∧opsK C (some b) ops os (put e o.dst v) H' k=some res)∨(os=[]∧b=true):=by
  rintro e0 rfl h0
  obtain⟨h1,h2⟩:=fits_some h0
  rw [opK_eq] at h1
  cases hr:opR C o e0 H with
  | none=>rw [hr] at h1;cases h1
  | some r=>
   obtain⟨out,H'⟩:=r
   rw [hr] at h1
   have hF:opF C o e0 H=some (out,H'):=by unfold opF;rw [← fits_b b,h2];exact hr
   cases out with
   | val v=>exact .inl ⟨v,H',by rw [hF];rfl,h1⟩
   | pan v=>
    right
    simp only [Option.bind_some,thenK,pan] at h1
    cases os with
    | nil=>cases b with
     | true=>exact⟨rfl,rfl⟩
     | false=>cases h1
    | cons _ _=>cases h1
 unfold opsK at h
 unfold valO
 cases hg:o.guard with
 | none=>simp only [hg] at h ⊢;exact one e rfl h
 | some g=>
  obtain⟨j,want⟩:=g
  simp only [hg] at h ⊢
  cases hd:(ops[j]?).bind (·.dst) with
  | none=>simp only [hd] at h;cases h
  | some d=>
   simp only [hd] at h ⊢
   rcases brN_some h with ⟨t,ht,h⟩ | ⟨ht,h⟩
   case inr=>rw [ht];exact .inl ⟨_,_,rfl,h⟩
   have hs:e.set d (.d (.bool t))=e:=set_self ht (by simp)
   rw [ht]
   simp only
   cases t
   ·simp only [Bool.false_eq_true,if_false] at h
    cases want
    ·simp only [if_true] at h ⊢;exact one _ hs h
    ·simp only [Bool.true_eq_false,Bool.false_eq_true,if_false] at h ⊢
     rw [hs] at h
     exact .inl ⟨_,_,rfl,h⟩
   ·simp only [if_true] at h
    cases want
    ·simp only [Bool.true_eq_false,Bool.false_eq_true,if_false] at h ⊢
     rw [hs] at h
     exact .inl ⟨_,_,rfl,h⟩
    ·simp only [if_true] at h ⊢;exact one _ hs h
theorem opsK_put {o:Oper} {os:List Oper} {e:Env} {H H':Hp} {v:IV} (hv:valO C ops o e H=some (v,H')) (h:opsK C (some b) ops os (put e o.dst v) H' k=some res) :
  opsK C (some b) ops (o::os) e H k=some res:=by
 have one:∀ e0,e0=e→((opF C o e H).bind λr=>match r.1 with | .val v=>some (v,r.2) | .pan _=>none)=some (v,H') →
   fits C (some b) o e0 (opK C o e0 H (λv H=>opsK C (some b) ops os (put e0 o.dst v) H k) (pan (some b) os e k))=some res:=by
  rintro e0 rfl h0
  cases hr:opF C o e0 H with
  | none=>rw [hr] at h0;cases h0
  | some r=>
   obtain⟨out,H2⟩:=r
   rw [hr] at h0
   cases out with
   | pan _=>cases h0
   | val v2=>
    simp only [Option.bind_some,Option.some.injEq,Prod.mk.injEq] at h0
    obtain⟨rfl,rfl⟩:=h0
    obtain⟨h1,h2⟩:=opF_some hr
    rcases fits_cases (C:=C) b o e0 with h3 | h3
    ·rw [h3,opK_eq,h1];exact h
    ·have:=hr
     unfold opF at this
     rw [← fits_b b,h3] at this;cases this
 unfold opsK
 unfold valO at hv
 cases hg:o.guard with
 | none=>simp only [hg] at hv ⊢;exact one e rfl hv
 | some g=>
  obtain⟨j,want⟩:=g
  simp only [hg] at hv ⊢
  cases hd:(ops[j]?).bind (·.dst) with
  | none=>simp only [hd] at hv;cases hv
  | some d=>
   simp only [hd] at hv ⊢
   split at hv
   ·rename_i t ht
    have hs:e.set d (.d (.bool t))=e:=set_self ht (by simp)
    rw [ht]
    simp only [brN]
    cases t
    ·simp only [Bool.false_eq_true,if_false]
     cases want
     ·simp only [if_true] at hv ⊢;exact one _ hs hv
     ·simp only [Bool.true_eq_false,Bool.false_eq_true,if_false,Option.some.injEq,Prod.mk.injEq] at hv ⊢
      obtain⟨rfl,rfl⟩:=hv
      rw [hs];exact h
    ·simp only [if_true]
     cases want
     ·simp only [Bool.true_eq_false,Bool.false_eq_true,if_false,Option.some.injEq,Prod.mk.injEq] at hv ⊢
      obtain⟨rfl,rfl⟩:=hv
      rw [hs];exact h
     ·simp only [if_true] at hv ⊢;exact one _ hs hv
   ·rename_i ht
    rw [ht]
    simp only [Option.some.injEq,Prod.mk.injEq] at hv
    obtain⟨rfl,rfl⟩:=hv
    exact h
   ·cases hv
theorem val_len (hP:PureOK C) {x o:Oper} {e:Env} {H H':Hp} {v:IV} (hf:(clOf C x).fit (clOf C o)=true) (ho:clOf C o=.r1) (hv:valO C ops x e H=some (v,H')):H.length≤H'.length:=by
 rcases valO_cases hv with ⟨h1,_⟩ | ⟨_,rfl,_⟩
 ·have h2:=(opF_some h1).1
  cases hc:clOf C x with
  | r0=>rw [(r0_op hc h2).1];exact Nat.le_refl _
  | r1=>
   obtain⟨g,hg,_⟩:=r1_read (e:=e) hc
   rw [hg] at h2
   simp only [Option.map_eq_some_iff,Prod.mk.injEq] at h2
   obtain⟨_,_,_,rfl⟩:=h2;exact Nat.le_refl _
  | pc=>rw [pc_op hP hc h1];exact Nat.le_refl _
  | al=>obtain⟨_,blk,_,rfl⟩:=al_op hc h2;simp
  | wr=>rw [hc,ho] at hf;cases hf
 ·exact Nat.le_refl _
theorem opsK_move (hP:PureOK C) {o:Oper} {post:List Oper} (hpost:post≠[]∨b=false):∀ (pre:List Oper) (e:Env) (H:Hp),
  (∀ x ∈ pre,(clOf C x).fit (clOf C o)=true∧Oper.apart ops x o=true)→(clOf C o=.r1→okA o e H.length) →
  opsK C (some b) ops (pre++o::post) e H k=some res→opsK C (some b) ops (o::(pre++post)) e H k=some res:=by
 intro pre
 induction pre with
 | nil=>intro e H _ _ h;exact h
 | cons x pre ih=>
  intro e H hx hok h
  obtain⟨hf,ha⟩:=hx x (List.mem_cons_self ..)
  obtain⟨a1,a2,a3⟩:=Oper.apart_spec ha
  rcases opsK_step h with ⟨vx,H1,h1,h2⟩ | ⟨h1,_⟩
  ·have h3:=ih _ H1 (λy hy=>hx y (List.mem_cons_of_mem _ hy)) (λho=>okA_put (ops:=ops) a1 (val_len hP hf ho h1) (hok ho)) h2
   rcases opsK_step h3 with ⟨vo,H2,h4,h5⟩ | ⟨h4,hb⟩
   ·rw [valO_put a1] at h4
    obtain⟨H3,h6,h7⟩:=swap_val hP hf h1 h4 hok
    refine opsK_put h6 (opsK_put (o:=x) (v:=vx) (H':=H2) ?_ ?_)
    ·rw [valO_put a3];exact h7
    ·rw [put_comm' _ _ _ a2] at h5;exact h5
   ·rcases hpost with hp | hp
    ·exact absurd (List.append_eq_nil_iff.1 h4).2 hp
    ·rw [hp] at hb;cases hb
  ·cases pre <;> cases h1
end
section
variable {C:Ctx} {ops:Array Oper}
theorem befs_get:∀ (os:List Oper) (acc:List Nat),acc.length+os.length=(befs os acc).length∧(∀ i,i<acc.length→(befs os acc)[i]? = acc[i]?) ∧
  ∀ i (o:Oper),os[i]? = some o→(befs os acc)[acc.length+i]? = some (stepB ((befs os acc).take (acc.length+i)) o):=by
 intro os
 induction os with
 | nil=>intro acc;exact⟨rfl,λ_ _=>rfl,λi o h=>by simp at h⟩
 | cons o os ih=>
  intro acc
  obtain⟨h1,h2,h3⟩:=ih (acc++[stepB acc o])
  simp only [befs]
  simp only [List.length_append,List.length_cons,List.length_nil] at h1 h2 h3
  have hacc:∀ i,i<acc.length→(befs os (acc++[stepB acc o]))[i]? = acc[i]?:=λi hi=>by
   rw [h2 i (by omega),List.getElem?_append_left hi]
  refine⟨by simp;omega,hacc,λi x hx=>?_⟩
  cases i with
  | zero=>
   simp only [List.getElem?_cons_zero,Option.some.injEq] at hx
   subst hx
   rw [Nat.add_zero,h2 _ (by omega),List.getElem?_append_right (Nat.le_refl _),Nat.sub_self]
   simp only [List.getElem?_cons_zero,Option.some.injEq]
   congr 1
   apply List.ext_getElem?
   intro j
   rw [List.getElem?_take]
   split
   ·rename_i hj;exact (hacc j hj).symm
   ·rename_i hj;rw [List.getElem?_eq_none (by omega)]
  | succ i=>
   have:=h3 i x (by simpa using hx)
   have e:acc.length+(i+1)=acc.length+1+i:=by omega
   rw [e];exact this
theorem stepB_bit {acc:List Nat} {o:Oper} {j:Nat} (h:(stepB acc o).testBit j=true):∃ e ∈ o.after.toList,Region.binds .any e=true∧(j=e.on∨(acc.getD e.on 0).testBit j=true):=by
 unfold stepB at h
 revert h
 generalize o.after.toList=l
 suffices ∀ (l:List Edge) (s:Nat),(l.foldl (λs e=>if Region.binds .any e=true then s ||| 2 ^ e.on ||| acc.getD e.on 0 else s) s).testBit j=true →
   s.testBit j=true∨∃ e ∈ l,Region.binds .any e=true∧(j=e.on∨(acc.getD e.on 0).testBit j=true) by
  intro h
  rcases this l 0 h with h | h
  ·simp at h
  ·exact h
 intro l
 induction l with
 | nil=>intro s h;exact .inl h
 | cons e l ih=>
  intro s h
  rcases ih _ h with h | ⟨e',he',h'⟩
  ·simp only at h
   split at h
   ·rename_i hb
    rw [Nat.testBit_or,Nat.testBit_or,Nat.testBit_two_pow] at h
    simp only [Bool.or_eq_true,decide_eq_true_eq] at h
    rcases h with (h | h) | h
    ·exact .inl h
    ·exact .inr ⟨e,List.mem_cons_self ..,hb,.inl h.symm⟩
    ·exact .inr ⟨e,List.mem_cons_self ..,hb,.inr h⟩
   ·exact .inl h
  ·exact .inr ⟨e',List.mem_cons_of_mem _ he',h'⟩
theorem bit_edge {i j:Nat} {o:Oper} (ho:ops[i]? = some o) (h:((befs ops.toList []).getD i 0).testBit j=true) :
  ∃ e ∈ o.after.toList,Region.binds .any e=true∧(j=e.on∨((befs ops.toList []).getD e.on 0).testBit j=true):=by
 obtain⟨_,_,h3⟩:=befs_get ops.toList []
 have:=h3 i o (by simpa using ho)
 simp only [List.length_nil,Nat.zero_add] at this
 rw [List.getD_eq_getElem?_getD,this] at h
 obtain⟨e,he,hb,hj⟩:=stepB_bit h
 refine⟨e,he,hb,hj.imp id λhj=>?_⟩
 rw [List.getD_eq_getElem?_getD,List.getElem?_take] at hj
 rw [List.getD_eq_getElem?_getD]
 split at hj
 ·exact hj
 ·simp at hj
def Closed (ops:Array Oper) (listed:Array Bool):Prop:=
 listed.size=ops.size∧∀ i,i<ops.size→listed.getD i true=true→∀ j,((befs ops.toList []).getD i 0).testBit j=true→listed.getD j false=true
theorem ready_spec {listed:Array Bool} {i:Nat} (h:i ∈ Region.ready .any ops listed):∃ o,ops[i]? = some o∧i<ops.size∧listed.getD i true=false∧∀ e ∈ o.after.toList,Region.binds .any e=true→listed.getD e.on false=true:=by
 unfold Region.ready at h
 simp only [List.mem_filter,List.mem_range,Bool.and_eq_true,Bool.not_eq_true'] at h
 obtain⟨hi,h1,h2⟩:=h
 refine⟨ops[i],by simp [hi],hi,h1,λe he hb=>?_⟩
 simp only [Array.getElem?_eq_getElem hi,Option.map_some,Option.getD_some] at h2
 rw [Array.all_eq_true] at h2
 obtain⟨n,hn,hn2⟩:=List.getElem_of_mem he
 have:=h2 n (by simpa using hn)
 simp only [Bool.or_eq_true,Bool.not_eq_true'] at this
 have e1:(ops[i]).after[n]'(by simpa using hn)=e:=by rw [← hn2];simp
 rw [e1] at this
 rcases this with h3 | h3
 ·rw [hb] at h3;cases h3
 ·exact h3
theorem ready_ahead {listed:Array Bool} {i:Nat} (hc:Closed ops listed) (hle:∀ i o,ops[i]? = some o→∀ e ∈ o.after.toList,Region.binds .any e=true→e.on<i) (h:i ∈ Region.ready .any ops listed) {j:Nat}
  (hj:((befs ops.toList []).getD i 0).testBit j=true):listed.getD j false=true:=by
 obtain⟨o,ho,hi,_,hall⟩:=ready_spec h
 obtain⟨e,he,hb,hx⟩:=bit_edge ho hj
 have h1:=hall e he hb
 rcases hx with rfl | hx
 ·exact h1
 ·have hlt:e.on<ops.size:=Nat.lt_trans (hle i o ho e he hb) hi
  refine hc.2 e.on hlt ?_ j hx
  have hs:e.on<listed.size:=by rw [hc.1];exact hlt
  simpa [Array.getD,hs] using h1
theorem Closed.list {listed:Array Bool} {i:Nat} (hc:Closed ops listed) (hle:∀ i o,ops[i]? = some o→∀ e ∈ o.after.toList,Region.binds .any e=true→e.on<i) (h:i ∈ Region.ready .any ops listed):Closed ops (listed.setIfInBounds i true):=by
 have keep:∀ j,listed.getD j false=true→(listed.setIfInBounds i true).getD j false=true:=by
  intro j hj
  simp only [Array.getD_eq_getD_getElem?,Array.getElem?_setIfInBounds] at hj ⊢
  split
  ·split
   ·rfl
   ·rename_i h1 h2;rw [Array.getElem?_eq_none (by omega)] at hj;cases hj
  ·exact hj
 refine⟨by simp [hc.1],λm hm hl j hj=>?_⟩
 by_cases hmi:m=i
 ·subst hmi;exact keep j (ready_ahead hc hle h hj)
 ·refine keep j (hc.2 m hm ?_ j hj)
  simp only [Array.getD_eq_getD_getElem?,Array.getElem?_setIfInBounds] at hl ⊢
  rw [if_neg (λe=>hmi e.symm)] at hl
  exact hl
end
section
variable {B:Nat} {W0:Base} {L:Nat→Prop} {F:Fz} {r:Rm} {H:Hp} {w:World} {C:Ctx} {e:Env} {a:Act} {ρ:Type} {res:ρ} {ops:Array Oper}
theorem step_soundP (hS:Sound C.P C.call) {D:Option Bool} {Q:Exit→Act→World→Prop} {k:Ex→Env→Hp→Option ρ} {i:Nat} {o:Oper} {os:List Oper} (ho:ops[i]? = some o) (h:opsK C D ops (o::os) e H k=some res)
  (hw:WRel B W0 L F r H w) (hL:∀ m,L m→m≤C.lim) (hlim:C.lim≤H.length) (hro:C.ro≤H.length) (he:Vs F r H.length e a.tmps) (hd:a.defers=[]) (hm:∀ v v' H' F' r' w',Ext C.ro F r H F' r' H'→WRel B W0 L F' r' H' w'→VRel F' r' H'.length v v'→k (.pan v) e H'=some res→Q (.panic [{ v:=v',recovered:=false }]) a w') {K:Act→World→Prop}
  (hK:∀ e' H' F' r' a' w',Ext C.ro F r H F' r' H'→WRel B W0 L F' r' H' w'→Vs F' r' H'.length e' a'.tmps→a'.defers=[]→opsK C D ops os e' H' k=some res→K a' w') :
  wpOp C.P ops Q i K a w:=by
 unfold wpOp
 simp only [ho]
 have fit:∀ {e0:Env} {x:Option ρ},fits C D o e0 x=some res→x=some res:=by
  intro e0 x hx
  cases D with
  | none=>exact hx
  | some b=>exact (fits_some hx).1
 have pn:∀ {v:IV} {H:Hp},pan D os e k v H=some res→k (.pan v) e H=some res:=by
  intro v H hx
  cases D with
  | none=>exact hx
  | some b=>
   unfold pan at hx
   simp only at hx
   split at hx
   ·split at hx
    ·exact hx
    ·cases hx
   ·cases hx
 have go:∀ e0,Vs F r H.length e0 a.tmps→fits C D o e0 (opK C o e0 H (λv H=>opsK C D ops os (put e0 o.dst v) H k) (pan D os e k))=some res →
   (o.wp C.P a w K Q∨(o.asks C.P a w∧LetsOut Q)):=by
  intro e0 he0 h0
  refine op_sound (K:=K) (Q:=Q) hS hw hL hlim hro he0 (fit h0) (λv H' F' r' w' v' hx hw' hv hkv=>?_) (λv H' F' r' w' v' hx hw' hv hkp=>?_)
  ·exact hK _ H' F' r' _ w' hx hw' ((he0.ext hx).put o.dst hv) (by rw [put_defers];exact hd) hkv
  ·exact hm _ _ H' F' r' w' hx hw' hv (pn hkp)
 have skip:∀ e0,Vs F r H.length e0 a.tmps→opsK C D ops os (put e0 o.dst .no) H k=some res→K (a.put o.dst undef) w:=λe0 he0 h0=>
  hK _ H F r _ w (Ext.refl _ _ _ _) hw (he0.put o.dst .no) (by rw [put_defers];exact hd) h0
 unfold opsK at h
 cases hg:o.guard with
 | none=>
  simp only [hg] at h
  have hwant:Region.wanted o (yielded ops a.tmps)=true:=by simp [Region.wanted,hg]
  rw [if_pos hwant]
  exact go e he h
 | some g=>
  obtain⟨j,want⟩:=g
  simp only [hg] at h
  split at h
  ·cases h
  ·rename_i d hdst
   rcases brN_some h with ⟨t,ht,h⟩ | ⟨ht,h⟩
   case inr=>
    have hget:=no_get he ht
    have hy:yielded ops a.tmps j=none:=by simp [yielded,hdst,hget,undef]
    have hwant:Region.wanted o (yielded ops a.tmps)=false:=by simp [Region.wanted,hg,hy]
    rw [if_neg (by rw [hwant];simp)]
    exact skip _ he h
   obtain⟨he2,hget⟩:=set_same he ht
   have hy:yielded ops a.tmps j=some t:=by simp [yielded,hdst,hget]
   have hwant:Region.wanted o (yielded ops a.tmps)=(t == want):=by simp [Region.wanted,hg,hy]
   cases t
   ·simp only [Bool.false_eq_true,if_false] at h
    cases want
    ·simp only [if_true] at h
     rw [if_pos (by rw [hwant];rfl)]
     exact go _ he2 h
    ·simp only [Bool.true_eq_false,if_false] at h
     rw [if_neg (by rw [hwant];simp)]
     exact skip _ he2 h
   ·simp only [if_true] at h
    cases want
    ·simp only [Bool.false_eq_true,if_false] at h
     rw [if_neg (by rw [hwant];simp)]
     exact skip _ he2 h
    ·simp only [if_true] at h
     rw [if_pos (by rw [hwant];rfl)]
     exact go _ he2 h
theorem step_sound (hS:Sound C.P C.call) {D:Option Bool} {Q:Exit→Act→World→Prop} {k:Ex→Env→Hp→Option ρ} {i:Nat} {o:Oper} {os:List Oper} (ho:ops[i]? = some o) (h:opsK C D ops (o::os) e H k=some res)
  (hw:WRel B W0 L F r H w) (hL:∀ m,L m→m≤C.lim) (hlim:C.lim≤H.length) (hro:C.ro≤H.length) (he:Vs F r H.length e a.tmps) (hd:a.defers=[]) (hm:Meets B W0 L C.ro F r H k res Q) {K:Act→World→Prop}
  (hK:∀ e' H' F' r' a' w',Ext C.ro F r H F' r' H'→WRel B W0 L F' r' H' w'→Vs F' r' H'.length e' a'.tmps→a'.defers=[]→opsK C D ops os e' H' k=some res→K a' w') :
  wpOp C.P ops Q i K a w:=
 step_soundP hS ho h hw hL hlim hro he hd (λv v' H' F' r' w' hx hw' hv hk=>hm _ _ e H' F' r' a w' hx hw' (.pan hv) (he.ext hx) hd hk) hK
def left (ops:Array Oper) (listed:Array Bool):List (Oper×Nat):=ops.toList.zipIdx.filter λp=>!listed.getD p.2 true
theorem left_mem {listed:Array Bool} {p:Oper×Nat} (h:p ∈ left ops listed):ops[p.2]? = some p.1∧listed.getD p.2 true=false:=by
 unfold left at h
 rw [List.mem_filter] at h
 obtain⟨h1,h2⟩:=h
 have:=List.mem_zipIdx_iff_getElem?.1 h1
 exact⟨by simpa using this,by simpa using h2⟩
theorem filter_split {α:Type} (p q:α→Bool) (x:α) (hx:p x=true) (hq:q x=false):∀ (l:List α),x ∈ l→l.Nodup→(∀ y ∈ l,y≠x→q y=p y)→∃ pre post,l.filter p=pre++x::post∧l.filter q=pre++post:=by
 intro l
 induction l with
 | nil=>intro h;cases h
 | cons y l ih=>
  intro h hn hpq
  rw [List.nodup_cons] at hn
  by_cases hy:y=x
  ·subst hy
   refine⟨[],l.filter p,by simp [hx],?_⟩
   rw [List.filter_cons_of_neg (by simp [hq])]
   apply List.filter_congr
   intro z hz
   exact hpq z (List.mem_cons_of_mem _ hz) (λe=>hn.1 (e ▸ hz))
  ·have hpy:=hpq y (List.mem_cons_self ..) hy
   rcases List.mem_cons.1 h with h | h
   ·exact absurd h.symm hy
   ·obtain⟨pre,post,h1,h2⟩:=ih h hn.2 (λz hz=>hpq z (List.mem_cons_of_mem _ hz))
    by_cases hp:p y=true
    ·exact⟨y::pre,post,by rw [List.filter_cons_of_pos hp,h1];rfl,by rw [List.filter_cons_of_pos (by rw [hpy];exact hp),h2];rfl⟩
    ·exact⟨pre,post,by rw [List.filter_cons_of_neg hp,h1],by rw [List.filter_cons_of_neg (by rw [hpy];exact hp),h2]⟩
theorem left_step {listed:Array Bool} {i:Nat} {o:Oper} (hs:listed.size=ops.size) (ho:ops[i]? = some o) (hl:listed.getD i true=false) :
  ∃ pre post,left ops listed=pre++(o,i)::post∧left ops (listed.setIfInBounds i true)=pre++post:=by
 have hi:i<ops.size:=by
  rcases Nat.lt_or_ge i ops.size with h | h
  ·exact h
  ·rw [Array.getElem?_eq_none h] at ho;cases ho
 refine filter_split _ _ (o,i) (by simp [hl]) ?_ ops.toList.zipIdx (List.mem_zipIdx_iff_getElem?.2 (by simpa using ho)) ?_ ?_
 ·simp [Array.getD,hs,hi]
 ·have h1:(ops.toList.zipIdx.map Prod.snd).Nodup:=by rw [List.zipIdx_map_snd];exact List.nodup_range'
  exact (List.pairwise_map.1 h1).imp λhne e=>hne (by rw [e])
 ·intro y hy hne
  have hyi:y.2≠i:=by
   intro e
   have:=List.mem_zipIdx_iff_getElem?.1 hy
   apply hne
   obtain⟨y1,y2⟩:=y
   simp only at e this
   subst e
   simp only [Array.getElem?_toList,ho,Option.some.injEq] at this
   rw [this]
  simp only [Array.getD_eq_getD_getElem?,Array.getElem?_setIfInBounds]
  rw [if_neg (λe=>hyi e.symm)]
end
end Go.Tg
namespace Go.Tg
variable [Globs]
section
variable {B:Nat} {W0:Base} {L:Nat→Prop} {F:Fz} {r:Rm} {H:Hp} {w:World} {C:Ctx} {e:Env} {a:Act} {ρ:Type} {res:ρ} {ops:Array Oper}
theorem pairs_spec {bs:List Nat}:∀ (l:List (Oper×Nat)),pairs C ops bs l=true→l.Pairwise λx p=>(bs.getD p.2 0).testBit x.2=true∨((clOf C x.1).fit (clOf C p.1)=true∧Oper.apart ops x.1 p.1=true):=by
 intro l
 induction l with
 | nil=>intro _;exact .nil
 | cons x l ih=>
  obtain⟨o,j⟩:=x
  intro h
  simp only [pairs,Bool.and_eq_true,List.all_eq_true,Bool.or_eq_true] at h
  exact List.Pairwise.cons h.1 (ih h.2)
theorem sorted_zip (l:List Oper) (n:Nat):(l.zipIdx n).Pairwise λx p=>x.2<p.2:=by
 have h:((l.zipIdx n).map Prod.snd).Pairwise (· < ·):=by rw [List.zipIdx_map_snd];exact List.pairwise_lt_range'
 exact List.pairwise_map.1 h
theorem edges_lt (h:drawOK C ops=true):∀ i o,ops[i]? = some o→∀ e ∈ o.after.toList,Region.binds .any e=true→e.on<i:=by
 unfold drawOK edgesOK at h
 simp only [Bool.and_eq_true,List.all_eq_true] at h
 intro i o ho e he hb
 have h1:=(h.1 (o,i) (List.mem_zipIdx_iff_getElem?.2 (by simpa using ho))).1 e he
 simp only [hb,Bool.not_true,Bool.false_or,decide_eq_true_eq] at h1
 exact h1
theorem draw_pair (h:drawOK C ops=true):ops.toList.zipIdx.Pairwise λx p=>((befs ops.toList []).getD p.2 0).testBit x.2=true∨((clOf C x.1).fit (clOf C p.1)=true∧Oper.apart ops x.1 p.1=true):=by
 unfold drawOK at h
 simp only [Bool.and_eq_true] at h
 exact pairs_spec _ h.2
theorem unlisted {listed:Array Bool} {i:Nat} (h:listed.getD i true=false):¬ listed.getD i false=true:=by
 intro h2
 simp only [Array.getD_eq_getD_getElem?] at h h2
 cases hq:listed[i]? with
 | none=>rw [hq] at h;cases h
 | some v=>rw [hq] at h h2;simp only [Option.getD_some] at h h2;rw [h] at h2;cases h2
theorem last_bit (h:lastOK ops=true) {j:Nat} (hj:j+1<ops.size):((befs ops.toList []).getD (ops.size - 1) 0).testBit j=true:=by
 unfold lastOK at h
 rw [List.all_eq_true] at h
 exact h j (List.mem_range.2 (by omega))
theorem draw_sound (hS:Sound C.P C.call) (hP:PureOK C) (hdr:drawOK C ops=true) {Q:Exit→Act→World→Prop} {k:Ex→Env→Hp→Option ρ}:∀ (fuel:Nat) (listed:Array Bool) (e:Env) (H:Hp) (F:Fz) (r:Rm) (a:Act) (w:World),
  Closed ops listed→(left ops listed).length≤fuel→opsK C (some (lastOK ops)) ops ((left ops listed).map Prod.fst) e H k=some res →
  WRel B W0 L F r H w→(∀ m,L m→m≤C.lim)→C.lim≤H.length→C.ro≤H.length→Vs F r H.length e a.tmps→a.defers=[]→Meets B W0 L C.ro F r H k res Q→wpAny C.P .any ops Q fuel listed a w:=by
 intro fuel
 have hle:=edges_lt hdr
 have hend:∀ (listed:Array Bool) (e:Env) (H:Hp) (F:Fz) (r:Rm) (a:Act) (w:World),left ops listed=[]→opsK C (some (lastOK ops)) ops ((left ops listed).map Prod.fst) e H k=some res →
   WRel B W0 L F r H w→Vs F r H.length e a.tmps→a.defers=[]→Meets B W0 L C.ro F r H k res Q→Q .normal a w:=by
  intro listed e H F r a w h0 h hw he hd hm
  rw [h0] at h
  exact hm .nor .normal e H F r a w (Ext.refl _ _ _ _) hw .nor he hd h
 have hready:∀ (listed:Array Bool),Closed ops listed→Region.ready .any ops listed=[]→left ops listed=[]:=by
  intro listed hc h0
  cases hl:left ops listed with
  | nil=>rfl
  | cons p l=>
   exfalso
   obtain⟨o,i⟩:=p
   obtain⟨ho,hun⟩:=left_mem (p:=(o,i)) (by rw [hl];exact List.mem_cons_self ..)
   simp only at ho hun
   have hi:i<ops.size:=by
    rcases Nat.lt_or_ge i ops.size with h | h
    ·exact h
    ·rw [Array.getElem?_eq_none h] at ho;cases ho
   have:i ∈ Region.ready .any ops listed:=by
    unfold Region.ready
    simp only [List.mem_filter,List.mem_range,Bool.and_eq_true,Bool.not_eq_true']
    refine⟨hi,hun,?_⟩
    rw [ho]
    simp only [Option.map_some,Option.getD_some]
    rw [Array.all_eq_true]
    intro n hn
    simp only [Bool.or_eq_true,Bool.not_eq_true']
    cases hb:Region.binds .any o.after[n] with
    | false=>exact .inl rfl
    | true=>
     right
     have hlt:=hle i o ho o.after[n] (by simp) hb
     by_cases hx:listed.getD o.after[n].on true=true
     ·have hs:o.after[n].on<listed.size:=by rw [hc.1];omega
      simpa [Array.getD,hs] using hx
     ·exfalso
      have hmem:(ops[o.after[n].on]'(by omega),o.after[n].on) ∈ left ops listed:=by
       unfold left
       rw [List.mem_filter]
       refine⟨List.mem_zipIdx_iff_getElem?.2 ?_,by simpa using hx⟩
       simp [show o.after[n].on<ops.size by omega]
      have hso:(left ops listed).Pairwise λx p=>x.2<p.2:=(sorted_zip ops.toList 0).sublist List.filter_sublist
      rw [hl] at hmem hso
      rcases List.mem_cons.1 hmem with h2 | h2
      ·simp only [Prod.mk.injEq] at h2;omega
      ·have:=(List.pairwise_cons.1 hso).1 _ h2
       simp only at this;omega
   rw [h0] at this;cases this
 induction fuel with
 | zero=>
  intro listed e H F r a w hc hlen h hw _ _ _ he hd hm
  have h0:left ops listed=[]:=List.eq_nil_of_length_eq_zero (by omega)
  refine⟨?_,hend listed e H F r a w h0 h hw he hd hm⟩
  cases hr:Region.ready .any ops listed with
  | nil=>rfl
  | cons i l=>
   exfalso
   obtain⟨o,ho,_,hun,_⟩:=ready_spec (i:=i) (ops:=ops) (listed:=listed) (by rw [hr];exact List.mem_cons_self ..)
   have:(o,i) ∈ left ops listed:=by
    unfold left
    rw [List.mem_filter]
    exact⟨List.mem_zipIdx_iff_getElem?.2 (by simpa using ho),by simp [hun]⟩
   rw [h0] at this;cases this
 | succ fuel ih=>
  intro listed e H F r a w hc hlen h hw hL hlim hro he hd hm
  refine⟨λh0=>hend listed e H F r a w (hready listed hc h0) h hw he hd hm,λi hi=>?_⟩
  obtain⟨o,ho,hisz,hun,_⟩:=ready_spec hi
  obtain⟨pre,post,hl1,hl2⟩:=left_step hc.1 ho hun
  have hc2:=hc.list hle hi
  have hso:(left ops listed).Pairwise λx p=>x.2<p.2:=(sorted_zip ops.toList 0).sublist List.filter_sublist
  have hpr:=(draw_pair hdr).sublist (List.filter_sublist (p:=λp=>!listed.getD p.2 true))
  change (left ops listed).Pairwise _ at hpr
  rw [hl1] at hso hpr h
  have hpre:∀ x ∈ pre,x.2<i∧(clOf C x.1).fit (clOf C o)=true∧Oper.apart ops x.1 o=true:=by
   intro x hx
   have h1:=(List.pairwise_append.1 hso).2.2 x hx (o,i) (List.mem_cons_self ..)
   have h2:=(List.pairwise_append.1 hpr).2.2 x hx (o,i) (List.mem_cons_self ..)
   refine⟨h1,?_⟩
   rcases h2 with h2 | h2
   ·exact absurd (ready_ahead hc hle hi h2) (unlisted (left_mem (p:=x) (by rw [hl1];exact List.mem_append_left _ hx)).2)
   ·exact h2
  have hfront:opsK C (some (lastOK ops)) ops (o::(pre.map Prod.fst++post.map Prod.fst)) e H k=some res:=by
   rw [List.map_append,List.map_cons] at h
   by_cases hlast:post=[]∧lastOK ops=true
   ·have hpre0:pre=[]:=by
     cases hp:pre with
     | nil=>rfl
     | cons x l=>
      exfalso
      have hxm:x ∈ pre:=by rw [hp];exact List.mem_cons_self ..
      have hxl:=left_mem (p:=x) (by rw [hl1];exact List.mem_append_left _ hxm)
      have hxi:=(hpre x hxm).1
      by_cases hil:i=ops.size - 1
      ·have:=last_bit hlast.2 (j:=x.2) (by omega)
       rw [← hil] at this
       exact unlisted hxl.2 (ready_ahead hc hle hi this)
      ·
       have hz:listed.getD (ops.size - 1) true=true:=by
        cases hq:listed.getD (ops.size - 1) true with
        | true=>rfl
        | false=>
         exfalso
         have hmem:(ops[ops.size - 1]'(by omega),ops.size - 1) ∈ left ops listed:=by
          unfold left
          rw [List.mem_filter]
          refine⟨List.mem_zipIdx_iff_getElem?.2 ?_,by simp [hq]⟩
          simp [show ops.size - 1<ops.size by omega]
         rw [hl1,hlast.1] at hmem
         rcases List.mem_append.1 hmem with h2 | h2
         ·have:=(hpre _ h2).1;simp only at this;omega
         ·simp only [List.mem_singleton,Prod.mk.injEq] at h2;omega
       exact unlisted hun (hc.2 (ops.size - 1) (by omega) hz i (last_bit hlast.2 (by omega)))
    rw [hpre0] at h ⊢
    exact h
   ·refine opsK_move hP ?_ (pre.map Prod.fst) e H ?_ (λ_ x _=>okV_of (rel_ev he x)) h
    ·by_cases hp:post=[]
     ·right
      cases hb:lastOK ops with
      | false=>rfl
      | true=>exact absurd ⟨hp,hb⟩ hlast
     ·left;intro h2;exact hp (List.map_eq_nil_iff.1 h2)
    ·intro x hx
     obtain⟨y,hy,rfl⟩:=List.mem_map.1 hx
     exact (hpre y hy).2
  refine step_sound hS ho hfront hw hL hlim hro he hd hm (λe' H' F' r' a' w' hx hw' he' hd' hk'=>?_)
  refine ih _ e' H' F' r' a' w' hc2 ?_ ?_ hw' hL (Nat.le_trans hlim hx.len) (Nat.le_trans hro hx.len) he' hd' (hm.ext hx)
  ·rw [hl2];rw [hl1] at hlen;simp at hlen ⊢;omega
  ·rw [hl2,List.map_append];exact hk'
theorem left_all (ops:Array Oper):left ops (Array.replicate ops.size false)=ops.toList.zipIdx:=by
 unfold left
 rw [List.filter_eq_self]
 intro p hp
 have:=List.mem_zipIdx_iff_getElem?.1 hp
 have hlt:p.2<ops.size:=by
  rcases Nat.lt_or_ge p.2 ops.size with h | h
  ·exact h
  ·rw [List.getElem?_eq_none (by simpa using h)] at this;cases this
 simp [Array.getD,hlt]
theorem regionAny_sound (hS:Sound C.P C.call) (hP:PureOK C) (hmix:C.P.follows .mixedOrders=true) (hdr:drawOK C ops=true) {id:Nat} {Q:Exit→Act→World→Prop} {k:Ex→Env→Hp→Option ρ} (h:opsK C (some (lastOK ops)) ops ops.toList e H k=some res) (hw:WRel B W0 L F r H w) (hL:∀ m,L m→m≤C.lim)
  (hlim:C.lim≤H.length) (hro:C.ro≤H.length) (he:Vs F r H.length e a.tmps) (hd:a.defers=[]) (hm:Meets B W0 L C.ro F r H k res Q):(Code.region id ops true).wp C.P Q a w:=by
 refine wp_region_any hmix ?_
 refine draw_sound (Q:=Q) hS hP hdr ops.size _ e H F r a _ ⟨by simp,?_⟩ ?_ ?_ (hw.later (Later.drawn _ _)) hL hlim hro he hd hm
 ·intro i hi h2
  simp [Array.getD,hi] at h2
 ·rw [left_all];simp
 ·rw [left_all,List.zipIdx_map_fst];exact h
theorem ops_sound (hS:Sound C.P C.call) (ops:Array Oper) {Q:Exit→Act→World→Prop} {k:Ex→Env→Hp→Option ρ}:∀ (os:List Oper) (n:Nat) (e:Env) (H:Hp) (F:Fz) (r:Rm) (a:Act) (w:World),os=ops.toList.drop n →
  opsK C none ops os e H k=some res→WRel B W0 L F r H w→(∀ m,L m→m≤C.lim)→C.lim≤H.length→C.ro≤H.length→Vs F r H.length e a.tmps→a.defers=[]→Meets B W0 L C.ro F r H k res Q →
  wpOps C.P ops Q ((List.range ops.size).drop n) a w:=by
 intro os
 induction os with
 | nil=>
  intro n e H F r a w hos h hw _ _ _ he hd hm
  have hn:ops.size≤n:=by
   have:=congrArg List.length hos
   simp at this;omega
  have:(List.range ops.size).drop n=[]:=by apply List.eq_nil_of_length_eq_zero;simp;omega
  rw [this]
  exact hm .nor .normal e H F r a w (Ext.refl _ _ _ _) hw .nor he hd h
 | cons o os ih=>
  intro n e H F r a w hos h hw hL hlim hro he hd hm
  have hn:n<ops.size:=by
   have:=congrArg List.length hos
   simp at this;omega
  have ho:ops[n]? = some o:=by
   have:=congrArg (·[0]?) hos
   simp at this
   exact this.symm
  have hos':os=ops.toList.drop (n+1):=by
   have:=congrArg List.tail hos
   simpa using this
  have hdrop:(List.range ops.size).drop n=n::(List.range ops.size).drop (n+1):=by
   rw [List.drop_eq_getElem_cons (by simpa using hn)];simp
  rw [hdrop,wpOps_cons]
  exact step_sound hS ho h hw hL hlim hro he hd hm (λe' H' F' r' a' w' hx hw' he' hd' hk=>
   ih (n+1) e' H' F' r' a' w' hos' hk hw' hL (Nat.le_trans hlim hx.len) (Nat.le_trans hro hx.len) he' hd' (hm.ext hx))
theorem region_sound (hS:Sound C.P C.call) {id:Nat} (ops:Array Oper) {Q:Exit→Act→World→Prop} {k:Ex→Env→Hp→Option ρ} (h:opsK C none ops ops.toList e H k=some res) (hw:WRel B W0 L F r H w) (hL:∀ m,L m→m≤C.lim)
  (hlim:C.lim≤H.length) (hro:C.ro≤H.length) (he:Vs F r H.length e a.tmps) (hd:a.defers=[]) (hm:Meets B W0 L C.ro F r H k res Q):(Code.region id ops false).wp C.P Q a w:=by
 refine wp_region ?_
 have:=ops_sound (Q:=Q) hS ops ops.toList 0 e H F r a w (by simp) h hw hL hlim hro he hd hm
 simpa using this
end
end Go.Tg
