/- The ideal run of a body, operation by operation, without its slots: the words of the printed equations, and the rules by which they are used. -/
import Derived.Test.YtnkobejhnphmhaaGreatDoorAf
set_option linter.all false
namespace Go.Tg
variable [Globs]
def strS:IV→Option IV
 | .d (.str s)=>some (.d (.str s))
 | _=>none
def fld1 (off:Nat) (x:IV):Option IV:=match aggCells x with | some cs=>cs[off]? | none=>none
def fitsL {ρ:Type} (r:Bool) (l:List (Bool×IV)) (x:Option ρ):Option ρ:=if r=true∨l.all (λp=>!p.1 || noVec p.2)=true then x else none
def mkE (n:Nat) (l:List (Nat×IV)):Env:=go l 0 n
where
 go:List (Nat×IV)→Nat→Nat→Env
  | _,_,0=>[]
  | [],i,n+1=>.un::go [] (i+1) n
  | (j,v)::l,i,n+1=>match Nat.beq i j with
   | true=>v::go l (i+1) n
   | false=>.un::go ((j,v)::l) (i+1) n
section kernel
variable {ρ:Type} (C:Ctx)
abbrev sel {α:Type} (b:Bool) (x y:α):α:=match b with | true=>x | false=>y
abbrev lift2 (x:Option IV) (H:Hp) (kv:IV→Hp→Option ρ):Option ρ:=match x with | some v=>kv v H | none=>none
abbrev liftH2 (x:Option (IV×Hp)) (kv:IV→Hp→Option ρ):Option ρ:=match x with | some r=>kv r.1 r.2 | none=>none
abbrev liftU2 (x:Option Hp) (kv:IV→Hp→Option ρ):Option ρ:=match x with | some H=>kv .un H | none=>none
abbrev goCall2 (f:Nat) (args:List IV) (H:Hp) (kv kp:IV→Hp→Option ρ):Option ρ:=
 match C.T.raw f with
 | true=>liftR (C.call C.lim C.ro f args H) kv kp
 | false=>liftR (C.call C.lim C.ro f (frzArgs C.ro (zipB (slArgs C.P f) args) H).1 (frzArgs C.ro (zipB (slArgs C.P f) args) H).2) kv kp
abbrev goVal2 (f:IV) (args:List IV) (H:Hp) (kv kp:IV→Hp→Option ρ):Option ρ:=
 match f with
 | .fn f fst cap=>liftR (C.call C.lim C.ro f (fst++args++cap) H) kv kp
 | _=>none
abbrev opK2 (o:Oper) (e:Env) (H:Hp) (kv kp:IV→Hp→Option ρ):Option ρ:=
 match o.op with
 | .move x | .assign x=>kv (ev e x) H
 | .pick c a b=>lift2 (iPick (ev e c) (ev e a) (ev e b)) H kv
 | .alloc t=>liftH2 ((zeroT C.P t).bind λz=>iBox t z H) kv
 | .box t x=>liftH2 (iBox t (ev e x) H) kv
 | .build t ps=>lift2 (iBuild C.P t (ps.toList.map λp=>(p.1,ev e p.2))) H kv
 | .buildSlice t n ps=>liftH2 (iBuildSlice C.P t n (ps.toList.map λp=>(p.1,ev e p.2)) H) kv
 | .load t a=>lift2 (iLoad C.P t (ev e a) H) H kv
 | .store t a x=>liftU2 ((sizeT C.P t).bind λn=>st n C.lim C.ro (ev e a) (ev e x) H) kv
 | .nilCheck x=>lift2 (iNil (ev e x)) H kv
 | .binOp op t x y _=>lift2 (iBin C.P op t (ev e x) (ev e y)) H kv
 | .unOp op _ x=>lift2 (iUn op (ev e x)) H kv
 | .convert src dst x=>
  match C.P.underlying src,C.P.underlying dst with
  | some (.int _),some (.int k)=>lift2 (iConvInt k (ev e x)) H kv
  | some .string,some .string=>lift2 (match ev e x with | .d (.str s)=>some (.d (.str s)) | _=>none) H kv
  | some .string,some (.slice el)=>match C.P.underlying el,sizeT C.P el with
   | some (.int .u8),some 1=>liftH2 (sbyt el (ev e x) H) kv
   | _,_=>none
  | some (.slice el),some .string=>match C.P.underlying el with
   | some (.int .u8)=>lift2 (bstr (ev e x) H) H kv
   | _=>none
  | _,_=>liftH2 (opX C o e H) kv
 | .makeInterface t x=>match C.P.underlying t with
  | some (.interface _) | none=>none
  | some _=>kv (.ifc t (ev e x)) H
 | .makeFunc (.func f) fst cap=>kv (.fn f (fst.toList.map (ev e)) (cap.toList.map (ev e))) H
 | .makeSlice t l c=>liftH2 (iMakeSlice C.P t (ev e l) (ev e c) H) kv
 | .slice t x lo hi mx=>lift2 (iSlice C.P t (ev e x) (lo.map (ev e)) (hi.map (ev e)) (mx.map (ev e))) H kv
 | .fieldAddr s x f=>lift2 (iFieldAddr C.P s (ev e x) f) H kv
 | .field s x f=>lift2 (iField C.P s (ev e x) f) H kv
 | .indexAddr t x i=>match iIndexAddr C.P t (ev e x) (ev e i) with
  | some v=>kv v H
  | none=>liftH2 (opX C o e H) kv
 | .index t x i=>lift2 (iIndex C.P t (ev e x) (ev e i)) H kv
 | .extract x i=>lift2 (iExtract (ev e x) i) H kv
 | .panic x=>match ev e x with
  | .ifc t v=>kp (.ifc t v) H
  | _=>none
 | .call c=>
  match c.callee with
  | .value (.func f)=>goCall2 C f (c.args.toList.map (ev e)) H kv kp
  | .value (.tmp t)=>goVal2 C (ev e (.tmp t)) (c.args.toList.map (ev e)) H kv kp
  | .builtin .len=>match c.args.toList with
   | [x]=>lift2 (iLen C.P c.argTypes (ev e x) H) H kv
   | _=>none
  | .builtin .append=>match c.args.toList with
   | [s,x]=>liftH2 (iAppend C.P c.argTypes C.ro (ev e s) (ev e x) H) kv
   | _=>none
  | .builtin .min=>match c.args.toList with
   | [x,y]=>lift2 (iMin (ev e x) (ev e y)) H kv
   | [x,y,z]=>lift2 ((iMin (ev e x) (ev e y)).bind λv=>iMin v (ev e z)) H kv
   | _=>none
  | .builtin .max=>match c.args.toList with
   | [x,y]=>lift2 (iMax (ev e x) (ev e y)) H kv
   | [x,y,z]=>lift2 ((iMax (ev e x) (ev e y)).bind λv=>iMax v (ev e z)) H kv
   | _=>none
  | _=>liftH2 (opX C o e H) kv
 | _=>liftH2 (opX C o e H) kv
abbrev br2 (c:IV) (x y:Option ρ):Option ρ:=
 match c with
 | .d (.bool t)=>sel t x y
 | _=>none
abbrev brN2 (c:IV) (x y z:Option ρ):Option ρ:=
 match c with
 | .d (.bool t)=>sel t x y
 | .no=>z
 | _=>none
abbrev fits2 (D:Option Bool) (o:Oper) (e:Env) (x:Option ρ):Option ρ:=
 match D with
 | none=>x
 | some _=>
  match o.op with
  | .call c=>
   match c.callee with
   | .value (.func f)=>sel (C.T.raw f) x (fitsL false (zipB (slArgs C.P f) (c.args.toList.map (ev e))) x)
   | _=>x
  | _=>x
abbrev pan2 (D:Option Bool) (os:List Oper) (e:Env) (k:Ex→Env→Hp→Option ρ) (v:IV) (H:Hp):Option ρ:=
 match D with
 | none=>k (.pan v) e H
 | some b=>match os with
  | []=>sel b (k (.pan v) e H) none
  | _::_=>none
def opsK2 (D:Option Bool) (ops:Array Oper):List Oper→Env→Hp→(Ex→Env→Hp→Option ρ)→Option ρ
 | [],e,H,k=>k .nor e H
 | o::os,e,H,k=>
  match o.guard with
  | none=>fits2 C D o e (opK2 C o e H (λv H=>opsK2 D ops os (put e o.dst v) H k) (pan2 D os e k))
  | some (j,want)=>
   match (ops[j]?).bind (·.dst) with
   | none=>none
   | some d=>
    brN2 (e.getD d .un)
     (sel want (fits2 C D o (e.set d (.d (.bool true))) (opK2 C o (e.set d (.d (.bool true))) H (λv H=>opsK2 D ops os (put (e.set d (.d (.bool true))) o.dst v) H k) (pan2 D os e k)))
      (opsK2 D ops os (put (e.set d (.d (.bool true))) o.dst .no) H k))
     (sel want (opsK2 D ops os (put (e.set d (.d (.bool false))) o.dst .no) H k)
      (fits2 C D o (e.set d (.d (.bool false))) (opK2 C o (e.set d (.d (.bool false))) H (λv H=>opsK2 D ops os (put (e.set d (.d (.bool false))) o.dst v) H k) (pan2 D os e k))))
     (opsK2 D ops os (put e o.dst .no) H k)
def br3 (c:IV) (x y:Option ρ):Option ρ:=br2 c x y
def brN3 (c:IV) (x y z:Option ρ):Option ρ:=brN2 c x y z
def goVal3 (f:IV) (args:List IV) (H:Hp) (kv kp:IV→Hp→Option ρ):Option ρ:=goVal2 C f args H kv kp
abbrev opsStep (D:Option Bool) (ops:Array Oper) (X:List Oper→Env→Hp→(Ex→Env→Hp→Option ρ)→Option ρ):List Oper→Env→Hp→(Ex→Env→Hp→Option ρ)→Option ρ:=λos e H k=>
 match os with
 | []=>k .nor e H
 | o::os=>
  match o.guard with
  | none=>fits2 C D o e (opK2 C o e H (λv H=>X os (put e o.dst v) H k) (pan2 D os e k))
  | some (j,want)=>
   match (ops[j]?).bind (·.dst) with
   | none=>none
   | some d=>
    brN2 (e.getD d .un)
     (sel want (fits2 C D o (e.set d (.d (.bool true))) (opK2 C o (e.set d (.d (.bool true))) H (λv H=>X os (put (e.set d (.d (.bool true))) o.dst v) H k) (pan2 D os e k)))
      (X os (put (e.set d (.d (.bool true))) o.dst .no) H k))
     (sel want (X os (put (e.set d (.d (.bool false))) o.dst .no) H k)
      (fits2 C D o (e.set d (.d (.bool false))) (opK2 C o (e.set d (.d (.bool false))) H (λv H=>X os (put (e.set d (.d (.bool false))) o.dst v) H k) (pan2 D os e k))))
     (X os (put e o.dst .no) H k)
def opsN (D:Option Bool) (ops:Array Oper):Nat→(List Oper→Env→Hp→(Ex→Env→Hp→Option ρ)→Option ρ)→List Oper→Env→Hp→(Ex→Env→Hp→Option ρ)→Option ρ
 | 0,X=>X
 | n+1,X=>opsStep C D ops (opsN D ops n X)
theorem opsN_self (D:Option Bool) (ops:Array Oper):∀ (n:Nat) (os:List Oper) (e:Env) (H:Hp) (k:Ex→Env→Hp→Option ρ),opsN C D ops n (opsK2 C D ops) os e H k=opsK2 C D ops os e H k:=by
 intro n
 induction n with
 | zero=>intro os e H k;rfl
 | succ n ih=>
  have hx:opsN (ρ:=ρ) C D ops n (opsK2 C D ops)=opsK2 C D ops:=by funext os e H k;exact ih os e H k
  intro os e H k
  rw [opsN,hx]
  cases os with
  | nil=>rfl
  | cons o os=>rfl
end kernel
noncomputable def exK2 (C:Ctx) (l:List Nat):Code → {ρ:Type}→Env→Hp→(Ex→Env→Hp→Option ρ)→Option ρ
 | .skip,_,e,H,k=>k .nor e H
 | .region _ ops draw,_,e,H,k=>
  match draw with
  | false=>opsK2 C none ops ops.toList e H k
  | true=>match drawOK C ops with
   | true=>opsK2 C (some (lastOK ops)) ops ops.toList e H k
   | false=>sqK C ops e H k
 | .seq a b,_,e,H,k=>exK2 C l a e H λx e H=>match x with
   | .nor=>exK2 C l b e H k
   | x=>k x e H
 | .cond c a b,_,e,H,k=>br2 (ev e c) (exK2 C l a e H k) (exK2 C l b e H k)
 | .block id b,_,e,H,k=>exK2 C l b e H λx e H=>match x with
   | .exi i=>if i=id then k .nor e H else k (.exi i) e H
   | x=>k x e H
 | .loop b,_,e,H,k=>
  (loopW (σ:=Env×Hp) (λs=>exK2 C l b s.1 s.2 λx e H=>match x with
   | .nor=>some (Sum.inl (keepL l e,H))
   | x=>some (Sum.inr (x,keepL l e,H))) (keepL l e,H)).bind λr=>k r.1 r.2.1 r.2.2
 | .scope b,_,e,H,k=>exK2 C l b e H k
 | .label _,_,e,H,k=>k .nor e H
 | .exit id,_,e,H,k=>k (.exi id) e H
 | .ret,_,e,H,k=>k .ret e H
 | _,_,_,_,_=>none
inductive Fr where
 | sq (b:Code)
 | bk (id:Nat)
noncomputable def popK (C:Ctx) (l:List Nat) {ρ:Type} (k0:Ex→Env→Hp→Option ρ):List Fr→Ex→Env→Hp→Option ρ
 | [],x,e,H=>k0 x e H
 | .sq b::fs,x,e,H=>match x with
  | .nor=>exK2 C l b e H (popK C l k0 fs)
  | x=>popK C l k0 fs x e H
 | .bk id::fs,x,e,H=>match x with
  | .exi i=>if i=id then popK C l k0 fs .nor e H else popK C l k0 fs (.exi i) e H
  | x=>popK C l k0 fs x e H
def stepK (l:List Nat):Ex→Env→Hp→Option ((Env×Hp) ⊕ (Ex×Env×Hp)):=λx e H=>match x with
 | .nor=>some (Sum.inl (keepL l e,H))
 | x=>some (Sum.inr (x,keepL l e,H))
noncomputable def stepL (C:Ctx) (l:List Nat) (b:Code):Env×Hp→Option ((Env×Hp) ⊕ (Ex×Env×Hp)):=λs=>exK2 C l b s.1 s.2 (stepK l)
def Code.part:Code→List Nat→Code
 | c,[]=>c
 | .seq a _,0::p=>Code.part a p
 | .seq _ b,_::p=>Code.part b p
 | .cond _ a _,0::p=>Code.part a p
 | .cond _ _ b,_::p=>Code.part b p
 | .block _ b,_::p=>Code.part b p
 | .loop b,_::p=>Code.part b p
 | .scope b,_::p=>Code.part b p
 | c,_::_=>c
def Code.opsOf:Code→Array Oper
 | .region _ os _=>os
 | _=>#[]
def bodyOf (P:Program) (f:Nat):Code:=match P.funcs[f]? with
 | some fn=>match fn.body with
  | some c=>c
  | none=>.skip
 | none=>.skip
def funcOf (P:Program) (f:Nat):Func:=match P.funcs[f]? with
 | some fn=>fn
 | none=>default
section
variable {σ τ:Type} {step:σ→Option (σ ⊕ τ)}
theorem loopW_done {s:σ} {r:τ} (h:step s=some (.inr r)):loopW step s=some r:=by rw [loopW_eq,h];rfl
theorem loopW_next {s s':σ} {r:τ} (h:step s=some (.inl s')) (h':loopW step s'=some r):loopW step s=some r:=by rw [loopW_eq,h];exact h'
theorem loopW_count (st:Nat→σ) (n:Nat) {r:τ} (h:∀ i,i<n→step (st i)=some (.inl (st (i+1)))) (hn:step (st n)=some (.inr r)):∀ i,i≤n→loopW step (st i)=some r:=by
 intro i hi
 obtain⟨k,rfl⟩:∃ k,n=i+k:=⟨n - i,by omega⟩
 induction k generalizing i with
 | zero=>exact loopW_done hn
 | succ k ih=>
  refine loopW_next (h i (by omega)) ?_
  have:=ih (i:=i+1) (by intro j hj;exact h j (by omega)) (by rw [show i+1+k=i+(k+1) by omega];exact hn) (by omega)
  exact this
end
section same
variable {ρ:Type} (C:Ctx)
theorem sel_eq {α:Type} (b:Bool) (x y:α):sel b x y=if b=true then x else y:=by cases b <;> rfl
theorem lift2_eq (x:Option IV) (H:Hp) (kv:IV→Hp→Option ρ):lift2 x H kv=lift x H kv:=by cases x <;> rfl
theorem liftH2_eq (x:Option (IV×Hp)) (kv:IV→Hp→Option ρ):liftH2 x kv=liftH x kv:=by cases x <;> rfl
theorem liftU2_eq (x:Option Hp) (kv:IV→Hp→Option ρ):liftU2 x kv=liftU x kv:=by cases x <;> rfl
theorem goCall2_eq (f:Nat) (args:List IV) (H:Hp) (kv kp:IV→Hp→Option ρ):goCall2 C f args H kv kp=goCall C f args H kv kp:=by
 unfold goCall2 goCall
 cases C.T.raw f <;> rfl
theorem goVal2_eq (f:IV) (args:List IV) (H:Hp) (kv kp:IV→Hp→Option ρ):goVal2 C f args H kv kp=goVal C f args H kv kp:=by
 unfold goVal2 goVal
 cases f <;> rfl
theorem br2_eq (c:IV) (x y:Option ρ):br2 c x y=br c x y:=by
 unfold br2 br
 cases c with
 | d x=>cases x with
  | bool t=>cases t <;> rfl
  | _=>rfl
 | _=>rfl
theorem brN2_eq (c:IV) (x y z:Option ρ):brN2 c x y z=brN c x y z:=by
 unfold brN2 brN
 cases c with
 | d x=>cases x with
  | bool t=>cases t <;> rfl
  | _=>rfl
 | _=>rfl
theorem opK2_eq (o:Oper) (e:Env) (H:Hp) (kv kp:IV→Hp→Option ρ):opK2 C o e H kv kp=opK C o e H kv kp:=by
 obtain⟨dst,op,ty,ps,af,gd⟩:=o
 unfold opK2 opK
 simp only [lift2_eq,liftH2_eq,liftU2_eq,goCall2_eq,goVal2_eq]
 cases op with
 | convert a b x=>
  simp only
  generalize C.P.underlying a=ua
  generalize C.P.underlying b=ub
  rcases ua with _ | ua
  ·rfl
  rcases ub with _ | ub
  ·cases ua <;> rfl
  cases ua with
  | string=>
   cases ub with
   | slice el=>
    simp only
    generalize C.P.underlying el=ue
    generalize sizeT C.P el=se
    rcases ue with _ | ue
    ·rfl
    cases ue with
    | int k=>
     rcases se with _ | _ | _ | se <;> cases k <;> rfl
    | _=>rfl
   | _=>rfl
  | slice el=>
   cases ub with
   | string=>
    simp only
    generalize C.P.underlying el=ue
    rcases ue with _ | ue
    ·rfl
    cases ue with
    | int k=>cases k <;> rfl
    | _=>rfl
   | _=>rfl
  | int k=>cases ub <;> rfl
  | _=>cases ub <;> rfl
 | makeInterface t x=>
  simp only
  generalize C.P.underlying t=ut
  rcases ut with _ | ut
  ·rfl
  cases ut <;> rfl
 | makeFunc f a b=>cases f <;> rfl
 | indexAddr t x i=>
  simp only
  generalize iIndexAddr C.P t (ev e x) (ev e i)=q
  cases q <;> rfl
 | panic x=>
  simp only
  generalize ev e x=q
  cases q <;> rfl
 | call c=>
  simp only
  generalize c.callee=q
  generalize c.args.toList=l
  cases q with
  | value v=>cases v <;> rfl
  | builtin b=>
   cases b <;> try rfl
   all_goals
    rcases l with _ | ⟨x1,_ | ⟨x2,_ | ⟨x3,_ | ⟨x4,l⟩⟩⟩⟩ <;> rfl
  | invoke r m=>rfl
 | _=>rfl
theorem fits2_eq (D:Option Bool) (o:Oper) (e:Env) (x:Option ρ):fits2 C D o e x=fits C D o e x:=by
 unfold fits2 fits
 cases D with
 | none=>rfl
 | some b=>
  simp only
  cases o.op with
  | call c=>
   simp only
   cases c.callee with
   | value f=>
    cases f with
    | func f=>
     simp only [sel_eq,fitsL]
     cases C.T.raw f <;> simp
    | _=>rfl
   | _=>rfl
  | _=>rfl
theorem pan2_eq (D:Option Bool) (os:List Oper) (e:Env) (k:Ex→Env→Hp→Option ρ):pan2 D os e k=pan D os e k:=by
 funext v H
 unfold pan2 pan
 cases D with
 | none=>rfl
 | some b=>cases os <;> cases b <;> rfl
theorem opsK2_eq (D:Option Bool) (ops:Array Oper) (k:Ex→Env→Hp→Option ρ):∀ (os:List Oper) (e:Env) (H:Hp),opsK2 C D ops os e H k=opsK C D ops os e H k:=by
 intro os
 induction os with
 | nil=>intro e H;rfl
 | cons o os ih=>
  intro e H
  unfold opsK2 opsK
  cases o.guard with
  | none=>simp only [fits2_eq,opK2_eq,pan2_eq,ih]
  | some p=>
   obtain⟨j,want⟩:=p
   simp only
   cases (ops[j]?).bind (·.dst) with
   | none=>rfl
   | some d=>
    simp only [fits2_eq,opK2_eq,pan2_eq,brN2_eq,sel_eq,ih]
    cases want <;> simp
theorem exK2_eq (l:List Nat) (c:Code):∀ {ρ:Type} (e:Env) (H:Hp) (k:Ex→Env→Hp→Option ρ),exK2 C l c e H k=exK C l c e H k:=by
 induction c with
 | skip=>intro ρ e H k;rfl
 | region id ops draw=>
  intro ρ e H k
  unfold exK2 exK
  cases draw with
  | false=>exact opsK2_eq C none ops k _ e H
  | true=>
   simp only [if_true]
   cases hd:drawOK C ops with
   | true=>exact opsK2_eq C _ ops k _ e H
   | false=>rfl
 | seq a b iha ihb=>
  intro ρ e H k
  unfold exK2 exK
  rw [iha]
  congr 1
  funext x e H
  cases x with
  | nor=>exact ihb e H k
  | _=>rfl
 | cond c a b iha ihb=>intro ρ e H k;unfold exK2 exK;rw [iha,ihb,br2_eq]
 | block id b ih=>
  intro ρ e H k
  unfold exK2 exK
  rw [ih]
  congr 1
 | loop b ih=>
  intro ρ e H k
  unfold exK2 exK
  simp only [ih]
  congr 2
 | scope b ih=>intro ρ e H k;unfold exK2 exK;rw [ih]
 | _=>intro ρ e H k;rfl
end same
noncomputable def bodyK2 (P:Program) (T:Tab) (call:Oracle) (lim ro f:Nat) (args:List IV) (H:Hp):Res:=
 match P.funcs[f]? with
 | some fn=>match fn.body with
  | some c=>exK2 ⟨P,T,call,limOf (T.mode f) lim H,roOf (T.mode f) ro H⟩ (T.live f) c (args++List.replicate (fn.ntmps - args.length) .un) H
    (endK P fn (T.mode f) H (roOf (T.mode f) ro H))
  | none=>none
 | none=>none
theorem bodyK2_eq (P:Program) (T:Tab) (call:Oracle) (lim ro f:Nat) (args:List IV) (H:Hp):bodyK2 P T call lim ro f args H=bodyK P T call lim ro f args H:=by
 unfold bodyK2 bodyK
 cases P.funcs[f]? with
 | none=>rfl
 | some fn=>
  simp only
  cases fn.body with
  | none=>rfl
  | some c=>exact exK2_eq _ _ c _ _ _
def upE (e:Env) (l:List (Nat×IV)):Env:=go l 0 e
where
 go:List (Nat×IV)→Nat→Env→Env
  | _,_,[]=>[]
  | [],_,e=>e
  | (j,v)::l,i,x::e=>match Nat.beq i j with
   | true=>v::go l (i+1) e
   | false=>x::go ((j,v)::l) (i+1) e
abbrev KR:=Ex→Env→Hp→Res
abbrev OS:=Option ((Env×Hp) ⊕ (Ex×Env×Hp))
theorem oG {ρ:Type} {C:Ctx} {D:Option Bool} {ops:Array Oper} (n:Nat) {os:List Oper} {e:Env} {H:Hp} {k:Ex→Env→Hp→Option ρ}:opsK2 C D ops os e H k=opsN C D ops n (opsK2 C D ops) os e H k:=(opsN_self C D ops n os e H k).symm
end Go.Tg
namespace Go.Tg
variable [Globs]
def setAll (σ:Nat→IV):List (Option Nat×Nat)→Env→Env
 | [],e=>e
 | (some t,i)::l,e=>setAll σ l (e.set t (σ i))
 | (none,_)::l,e=>setAll σ l e
abbrev dstsI (ops:Array Oper):List (Option Nat×Nat):=(ops.toList.map λo=>(o.dst:Option Nat)).zipIdx
abbrev fullE (ops:Array Oper) (e0:Env) (σ:Nat→IV):Env:=setAll σ (dstsI ops) e0
def nodupN:List Nat→Bool
 | []=>true
 | x::xs=>!xs.contains x && nodupN xs
def sOK (ops:Array Oper) (n:Nat):Bool:=
 edgesOK ops.toList.zipIdx (bsOf ops) &&
 (ops.toList.zipIdx.all λp=>(match p.1.dst with | some d=>decide (d<n) | none=>true) &&
  (p.1.looksAt ops).all (λt=>ops.toList.zipIdx.all λq=>q.1.dst != some t || ahead ops p.2 q.2)) &&
 nodupN (dsts ops)
omit [Globs]
theorem nodupN_ok:∀ (l:List Nat),nodupN l=true→l.Nodup:=by
 intro l
 induction l with
 | nil=>intro _;exact List.nodup_nil
 | cons x xs ih=>
  intro h
  simp only [nodupN,Bool.and_eq_true,Bool.not_eq_true',List.contains_eq_mem,decide_eq_false_iff_not] at h
  exact List.nodup_cons.2 ⟨h.1,ih h.2⟩
theorem setAll_length (σ:Nat→IV):∀ (l:List (Option Nat×Nat)) (e:Env),(setAll σ l e).length=e.length:=by
 intro l
 induction l with
 | nil=>intro e;rfl
 | cons p l ih=>
  intro e
  obtain⟨a,i⟩:=p
  cases a with
  | none=>exact ih e
  | some t=>exact (ih _).trans (by simp)
theorem setAll_other (σ:Nat→IV):∀ (l:List (Option Nat×Nat)) (e:Env) (t:Nat),(∀ i,(some t,i) ∉ l)→(setAll σ l e).getD t .un=e.getD t .un:=by
 intro l
 induction l with
 | nil=>intro e t _;rfl
 | cons p l ih=>
  intro e t h
  obtain⟨a,i⟩:=p
  cases a with
  | none=>exact ih e t λj hj=>h j (List.mem_cons_of_mem _ hj)
  | some u=>
   have hne:u≠t:=λe=>h i (by rw [e];exact List.mem_cons_self ..)
   refine (ih _ t λj hj=>h j (List.mem_cons_of_mem _ hj)).trans ?_
   simp only [List.getD_eq_getElem?_getD]
   rw [List.getElem?_set_ne hne]
theorem setAll_at (σ:Nat→IV):∀ (l:List (Option Nat×Nat)) (e:Env) (t i:Nat),(some t,i) ∈ l→(l.filterMap (·.1)).Nodup→t<e.length→(setAll σ l e).getD t .un=σ i:=by
 intro l
 induction l with
 | nil=>intro e t i h;cases h
 | cons p l ih=>
  intro e t i h hn ht
  obtain⟨a,j⟩:=p
  cases a with
  | none=>
   rcases List.mem_cons.1 h with h | h
   ·cases h
   ·exact ih e t i h (by simpa using hn) ht
  | some u=>
   have hn':u ∉ l.filterMap (·.1)∧(l.filterMap (·.1)).Nodup:=by simpa using hn
   rcases List.mem_cons.1 h with h | h
   ·cases h
    have hno:∀ k,(some t,k) ∉ l:=λk hk=>hn'.1 (List.mem_filterMap.2 ⟨(some t,k),hk,rfl⟩)
    refine (setAll_other σ l _ t hno).trans ?_
    simp [List.getD_eq_getElem?_getD,ht]
   ·exact ih _ t i h hn'.2 (by simpa using ht)
theorem dstsI_mem {ops:Array Oper} {t i:Nat}:(some t,i) ∈ dstsI ops↔∃ o,ops[i]? = some o∧o.dst=some t:=by
 unfold dstsI
 rw [List.mem_zipIdx_iff_getElem?]
 simp only [List.getElem?_map,Option.map_eq_some_iff,Array.getElem?_toList]
theorem dstsI_fm (ops:Array Oper):(dstsI ops).filterMap (·.1)=dsts ops:=by
 unfold dstsI dsts
 have key:∀ (l:List Oper) (n:Nat),((l.map λo=>(o.dst:Option Nat)).zipIdx n).filterMap (·.1)=l.filterMap (·.dst):=by
  intro l
  induction l with
  | nil=>intro n;rfl
  | cons o l ih=>
   intro n
   simp only [List.map_cons,List.zipIdx_cons,List.filterMap_cons]
   cases o.dst with
   | none=>exact ih _
   | some t=>simp only [List.cons.injEq,true_and];exact ih _
 exact key ops.toList 0
theorem upd_listed {listed:Array Bool} {i:Nat} (hi:i<listed.size) (j:Nat):(listed.setIfInBounds i true).getD j false=(decide (j=i) || listed.getD j false):=by
 simp only [Array.getD_eq_getD_getElem?,Array.getElem?_setIfInBounds]
 by_cases h:j=i
 ·subst h;simp [hi]
 ·rw [if_neg (λe=>h e.symm)];simp [h]
variable [Globs]
section
variable {C:Ctx} {ops:Array Oper} {ρ:Type} {k:Ex→Env→Hp→Option ρ} {res:ρ} {e0:Env} {H0:Hp}
theorem sqK_inv (hs:sOK ops e0.length=true) (R:(Nat→Bool)→(Nat→IV)→Hp→Prop) (σ0:Nat→IV) (h0:R (λ_=>false) σ0 H0)
  (hstep:∀ l σ G i o,R l σ G→ops[i]? = some o→l i=false→(∀ j,ahead ops i j=true→l j=true)→(∀ j,l j=true→ahead ops j i=false) →
   ∃ v G',valO C ops o (fullE ops e0 σ) G=some (v,G')∧R (λj=>decide (j=i) || l j) (λj=>if j=i then v else σ j) G')
  (hend:∀ l σ G,R l σ G→(∀ i,i<ops.size→l i=true)→k .nor (fullE ops e0 σ) G=some res):sqK C ops e0 H0 k=some res:=by
 unfold sOK at hs
 simp only [Bool.and_eq_true] at hs
 obtain⟨⟨hs1,hs2⟩,hs3⟩:=hs
 have hle:=edges_rise hs1
 have hnd:((dstsI ops).filterMap (·.1)).Nodup:=by rw [dstsI_fm];exact nodupN_ok _ hs3
 have hops:∀ (i:Nat) (o:Oper),ops[i]? = some o→(∀ d,o.dst=some d→d<e0.length)∧(∀ t ∈ o.looksAt ops,∀ (j:Nat) (q:Oper),ops[j]? = some q→q.dst=some t→ahead ops i j=true):=by
  intro i o ho
  rw [List.all_eq_true] at hs2
  have:=hs2 (o,i) (List.mem_zipIdx_iff_getElem?.2 (by simpa using ho))
  simp only [Bool.and_eq_true] at this
  obtain⟨g1,g2⟩:=this
  refine⟨?_,?_⟩
  ·intro d hd;rw [hd] at g1;simpa using g1
  ·intro t ht j q hq hqd
   rw [List.all_eq_true] at g2
   have h6:=g2 t ht
   rw [List.all_eq_true] at h6
   have h7:=h6 (q,j) (List.mem_zipIdx_iff_getElem?.2 (by simpa using hq))
   simpa [hqd] using h7
 refine sqK_any hs1 ?_
 have main:∀ (fuel:Nat) (listed:Array Bool) (e:Env) (G:Hp) (σ:Nat→IV),(left ops listed).length≤fuel→Closed ops listed→R (λi=>listed.getD i false) σ G→e.length=e0.length →
   (∀ i o t,ops[i]? = some o→o.dst=some t→listed.getD i false=true→e.getD t .un=σ i)→(∀ t,(∀ i o,ops[i]? = some o→listed.getD i false=true→o.dst≠some t)→e.getD t .un=e0.getD t .un) →
   AnyR C ops k res listed e G:=by
  have fin:∀ (listed:Array Bool) (e:Env) (G:Hp) (σ:Nat→IV),left ops listed=[]→Region.ready .any ops listed=[]→Closed ops listed→R (λi=>listed.getD i false) σ G→e.length=e0.length →
    (∀ i o t,ops[i]? = some o→o.dst=some t→listed.getD i false=true→e.getD t .un=σ i)→(∀ t,(∀ i o,ops[i]? = some o→listed.getD i false=true→o.dst≠some t)→e.getD t .un=e0.getD t .un) →
    AnyR C ops k res listed e G:=by
   intro listed e G σ hl hr hc hR hlen hd hrest
   have hall:=listed_all hc hl
   have he:e=fullE ops e0 σ:=by
    apply List.ext_getElem?
    intro t
    have hl2:(fullE ops e0 σ).length=e.length:=(setAll_length σ _ _).trans hlen.symm
    by_cases ht:t<e.length
    ·have key:e.getD t .un=(fullE ops e0 σ).getD t .un:=by
      by_cases hex:∃ (j:Nat) (q:Oper),ops[j]? = some q∧q.dst=some t
      ·obtain⟨j,q,hq,hqt⟩:=hex
       have hj:j<ops.size:=by
        rcases Nat.lt_or_ge j ops.size with h | h
        ·exact h
        ·rw [Array.getElem?_eq_none h] at hq;cases hq
       rw [hd j q t hq hqt (hall j hj)]
       exact (setAll_at σ _ e0 t j (dstsI_mem.2 ⟨q,hq,hqt⟩) hnd (by omega)).symm
      ·have hno:∀ (j:Nat) (q:Oper),ops[j]? = some q→q.dst≠some t:=λj q hq hqt=>hex ⟨j,q,hq,hqt⟩
       rw [hrest t (λj q hq _=>hno j q hq)]
       refine (setAll_other σ _ e0 t λi hi=>?_).symm
       obtain⟨o,ho,ho2⟩:=dstsI_mem.1 hi
       exact hno i o ho ho2
     have h2:t<(fullE ops e0 σ).length:=by omega
     simp only [List.getD_eq_getElem?_getD] at key
     rw [List.getElem?_eq_getElem ht,List.getElem?_eq_getElem h2] at key ⊢
     simpa using key
    ·rw [List.getElem?_eq_none (by omega),List.getElem?_eq_none (by omega)]
   rw [he]
   exact .done hr (hend _ σ G hR hall)
  intro fuel
  induction fuel with
  | zero=>
   intro listed e G σ hf hc hR hlen hd hrest
   have hl:left ops listed=[]:=List.eq_nil_of_length_eq_zero (by omega)
   have hr:Region.ready .any ops listed=[]:=by
    cases hr:Region.ready .any ops listed with
    | nil=>rfl
    | cons i l=>
     exfalso
     obtain⟨o,ho,_,hun,_⟩:=ready_spec (i:=i) (ops:=ops) (listed:=listed) (by rw [hr];exact List.mem_cons_self ..)
     have:(o,i) ∈ left ops listed:=by
      unfold left
      rw [List.mem_filter]
      exact⟨List.mem_zipIdx_iff_getElem?.2 (by simpa using ho),by simp [hun]⟩
     rw [hl] at this;cases this
   exact fin listed e G σ hl hr hc hR hlen hd hrest
  | succ fuel ih=>
   intro listed e G σ hf hc hR hlen hd hrest
   by_cases hr:Region.ready .any ops listed=[]
   ·exact fin listed e G σ (ready_left hle hc hr) hr hc hR hlen hd hrest
   have one:∀ i o,i ∈ Region.ready .any ops listed→ops[i]? = some o→∃ v G',valO C ops o e G=some (v,G')∧R (λj=>(listed.setIfInBounds i true).getD j false) (λj=>if j=i then v else σ j) G':=by
    intro i o hi ho
    obtain⟨_,_,hisz,hun,_⟩:=ready_spec hi
    have hunf:listed.getD i false=false:=by
     cases hq:listed.getD i false with
     | false=>rfl
     | true=>exact absurd hq (unlisted hun)
    have htrue:∀ {j:Nat},j<ops.size→listed.getD j false=true→listed.getD j true=true:=by
     intro j hj h
     have hs:j<listed.size:=by rw [hc.1];exact hj
     simpa [Array.getD,hs] using h
    obtain⟨v,G',hv,hR'⟩:=hstep _ σ G i o hR ho hunf (λj hj=>ready_ahead hc hle hi hj) (λj hj=>by
     cases ha:ahead ops j i with
     | false=>rfl
     | true=>
      have hjs:j<ops.size:=by
       rcases Nat.lt_or_ge j ops.size with h | h
       ·exact h
       ·rw [← hc.1] at h
        simp [Array.getD,Nat.not_lt.2 h] at hj
      have:=hc.2 j hjs (htrue hjs hj) i ha
      rw [hunf] at this;cases this)
    refine⟨v,G',?_,?_⟩
    ·rw [← hv]
     refine valO_congr (λt ht=>?_) G
     by_cases hex:∃ (j:Nat) (q:Oper),ops[j]? = some q∧q.dst=some t
     ·obtain⟨j,q,hq,hqt⟩:=hex
      have hah:=(hops i o ho).2 t ht j q hq hqt
      rw [hd j q t hq hqt (ready_ahead hc hle hi hah)]
      exact (setAll_at σ _ e0 t j (dstsI_mem.2 ⟨q,hq,hqt⟩) hnd ((hops j q hq).1 t hqt)).symm
     ·have hno:∀ (j:Nat) (q:Oper),ops[j]? = some q→q.dst≠some t:=λj q hq hqt=>hex ⟨j,q,hq,hqt⟩
      rw [hrest t (λj q hq _=>hno j q hq)]
      refine (setAll_other σ _ e0 t λi hi=>?_).symm
      obtain⟨o,ho,ho2⟩:=dstsI_mem.1 hi
      exact hno i o ho ho2
    ·have hs:i<listed.size:=by rw [hc.1];exact hisz
     have:(λj=>(listed.setIfInBounds i true).getD j false)=λj=>decide (j=i) || listed.getD j false:=funext λj=>upd_listed hs j
     rw [this];exact hR'
   refine .step (λi=>((ops[i]?).bind λo=>valO C ops o e G).getD (.un,[])) hr (λi o hi ho=>?_) (λi o hi ho=>?_)
   ·obtain⟨v,G',hv,_⟩:=one i o hi ho
    rw [ho];simp [hv]
   ·obtain⟨v,G',hv,hR'⟩:=one i o hi ho
    obtain⟨_,_,hisz,hun,_⟩:=ready_spec hi
    obtain⟨pre,post,hl1,hl2⟩:=left_step hc.1 ho hun
    rw [ho]
    simp only [Option.bind_some,hv,Option.getD_some]
    have hs:i<listed.size:=by rw [hc.1];exact hisz
    refine ih _ _ _ (λj=>if j=i then v else σ j) (by rw [hl2];rw [hl1] at hf;simp at hf ⊢;omega) (hc.list hle hi) hR' (by rw [← hlen];cases o.dst <;> simp [put]) ?_ ?_
    ·intro j q t hq hqt hl
     rw [upd_listed hs] at hl
     by_cases hji:j=i
     ·subst hji
      rw [ho] at hq;cases hq
      rw [hqt,getD_put_self (by rw [hlen];exact (hops j o ho).1 t hqt),if_pos rfl]
     ·rw [if_neg hji]
      have hne:∀ d,o.dst=some d→d≠t:=by
       intro d hdd e
       subst e
       have m1:(some d,i) ∈ dstsI ops:=dstsI_mem.2 ⟨o,ho,hdd⟩
       have m2:(some d,j) ∈ dstsI ops:=dstsI_mem.2 ⟨q,hq,hqt⟩
       have hlt:=(hops i o ho).1 d hdd
       have a1:=setAll_at (λn=>.ptr n 0) _ e0 d i m1 hnd hlt
       have a2:=setAll_at (λn=>.ptr n 0) _ e0 d j m2 hnd hlt
       rw [a1] at a2
       simp at a2;omega
      rw [getD_put hne]
      exact hd j q t hq hqt (by simpa [hji] using hl)
    ·intro t ht
     have hil:(listed.setIfInBounds i true).getD i false=true:=by rw [upd_listed hs];simp
     rw [getD_put (λd hd2 e2=>ht i o ho hil (by rw [hd2,e2]))]
     refine hrest t (λj q hq hl=>ht j q hq ?_)
     rw [upd_listed hs,hl];simp
 refine main ops.size _ e0 H0 σ0 (by rw [left_all];simp) ⟨by simp,λi hi h2=>by simp [Array.getD,hi] at h2⟩ ?_ rfl ?_ ?_
 ·have:(λi=>(Array.replicate ops.size false).getD i false)=λ_=>false:=by
   funext i
   simp only [Array.getD_eq_getD_getElem?,Array.getElem?_replicate]
   split <;> rfl
  rw [this];exact h0
 ·intro i o t ho _ h2
  have hi:i<ops.size:=by
   rcases Nat.lt_or_ge i ops.size with h | h
   ·exact h
   ·rw [Array.getElem?_eq_none h] at ho;cases ho
  simp [Array.getD,hi] at h2
 ·intro t _;rfl
end
abbrev val2 (C:Ctx) (o:Oper) (e:Env) (H:Hp):Option (IV×Hp):=
 match o.guard with
 | none=>fits2 C (some true) o e (opK2 C o e H (λv H=>some (v,H)) (λ_ _=>none))
 | some _=>none
theorem val2_ok {C:Ctx} {ops:Array Oper} {o:Oper} {e:Env} {H:Hp} {r:IV×Hp} (h:val2 C o e H=some r):valO C ops o e H=some r:=by
 unfold val2 at h
 unfold valO
 cases hg:o.guard with
 | some g=>rw [hg] at h;cases h
 | none=>
  rw [hg] at h
  have h:fits C (some true) o e (opK C o e H (λv H=>some (v,H)) (λ_ _=>none))=some r:=by rw [← fits2_eq,← opK2_eq];exact h
  obtain⟨h1,h2⟩:=fits_some h
  unfold opF
  rw [h2]
  rw [opK_eq] at h1
  rw [Option.bind_eq_some_iff] at h1 ⊢
  obtain⟨x,hx,h3⟩:=h1
  refine⟨x,hx,?_⟩
  obtain⟨a,b⟩:=x
  cases a with
  | val v=>exact h3
  | pan v=>cases h3
theorem val2_at {C:Ctx} {ops:Array Oper} {o:Oper} {e:Env} {H:Hp} {r:IV×Hp} {i:Nat} (h:((ops[i]?).bind λo=>val2 C o e H)=some r) (ho:ops[i]? = some o):valO C ops o e H=some r:=by
 rw [ho] at h
 exact val2_ok h
end Go.Tg
