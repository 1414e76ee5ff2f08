/- The tables of the program: of each function its mode, whether its arguments come as they are, which slots live through a loop's head. By program. -/
import Derived.Test.YtnkobejhnphmhaaGreatDoorProg
import Derived.Test.YtnkobejhnphmhaaGreatDoorAg
set_option linter.all false
namespace Go.Tg
open Go.Proofs
noncomputable abbrev P:Program:=Tryz.prog
def pureM:Nat:=7198262070390208234900830857363718117810004229480107842481745606389732723619149371780911193218474602131696159097737763203267340936109208809347063483731761319373055
def keepM:Nat:=852718652940762374762638569663677369647381000244647878937327720266960692787527405594355604688362765003870961182434076589661089978612724726452742304831232
def rawM:Nat:=852718652941144936172143132346259253872795928784082245381983814763248756073110581658223232806583638154057410526401263882367984615571372434926161358755584
def liveL:List (Nat×List Nat):=[(3,[1,4,7,11]),(13,[2,4,5,6,7]),(14,[0,1,5,6]),(19,[0,1,4,5]),(32,[3,4,5]),(36,[0,3,4]),(41,[0,1,5,6]),(54,[0,2,5]),(55,[1,2,4,5]),(56,[1,2,3]),(57,[0,3,4,5]),(58,[0,3,4]),(74,[0]),(75,[0,1,4,5]),(76,[0,2,3]),(77,[0]),(79,[0,2,3,4,5]),(80,[0,2,3]),(82,[0]),(86,[0,3,5,9,10,11,26,27]),(98,[0,1,7,8]),(99,[0,1,4,5]),(102,[0]),(113,[0,1,2,9,10]),(119,[0,1,5,6,7]),(122,[0,1]),(125,[0,1,9,10]),(126,[0,1,9,10]),(179,[0,5]),(182,[3,4,11]),(186,[0,2,7,8,9]),(236,[0,1,2,3,8,9]),(242,[0,3,4,5,6,9,10,11,12]),(256,[0]),(276,[0,1,4,7,8]),(279,[0,3]),(281,[0,1,4,7,8]),(282,[0]),(285,[0,1,4,7,8]),(288,[3,4,14,15,16]),(289,[0,3,4]),(293,[0,1,2,6,7]),(294,[0,6,7,8,9,10]),(295,[0,1,6,7,8,9]),(297,[0,6,7]),(298,[0,1,2,6,7,8,9,10]),(300,[0,1,9,10]),(301,[0,1,10,11]),(304,[2,4,5,6,11,12,13]),(305,[5,6,11,12,13]),(307,[2,3,4,5]),(308,[0,1,4,12,13]),(309,[0,1,5,6,9,14,47,48,49]),(323,[0,1,4,7,8]),(326,[1,4,5,6,14,15]),(331,[0,1,5,6]),(334,[0,1,5,6]),(344,[0,1,5,6]),(346,[0,1,5]),(348,[0,1,4,6,8,45]),(355,[0,2,3]),(356,[0,1,5,8,39,40,41,63,64,65]),(363,[0,2,3,8]),(369,[3,9,10,11]),(374,[0,4,5]),(386,[7,8,9]),(396,[4,175]),(398,[0,2,3,4]),(401,[3,8,9]),(404,[0,1,2,3,9,10]),(408,[0,1,4,5,6,7,8,9,10]),(411,[2,4,5]),(419,[0,1,4,7,8,19,20]),(420,[0,1,4,7,8,15,16]),(423,[0,3,4,5,6,19,20]),(424,[0,3,5]),(432,[0,3]),(433,[0,2,3,4,7,8]),(435,[0,1,6,7]),(436,[0,1,4,5]),(439,[0,1,4,5,6,7,8,9,10]),(440,[0,3]),(445,[1,2,6,7,8]),(449,[2,3,6,7,8]),(459,[0,1,4]),(460,[0,1,3,4,10,11,12,13,14,15,16,17]),(461,[2,4]),(465,[0,4,5,6,7,8]),(467,[0,1,4,7,8]),(471,[0,3,5,6]),(475,[0,1,4]),(495,[0,1,4,7,8]),(503,[3,8,9,10]),(507,[1,5,10,11])]
def tab:Tab where
 mode f:=bif pureM.testBit f then .pure else bif keepM.testBit f then .keep else .mut
 raw f:=rawM.testBit f
 live f:=match liveL.lookup f with | some l=>l | none=>[]
noncomputable def cd (f:Nat) (p:List Nat):Code:=Code.part (bodyOf P f) p
noncomputable def rg (f:Nat) (p:List Nat):Array Oper:=Code.opsOf (cd f p)
noncomputable def dr (f:Nat) (p:List Nat) (n:Nat):List Oper:=(rg f p).toList.drop n
noncomputable def fnOf (f:Nat):Func:=funcOf P f
end Go.Tg
namespace Go.Tg
section words
variable {ρ:Type}
@[simp] theorem lnS_str (s:List UInt8):lnS (.d (.str s))=some (.d (.int .i64 s.length)):=rfl
@[simp] theorem lnV_lst (l:List D):lnV (.d (.lst l))=some (.d (.int .i64 l.length)):=rfl
@[simp] theorem lnV_vec (b sz off len:Nat):lnV (.vec b sz off len)=some (.d (.int .i64 len)):=rfl
@[simp] theorem lnV_vnil:lnV .vnil=some (.d (.int .i64 (0:Nat))):=rfl
@[simp] theorem br3_bool (b:Bool) (x y:Option ρ):br3 (.d (.bool b)) x y=if b=true then x else y:=by cases b <;> rfl
@[simp] theorem brN3_bool (b:Bool) (x y z:Option ρ):brN3 (.d (.bool b)) x y z=if b=true then x else y:=by cases b <;> rfl
@[simp] theorem brN3_no (x y z:Option ρ):brN3 .no x y z=z:=rfl
@[simp] theorem iBin_eql (t:TypeId) (k:IntKind) (a b:Int):iBin P .eql t (.d (.int k a)) (.d (.int k b))=some (.d (.bool (decide (a=b)))):=by
 show (if k=k then iInt .eql k a b else none)=_
 rw [if_pos rfl];simp only [iInt];exact congrArg (λb=>some (IV.d (D.bool b))) (Bool.eq_iff_iff.2 (by simp))
@[simp] theorem iBin_neq (t:TypeId) (k:IntKind) (a b:Int):iBin P .neq t (.d (.int k a)) (.d (.int k b))=some (.d (.bool (decide (a≠b)))):=by
 show (if k=k then iInt .neq k a b else none)=_
 rw [if_pos rfl];simp only [iInt];exact congrArg (λb=>some (IV.d (D.bool b))) (Bool.eq_iff_iff.2 (by simp))
@[simp] theorem iBin_lss (t:TypeId) (k:IntKind) (a b:Int):iBin P .lss t (.d (.int k a)) (.d (.int k b))=some (.d (.bool (decide (a<b)))):=by
 show (if k=k then iInt .lss k a b else none)=_
 rw [if_pos rfl];rfl
@[simp] theorem iBin_leq (t:TypeId) (k:IntKind) (a b:Int):iBin P .leq t (.d (.int k a)) (.d (.int k b))=some (.d (.bool (decide (a≤b)))):=by
 show (if k=k then iInt .leq k a b else none)=_
 rw [if_pos rfl];rfl
@[simp] theorem iBin_gtr (t:TypeId) (k:IntKind) (a b:Int):iBin P .gtr t (.d (.int k a)) (.d (.int k b))=some (.d (.bool (decide (b<a)))):=by
 show (if k=k then iInt .gtr k a b else none)=_
 rw [if_pos rfl];rfl
@[simp] theorem iBin_geq (t:TypeId) (k:IntKind) (a b:Int):iBin P .geq t (.d (.int k a)) (.d (.int k b))=some (.d (.bool (decide (b≤a)))):=by
 show (if k=k then iInt .geq k a b else none)=_
 rw [if_pos rfl];rfl
@[simp] theorem iBin_add (t:TypeId) (k:IntKind) (a b:Int):iBin P .add t (.d (.int k a)) (.d (.int k b))=some (.d (.int k (k.wrap (a+b)))):=by
 show (if k=k then iInt .add k a b else none)=_
 rw [if_pos rfl];rfl
@[simp] theorem iBin_sub (t:TypeId) (k:IntKind) (a b:Int):iBin P .sub t (.d (.int k a)) (.d (.int k b))=some (.d (.int k (k.wrap (a - b)))):=by
 show (if k=k then iInt .sub k a b else none)=_
 rw [if_pos rfl];rfl
@[simp] theorem iBin_seql (t:TypeId) (a b:List UInt8):iBin P .eql t (.d (.str a)) (.d (.str b))=some (.d (.bool (decide (a=b)))):=by
 show iStr .eql a b=_
 simp only [iStr];exact congrArg (λb=>some (IV.d (D.bool b))) (Bool.eq_iff_iff.2 (by simp))
@[simp] theorem iBin_sneq (t:TypeId) (a b:List UInt8):iBin P .neq t (.d (.str a)) (.d (.str b))=some (.d (.bool (decide (a≠b)))):=by
 show iStr .neq a b=_
 simp only [iStr];exact congrArg (λb=>some (IV.d (D.bool b))) (Bool.eq_iff_iff.2 (by simp))
theorem iBin_sadd (t:TypeId) (a b:List UInt8) (h:a.length+b.length<9223372036854775808):iBin P .add t (.d (.str a)) (.d (.str b))=some (.d (.str (a++b))):=by
 show iStr .add a b=_
 simp only [iStr];rw [if_neg];have:IntKind.i64.max=9223372036854775807:=by decide
 rw [this];omega
@[simp] theorem iUn_not (b:Bool):iUn .not (.d (.bool b))=some (.d (.bool (!b))):=rfl
@[simp] theorem liftR_val (v:IV) (H:Hp) (kv kp:IV→Hp→Option ρ):liftR (some (.val v,H)) kv kp=kv v H:=rfl
@[simp] theorem liftR_pan (v:IV) (H:Hp) (kv kp:IV→Hp→Option ρ):liftR (some (.pan v,H)) kv kp=kp v H:=rfl
@[simp] theorem iPick_bool (b:Bool) (x y:IV):iPick (.d (.bool b)) x y=some (if b=true then x else y):=rfl
@[simp] theorem goVal3_fn (C:Ctx) (f:Nat) (a b args:List IV) (H:Hp) (kv kp:IV→Hp→Option ρ):goVal3 C (.fn f a b) args H kv kp=liftR (C.call C.lim C.ro f (a++args++b) H) kv kp:=rfl
@[simp] theorem extract_tup (l:List IV) (i:Nat):iExtract (.tup l) i=l[i]?:=rfl
@[simp] theorem oneOf_one (v:IV):oneOf [v]=v:=rfl
@[simp] theorem fin_pure_d (H G:Hp) (ro:Nat) (x:D):fin .pure H ro [.d x] G=some (.val (.d x),H):=rfl
@[simp] theorem fin_pure_dd (H G:Hp) (ro:Nat) (x y:D):fin .pure H ro [.d x,.d y] G=some (.val (.tup [.d x,.d y]),H):=rfl
@[simp] theorem fin_pure_nil (H G:Hp) (ro:Nat):fin .pure H ro [] G=some (.val (.tup []),H):=rfl
@[simp] theorem fin_mut_d (H G:Hp) (ro:Nat) (x:D):fin .mut H ro [.d x] G=some (.val (.d x),G.take H.length):=rfl
@[simp] theorem fin_mut_dd (H G:Hp) (ro:Nat) (x y:D):fin .mut H ro [.d x,.d y] G=some (.val (.tup [.d x,.d y]),G.take H.length):=rfl
@[simp] theorem fin_mut_nil (H G:Hp) (ro:Nat):fin .mut H ro [] G=some (.val (.tup []),G.take H.length):=rfl
@[simp] theorem fin_keep (H G:Hp) (ro:Nat) (vs:List IV):fin .keep H ro vs G=some (.val (oneOf vs),G):=rfl
theorem ixS_nat {s:List UInt8} {n:Nat} {k:IntKind} (h:n<s.length):ixS (.d (.str s)) (.d (.int k n))=some (.d (.int .u8 (s[n]).toNat)):=by
 simp [ixS,h]
theorem slS_take {s:List UInt8} {n:Nat} {k:IntKind} (h:n≤s.length):slS (.d (.str s)) none (some (.d (.int k n)))=some (.d (.str (s.take n))):=by
 simp [slS,bnd,h]
theorem slS_drop {s:List UInt8} {n:Nat} {k:IntKind} (h:n≤s.length):slS (.d (.str s)) (some (.d (.int k n))) none=some (.d (.str (s.drop n))):=by
 simp [slS,bnd,h]
theorem wrap64 {n:Int} (h:-9223372036854775808≤n) (h':n<9223372036854775808):IntKind.i64.wrap n=n:=by
 unfold IntKind.wrap;simp [IntKind.signed,IntKind.bits];omega
theorem ld1_cells {H:Hp} {b off ty:Nat} {cs:List IV} (h:H[b]? = some (.cells ty cs)):ld1 (.ptr b off) H=cs[off]?:=by simp [ld1,h]
theorem ldN_cells {H:Hp} {b off ty n:Nat} {cs:List IV} (h:H[b]? = some (.cells ty cs)) (hn:off+n≤cs.length):ldN n (.ptr b off) H=some (.agg ((cs.drop off).take n)):=by simp [ldN,h,hn]
theorem st_cells {H:Hp} {b off ty n lim ro:Nat} {cs:List IV} {v:IV} (h:H[b]? = some (.cells ty cs)) (h1:v.cells.length=n) (h2:off+n≤cs.length) (h3:v.cells.all IV.one=true) (h4:ro≤b) (h5:lim≤b∨v.cells.all IV.plain=true) :
  st n lim ro (.ptr b off) v H=some (H.set b (.cells ty (wr cs off v.cells))):=by
 simp only [st,h];rw [if_pos ⟨h1,h2,h3,h4,h5⟩]
end words
variable [Globs]
def pRepeat:Prim:=λ_ _ _ args H=>
 match args with
 | [.d (.str s),.d (.int .i64 (.ofNat n))]=>if s.length*n≤140737488355328∧n≤9223372036854775807 then some (.val (.d (.str (List.flatten (List.replicate n s)))),H) else none
 | _=>none
def pClone:Prim:=λ_ _ _ args H=>
 match args with
 | [.d (.lst els)]=>if els.all (λe=>e.cells.length == 2)=true∧els.length<67108864 then some (.val (.d (.lst els)),H) else none
 | _=>none
def pCloneG (ty sz:Nat):Prim:=λ_ _ _ args H=>
 match args with
 | [.d (.lst [])]=>some (.val .emp,H)
 | [.d (.lst (e::els))]=>if (e::els).all (λe=>e.cells.length == sz)=true∧els.length<67108864 then some (.val (.vec H.length sz 0 (els.length+1)),H++[.cells (2*ty) (((e::els).flatMap D.cells).map .d)]) else none
 | _=>none
def strsOf:List D→Option (List (List UInt8))
 | []=>some []
 | .str s::l=>(strsOf l).map λr=>s::r
 | _::_=>none
def joinL (sep:List UInt8):List (List UInt8)→List UInt8
 | []=>[]
 | [x]=>x
 | x::y::l=>x++sep++joinL sep (y::l)
def pJoin:Prim:=λ_ _ _ args H=>
 match args with
 | [.d (.lst els),.d (.str sep)]=>(strsOf els).bind λl=>if (joinL sep l).length≤17179869184∧sep.isEmpty=false then some (.val (.d (.str (joinL sep l))),H) else none
 | _=>none
def pCatch:Prim:=λcall lim ro args H=>
 match args with
 | [.fn g fst cap]=>
  (call lim ro g (fst++cap) (H++[.cells 355 [.d (.int .i64 0),.d (.int .i64 0)],.cells 9 [.d (.bool false)]])).bind λr=>
   match r.2[H.length]?,r.2[H.length+1]? with
   | some (.cells 355 [.d (.int .i64 0),.d (.int .i64 0)]),some (.cells 9 [.d (.bool false)])=>
    match r.1 with
    | .val _=>some (.val (.tup [.agg [.d (.int .i64 0),.d (.int .i64 0)],.d (.bool false)]),(r.2.set H.length .dead).set (H.length+1) .dead)
    | .pan (.ifc 177 (.d (.agg [.int .i64 a,.int .i64 b])))=>some (.val (.tup [.agg [.d (.int .i64 a),.d (.int .i64 b)],.d (.bool true)]),(r.2.set H.length .dead).set (H.length+1) .dead)
    | _=>none
   | _,_=>none
 | _=>none
def kindPats:List (Nat×List IV):=
 [(500,[.d (.str [70,79,82,77]),.d (.str [65,73,70,70]),.d (.str [97,117,100,105,111,47,97,105,102,102])]),
  (501,[.d (.str [73,68,51]),.d (.str [97,117,100,105,111,47,109,112,101,103])]),
  (501,[.d (.str [79,103,103,83,0]),.d (.str [97,112,112,108,105,99,97,116,105,111,110,47,111,103,103])]),
  (501,[.d (.str [77,84,104,100,0,0,0,6]),.d (.str [97,117,100,105,111,47,109,105,100,105])]),
  (500,[.d (.str [82,73,70,70]),.d (.str [65,86,73,32]),.d (.str [118,105,100,101,111,47,97,118,105])]),
  (500,[.d (.str [82,73,70,70]),.d (.str [87,65,86,69]),.d (.str [97,117,100,105,111,47,119,97,118,101])])]
def kindGo (call:Oracle) (s:List UInt8):List (Nat×List IV)→Option (List UInt8)
 | []=>some []
 | (g,xs)::ps=>
  match call 0 0 g xs [] with
  | some (.val (.d (.agg [.str b,.str m,.str k,.str ty])),[])=>
   match call 0 0 325 [.d (.str s),.d (.agg [.str b,.str m,.str k,.str ty])] [] with
   | some (.val (.d (.bool false)),[])=>kindGo call s ps
   | _=>none
  | _=>none
def pKind:Prim:=λcall _ _ args H=>
 match args with
 | [.d (.str s)]=>(kindGo call s kindPats).map λt=>(.val (.d (.str t)),H)
 | _=>none
def prims:Nat→Option Prim
 | 392=>some pIndexByte
 | 463=>some pCountByte
 | 438=>some pSame
 | 386=>some pRepeat
 | 45=>some pClone
 | 444=>some (pCloneG 110 2)
 | 356=>some pJoin
 | 169=>some pCatch
 | 470=>some pKind
 | _=>none
noncomputable def sys:Sys:={ P:=P,T:=tab,prim:=prims }
theorem runP (hS:SysOK sys) {lim ro f:Nat} {args:List IV} {H:Hp} {out:Out} (hp:prims f=none) (hm:tab.mode f=.pure) (hc:closedVs args=true) (h:bodyK2 P tab (run sys) 0 0 f args []=some (out,[])):run sys lim ro f args H=some (out,H):=
 run_pure hS hp hm hc (by rw [← bodyK2_eq];exact h)
theorem runB (hS:SysOK sys) {lim ro f:Nat} {args:List IV} {H:Hp} {r:Out×Hp} (hp:prims f=none) (hq:tab.mode f=.pure→closedVs args=false) (h:bodyK2 P tab (run sys) lim ro f args H=some r):run sys lim ro f args H=some r:=
 run_body hS hp hq (by show bodyK P tab (run sys) lim ro f args H=some r;rw [← bodyK2_eq];exact h)
theorem runC (hS:SysOK sys) (n:Nat) {lim ro f:Nat} {args:List IV} {H:Hp} {out:Out} (hp:prims f=none) (hm:tab.mode f=.pure) (hc:closedVs args=true) (h:runN sys n 0 0 f args []=some (out,[])):run sys lim ro f args H=some (out,H):=
 run_closed hS n hp hm hc h
def memoAt:List (Nat×List IV×Out)→Nat→List IV→Option Out
 | [],_,_=>none
 | (g,as',out)::t,f,args=>match Nat.beq g f with
  | true=>match eqVs as' args with
   | true=>some out
   | false=>memoAt t f args
  | false=>memoAt t f args
def memo (t:List (Nat×List IV×Out)) (c:Oracle):Oracle:=λlim ro f args H=>match memoAt t f args with
 | some out=>some (out,H)
 | none=>c lim ro f args H
noncomputable def runM (S:Sys) (t:List (Nat×List IV×Out)):Nat→Oracle
 | 0=>λ_ _ _ _ _=>none
 | n+1=>memo t (step S n (runM S t n))
def Known (S:Sys) (t:List (Nat×List IV×Out)):Prop:=∀ f args out,(f,args,out) ∈ t→∀ lim ro H,run S lim ro f args H=some (out,H)
theorem Known.nil (S:Sys):Known S []:=λ_ _ _ h=>by cases h
theorem Known.cons {S:Sys} {t:List (Nat×List IV×Out)} {f:Nat} {args:List IV} {out:Out} (h:∀ lim ro H,run S lim ro f args H=some (out,H)) (ht:Known S t):Known S ((f,args,out)::t):=by
 intro f' args' out' hm
 rcases List.mem_cons.1 hm with h' | h'
 ·cases h';exact h
 ·exact ht _ _ _ h'
theorem memoAt_mem:∀ {t:List (Nat×List IV×Out)} {f:Nat} {args:List IV} {out:Out},memoAt t f args=some out→(f,args,out) ∈ t:=by
 intro t
 induction t with
 | nil=>intro f args out h;cases h
 | cons x t ih=>
  obtain⟨g,as',o⟩:=x
  intro f args out h
  rw [memoAt] at h
  cases hg:Nat.beq g f with
  | false=>rw [hg] at h;exact List.mem_cons_of_mem _ (ih h)
  | true=>
   rw [hg] at h
   simp only at h
   cases he:eqVs as' args with
   | false=>rw [he] at h;exact List.mem_cons_of_mem _ (ih h)
   | true=>
    rw [he] at h
    cases h
    rw [Nat.eq_of_beq_eq_true hg,eqVs_ok _ _ he]
    exact List.mem_cons_self
theorem step_run {S:Sys} (hS:SysOK S) {N:Nat} {c:Oracle} (hc:∀ lim ro f args H r,c lim ro f args H=some r→run S lim ro f args H=some r) {lim ro f:Nat} {args:List IV} {H:Hp} {r:Out×Hp} (h:step S N c lim ro f args H=some r):run S lim ro f args H=some r:=by
 unfold step at h
 cases hg:S.prim f with
 | some g=>
  rw [hg] at h
  exact run_prim hS hg (hS.grow f g hg c (λ_=>run S) (λ_ _ _ _ _ _ h=>Ev.all λ_=>hc _ _ _ _ _ _ h) _ _ _ _ _ h).const
 | none=>
  rw [hg] at h
  simp only at h
  split at h
  ·rename_i h1
   obtain⟨out,H'⟩:=r
   obtain⟨h2,rfl⟩:=apart_some.1 h
   exact run_pure hS hg h1.1 h1.2 (bodyF_bodyK (bodyF_mono (Nat.le_refl N) hc h2))
  ·rename_i h1
   refine run_body hS hg (λhm=>?_) (bodyF_bodyK (bodyF_mono (Nat.le_refl N) hc h))
   cases hq:closedVs args with
   | true=>exact absurd ⟨hm,hq⟩ h1
   | false=>rfl
theorem runM_run {S:Sys} (hS:SysOK S) {t:List (Nat×List IV×Out)} (ht:Known S t):∀ (n:Nat) {lim ro f:Nat} {args:List IV} {H:Hp} {r:Out×Hp},runM S t n lim ro f args H=some r→run S lim ro f args H=some r:=by
 intro n
 induction n with
 | zero=>intro lim ro f args H r h;cases h
 | succ n ih=>
  intro lim ro f args H r h
  change memo t (step S n (runM S t n)) lim ro f args H=_ at h
  unfold memo at h
  cases hm:memoAt t f args with
  | some out=>
   rw [hm] at h
   cases h
   exact ht _ _ _ (memoAt_mem hm) _ _ _
  | none=>rw [hm] at h;exact step_run hS (λ_ _ _ _ _ _ h=>ih h) h
theorem runMC (hS:SysOK sys) {t:List (Nat×List IV×Out)} (ht:Known sys t) (n:Nat) {f:Nat} {args:List IV} {out:Out} (hp:prims f=none) (hm:tab.mode f=.pure) (hc:closedVs args=true) (h:step sys n (runM sys t n) 0 0 f args []=some (out,[])):∀ lim ro H,run sys lim ro f args H=some (out,H):=by
 intro lim ro H
 have hp':sys.prim f=none:=hp
 unfold step at h
 rw [hp'] at h
 simp only at h
 have hm':sys.T.mode f=.pure:=hm
 rw [if_pos ⟨hm',hc⟩] at h
 obtain⟨h2,_⟩:=apart_some.1 h
 exact run_pure hS hp' hm' hc (bodyF_bodyK (bodyF_mono (Nat.le_refl n) (λ_ _ _ _ _ _ h=>runM_run hS ht n h) h2))
end Go.Tg
namespace Go.Tg
theorem bindC {α β:Type} {x x':Option α} (h:x=x') (f:α→Option β):x.bind f=x'.bind f:=by rw [h]
theorem liftRC {ρ:Type} {x x':Res} (h:x=x') (kv kp:IV→Hp→Option ρ):liftR x kv kp=liftR x' kv kp:=by rw [h]
theorem br3C {ρ:Type} {c c':IV} (h:c=c') (a b:Option ρ):br3 c a b=br3 c' a b:=by rw [h]
theorem brN3C {ρ:Type} {c c':IV} (h:c=c') (a b d:Option ρ):brN3 c a b d=brN3 c' a b d:=by rw [h]
theorem bsome {α β:Type} (a:α) (f:α→Option β):(some a).bind f=f a:=Eq.trans (Option.bind_some a f) rfl
theorem lval {ρ:Type} (v:IV) (H:Hp) (kv kp:IV→Hp→Option ρ):liftR (some (.val v,H)) kv kp=kv v H:=Eq.trans (liftR_val v H kv kp) rfl
theorem extup (l:List IV) (i:Nat):iExtract (.tup l) i=l[i]?:=Eq.trans (extract_tup l i) rfl
end Go.Tg
