/- What the functions that are met by laws of their own do: tables, names, growth. -/
import Derived.Test.YtnkobejhnphmhaaGreatDoorAh
import Derived.Lib.Bytealg
import Derived.Ground.SlgnProg
import Derived.Shelf.SlicesE.Clone
import Derived.Shelf.Strings.Repeat
import Derived.Shelf.Strings.OnBuilder
import Derived.Ground.NamesProg
import Derived.KernelRfl
import Derived.Test.YtnkobejhnphmhaaGreatDoorProg
import Derived.Test.YtnkobejhnphmhaaGreatDoorBf
set_option linter.all false
namespace Go.Tg
variable [Globs]
theorem sys_mix:P.follows .mixedOrders=true:=by kernel_rfl
theorem sys_name:∀ (f:Nat) (fn:Func),P.funcs[f]? = some fn→fn.name ≠ "runtime.NumGoroutine" := by
 have h:P.funcs.toList.all (λfn=>!(fn.name == "runtime.NumGoroutine"))=true:=by kernel_rfl
 intro f fn hf e
 have hm:fn ∈ P.funcs.toList:=by
  rw [Array.mem_toList_iff]
  exact Array.mem_of_getElem? hf
 have:=List.all_eq_true.1 h fn hm
 rw [e] at this
 simp at this
theorem says_countByte {P:Program} {f:Nat} (hE:Ext1 P f Extern.BytealgCount.count) {call:Oracle} {lim ro:Nat} {args:List IV} {H H':Hp} {out:Out} (h:pCountByte call lim ro args H=some (out,H')):Says P lim ro f args H out H':=by
 unfold pCountByte at h
 split at h
 ·simp only [Option.some.injEq,Prod.mk.injEq] at h
  obtain⟨rfl,rfl⟩:=h
  refine says_ext hE λF r w args' ha=>?_
  obtain⟨x',y',rfl,hx,hy⟩:=vs_two ha
  obtain⟨s,rfl,rfl⟩:=rel_str hx
  have:=rel_int hy
  subst this
  refine⟨_,Lib.run_countString s _ w,?_⟩
  have e:∀ (l:List UInt8) (c:UInt8),Lib.countByte l c=(l.filter (· == c)).length:=λl c=>by
   unfold Lib.countByte
   rw [List.count_eq_length_filter]
  rw [e]
  exact .d (.int _ _)
 ·cases h
theorem ext392:Ext1 P 392 Extern.BytealgIndexByte.indexByte:=Ext1.of (fn:=fnOf 392) (by kernel_rfl) (by kernel_rfl) (by kernel_rfl) (by kernel_rfl) (by kernel_rfl)
theorem ext463:Ext1 P 463 Extern.BytealgCount.count:=Ext1.of (fn:=fnOf 463) (by kernel_rfl) (by kernel_rfl) (by kernel_rfl) (by kernel_rfl) (by kernel_rfl)
theorem ext438:Ext1 P 438 Extern.AbiNoEscape.same:=Ext1.of (fn:=fnOf 438) (by kernel_rfl) (by kernel_rfl) (by kernel_rfl) (by kernel_rfl) (by kernel_rfl)
theorem grow_const {g:Prim} (h:∀ c c' lim ro args H,g c lim ro args H=g c' lim ro args H):∀ call cs,Grows call cs→∀ lim ro args H r,g call lim ro args H=some r→Ev λm=>g (cs m) lim ro args H=some r:=
 λcall cs _ lim ro args H r hr=>Ev.all λm=>by rw [h (cs m) call];exact hr
end Go.Tg
namespace Go.Proofs
open Go.Shelf
def Tryz.lays45_ren:Go.Shelf.Ren:=⟨λ| 41=>45 | n=>n,λ| 22=>26 | 23=>84 | 4=>4 | n=>n,λ| n=>n⟩
theorem Tryz.lays45:Go.Proofs.SlLaysE0.n41 Tryz.prog Tryz.lays45_ren:={
 mixed:=by kernel_rfl
 f41:=⟨Tryz.f45.name,by decide,Tryz.func45.trans (congrArg some (by kernel_rfl))⟩
 t4:=Tryz.underlying4
 a4:=Tryz.isAgg4
 z4:=Tryz.sizeOf4
 v4:=Tryz.zeroValue4
 t22:=Tryz.underlying26
 a22:=Tryz.isAgg26
 z22:=Tryz.sizeOf26
 v22:=Tryz.zeroValue26 }
def Tryz.lays444_ren:Go.Shelf.Ren:=⟨λ| 41=>444 | n=>n,λ| 22=>32 | 23=>110 | 4=>4 | n=>n,λ| n=>n⟩
theorem Tryz.lays444:Go.Proofs.SlLaysE0.n41 Tryz.prog Tryz.lays444_ren:={
 mixed:=by kernel_rfl
 f41:=⟨Tryz.f444.name,by decide,Tryz.func444.trans (congrArg some (by kernel_rfl))⟩
 t4:=Tryz.underlying4
 a4:=Tryz.isAgg4
 z4:=Tryz.sizeOf4
 v4:=Tryz.zeroValue4
 t22:=Tryz.underlying32
 a22:=Tryz.isAgg32
 z22:=Tryz.sizeOf32
 v22:=Tryz.zeroValue32 }
def Tryz.lays386_ren:Go.Shelf.Ren:=⟨λ| 105=>386 | 212=>425 | 99=>249 | 165=>406 | 166=>358 | 170=>426 | 169=>360 | 263=>447 | 264=>448 | 206=>324 | 240=>407 | 241=>437 | 276=>438 | 277=>464 | n=>n,λ| 9=>9 | 3=>3 | 4=>4 | 20=>20 | 0=>0 | 46=>232 | 109=>352 | 5=>5 | 72=>300 | 76=>303 | 51=>267 | 146=>365 | 53=>269 | 148=>367 | 70=>298 | 37=>113 | 75=>302 | 127=>332 | 164=>358 | 80=>106 | n=>n,λ| n=>n⟩
theorem Tryz.lays386:Go.Proofs.Lays.n105 Tryz.prog Tryz.lays386_ren:={
 mixed:=by kernel_rfl
 f99:=Tryz.func249.trans (congrArg some (by kernel_rfl))
 f105:=Tryz.func386.trans (congrArg some (by kernel_rfl))
 f165:=Tryz.func406.trans (congrArg some (by kernel_rfl))
 f166:=Tryz.func358.trans (congrArg some (by kernel_rfl))
 f169:=Tryz.func360.trans (congrArg some (by kernel_rfl))
 f170:=Tryz.func426.trans (congrArg some (by kernel_rfl))
 f206:=Tryz.func324.trans (congrArg some (by kernel_rfl))
 f212:=Tryz.func425.trans (congrArg some (by kernel_rfl))
 f240:=Tryz.func407.trans (congrArg some (by kernel_rfl))
 f241:=Tryz.func437.trans (congrArg some (by kernel_rfl))
 f263:=Tryz.func447.trans (congrArg some (by kernel_rfl))
 f264:=Tryz.func448.trans (congrArg some (by kernel_rfl))
 f276:=Tryz.func438.trans (congrArg some (by kernel_rfl))
 f277:=Tryz.func464.trans (congrArg some (by kernel_rfl))
 t0:=Tryz.underlying0
 a0:=Tryz.isAgg0
 z0:=Tryz.sizeOf0
 v0:=Tryz.zeroValue0
 t3:=Tryz.underlying3
 a3:=Tryz.isAgg3
 z3:=Tryz.sizeOf3
 v3:=Tryz.zeroValue3
 t4:=Tryz.underlying4
 a4:=Tryz.isAgg4
 z4:=Tryz.sizeOf4
 v4:=Tryz.zeroValue4
 t5:=Tryz.underlying5
 a5:=Tryz.isAgg5
 z5:=Tryz.sizeOf5
 v5:=Tryz.zeroValue5
 t9:=Tryz.underlying9
 a9:=Tryz.isAgg9
 z9:=Tryz.sizeOf9
 v9:=Tryz.zeroValue9
 t20:=Tryz.underlying20
 a20:=Tryz.isAgg20
 z20:=Tryz.sizeOf20
 v20:=Tryz.zeroValue20
 t37:=Tryz.underlying113
 a37:=Tryz.isAgg113
 z37:=Tryz.sizeOf113
 v37:=Tryz.zeroValue113
 t46:=Tryz.underlying232
 a46:=Tryz.isAgg232
 z46:=Tryz.sizeOf232
 v46:=Tryz.zeroValue232
 t51:=Tryz.underlying267
 a51:=Tryz.isAgg267
 z51:=Tryz.sizeOf267
 v51:=Tryz.zeroValue267
 t53:=Tryz.underlying269
 a53:=Tryz.isAgg269
 z53:=Tryz.sizeOf269
 v53:=Tryz.zeroValue269
 t70:=Tryz.underlying298
 a70:=Tryz.isAgg298
 z70:=Tryz.sizeOf298
 v70:=Tryz.zeroValue298
 t72:=Tryz.underlying300
 a72:=Tryz.isAgg300
 z72:=Tryz.sizeOf300
 v72:=Tryz.zeroValue300
 t75:=Tryz.underlying302
 a75:=Tryz.isAgg302
 z75:=Tryz.sizeOf302
 v75:=Tryz.zeroValue302
 t76:=Tryz.underlying303
 a76:=Tryz.isAgg303
 z76:=Tryz.sizeOf303
 v76:=Tryz.zeroValue303
 t109:=Tryz.underlying352
 a109:=Tryz.isAgg352
 z109:=Tryz.sizeOf352
 v109:=Tryz.zeroValue352
 t127:=Tryz.underlying332
 a127:=Tryz.isAgg332
 z127:=Tryz.sizeOf332
 v127:=Tryz.zeroValue332
 t146:=Tryz.underlying365
 a146:=Tryz.isAgg365
 z146:=Tryz.sizeOf365
 v146:=Tryz.zeroValue365
 t148:=Tryz.underlying367
 a148:=Tryz.isAgg367
 z148:=Tryz.sizeOf367
 v148:=Tryz.zeroValue367
 t164:=Tryz.underlying358
 a164:=Tryz.isAgg358
 z164:=Tryz.sizeOf358
 v164:=Tryz.zeroValue358 }
def Tryz.lays356_ren:Go.Shelf.Ren:=⟨λ| 156=>356 | 165=>406 | 166=>358 | 169=>360 | 240=>407 | 241=>437 | 276=>438 | 277=>464 | n=>n,λ| 31=>31 | 9=>9 | 3=>3 | 4=>4 | 0=>0 | 20=>20 | 72=>300 | 76=>303 | 70=>298 | 37=>113 | 75=>302 | 127=>332 | 164=>358 | 5=>5 | 80=>106 | n=>n,λ| n=>n⟩
theorem Tryz.lays356:Go.Proofs.Lays.n156 Tryz.prog Tryz.lays356_ren:={
 mixed:=by kernel_rfl
 f156:=Tryz.func356.trans (congrArg some (by kernel_rfl))
 f165:=Tryz.func406.trans (congrArg some (by kernel_rfl))
 f166:=Tryz.func358.trans (congrArg some (by kernel_rfl))
 f169:=Tryz.func360.trans (congrArg some (by kernel_rfl))
 f240:=Tryz.func407.trans (congrArg some (by kernel_rfl))
 f241:=Tryz.func437.trans (congrArg some (by kernel_rfl))
 f276:=Tryz.func438.trans (congrArg some (by kernel_rfl))
 f277:=Tryz.func464.trans (congrArg some (by kernel_rfl))
 t0:=Tryz.underlying0
 a0:=Tryz.isAgg0
 z0:=Tryz.sizeOf0
 v0:=Tryz.zeroValue0
 t3:=Tryz.underlying3
 a3:=Tryz.isAgg3
 z3:=Tryz.sizeOf3
 v3:=Tryz.zeroValue3
 t4:=Tryz.underlying4
 a4:=Tryz.isAgg4
 z4:=Tryz.sizeOf4
 v4:=Tryz.zeroValue4
 t9:=Tryz.underlying9
 a9:=Tryz.isAgg9
 z9:=Tryz.sizeOf9
 v9:=Tryz.zeroValue9
 t20:=Tryz.underlying20
 a20:=Tryz.isAgg20
 z20:=Tryz.sizeOf20
 v20:=Tryz.zeroValue20
 t31:=Tryz.underlying31
 a31:=Tryz.isAgg31
 z31:=Tryz.sizeOf31
 v31:=Tryz.zeroValue31
 t37:=Tryz.underlying113
 a37:=Tryz.isAgg113
 z37:=Tryz.sizeOf113
 v37:=Tryz.zeroValue113
 t70:=Tryz.underlying298
 a70:=Tryz.isAgg298
 z70:=Tryz.sizeOf298
 v70:=Tryz.zeroValue298
 t72:=Tryz.underlying300
 a72:=Tryz.isAgg300
 z72:=Tryz.sizeOf300
 v72:=Tryz.zeroValue300
 t75:=Tryz.underlying302
 a75:=Tryz.isAgg302
 z75:=Tryz.sizeOf302
 v75:=Tryz.zeroValue302
 t76:=Tryz.underlying303
 a76:=Tryz.isAgg303
 z76:=Tryz.sizeOf303
 v76:=Tryz.zeroValue303
 t127:=Tryz.underlying332
 a127:=Tryz.isAgg332
 z127:=Tryz.sizeOf332
 v127:=Tryz.zeroValue332
 t164:=Tryz.underlying358
 a164:=Tryz.isAgg358
 z164:=Tryz.sizeOf358
 v164:=Tryz.zeroValue358 }
end Go.Proofs
namespace Go.Proofs
open Go.Shelf Go.RowKit Go.Lib
variable {P:Program} {ρ:Ren}
set_option maxHeartbeats 2000000 in
set_option maxRecDepth 100000 in
theorem cloneZero (L:SlLaysE0.n41 P ρ) (i0:TypeInfo) (z:Value) (size bytes:Nat) (hi:P.info? (ρ.t 23)=some i0) (hz0:i0.zero=some z) (hz1:i0.size=size) (hz2:i0.bytes=bytes) (hzs:z.cells.size=size) (hsz:0<size)
  (z23:∀ w,(Go.sizeOf (ρ.t 23)).run P w=.ok size w) (a:Addr) (c:Nat) (w:World) :
  Calls P (ρ.f 41) #[.slice (some a) 0 c] w λe w'=>∃ v',e=.returned v'∧w'.ownsRow w.heap.size (ρ.t 23) size v' 0 []∧v'≠.slice none 0 0∧Below w.heap.size w w':=by
 have mixed:=L.mixed;have t4:=L.t4;have a4:=L.a4;have z4:=L.z4;have v4:=L.v4;have t22:=L.t22;have a22:=L.a22;have z22:=L.z22;have v22:=L.v22
 have q22:∀ (w:World) (a:Option Addr) (n c n' c':Nat),(binOp .eql (ρ.t 22) (.slice a n c) (.slice none n' c')).run P w=.ok (.bool a.isNone) w:=λw a n c n' c'=>Lib.run_eql_slice_nil w _ _ a n c n' c' L.t22
 have u22:∀ w,Sem.run P (underlying (ρ.t 22)) w=.ok (TypeDesc.slice (ρ.t 23)) w:=run_underlying t22
 obtain⟨_,_,FG⟩:=L.f41
 go_enter FG,SlBodyN.n41_ntmps ρ
 go_wp2_with (at_builtin;refine wpList_append_own _ rfl _ _ (ρ.t 22) rfl w.heap.size (ρ.t 23) i0 z size bytes t22 hi hz0 hz1 hz2 hzs hsz _ _ _ rfl (World.ownsRow_made w #[] 0 (Nat.le_refl _) (Nat.zero_le _) (by simp)) a 0 c [] rfl (by simp) (by intro j u hj;simp at hj) (by intro u hu;cases hu) (by unfold maxLen;omega) (by omega) (by simp) ?_)
 intro v' w1 hown hgrow hnil
 go_wp2
 go_ret
 refine⟨v',rfl,by simpa using hown,?_,?_⟩
 ·first | exact hnil | (intro e;exact absurd (hnil.1 e).1 (by simp))
 ·exact ((Below.refl _ w).alloc (Nat.le_refl _) _).grown hgrow (by simp) (by intro k hk;simp [Value.ownBlock] at hk;omega)
end Go.Proofs
namespace Go.Proofs
open Go.Shelf Go.RowKit
theorem Tryz.extra386:Builder.Extra Tryz.prog Tryz.lays386_ren:={
 sizeBuilder:=by kernel_rfl
 liesBuilder:=by kernel_rfl
 t5:=Tryz.lays386.t5
 a5:=Tryz.lays386.a5
 z5:=Tryz.lays386.z5
 v5:=Tryz.lays386.v5
 infoByte:=by kernel_rfl
 cellsByte:=by kernel_rfl
 sizeByte:=by kernel_rfl
 neB5:=by decide }
theorem Tryz.repeat386 (s:ByteArray) (c:Nat) (w:World) (hc:c≤9223372036854775807) (hlen:s.size*c≤140737488355328) :
  Calls Tryz.prog 386 #[.string s,.int .i64 c] w λe w'=>e=.returned (.string ⟨(Lib.repeatL s.data.toList c).toArray⟩)∧Below w.heap.size w w':=
 Any.strings_Repeat Tryz.lays386 Tryz.extra386 s c w hc hlen
end Go.Proofs
namespace Go.Proofs
open Go.Shelf Go.RowKit
theorem Tryz.extra356:Builder.Extra Tryz.prog Tryz.lays356_ren:={
 sizeBuilder:=by kernel_rfl
 liesBuilder:=by kernel_rfl
 t5:=Tryz.lays386.t5
 a5:=Tryz.lays386.a5
 z5:=Tryz.lays386.z5
 v5:=Tryz.lays386.v5
 infoByte:=by kernel_rfl
 cellsByte:=by kernel_rfl
 sizeByte:=by kernel_rfl
 neB5:=by decide }
theorem Tryz.join356 (bk o c:Nat) (xs:List ByteArray) (sep:ByteArray) (w:World)
  (hcells:∀ (j:Nat) x,xs[j]? = some x→w.cell? ⟨bk,o+j,none⟩=some (.string x))
  (hbk:bk<w.heap.size) (hN:xs.length≤140737488355328) (hcap:xs.length≤c)
  (hlen:(Lib.join (xs.map (·.data.toList)) sep.data.toList).length≤140737488355328) :
  Calls Tryz.prog 356 #[.slice (some ⟨bk,o,none⟩) xs.length c,.string sep] w λe w'=>e=.returned (.string ⟨(Lib.join (xs.map (·.data.toList)) sep.data.toList).toArray⟩)∧Below w.heap.size w w':=
 Any.strings_Join Tryz.lays356 Tryz.extra356 bk o c xs sep w hcells hbk hN hcap hlen
theorem Tryz.join356n (a:Option Addr) (c:Nat) (sep:ByteArray) (w:World) :
  Calls Tryz.prog 356 #[.slice a 0 c,.string sep] w λe w'=>e=.returned (.string ⟨#[]⟩)∧w'=w:=Any.strings_Join_none Tryz.lays356 Tryz.extra356 a c sep w
end Go.Proofs
namespace Go.Tg
open Go.Proofs
variable [Globs]
theorem callable_of {f:Nat} {fn:Func} (h1:P.funcs[f]? = some fn) (h2:fn.body.isSome=true):Callable P f:=⟨fn,h1,h2,sys_name f fn h1⟩
theorem below_later {w w':World} (h:RowKit.Below w.heap.size w w'):Later w w':=⟨h.os,h.tape,h.output,h.size,h.block⟩
theorem says_calls {lim ro f:Nat} {args:List IV} {H:Hp} {v:IV} (hc:Callable P f)
  (h:∀ (F:Fz) (r:Rm) (w:World) (args':Array Value),(∀ b o v,F b o=some v→w.cell? ⟨b,o,none⟩=some v)→Vs F r H.length args args' →
   Calls P f args' w λe w'=>Later w w'∧∃ v',e=.returned v'∧VRel F r H.length v v'):Says P lim ro f args H (.val v) H:=by
 intro B W0 L F r w args' hw hL hlim hro ha
 refine .inl ⟨run_callFunc hc _,(h F r w args' hw.fz ha).mono ?_⟩
 rintro e w' ⟨hl,v',he,hv⟩
 exact⟨F,r,Ext.refl _ _ _ _,hw.later hl,v',he,hv⟩
theorem repeatL_flat (s:List UInt8):∀ c,Lib.repeatL s c=(List.replicate c s).flatten
 | 0=>rfl
 | c+1=>by rw [List.replicate_succ,List.flatten_cons,Lib.repeatL,repeatL_flat s c]
theorem says_repeat {call:Oracle} {lim ro:Nat} {args:List IV} {H H':Hp} {out:Out} (h:pRepeat call lim ro args H=some (out,H')):Says P lim ro 386 args H out H':=by
 unfold pRepeat at h
 split at h
 ·rename_i s n
  split at h
  ·rename_i hb
   simp only [Option.some.injEq,Prod.mk.injEq] at h
   obtain⟨rfl,rfl⟩:=h
   refine says_calls (callable_of (fn:=fnOf 386) (by kernel_rfl) (by kernel_rfl)) λF r w args' hF ha=>?_
   obtain⟨x',y',rfl,hx,hy⟩:=vs_two ha
   obtain⟨t,rfl,rfl⟩:=rel_str hx
   have:=rel_int hy
   subst this
   have hsz:t.size=t.data.toList.length:=(Array.length_toList).symm
   refine (Tryz.repeat386 t n w hb.2 (by rw [hsz];exact hb.1)).mono ?_
   rintro e w' ⟨rfl,hw⟩
   refine⟨below_later hw,_,rfl,?_⟩
   rw [repeatL_flat]
   exact .d (.str ⟨(List.replicate n t.data.toList).flatten.toArray⟩)
  ·cases h
 ·cases h
theorem join_joinL (sep:List UInt8):∀ l,Lib.join l sep=joinL sep l
 | []=>rfl
 | [x]=>Lib.join_one x sep
 | x::y::l=>by
  rw [joinL,← join_joinL sep (y::l),Lib.join_cons,Lib.join_cons,Lib.joinTail,Lib.joinTail]
  simp
theorem joinL_count (sep:List UInt8) (hs:sep.isEmpty=false):∀ l,l.length≤(joinL sep l).length+1
 | []=>by simp
 | [x]=>by simp
 | x::y::l=>by
  have:=joinL_count sep hs (y::l)
  have h1:0<sep.length:=by cases sep with | nil=>cases hs | cons a s=>simp
  rw [joinL]
  simp only [List.length_append,List.length_cons] at this ⊢
  omega
theorem strsOf_eq:∀ {els:List D} {l:List (List UInt8)},strsOf els=some l→els=l.map .str
 | [],l,h=>by cases h;rfl
 | .str s::els,l,h=>by
  rw [strsOf] at h
  cases hq:strsOf els with
  | none=>rw [hq] at h;cases h
  | some r=>
   rw [hq] at h
   cases h
   rw [List.map_cons,← strsOf_eq hq]
 | .bool _::_,_,h=>by cases h
 | .int _ _::_,_,h=>by cases h
 | .agg _::_,_,h=>by cases h
 | .lst _::_,_,h=>by cases h
theorem says_join {call:Oracle} {lim ro:Nat} {args:List IV} {H H':Hp} {out:Out} (h:pJoin call lim ro args H=some (out,H')):Says P lim ro 356 args H out H':=by
 unfold pJoin at h
 split at h
 ·rename_i els sep
  cases hq:strsOf els with
  | none=>rw [hq] at h;cases h
  | some l=>
   rw [hq,Option.bind_some] at h
   split at h
   ·rename_i hb
    simp only [Option.some.injEq,Prod.mk.injEq] at h
    obtain⟨rfl,rfl⟩:=h
    have:=strsOf_eq hq
    subst this
    refine says_calls (callable_of (fn:=fnOf 356) (by kernel_rfl) (by kernel_rfl)) λF r w args' hF ha=>?_
    obtain⟨x',y',rfl,hx,hy⟩:=vs_two ha
    obtain⟨t,rfl,rfl⟩:=rel_str hy
    cases hx with
    | d hx=>
    generalize hels:l.map D.str=els at hx
    cases hx with
    | nil a cap=>
     have:l=[]:=by cases l with | nil=>rfl | cons _ _=>cases hels
     subst this
     refine (Tryz.join356n a cap t w).mono ?_
     rintro e w' ⟨rfl,rfl⟩
     exact⟨Later.refl _,_,rfl,.d (.str ⟨#[]⟩)⟩
    | lst _ bl off cap sz c hcap hsz hf hd=>
     subst hels
     have hlen:(l.map D.str).length=l.length:=List.length_map _
     cases l with
     | nil=>
      refine (Tryz.join356n (some ⟨bl,off,none⟩) cap t w).mono ?_
      rintro e w' ⟨rfl,rfl⟩
      exact⟨Later.refl _,_,rfl,.d (.str ⟨#[]⟩)⟩
     | cons s0 l0=>
     have h1:sz=1:=by have:=hsz 0 (by simp);simpa [D.cells] using this.symm
     subst h1
     have hcell:∀ (j:Nat) x,((s0::l0).map λs=>(⟨s.toArray⟩:ByteArray))[j]? = some x→w.cell? ⟨bl,off+j,none⟩=some (.string x):=by
      intro j x hx
      have hj:j<(s0::l0).length:=by
       rcases Nat.lt_or_ge j (s0::l0).length with h | h
       ·exact h
       ·rw [List.getElem?_eq_none (by simpa using h)] at hx;cases hx
      have hj':j<((s0::l0).map D.str).length:=by rw [List.length_map];exact hj
      have e1:=hF _ _ _ (hf j 0 hj' (by omega))
      rw [Nat.mul_one,Nat.add_zero] at e1
      rw [e1]
      have e3:((s0::l0).map D.str)[j]=D.str (s0::l0)[j]:=List.getElem_map _
      have e2:=hd j hj' 0 (by rw [e3];exact Nat.one_pos)
      simp only [e3,D.cells,List.getElem_cons_zero] at e2
      rw [List.getElem?_map,List.getElem?_eq_getElem hj] at hx
      simp only [Option.map_some,Option.some.injEq] at hx
      subst hx
      generalize c j 0=v at e2 ⊢
      generalize (s0::l0)[j]=s at e2 ⊢
      cases e2
      rfl
     have hbk:bl<w.heap.size:=by
      have e1:=hcell 0 _ rfl
      exact cell_lt e1
     have em:((s0::l0).map λs=>(⟨s.toArray⟩:ByteArray)).map (·.data.toList)=s0::l0:=by
      rw [List.map_map]
      exact (List.map_congr_left (λs _=>rfl)).trans (List.map_id _)
     have hc:=joinL_count t.data.toList hb.2 (s0::l0)
     have key:=Tryz.join356 bl off cap ((s0::l0).map λs=>(⟨s.toArray⟩:ByteArray)) t w hcell hbk (by rw [List.length_map];omega) (by rw [List.length_map];rw [List.length_map] at hcap;exact hcap) (by rw [em,join_joinL];omega)
     rw [List.length_map,em,join_joinL] at key
     rw [List.length_map]
     refine key.mono ?_
     rintro e w' ⟨rfl,hw⟩
     exact⟨below_later hw,_,rfl,.d (.str ⟨(joinL t.data.toList (s0::l0)).toArray⟩)⟩
   ·cases h
 ·cases h
end Go.Tg
namespace Go.Tg
open Go.Proofs
variable [Globs]
end Go.Tg
namespace Go.Tg
open Go.Proofs
def z2:Value:=.agg #[.string ⟨#[]⟩,.string ⟨#[]⟩]
theorem info84:∃ i0,P.info? 84=some i0∧i0.zero=some z2∧i0.size=2∧i0.bytes=32:=by
 have h:(P.info? 84).map (λi=>(i.zero,i.size,i.bytes))=some (some z2,2,32):=by kernel_rfl
 cases hi:P.info? 84 with
 | none=>rw [hi] at h;cases h
 | some i=>
  rw [hi] at h
  simp only [Option.map_some,Option.some.injEq,Prod.mk.injEq] at h
  exact⟨i,rfl,h.1,h.2.1,h.2.2⟩
theorem info110:∃ i0,P.info? 110=some i0∧i0.zero=some z2∧i0.size=2∧i0.bytes=32:=by
 have h:(P.info? 110).map (λi=>(i.zero,i.size,i.bytes))=some (some z2,2,32):=by kernel_rfl
 cases hi:P.info? 110 with
 | none=>rw [hi] at h;cases h
 | some i=>
  rw [hi] at h
  simp only [Option.map_some,Option.some.injEq,Prod.mk.injEq] at h
  exact⟨i,rfl,h.1,h.2.1,h.2.2⟩
def CloneC (f E:Nat):Prop:=(∀ (b off n c:Nat) (news:List Value) (w:World),news.length=n*2→n≤67108864→(∀ j u,news[j]? = some u→w.cell? ⟨b,off+j,none⟩=some u)→(∀ u ∈ news,u.oneCell'=true) →
  Calls P f #[.slice (some ⟨b,off,none⟩) n c] w λe w'=>∃ v',e=.returned v'∧w'.ownsRow w.heap.size E 2 v' n news∧v'≠.slice none 0 0∧RowKit.Below w.heap.size w w') ∧
 (∀ (a:Addr) (c:Nat) (w:World),Calls P f #[.slice (some a) 0 c] w λe w'=>∃ v',e=.returned v'∧w'.ownsRow w.heap.size E 2 v' 0 []∧v'≠.slice none 0 0∧RowKit.Below w.heap.size w w') ∧
 ∀ (n c:Nat) (w:World),Calls P f #[.slice none n c] w λe w'=>e=.returned (.slice none 0 0)∧w'=w
theorem cloneC45:CloneC 45 84:=by
 obtain⟨i0,h1,h2,h3,h4⟩:=info84
 have hz:∀ w,(Go.sizeOf 84).run P w=.ok 2 w:=λw=>by kernel_rfl
 refine⟨λb off n c news w hl hn hc ho=>?_,λa c w=>?_,λn c w=>?_⟩
 ·exact AnyE.slices_Clone Tryz.lays45 i0 z2 2 32 h1 h2 h3 h4 rfl (by decide) hz b off n c news w hl (by unfold maxLen;omega) (by omega) hc ho
 ·exact cloneZero Tryz.lays45 i0 z2 2 32 h1 h2 h3 h4 rfl (by decide) hz a c w
 ·exact AnyE.slices_Clone_nil Tryz.lays45 n c w
theorem cloneC444:CloneC 444 110:=by
 obtain⟨i0,h1,h2,h3,h4⟩:=info110
 have hz:∀ w,(Go.sizeOf 110).run P w=.ok 2 w:=λw=>by kernel_rfl
 refine⟨λb off n c news w hl hn hc ho=>?_,λa c w=>?_,λn c w=>?_⟩
 ·exact AnyE.slices_Clone Tryz.lays444 i0 z2 2 32 h1 h2 h3 h4 rfl (by decide) hz b off n c news w hl (by unfold maxLen;omega) (by omega) hc ho
 ·exact cloneZero Tryz.lays444 i0 z2 2 32 h1 h2 h3 h4 rfl (by decide) hz a c w
 ·exact AnyE.slices_Clone_nil Tryz.lays444 n c w
end Go.Tg
