/- group.Safe; what heads are judged to be, where nothing is guarded or a type is safe. -/
import Derived.Test.YtnkobejhnphmhaaGreatDoorCf
import Derived.Test.YtnkobejhnphmhaaGreatDoorCg
import Derived.Test.YtnkobejhnphmhaaGreatDoorBd
set_option linter.all false
namespace Go.Tg
variable [Globs] {lim ro:Nat} {H:Hp}
attribute [local congr] bindC liftRC br3C brN3C
theorem s285 (hS:SysOK sys) (strs:List (List UInt8)) (s:List UInt8) (hs:strs.length<2 ^ 34):run sys lim ro 285 [.d (.lst (strs.map .str)),.d (.str s)] H=some (.val (.d (.int .i64 (match strs.findIdx? (· == s) with | some i=>((i:Nat):Int) | none=>-1))),H):=by
 refine runP hS rfl (by kernel_rfl) rfl ?_
 rw [R285]
 have key:=loopW_find (step:=stepL (C285 (run sys) 0 0 []) [0,1,4,7,8] (cd 285 [1,0,1,0,0])) strs (· == s) (λi=>(E285 (.d (.lst (strs.map .str))) (.d (.str s)) (.d (.int .i64 0)) (.d (.int .i64 (strs.length:Nat))) (.d (.int .i64 (i:Nat))),([]:Hp)))
  (λi=>(.ret,E285 (.d (.lst (strs.map .str))) (.d (.str s)) (.d (.int .i64 (i:Nat))) (.d (.int .i64 (strs.length:Nat))) (.d (.int .i64 (i:Nat))),[])) (.exi 0,E285 (.d (.lst (strs.map .str))) (.d (.str s)) (.d (.int .i64 0)) (.d (.int .i64 (strs.length:Nat))) (.d (.int .i64 (strs.length:Nat))),[]) ?_ ?_ ?_
 ·simp only [lnV_lst,List.length_map,bsome]
  have key':loopW (stepL (C285 (run sys) 0 0 []) [0,1,4,7,8] (cd 285 [1,0,1,0,0])) (E285 (.d (.lst (strs.map .str))) (.d (.str s)) (.d (.int .i64 0)) (.d (.int .i64 (strs.length:Nat))) (.d (.int .i64 0)),([]:Hp))=_:=key
  rw [key']
  cases strs.findIdx? (· == s) with
  | none=>simp only [bsome,K285_0x0,fin_pure_d]
  | some i=>simp only [bsome,K285_0r,fin_pure_d]
 ·intro i hi hq
  have hq':decide (s=strs[i])=false:=by
   simp only [beq_eq_false_iff_ne] at hq
   simp only [decide_eq_false_iff_not];exact λe=>hq e.symm
  have e1:decide ((i:Int)<(strs.length:Int))=true:=by simpa using hi
  have e2:IntKind.i64.wrap ((i:Int)+1)=((i+1:Nat):Int):=by rw [wrap64 (by omega) (by omega)];simp
  rw [B285_0]
  simp only [iBin_lss,bsome,br3_bool,e1,if_true,ixA_strs hi,ld_lptr,List.getElem?_cons_zero,Option.map_some,iBin_seql,hq',Bool.false_eq_true,if_false,iBin_add,e2]
 ·intro i hi hq
  have hq':decide (s=strs[i])=true:=by
   simp only [beq_iff_eq] at hq
   simp [hq]
  have e1:decide ((i:Int)<(strs.length:Int))=true:=by simpa using hi
  rw [B285_0]
  simp only [iBin_lss,bsome,br3_bool,e1,if_true,ixA_strs hi,ld_lptr,List.getElem?_cons_zero,Option.map_some,iBin_seql,hq']
 ·have e1:decide ((strs.length:Int)<(strs.length:Int))=false:=by simp
  rw [B285_0]
  simp only [iBin_lss,bsome,br3_bool,e1,Bool.false_eq_true,if_false]
theorem s231 (hS:SysOK sys) (strs:List (List UInt8)) (s:List UInt8) (hs:strs.length<2 ^ 34):run sys lim ro 231 [.d (.lst (strs.map .str)),.d (.str s)] H=some (.val (.d (.bool (strs.contains s))),H):=by
 refine runP hS rfl (by kernel_rfl) rfl ?_
 rw [R231]
 simp only [s285 hS strs s hs,lval,iBin_geq,bsome,fin_pure_d]
 have e:=findIdx_contains strs s true false
 cases h:strs.findIdx? (· == s) with
 | none=>
  rw [h] at e
  simp only at e ⊢
  cases hc:strs.contains s with
  | true=>rw [hc] at e;simp at e
  | false=>rfl
 | some i=>
  rw [h] at e
  simp only at e ⊢
  cases hc:strs.contains s with
  | false=>rw [hc] at e;simp at e
  | true=>
   have:decide ((0:Int)≤((i:Nat):Int))=true:=by simp
   rw [this]
theorem s187 (hS:SysOK sys) (hG:GAsp) (t s kind subs:List UInt8) (ps:List D) (hl:subs.length<2 ^ 30) (hb:∀ b ∈ subs,b.toNat<128) (hf:(fields subs).length<2 ^ 34) :
  run sys lim ro 187 [.d (mimD t s ps),.d (.str kind),.d (.str subs)] H=some (.val (.d (.bool (decide (t=kind) && (fields subs).contains s))),H):=by
 refine runP hS rfl (by kernel_rfl) rfl ?_
 rw [R187]
 have k0:=g187_0 (run sys) 0 0 [] (.d (mimD t s ps)) kind subs (.ptr ([]:Hp).length 0,[]++[.cells 69 [.d (.str t),.d (.str s),.d (.lst ps)]])
 have k1:=g187_1 (run sys) 0 0 [] (.d (mimD t s ps)) kind subs (.ptr ([]:Hp).length 0,[]++[.cells 69 [.d (.str t),.d (.str s),.d (.lst ps)]])
 have k2:=g187_2 (run sys) 0 0 [] (.d (mimD t s ps)) kind subs (.ptr ([]:Hp).length 0,[]++[.cells 69 [.d (.str t),.d (.str s),.d (.lst ps)]])
 have r1:=λG=>s242 (lim:=([]:Hp).length) (ro:=([]:Hp).length) (H:=G) hS hG subs (by omega) hb
 have q1:∀ {ρ:Type} (y:Option ρ),fitsL false [(true,.d (.lst ((fields subs).map .str))),(false,.d (.str s))] y=y:=λy=>rfl
 have f1:∀ G,frzArgs ([]:Hp).length [(true,.d (.lst ((fields subs).map .str))),(false,.d (.str s))] G=([.d (.lst ((fields subs).map .str)),.d (.str s)],G):=λG=>rfl
 simp only [box_mim,bsome,k0,k1,k2,padd_ptr,Nat.zero_add,ld1_new,List.getElem?_cons_zero,List.getElem?_cons_succ,iBin_seql,brN3_bool,r1,lval,q1,f1,s231 hS (fields subs) s hf,fin_pure_d]
 cases decide (t=kind) <;> simp
theorem s188 (hS:SysOK sys) (t s e:List UInt8) (ps:List D) (h:t.length+s.length<2 ^ 34):run sys lim ro 188 [.d (mimD t s ps),.d (.str e)] H=some (.val (.d (.bool (decide (t++[47]++s=e)))),H):=by
 refine runP hS rfl (by kernel_rfl) rfl ?_
 rw [R188]
 have fz:∀ G,frzA ([]:Hp).length (.agg [.d (.str t),.d (.str s),.d (.lst ps)]) G=(.d (mimD t s ps),G):=λG=>rfl
 have hl:=ldN_new ([]:Hp) 69 3 [.d (.str t),.d (.str s),.d (.lst ps)] rfl
 simp only [box_mim,bsome,hl,frzArgs_1,fz,s195 hS t s ps h,lval,iBin_seql,fin_pure_d]
def appW:List UInt8:=[97,112,112,108,105,99,97,116,105,111,110]
def textW:List UInt8:=[116,101,120,116]
def ecmaW:List UInt8:=[101,99,109,97,115,99,114,105,112,116,32,106,97,118,97,115,99,114,105,112,116,32,120,45,101,99,109,97,115,99,114,105,112,116,32,120,45,106,97,118,97,115,99,114,105,112,116,32]
def olderW:List UInt8:=[106,97,118,97,115,99,114,105,112,116,49,46,48,32,106,97,118,97,115,99,114,105,112,116,49,46,49,32,106,97,118,97,115,99,114,105,112,116,49,46,50,32,106,97,118,97,115,99,114,105,112,116,49,46,51,32,106,97,118,97,115,99,114,105,112,116,49,46,52,32,106,97,118,97,115,99,114,105,112,116,49,46,53,32,106,115,99,114,105,112,116,32,108,105,118,101,115,99,114,105,112,116]
def cssW:List UInt8:=[99,115,115]
def svgW:List UInt8:=[105,109,97,103,101,47,115,118,103,43,120,109,108]
def scriptP (t s:List UInt8):Bool:=(decide (t=appW) && (fields ecmaW).contains s) || (decide (t=textW) && (fields (ecmaW++olderW)).contains s)
def safeP (t s:List UInt8):Bool:=scriptP t s || ((decide (t=textW) && (fields cssW).contains s) || decide (t++[47]++s=svgW))
set_option maxRecDepth 100000 in
theorem s193 (hS:SysOK sys) (hG:GAsp) (t s:List UInt8) (ps:List D):run sys lim ro 193 [.d (mimD t s ps)] H=some (.val (.d (.bool (scriptP t s))),H):=by
 refine runP hS rfl (by kernel_rfl) rfl ?_
 rw [R193]
 have k0:=g193_0 (run sys) 0 0 [] (.d (mimD t s ps)) (.ptr ([]:Hp).length 0,[]++[.cells 69 [.d (.str t),.d (.str s),.d (.lst ps)]])
 have hl:=ldN_new ([]:Hp) 69 3 [.d (.str t),.d (.str s),.d (.lst ps)] rfl
 have f1:∀ x y G,frzArgs ([]:Hp).length [(true,.agg [.d (.str t),.d (.str s),.d (.lst ps)]),(false,x),(false,y)] G=([.d (mimD t s ps),x,y],G):=λ_ _ _=>rfl
 have r1:=λG=>s187 (lim:=([]:Hp).length) (ro:=([]:Hp).length) (H:=G) hS hG t s appW ecmaW ps (by decide) (by decide) (by decide)
 have r2:=λG=>s187 (lim:=([]:Hp).length) (ro:=([]:Hp).length) (H:=G) hS hG t s textW (ecmaW++olderW) ps (by decide) (by decide) (by decide)
 unfold appW ecmaW at r1
 unfold textW ecmaW olderW at r2
 simp only [List.cons_append,List.nil_append] at r2
 simp only [box_mim,bsome,k0,hl,f1,r1,lval,brN3_bool,g193_1,g193_2,r2,fin_pure_d]
 unfold scriptP appW textW ecmaW olderW
 simp only [List.cons_append,List.nil_append]
 split
 ·rename_i h;rw [h];rfl
 ·rename_i h;simp only [Bool.not_eq_true] at h;rw [h];rfl
theorem s148m (hS:SysOK sys) (hG:GAsp) (t s:List UInt8) (ps:List D) (h:t.length+s.length<2 ^ 34) (m:IV) (hm:∀ G,iBox 34 m G=some (.ptr G.length 0,G++[.cells 69 [.d (.str t),.d (.str s),.d (.lst ps)]])) (hc:closedVs [m]=true) :
  run sys lim ro 148 [m] H=some (.val (.d (.bool (safeP t s))),H):=by
 refine runP hS rfl (by kernel_rfl) hc ?_
 rw [R148]
 have k0:=g148_0 (run sys) 0 0 [] m (.ptr ([]:Hp).length 0,[]++[.cells 69 [.d (.str t),.d (.str s),.d (.lst ps)]])
 have k2:=λh4 v2 v3 v5=>g148_2 (run sys) 0 0 [] m h4 (.ptr ([]:Hp).length 0,[]++[.cells 69 [.d (.str t),.d (.str s),.d (.lst ps)]]) v2 v3 v5
 have hl:=ldN_new ([]:Hp) 69 3 [.d (.str t),.d (.str s),.d (.lst ps)] rfl
 have f1:∀ x y G,frzArgs ([]:Hp).length [(true,.agg [.d (.str t),.d (.str s),.d (.lst ps)]),(false,x),(false,y)] G=([.d (mimD t s ps),x,y],G):=λ_ _ _=>rfl
 have f2:∀ x G,frzArgs ([]:Hp).length [(true,.agg [.d (.str t),.d (.str s),.d (.lst ps)]),(false,x)] G=([.d (mimD t s ps),x],G):=λ_ _=>rfl
 have f3:∀ G,frzArgs ([]:Hp).length [(true,.agg [.d (.str t),.d (.str s),.d (.lst ps)])] G=([.d (mimD t s ps)],G):=λ_=>rfl
 have r1:=λG=>s187 (lim:=([]:Hp).length) (ro:=([]:Hp).length) (H:=G) hS hG t s textW cssW ps (by decide) (by decide) (by decide)
 have r2:=λG=>s188 (lim:=([]:Hp).length) (ro:=([]:Hp).length) (H:=G) hS t s svgW ps h
 have r3:=λG=>s193 (lim:=([]:Hp).length) (ro:=([]:Hp).length) (H:=G) hS hG t s ps
 unfold textW cssW at r1
 unfold svgW at r2
 simp only [hm,bsome,k0,hl,f3,r3,lval,brN3_bool,g148_1,k2,f1,r1,g148_3,g148_4,f2,r2,fin_pure_d]
 unfold safeP textW cssW svgW
 split
 ·rename_i h;rw [h];rfl
 ·rename_i h;simp only [Bool.not_eq_true] at h;rw [h,Bool.false_or]
  split
  ·rename_i h;rw [h];rfl
  ·rename_i h;simp only [Bool.not_eq_true] at h;rw [h,Bool.false_or]
theorem ess_inj {t s a b:List UInt8} (ht:∀ c ∈ t,c≠47) (ha:∀ c ∈ a,c≠47):(t++[47]++s=a++[47]++b)↔(t=a∧s=b):=by
 constructor
 ·intro h
  induction t generalizing a with
  | nil=>
   cases a with
   | nil=>simp at h;exact⟨rfl,h⟩
   | cons x a=>simp at h;exact absurd h.1.symm (ha x (by simp))
  | cons y t ih=>
   cases a with
   | nil=>simp at h;exact absurd h.1 (ht y (by simp))
   | cons x a=>
    simp only [List.cons_append,List.cons.injEq] at h
    obtain⟨h1,h2⟩:=ih (λc hc=>ht c (by simp [hc])) (λc hc=>ha c (by simp [hc])) h.2
    exact⟨by rw [h.1,h1],h2⟩
 ·rintro⟨rfl,rfl⟩;rfl
theorem contains_map {t s a:List UInt8} (ht:∀ c ∈ t,c≠47) (ha:∀ c ∈ a,c≠47) (l:List (List UInt8)):(l.map λb=>a++[47]++b).contains (t++[47]++s)=(decide (t=a) && l.contains s):=by
 rw [Bool.eq_iff_iff]
 simp only [List.contains_iff_mem,List.mem_map,Bool.and_eq_true,decide_eq_true_eq]
 constructor
 ·rintro⟨b,hb,e⟩
  obtain⟨e1,e2⟩:=(ess_inj ht ha).1 e.symm
  exact⟨e1,by rw [e2];exact hb⟩
 ·rintro⟨e1,hs⟩
  exact⟨s,hs,by rw [e1]⟩
theorem safe_same {t s:List UInt8} (ht:∀ c ∈ t,c≠47):(scriptL.contains (t++[47]++s) || safeL.contains (t++[47]++s))=safeP t s:=by
 have e1:scriptL=((fields ecmaW).map λb=>appW++[47]++b)++((scriptL.drop 4).map (·.drop 5)).map (λb=>textW++[47]++b):=by decide
 have e2:safeL.contains (t++[47]++s)=((decide (t=textW) && (fields cssW).contains s) || decide (t++[47]++s=svgW)):=by
  have h1:safeL=((fields cssW).map λb=>textW++[47]++b)++[svgW]:=by decide
  rw [h1,List.contains_append,contains_map ht (by decide)]
  congr 1
  rw [Bool.eq_iff_iff]
  simp
 have e3:∀ x,((scriptL.drop 4).map (·.drop 5)).contains x=(fields (ecmaW++olderW)).contains x:=by
  intro x
  have hp:((scriptL.drop 4).map (·.drop 5)).isPerm (fields (ecmaW++olderW))=true:=by decide
  rw [Bool.eq_iff_iff]
  simp only [List.contains_iff_mem]
  exact (List.isPerm_iff.1 hp).mem_iff
 unfold safeP scriptP
 rw [e2]
 congr 1
 rw [e1,List.contains_append,contains_map ht (by decide),contains_map ht (by decide),e3]
end Go.Tg
namespace Go.Tg
variable [Globs] {lim ro:Nat} {H:Hp}
attribute [local congr] bindC liftRC br3C brN3C
def judgedD (v:Int) (r:List UInt8):D:=.agg [.int .i64 v,.str r,.int .i64 0,.bool false]
abbrev askV (url:List UInt8) (cr nc:Bool) (md:Int):IV:=.agg [.d (.str url),.d (.bool cr),.d (.bool nc),.d (.int .i64 md)]
def replyD (st:Int) (hs:List Hd):D:=.agg [.int .i64 st,.lst (hs.map hdD)]
theorem s147 (hS:SysOK sys) (hG:GAsp) (t s:List UInt8) (ps:List D) (has ns bug:Bool) (h:t.length+s.length<2 ^ 34) :
  run sys lim ro 147 [.d (saidD t s ps has ns bug),.fn 148 [] []] H=some (.val (.d (.bool (has && safeP t s))),H):=by
 refine runP hS rfl (by kernel_rfl) rfl ?_
 rw [R147]
 have hb:iBox 36 (.d (saidD t s ps has ns bug)) []=some (.ptr 0 0,[.cells 73 [.d (.str t),.d (.str s),.d (.lst ps),.d (.bool has),.d (.bool ns),.d (.bool bug)]]):=rfl
 have k0:=g147_0 (run sys) 0 0 [] (.d (saidD t s ps has ns bug)) (.fn 148 [] []) (.ptr 0 0,[.cells 73 [.d (.str t),.d (.str s),.d (.lst ps),.d (.bool has),.d (.bool ns),.d (.bool bug)]])
 have k1:=g147_1 (run sys) 0 0 [] (.d (saidD t s ps has ns bug)) (.fn 148 [] []) (.ptr 0 0,[.cells 73 [.d (.str t),.d (.str s),.d (.lst ps),.d (.bool has),.d (.bool ns),.d (.bool bug)]])
 have k2:=g147_2 (run sys) 0 0 [] (.d (saidD t s ps has ns bug)) (.fn 148 [] []) (.ptr 0 0,[.cells 73 [.d (.str t),.d (.str s),.d (.lst ps),.d (.bool has),.d (.bool ns),.d (.bool bug)]])
 have l1:ld1 (.ptr 0 3) [.cells 73 [.d (.str t),.d (.str s),.d (.lst ps),.d (.bool has),.d (.bool ns),.d (.bool bug)]]=some (.d (.bool has)):=rfl
 have l2:ldN 3 (.ptr 0 0) [.cells 73 [.d (.str t),.d (.str s),.d (.lst ps),.d (.bool has),.d (.bool ns),.d (.bool bug)]]=some (.agg [.d (.str t),.d (.str s),.d (.lst ps)]):=rfl
 have r1:=λG=>s148m (lim:=([]:Hp).length) (ro:=([]:Hp).length) (H:=G) hS hG t s ps h (.agg [.d (.str t),.d (.str s),.d (.lst ps)]) (λG=>rfl) rfl
 simp only [hb,bsome,k0,padd_ptr,Nat.zero_add,l1,brN3_bool,k1,k2,l2,goVal3_fn,List.nil_append,List.append_nil,r1,lval,fin_pure_d]
 cases has <;> rfl
theorem s145 (hS:SysOK sys) (url:List UInt8) (cr nc:Bool) (md:Int):run sys lim ro 145 [askV url cr nc md] H=some (.val (.d (.bool (cr && nc))),H):=by
 refine runP hS rfl (by kernel_rfl) rfl ?_
 rw [R145]
 have hb:iBox 25 (askV url cr nc md) []=some (.ptr 0 0,[.cells 51 [.d (.str url),.d (.bool cr),.d (.bool nc),.d (.int .i64 md)]]):=rfl
 have k0:=g145_0 (run sys) 0 0 [] (askV url cr nc md) (.ptr 0 0,[.cells 51 [.d (.str url),.d (.bool cr),.d (.bool nc),.d (.int .i64 md)]])
 have k1:=g145_1 (run sys) 0 0 [] (askV url cr nc md) (.ptr 0 0,[.cells 51 [.d (.str url),.d (.bool cr),.d (.bool nc),.d (.int .i64 md)]])
 have k2:=g145_2 (run sys) 0 0 [] (askV url cr nc md) (.ptr 0 0,[.cells 51 [.d (.str url),.d (.bool cr),.d (.bool nc),.d (.int .i64 md)]])
 have l1:ld1 (.ptr 0 1) [.cells 51 [.d (.str url),.d (.bool cr),.d (.bool nc),.d (.int .i64 md)]]=some (.d (.bool cr)):=rfl
 have l2:ld1 (.ptr 0 2) [.cells 51 [.d (.str url),.d (.bool cr),.d (.bool nc),.d (.int .i64 md)]]=some (.d (.bool nc)):=rfl
 simp only [hb,bsome,k0,padd_ptr,Nat.zero_add,l1,brN3_bool,k1,k2,l2,fin_pure_d]
 cases cr <;> rfl
theorem s142 (hS:SysOK sys) (url:List UInt8) (cr nc:Bool) (md:Int):run sys lim ro 142 [askV url cr nc md] H=some (.val (.d (.bool (cr && nc))),H):=by
 refine runP hS rfl (by kernel_rfl) rfl ?_
 rw [R142]
 have hb:iBox 25 (askV url cr nc md) []=some (.ptr 0 0,[.cells 51 [.d (.str url),.d (.bool cr),.d (.bool nc),.d (.int .i64 md)]]):=rfl
 have l1:ldN 4 (.ptr 0 0) [.cells 51 [.d (.str url),.d (.bool cr),.d (.bool nc),.d (.int .i64 md)]]=some (askV url cr nc md):=rfl
 simp only [hb,bsome,l1,s145 hS,lval,fin_pure_d]
theorem s146 (hS:SysOK sys) (v:Int) (r:List UInt8):run sys lim ro 146 [.d (.int .i64 v),.d (.str r)] H=some (.val (.d (judgedD v r)),H):=by
 refine runP hS rfl (by kernel_rfl) rfl ?_
 rw [R146]
 rfl
theorem s194 (hS:SysOK sys) (n:Int):run sys lim ro 194 [.d (.int .i64 n)] H=some (.val (.d (.bool (decide (n=206)))),H):=by
 refine runP hS rfl (by kernel_rfl) rfl ?_
 rw [R194]
 simp only [iBin_eql,bsome,fin_pure_d]
theorem s149 (hS:SysOK sys) (st:Int) (hs:List Hd):run sys lim ro 149 [.d (replyD st hs)] H=some (.val (.d (.bool (decide (st=206)))),H):=by
 refine runP hS rfl (by kernel_rfl) rfl ?_
 rw [R149]
 have hb:iBox 28 (.d (replyD st hs)) []=some (.ptr 0 0,[.cells 57 [.d (.int .i64 st),.d (.lst (hs.map hdD))]]):=rfl
 have l1:ld1 (.ptr 0 0) [.cells 57 [.d (.int .i64 st),.d (.lst (hs.map hdD))]]=some (.d (.int .i64 st)):=rfl
 simp only [hb,bsome,padd_ptr,Nat.zero_add,l1,s194 hS,lval,fin_pure_d]
theorem s141 (hS:SysOK sys) (st:Int) (hs:List Hd):run sys lim ro 141 [.d (replyD st hs)] H=some (.val (.d (.bool (decide (st=206)))),H):=by
 refine runP hS rfl (by kernel_rfl) rfl ?_
 rw [R141]
 have hb:iBox 28 (.d (replyD st hs)) []=some (.ptr 0 0,[.cells 57 [.d (.int .i64 st),.d (.lst (hs.map hdD))]]):=rfl
 have l1:ldN 2 (.ptr 0 0) [.cells 57 [.d (.int .i64 st),.d (.lst (hs.map hdD))]]=some (.agg [.d (.int .i64 st),.d (.lst (hs.map hdD))]):=rfl
 have f1:∀ G,frzArgs ([]:Hp).length [(true,.agg [.d (.int .i64 st),.d (.lst (hs.map hdD))])] G=([.d (replyD st hs)],G):=λ_=>rfl
 simp only [hb,bsome,l1,f1,s149 hS,lval,fin_pure_d]
def Free (lg cr nc:Bool) (hs:List Hd):Prop:=(cr && nc)=false∨(lg=false∧∃ r,typeOf hs=some r∧safeP r.1 r.2=true)
theorem typeOf_len {hs:List Hd} (h:Small hs) {r:Ty} (hr:typeOf hs=some r):r.1.length+r.2.length<2 ^ 23∧(∀ c ∈ r.1,c≠47):=by
 have hm:r ∈ allT (valsL (getV ctN hs)):=List.mem_of_getLast? hr
 unfold allT at hm
 obtain⟨hm,_⟩:=List.mem_filter.1 hm
 obtain⟨p,hp,he⟩:=List.mem_filterMap.1 hm
 have h1:=(valsL_len (getV ctN hs)).2 p hp
 have h2:=h.join ctN
 have h3:=parseT_len he
 exact⟨by omega,tok_no47 (parseT_tok he).1⟩
section
variable {url:List UInt8} {cr nc:Bool} {md stt:Int} {hs:List Hd}
theorem out_j {G:Hp} {b:Nat} {c:List IV} (h:G[b]? = some (.cells 145 c)) (hc:c.length=4) (v:Int) (r:List UInt8) (x:IV) (hx:x=.d (judgedD v r)∨x=.agg [.d (.int .i64 v),.d (.str r),.d (.int .i64 0),.d (.bool false)]) :
  ((st 4 ([]:Hp).length ([]:Hp).length (.ptr b 0) x G).bind λh14=>((ldN 4 (.ptr b 0) h14).bind λv15=>(some []:Option (List IV)).map λl16=>v15::l16).bind λl17=>fin .pure [] ([]:Hp).length l17 h14)=some (.val (.d (judgedD v r)),[]):=by
 have e1:st 4 ([]:Hp).length ([]:Hp).length (.ptr b 0) x G=some (G.set b (.cells 145 [.d (.int .i64 v),.d (.str r),.d (.int .i64 0),.d (.bool false)])):=by
  show st 4 0 0 (.ptr b 0) x G=_
  obtain⟨c1,c2,c3,c4,rfl⟩:∃ c1 c2 c3 c4,c=[c1,c2,c3,c4]:=by
   match c,hc with
   | [c1,c2,c3,c4],_=>exact⟨c1,c2,c3,c4,rfl⟩
  rcases hx with rfl | rfl
  ·rw [st_cells (n:=4) (off:=0) h rfl (by simp) rfl (Nat.zero_le _) (.inl (Nat.zero_le _))];rfl
  ·rw [st_cells (n:=4) (off:=0) h rfl (by simp) rfl (Nat.zero_le _) (.inl (Nat.zero_le _))];rfl
 have e2:ldN 4 (.ptr b 0) (G.set b (.cells 145 [.d (.int .i64 v),.d (.str r),.d (.int .i64 0),.d (.bool false)]))=some (.agg [.d (.int .i64 v),.d (.str r),.d (.int .i64 0),.d (.bool false)]):=by
  rw [ldN_cells (set_get h) (by simp)];rfl
 rw [e1,bsome,e2,bsome]
 simp only [Option.map_some,bsome]
 rfl
theorem s115 (hS:SysOK sys) (hG:GAsp) (h:Small hs) (kn:Bool) (hf:Free false cr nc hs):∃ r,run sys lim ro 115 [askV url cr nc md,.d (replyD stt hs),.d (.bool kn)] H=some (.val (.d (judgedD 1 r)),H):=by
 suffices h:∃ r,bodyK2 P tab (run sys) 0 0 115 [askV url cr nc md,.d (replyD stt hs),.d (.bool kn)] []=some (.val (.d (judgedD 1 r)),[]) by
  obtain⟨r,h⟩:=h
  exact⟨r,runP hS rfl (by kernel_rfl) rfl h⟩
 obtain⟨L,hL⟩:∃ L,L=bodyK2 P tab (run sys) 0 0 115 [askV url cr nc md,.d (replyD stt hs),.d (.bool kn)] []:=⟨_,rfl⟩
 rw [← hL]
 have hB:=hL.trans (R115 (run sys) 0 0 [] (askV url cr nc md) (.d (replyD stt hs)) kn)
 clear hL
 have b1:iBox 25 (askV url cr nc md) []=some (.ptr 0 0,[.cells 51 [.d (.str url),.d (.bool cr),.d (.bool nc),.d (.int .i64 md)]]):=rfl
 have b2:iBox 28 (.d (replyD stt hs)) [.cells 51 [.d (.str url),.d (.bool cr),.d (.bool nc),.d (.int .i64 md)]]=some (.ptr 1 0,[.cells 51 [.d (.str url),.d (.bool cr),.d (.bool nc),.d (.int .i64 md)],.cells 57 [.d (.int .i64 stt),.d (.lst (hs.map hdD))]]):=rfl
 have b3:([.cells 51 [.d (.str url),.d (.bool cr),.d (.bool nc),.d (.int .i64 md)],.cells 57 [.d (.int .i64 stt),.d (.lst (hs.map hdD))]]++[Blk.cells 145 [.d (.int .i64 0),.d (.str []),.d (.int .i64 0),.d (.bool false)]]:Hp)=[.cells 51 [.d (.str url),.d (.bool cr),.d (.bool nc),.d (.int .i64 md)],.cells 57 [.d (.int .i64 stt),.d (.lst (hs.map hdD))],.cells 145 [.d (.int .i64 0),.d (.str []),.d (.int .i64 0),.d (.bool false)]]:=rfl
 have b4:([.cells 51 [.d (.str url),.d (.bool cr),.d (.bool nc),.d (.int .i64 md)],.cells 57 [.d (.int .i64 stt),.d (.lst (hs.map hdD))]]:Hp).length=2:=rfl
 generalize hX:([.cells 51 [.d (.str url),.d (.bool cr),.d (.bool nc),.d (.int .i64 md)],.cells 57 [.d (.int .i64 stt),.d (.lst (hs.map hdD))],.cells 145 [.d (.int .i64 0),.d (.str []),.d (.int .i64 0),.d (.bool false)]]:Hp)=X at b3
 have l1:ld1 (.ptr 1 1) X=some (.d (.lst (hs.map hdD))):=by rw [← hX];rfl
 obtain⟨ps,ns,bug,hps,hpl,r1⟩:=s140 (lim:=([]:Hp).length) (ro:=([]:Hp).length) (H:=X) hS hs h
 have r4:=λG=>s145 (lim:=([]:Hp).length) (ro:=([]:Hp).length) (H:=G) hS url cr nc md
 have main:∀ (t s:List UInt8) (ps:List D) (has:Bool),run sys ([]:Hp).length ([]:Hp).length 140 [.d (.lst (hs.map hdD))] X=some (.val (.d (saidD t s ps has ns bug)),X)→t.length+s.length<2 ^ 34→((cr && nc)=false∨(has && safeP t s)=true)→∃ r,L=some (.val (.d (judgedD 1 r)),[]):=by
  intro t s ps has r1 hlen hor
  have st1:=st_new (lim:=0) (ro:=0) (n:=6) (off:=0) (ty:=73) (G:=X) (cs:=[.d (.str []),.d (.str []),.vnil,.d (.bool false),.d (.bool false),.d (.bool false)]) (v:=.d (saidD t s ps has ns bug)) rfl (by simp) rfl (Nat.zero_le _) (Nat.zero_le _)
  have st1':st 6 ([]:Hp).length ([]:Hp).length (.ptr X.length 0) (.d (saidD t s ps has ns bug)) (X++[Blk.cells 73 [.d (.str []),.d (.str []),.vnil,.d (.bool false),.d (.bool false),.d (.bool false)]])=some (X++[Blk.cells 73 [.d (.str t),.d (.str s),.d (.lst ps),.d (.bool has),.d (.bool ns),.d (.bool bug)]]):=st1
  generalize hY:X++[Blk.cells 73 [.d (.str t),.d (.str s),.d (.lst ps),.d (.bool has),.d (.bool ns),.d (.bool bug)]]=Y at st1'
  have l2:ldN 4 (.ptr 0 0) Y=some (askV url cr nc md):=by rw [← hY,← hX];rfl
  have l3:ldN 6 (.ptr X.length 0) Y=some (.agg [.d (.str t),.d (.str s),.d (.lst ps),.d (.bool has),.d (.bool ns),.d (.bool bug)]):=by rw [← hY];exact ldN_new X 73 6 _ rfl
  have y2:Y[2]? = some (.cells 145 [.d (.int .i64 0),.d (.str []),.d (.int .i64 0),.d (.bool false)]):=by rw [← hY,← hX];rfl
  have f1:frzArgs ([]:Hp).length [(true,.agg [.d (.str t),.d (.str s),.d (.lst ps),.d (.bool has),.d (.bool ns),.d (.bool bug)]),(false,.fn 148 [] [])] Y=([.d (saidD t s ps has ns bug),.fn 148 [] []],Y):=rfl
  have r2:=s147 (lim:=([]:Hp).length) (ro:=([]:Hp).length) (H:=Y) hS hG t s ps has ns bug hlen
  have r3:=λr=>s146 (lim:=([]:Hp).length) (ro:=([]:Hp).length) (H:=Y) hS 1 r
  simp only [b1,bsome,b2,padd_ptr,Nat.zero_add,b3,l1,frzArgs_1,frzA_d,r1,lval,st1',l2,r4,iUn_not,br3_bool,b4] at hB
  cases hcn:(cr && nc) with
  | false=>
   simp only [hcn,Bool.not_false,if_true,r3,lval] at hB
   exact⟨_,hB.trans (out_j y2 rfl 1 _ _ (.inl rfl))⟩
  | true=>
   have hsafe:(has && safeP t s)=true:=hor.resolve_left (λe=>by rw [hcn] at e;cases e)
   simp only [hcn,Bool.not_true,Bool.false_eq_true,if_false,l3,bsome,f1,r2,lval,hsafe,if_true,br3_bool,r3] at hB
   exact⟨_,hB.trans (out_j y2 rfl 1 _ _ (.inl rfl))⟩
 cases ht:typeOf hs with
 | some r=>
  rw [ht] at r1
  have hl:=typeOf_len h ht
  refine main r.1 r.2 ps true r1 (by omega) (hf.imp id ?_)
  rintro⟨_,r',e,hs'⟩
  rw [ht] at e;cases e
  simpa using hs'
 | none=>
  rw [ht] at r1
  refine main [] [] [] false r1 (by decide) (hf.imp id ?_)
  rintro⟨_,r',e,_⟩
  rw [ht] at e;cases e
theorem s114 (hS:SysOK sys) (h:Small hs) (hf:(cr && nc)=false):∃ r,run sys lim ro 114 [askV url cr nc md,.d (replyD stt hs)] H=some (.val (.d (judgedD 1 r)),H):=by
 suffices h:∃ r,bodyK2 P tab (run sys) 0 0 114 [askV url cr nc md,.d (replyD stt hs)] []=some (.val (.d (judgedD 1 r)),[]) by
  obtain⟨r,h⟩:=h
  exact⟨r,runP hS rfl (by kernel_rfl) rfl h⟩
 obtain⟨L,hL⟩:∃ L,L=bodyK2 P tab (run sys) 0 0 114 [askV url cr nc md,.d (replyD stt hs)] []:=⟨_,rfl⟩
 rw [← hL]
 have hB:=hL.trans (R114 (run sys) 0 0 [] (askV url cr nc md) (.d (replyD stt hs)))
 clear hL
 have b1:iBox 25 (askV url cr nc md) []=some (.ptr 0 0,[.cells 51 [.d (.str url),.d (.bool cr),.d (.bool nc),.d (.int .i64 md)]]):=rfl
 have b2:iBox 28 (.d (replyD stt hs)) [.cells 51 [.d (.str url),.d (.bool cr),.d (.bool nc),.d (.int .i64 md)]]=some (.ptr 1 0,[.cells 51 [.d (.str url),.d (.bool cr),.d (.bool nc),.d (.int .i64 md)],.cells 57 [.d (.int .i64 stt),.d (.lst (hs.map hdD))]]):=rfl
 have b3:([.cells 51 [.d (.str url),.d (.bool cr),.d (.bool nc),.d (.int .i64 md)],.cells 57 [.d (.int .i64 stt),.d (.lst (hs.map hdD))]]++[Blk.cells 145 [.d (.int .i64 0),.d (.str []),.d (.int .i64 0),.d (.bool false)]]:Hp)=[.cells 51 [.d (.str url),.d (.bool cr),.d (.bool nc),.d (.int .i64 md)],.cells 57 [.d (.int .i64 stt),.d (.lst (hs.map hdD))],.cells 145 [.d (.int .i64 0),.d (.str []),.d (.int .i64 0),.d (.bool false)]]:=rfl
 have b4:([.cells 51 [.d (.str url),.d (.bool cr),.d (.bool nc),.d (.int .i64 md)],.cells 57 [.d (.int .i64 stt),.d (.lst (hs.map hdD))]]:Hp).length=2:=rfl
 generalize hX:([.cells 51 [.d (.str url),.d (.bool cr),.d (.bool nc),.d (.int .i64 md)],.cells 57 [.d (.int .i64 stt),.d (.lst (hs.map hdD))],.cells 145 [.d (.int .i64 0),.d (.str []),.d (.int .i64 0),.d (.bool false)]]:Hp)=X at b3
 have l1:ld1 (.ptr 1 1) X=some (.d (.lst (hs.map hdD))):=by rw [← hX];rfl
 obtain⟨ps,ns,bug,hps,hpl,r1⟩:=s140 (lim:=([]:Hp).length) (ro:=([]:Hp).length) (H:=X) hS hs h
 have r4:=λG=>s142 (lim:=([]:Hp).length) (ro:=([]:Hp).length) (H:=G) hS url cr nc md
 have r5:=λG=>s141 (lim:=([]:Hp).length) (ro:=([]:Hp).length) (H:=G) hS stt hs
 have main:∀ (t s:List UInt8) (ps:List D) (has:Bool),run sys ([]:Hp).length ([]:Hp).length 140 [.d (.lst (hs.map hdD))] X=some (.val (.d (saidD t s ps has ns bug)),X)→∃ r,L=some (.val (.d (judgedD 1 r)),[]):=by
  intro t s ps has r1
  have st1:=st_new (lim:=0) (ro:=0) (n:=6) (off:=0) (ty:=73) (G:=X) (cs:=[.d (.str []),.d (.str []),.vnil,.d (.bool false),.d (.bool false),.d (.bool false)]) (v:=.d (saidD t s ps has ns bug)) rfl (by simp) rfl (Nat.zero_le _) (Nat.zero_le _)
  have st1':st 6 ([]:Hp).length ([]:Hp).length (.ptr X.length 0) (.d (saidD t s ps has ns bug)) (X++[Blk.cells 73 [.d (.str []),.d (.str []),.vnil,.d (.bool false),.d (.bool false),.d (.bool false)]])=some (X++[Blk.cells 73 [.d (.str t),.d (.str s),.d (.lst ps),.d (.bool has),.d (.bool ns),.d (.bool bug)]]):=st1
  generalize hY:X++[Blk.cells 73 [.d (.str t),.d (.str s),.d (.lst ps),.d (.bool has),.d (.bool ns),.d (.bool bug)]]=Y at st1'
  have l2:ldN 4 (.ptr 0 0) Y=some (askV url cr nc md):=by rw [← hY,← hX];rfl
  have l4:ldN 2 (.ptr 1 0) Y=some (.agg [.d (.int .i64 stt),.d (.lst (hs.map hdD))]):=by rw [← hY,← hX];rfl
  have y2:Y[2]? = some (.cells 145 [.d (.int .i64 0),.d (.str []),.d (.int .i64 0),.d (.bool false)]):=by rw [← hY,← hX];rfl
  have f1:frzArgs ([]:Hp).length [(true,.agg [.d (.int .i64 stt),.d (.lst (hs.map hdD))])] Y=([.d (replyD stt hs)],Y):=rfl
  simp only [b1,bsome,b2,padd_ptr,Nat.zero_add,b3,l1,frzArgs_1,frzA_d,r1,lval,st1',l4] at hB
  rw [frzArgs_1] at f1
  simp only [Prod.mk.injEq,List.cons.injEq,and_true] at f1
  simp only [f1.1,f1.2,r5,lval,l2,bsome,r4,hf,iUn_not,br3_bool,Bool.not_false,if_true,b4] at hB
  exact⟨_,hB.trans (out_j y2 rfl 1 _ _ (.inr rfl))⟩
 cases ht:typeOf hs with
 | some r=>rw [ht] at r1;exact main r.1 r.2 ps true r1
 | none=>rw [ht] at r1;exact main [] [] [] false r1
end
end Go.Tg
