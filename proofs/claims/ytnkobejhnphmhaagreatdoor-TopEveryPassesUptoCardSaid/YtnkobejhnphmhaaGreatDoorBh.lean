/- The references' functions on bytes and texts. -/
import Derived.Test.YtnkobejhnphmhaaGreatDoorBf
import Derived.Test.YtnkobejhnphmhaaGreatDoorBg
set_option linter.all false
namespace Go.Tg
variable [Globs] {lim ro:Nat} {H:Hp}
theorem eq_toNat (a b:UInt8):decide ((a.toNat:Int)=(b.toNat:Int))=(a == b):=by
 rw [Bool.eq_iff_iff];simp only [decide_eq_true_eq,beq_iff_eq]
 constructor
 ·intro h;exact UInt8.toNat_inj.1 (by omega)
 ·intro h;rw [h]
theorem s99 (hS:SysOK sys) (s:List UInt8) (b:UInt8) (hs:s.length<2 ^ 34):run sys lim ro 99 [.d (.str s),.d (.int .u8 (b.toNat:Int))] H=some (.val (.d (.bool (s.contains b))),H):=by
 refine runP hS rfl (by kernel_rfl) rfl ?_
 rw [R99]
 have key:=loopW_find (step:=stepL (C99 (run sys) 0 0 []) [0,1,4,5] (cd 99 [1,0,1,0,0])) s (· == b) (λi=>(E99 (.d (.str s)) (.d (.int .u8 (b.toNat:Int))) (.d (.bool false)) (.d (.int .i64 (i:Nat))),([]:Hp)))
  (λi=>(.ret,E99 (.d (.str s)) (.d (.int .u8 (b.toNat:Int))) (.d (.bool true)) (.d (.int .i64 (i:Nat))),[])) (.exi 0,E99 (.d (.str s)) (.d (.int .u8 (b.toNat:Int))) (.d (.bool false)) (.d (.int .i64 (s.length:Nat))),[]) ?_ ?_ ?_
 ·rw [show (0:Int)=((0:Nat):Int) from rfl,key]
  have e:=findIdx_contains s b true false
  cases h:s.findIdx? (· == b) with
  | none=>
   rw [h] at e
   simp only at e
   simp only [Option.bind_some,K99_0x0,fin_pure_d]
   cases hc:s.contains b with
   | true=>rw [hc] at e;simp at e
   | false=>rfl
  | some i=>
   rw [h] at e
   simp only at e
   simp only [Option.bind_some,K99_0r,fin_pure_d]
   cases hc:s.contains b with
   | false=>rw [hc] at e;simp at e
   | true=>rfl
 ·intro i hi hq
  have e1:decide ((i:Int)<(s.length:Int))=true:=by simpa using hi
  have e2:IntKind.i64.wrap ((i:Int)+1)=((i+1:Nat):Int):=by rw [wrap64 (by omega) (by omega)];simp
  rw [B99_0]
  simp only [lnS_str,iBin_lss,Option.bind_some,br3_bool,e1,if_true,ixS_nat hi,iBin_eql,eq_toNat,hq,Bool.false_eq_true,if_false,iBin_add,e2]
 ·intro i hi hq
  have e1:decide ((i:Int)<(s.length:Int))=true:=by simpa using hi
  rw [B99_0]
  simp only [lnS_str,iBin_lss,Option.bind_some,br3_bool,e1,if_true,ixS_nat hi,iBin_eql,eq_toNat,hq]
 ·have e1:decide ((s.length:Int)<(s.length:Int))=false:=by simp
  rw [B99_0]
  simp only [lnS_str,iBin_lss,Option.bind_some,br3_bool,e1,Bool.false_eq_true,if_false]
omit [Globs] in
theorem byte_all {p:UInt8→Prop} (h:∀ n:Fin 256,p (UInt8.ofNat n.1)):∀ b,p b:=λb=>by
 have:=h ⟨b.toNat,b.toNat_lt⟩
 simpa using this
omit [Globs] in
theorem white_has:∀ b:UInt8,([9,10,13,32]:List UInt8).contains b=bWhite b:=byte_all (by decide +kernel)
omit [Globs] in
theorem tab_has:∀ b:UInt8,([9,32]:List UInt8).contains b=bTab b:=byte_all (by decide +kernel)
omit [Globs] in
theorem token_has:∀ b:UInt8,(cLetter (b.toNat:Int) || cDigit (b.toNat:Int) || ([33,35,36,37,38,39,42,43,45,46,94,95,96,124,126]:List UInt8).contains b)=bToken b:=byte_all (by decide +kernel)
omit [Globs] in
theorem quoted_is:∀ b:UInt8,(decide ((b.toNat:Int)=9) || (decide ((31:Int)<(b.toNat:Int)) && decide ((b.toNat:Int)≠127)))=bQuoted b:=byte_all (by decide +kernel)
omit [Globs] in
theorem token_low:∀ b:UInt8,bToken (lowB b)=bToken b:=byte_all (by decide +kernel)
omit [Globs] in
theorem low_wrap:∀ b:UInt8,(decide ((65:Int)≤(b.toNat:Int)) && decide ((b.toNat:Int)≤90))=true→IntKind.u8.wrap ((b.toNat:Int)+32)=((lowB b).toNat:Int):=byte_all (by decide +kernel)
omit [Globs] in
theorem low_id:∀ b:UInt8,(decide ((65:Int)≤(b.toNat:Int)) && decide ((b.toNat:Int)≤90))=false→lowB b=b:=byte_all (by decide +kernel)
theorem s78 (hS:SysOK sys) (b:UInt8):run sys lim ro 78 [.d (.int .u8 (b.toNat:Int))] H=some (.val (.d (.bool (bWhite b))),H):=by
 refine runP hS rfl (by kernel_rfl) rfl ?_
 rw [R78]
 simp only [s99 hS [9,10,13,32] b (by decide),liftR_val,fin_pure_d,white_has]
theorem s103 (hS:SysOK sys) (b:UInt8):run sys lim ro 103 [.d (.int .u8 (b.toNat:Int))] H=some (.val (.d (.bool (bTab b))),H):=by
 refine runP hS rfl (by kernel_rfl) rfl ?_
 rw [R103]
 simp only [s99 hS [9,32] b (by decide),liftR_val,fin_pure_d,tab_has]
theorem s128 (hS:SysOK sys) (c:Int):run sys lim ro 128 [.d (.int .u8 c)] H=some (.val (.d (.bool (cLetter c))),H):=by
 refine runP hS rfl (by kernel_rfl) rfl ?_
 rw [R128]
 simp only [g128_0,g128_1,g128_2,g128_3,g128_4,g128_5,g128_6,g128_7,g128_8,iBin_geq,iBin_leq,Option.bind_some,brN3_bool,fin_pure_d]
 unfold cLetter cSmall cGreat
 repeat' split
 all_goals ((try simp_all) <;> (try omega))
theorem s129 (hS:SysOK sys) (c:Int):run sys lim ro 129 [.d (.int .u8 c)] H=some (.val (.d (.bool (cDigit c))),H):=by
 refine runP hS rfl (by kernel_rfl) rfl ?_
 rw [R129]
 simp only [g129_0,g129_1,g129_2,iBin_geq,iBin_leq,Option.bind_some,brN3_bool,fin_pure_d]
 unfold cDigit
 split <;> (try simp_all) <;> (try omega)
theorem s100 (hS:SysOK sys) (b:UInt8):run sys lim ro 100 [.d (.int .u8 (b.toNat:Int))] H=some (.val (.d (.bool (bToken b))),H):=by
 refine runP hS rfl (by kernel_rfl) rfl ?_
 rw [R100]
 simp only [g100_0,g100_1,g100_2,g100_3,g100_4,s128 hS,s129 hS,s99 hS [33,35,36,37,38,39,42,43,45,46,94,95,96,124,126] b (by decide),liftR_val,brN3_bool,fin_pure_d,← token_has]
 cases cLetter (b.toNat:Int) <;> cases cDigit (b.toNat:Int) <;> simp
theorem s101 (hS:SysOK sys) (b:UInt8):run sys lim ro 101 [.d (.int .u8 (b.toNat:Int))] H=some (.val (.d (.bool (bQuoted b))),H):=by
 refine runP hS rfl (by kernel_rfl) rfl ?_
 rw [R101]
 simp only [g101_0,g101_1,g101_2,g101_3,g101_4,iBin_eql,iBin_gtr,iBin_neq,Option.bind_some,brN3_bool,fin_pure_d,← quoted_is]
 cases decide ((b.toNat:Int)=9) <;> cases decide ((31:Int)<(b.toNat:Int)) <;> simp
theorem s36 (hS:SysOK sys) (s:List UInt8) (hs:s.length<2 ^ 34):run sys lim ro 36 [.d (.str s)] H=some (.val (.d (.str (s.map lowB))),H):=by
 refine runP hS rfl (by kernel_rfl) rfl ?_
 rw [R36,bs_u80]
 simp only [Option.bind_some]
 have key:∀ k i (G:Hp) v,i+k=s.length→Acc 5 1 0 G v (bD ((s.take i).map lowB))→∃ G' v',loopW (stepL (C36 (run sys) 0 0 []) [0,3,4] (cd 36 [1,1,0,1,0,0])) (E36 (.d (.str s)) v (.d (.int .i64 (i:Nat))),G) =
   some (.exi 0,E36 (.d (.str s)) v' (.d (.int .i64 (s.length:Nat))),G')∧Acc 5 1 0 G' v' (bD (s.map lowB)):=by
  intro k
  induction k with
  | zero=>
   intro i G v hi hA
   have hi':i=s.length:=by omega
   subst hi'
   rw [List.take_length] at hA
   refine⟨G,v,loopW_done ?_,hA⟩
   have e1:decide ((s.length:Int)<(s.length:Int))=false:=by simp
   rw [B36_0]
   simp only [lnS_str,iBin_lss,Option.bind_some,br3_bool,e1,Bool.false_eq_true,if_false]
  | succ k ih=>
   intro i G v hi hA
   have hlt:i<s.length:=by omega
   have e1:decide ((i:Int)<(s.length:Int))=true:=by simpa using hlt
   have e2:IntKind.i64.wrap ((i:Int)+1)=((i+1:Nat):Int):=by rw [wrap64 (by omega) (by omega)];simp
   obtain⟨v',G',hp,hA', -⟩:=hA.push (e:=.int .u8 ((lowB s[i]).toNat:Int)) (OkE.int _ _) (Nat.zero_le _) (by simp [bD];omega)
   have hA'':Acc 5 1 0 G' v' (bD ((s.take (i+1)).map lowB)):=by rw [take_succ_get s i hlt,List.map_append,bD_append];exact hA'
   obtain⟨G2,v2,hl,hA2⟩:=ih (i+1) G' v' (by omega) hA''
   refine⟨G2,v2,loopW_next ?_ hl,hA2⟩
   have hp':app 5 1 0 v (.vec G.length 1 0 1) (G++[.cells 10 [.d (.int .u8 ((lowB s[i]).toNat:Int))]])=some (v',G'):=hp
   rw [B36_0]
   simp only [lnS_str,iBin_lss,Option.bind_some,br3_bool,e1,if_true,ixS_nat hlt,g36_0,g36_1,g36_2,iBin_geq,iBin_leq,brN3_bool,iBin_add,bs_u8,e2,List.length_nil]
   have hw:=low_wrap s[i]
   have hi:=low_id s[i]
   cases h65:decide ((65:Int)≤(s[i].toNat:Int)) with
   | false=>rw [h65] at hi;rw [hi rfl] at hp';simp [hp']
   | true=>
    cases h90:decide ((s[i].toNat:Int)≤90) with
    | false=>rw [h65,h90] at hi;rw [hi rfl] at hp';simp [hp']
    | true=>rw [h65,h90] at hw;rw [← hw rfl] at hp';simp [hp']
 obtain⟨G',v',hl,hA⟩:=key s.length 0 ([]++[.cells 10 []]) (.vec 0 1 0 0) (by omega) (Acc.new 5 1 0 [] (Nat.zero_le _))
 rw [show (0:Int)=((0:Nat):Int) from rfl,show ([]:Hp).length=0 from rfl,hl]
 simp only [Option.bind_some,K36_0x0,hA.bstr,fin_pure_d]
theorem endL_cons (p:UInt8→Bool) (c:UInt8) (t:List UInt8):endL p (c::t)=if (endL p t).isEmpty=true then (if p c=true then [] else [c]) else c::endL p t:=by
 unfold endL
 rw [List.reverse_cons,List.dropWhile_append]
 cases h:t.reverse.dropWhile p with
 | nil=>simp;cases hp:p c <;> simp [hp]
 | cons x l=>simp
theorem endL_drop (p:UInt8→Bool) (s:List UInt8):endL p (s.dropWhile p)=(endL p s).dropWhile p:=by
 induction s with
 | nil=>rfl
 | cons c t ih=>
  rw [List.dropWhile_cons,endL_cons]
  cases hp:p c with
  | true=>
   simp only [if_true]
   rw [ih]
   cases h:endL p t with
   | nil=>simp
   | cons x l=>simp [hp]
  | false=>
   simp only [Bool.false_eq_true,if_false]
   rw [endL_cons]
   simp only [hp,Bool.false_eq_true,if_false]
   cases h:endL p t with
   | nil=>simp [hp]
   | cons x l=>simp [hp]
theorem slS_tail (c:UInt8) (t:List UInt8):slS (.d (.str (c::t))) (some (.d (.int .i64 1))) none=some (.d (.str t)):=by
 have:=slS_drop (s:=c::t) (n:=1) (k:=.i64) (by simp)
 simpa using this
theorem ixS_head (c:UInt8) (t:List UInt8):ixS (.d (.str (c::t))) (.d (.int .i64 0))=some (.d (.int .u8 (c.toNat:Int))):=by
 have:=ixS_nat (s:=c::t) (n:=0) (k:=.i64) (by simp)
 simpa using this
theorem ixS_last (t:List UInt8) (c:UInt8):ixS (.d (.str (t++[c]))) (.d (.int .i64 (t.length:Nat)))=some (.d (.int .u8 (c.toNat:Int))):=by
 rw [ixS_nat (by simp)];simp
theorem slS_init (t:List UInt8) (c:UInt8):slS (.d (.str (t++[c]))) none (some (.d (.int .i64 (t.length:Nat))))=some (.d (.str t)):=by
 rw [slS_take (by simp)];simp
theorem len_pred (t:List UInt8) (c:UInt8) (h:(t++[c]).length<2 ^ 34):IntKind.i64.wrap (((t++[c]).length:Int) - 1)=(t.length:Nat):=by
 simp only [List.length_append,List.length_singleton] at h ⊢
 rw [wrap64 (by omega) (by omega)];omega
omit [Globs] in
theorem snoc_rec {p:List UInt8→Prop} (h0:p []) (h1:∀ t c,p t→p (t++[c])):∀ s,p s:=by
 have:∀ n (s:List UInt8),s.length=n→p s:=by
  intro n
  induction n with
  | zero=>intro s hs;rw [List.length_eq_zero_iff.1 hs];exact h0
  | succ n ih=>
   intro s hs
   rcases List.eq_nil_or_concat s with h | ⟨t,c,h⟩
   ·rw [h];exact h0
   ·rw [List.concat_eq_append] at h
    rw [h] at hs ⊢
    exact h1 t c (ih t (by simpa using hs))
 intro s;exact this _ s rfl
theorem w77 (hS:SysOK sys) (G:Hp):∀ s:List UInt8,s.length<2 ^ 34→loopW (stepL (C77 (run sys) 0 0 []) [0] (cd 77 [1,0,0,0])) (E77 (.d (.str s)),G)=some (.exi 0,E77 (.d (.str (endL bWhite s))),G):=by
 refine snoc_rec ?_ ?_
 ·intro _
  refine loopW_done ?_
  rw [B77_0]
  simp [g77_0,g77_2,endL]
 ·intro t c ih hs
  have hs':=hs
  simp only [List.length_append,List.length_singleton] at hs'
  have e1:decide ((0:Int)<((t++[c]).length:Int))=true:=by (simp <;> omega)
  rw [endL_concat]
  cases hp:bWhite c with
  | true=>
   refine loopW_next (s':=(E77 (.d (.str t)),G)) ?_ (by simpa using ih (by omega))
   rw [B77_0]
   simp only [g77_0,lnS_str,iBin_gtr,Option.bind_some,brN3_bool,e1,if_true,g77_1,iBin_sub,len_pred t c hs,ixS_last,s78 hS,liftR_val,br3_bool,hp,slS_init]
  | false=>
   refine loopW_done ?_
   rw [B77_0]
   simp only [g77_0,lnS_str,iBin_gtr,Option.bind_some,brN3_bool,e1,if_true,g77_1,iBin_sub,len_pred t c hs,ixS_last,s78 hS,liftR_val,br3_bool,hp,Bool.false_eq_true,if_false]
theorem s77 (hS:SysOK sys) (s:List UInt8) (hs:s.length<2 ^ 34):run sys lim ro 77 [.d (.str s)] H=some (.val (.d (.str (endL bWhite s))),H):=by
 refine runP hS rfl (by kernel_rfl) rfl ?_
 rw [R77]
 simp only [w77 hS _ s hs,Option.bind_some,K77_0x0,fin_pure_d]
theorem w102 (hS:SysOK sys) (G:Hp):∀ s:List UInt8,s.length<2 ^ 34→loopW (stepL (C102 (run sys) 0 0 []) [0] (cd 102 [1,0,0,0])) (E102 (.d (.str s)),G)=some (.exi 0,E102 (.d (.str (endL bTab s))),G):=by
 refine snoc_rec ?_ ?_
 ·intro _
  refine loopW_done ?_
  rw [B102_0]
  simp [g102_0,g102_2,endL]
 ·intro t c ih hs
  have hs':=hs
  simp only [List.length_append,List.length_singleton] at hs'
  have e1:decide ((0:Int)<((t++[c]).length:Int))=true:=by (simp <;> omega)
  rw [endL_concat]
  cases hp:bTab c with
  | true=>
   refine loopW_next (s':=(E102 (.d (.str t)),G)) ?_ (by simpa using ih (by omega))
   rw [B102_0]
   simp only [g102_0,lnS_str,iBin_gtr,Option.bind_some,brN3_bool,e1,if_true,g102_1,iBin_sub,len_pred t c hs,ixS_last,s103 hS,liftR_val,br3_bool,hp,slS_init]
  | false=>
   refine loopW_done ?_
   rw [B102_0]
   simp only [g102_0,lnS_str,iBin_gtr,Option.bind_some,brN3_bool,e1,if_true,g102_1,iBin_sub,len_pred t c hs,ixS_last,s103 hS,liftR_val,br3_bool,hp,Bool.false_eq_true,if_false]
theorem s102 (hS:SysOK sys) (s:List UInt8) (hs:s.length<2 ^ 34):run sys lim ro 102 [.d (.str s)] H=some (.val (.d (.str (endL bTab s))),H):=by
 refine runP hS rfl (by kernel_rfl) rfl ?_
 rw [R102]
 simp only [w102 hS _ s hs,Option.bind_some,K102_0x0,fin_pure_d]
theorem w82 (hS:SysOK sys) (G:Hp):∀ s:List UInt8,loopW (stepL (C82 (run sys) 0 0 []) [0] (cd 82 [1,1,0,0,0])) (E82 (.d (.str s)),G)=some (.exi 0,E82 (.d (.str (s.dropWhile bTab))),G):=by
 intro s
 induction s with
 | nil=>
  refine loopW_done ?_
  rw [B82_0]
  simp [g82_0,g82_2]
 | cons c t ih=>
  have e1:decide ((0:Int)<((c::t).length:Int))=true:=by (simp <;> omega)
  rw [List.dropWhile_cons]
  cases hp:bTab c with
  | true=>
   refine loopW_next (s':=(E82 (.d (.str t)),G)) ?_ (by simpa using ih)
   rw [B82_0]
   simp only [g82_0,lnS_str,iBin_gtr,Option.bind_some,brN3_bool,e1,if_true,g82_1,ixS_head,s103 hS,liftR_val,br3_bool,hp,slS_tail]
  | false=>
   refine loopW_done ?_
   rw [B82_0]
   simp only [g82_0,lnS_str,iBin_gtr,Option.bind_some,brN3_bool,e1,if_true,g82_1,ixS_head,s103 hS,liftR_val,br3_bool,hp,Bool.false_eq_true,if_false]
theorem s82 (hS:SysOK sys) (s:List UInt8) (hs:s.length<2 ^ 34):run sys lim ro 82 [.d (.str s)] H=some (.val (.d (.str (trimL bTab s))),H):=by
 refine runP hS rfl (by kernel_rfl) rfl ?_
 rw [R82]
 simp only [s102 hS s hs,liftR_val,w82 hS _,Option.bind_some,K82_0x0,fin_pure_d,trimL]
theorem w74a (hS:SysOK sys) (G:Hp):∀ s:List UInt8,loopW (stepL (C74 (run sys) 0 0 []) [0] (cd 74 [1,0,0,0])) (E74 (.d (.str s)),G)=some (.exi 0,E74 (.d (.str (s.dropWhile bWhite))),G):=by
 intro s
 induction s with
 | nil=>
  refine loopW_done ?_
  rw [B74_0]
  simp [g74_0,g74_2]
 | cons c t ih=>
  have e1:decide ((0:Int)<((c::t).length:Int))=true:=by (simp <;> omega)
  rw [List.dropWhile_cons]
  cases hp:bWhite c with
  | true=>
   refine loopW_next (s':=(E74 (.d (.str t)),G)) ?_ (by simpa using ih)
   rw [B74_0]
   simp only [g74_0,lnS_str,iBin_gtr,Option.bind_some,brN3_bool,e1,if_true,g74_1,ixS_head,s78 hS,liftR_val,br3_bool,hp,slS_tail]
  | false=>
   refine loopW_done ?_
   rw [B74_0]
   simp only [g74_0,lnS_str,iBin_gtr,Option.bind_some,brN3_bool,e1,if_true,g74_1,ixS_head,s78 hS,liftR_val,br3_bool,hp,Bool.false_eq_true,if_false]
theorem w74b (hS:SysOK sys) (G:Hp):∀ s:List UInt8,s.length<2 ^ 34→loopW (stepL (C74 (run sys) 0 0 []) [0] (cd 74 [1,1,0,0,0])) (E74 (.d (.str s)),G)=some (.exi 2,E74 (.d (.str (endL bWhite s))),G):=by
 refine snoc_rec ?_ ?_
 ·intro _
  refine loopW_done ?_
  rw [B74_1]
  simp [g74_3,g74_5,endL]
 ·intro t c ih hs
  have hs':=hs
  simp only [List.length_append,List.length_singleton] at hs'
  have e1:decide ((0:Int)<((t++[c]).length:Int))=true:=by (simp <;> omega)
  rw [endL_concat]
  cases hp:bWhite c with
  | true=>
   refine loopW_next (s':=(E74 (.d (.str t)),G)) ?_ (by simpa using ih (by omega))
   rw [B74_1]
   simp only [g74_3,lnS_str,iBin_gtr,Option.bind_some,brN3_bool,e1,if_true,g74_4,iBin_sub,len_pred t c hs,ixS_last,s78 hS,liftR_val,br3_bool,hp,slS_init]
  | false=>
   refine loopW_done ?_
   rw [B74_1]
   simp only [g74_3,lnS_str,iBin_gtr,Option.bind_some,brN3_bool,e1,if_true,g74_4,iBin_sub,len_pred t c hs,ixS_last,s78 hS,liftR_val,br3_bool,hp,Bool.false_eq_true,if_false]
theorem s74 (hS:SysOK sys) (s:List UInt8) (hs:s.length<2 ^ 34):run sys lim ro 74 [.d (.str s)] H=some (.val (.d (.str (trimL bWhite s))),H):=by
 refine runP hS rfl (by kernel_rfl) rfl ?_
 rw [R74]
 have hl:(s.dropWhile bWhite).length<2 ^ 34:=Nat.lt_of_le_of_lt (List.dropWhile_sublist _).length_le hs
 simp only [w74a hS _,Option.bind_some,K74_0x0,w74b hS _ _ hl,K74_1x2,fin_pure_d,trimL,endL_drop]
theorem s75 (hS:SysOK sys) (s stops:List UInt8) (hs:s.length<2 ^ 34) (ht:stops.length<2 ^ 34):run sys lim ro 75 [.d (.str s),.d (.str stops)] H=some (.val (.d (.int .i64 ((s.takeWhile λx=>!stops.contains x).length:Nat))),H):=by
 refine runP hS rfl (by kernel_rfl) rfl ?_
 rw [R75]
 have key:=loopW_find (step:=stepL (C75 (run sys) 0 0 []) [0,1,4,5] (cd 75 [1,0,1,0,0])) s (λx=>stops.contains x) (λi=>(E75 (.d (.str s)) (.d (.str stops)) (.d (.int .i64 0)) (.d (.int .i64 (i:Nat))),([]:Hp)))
  (λi=>(.ret,E75 (.d (.str s)) (.d (.str stops)) (.d (.int .i64 (i:Nat))) (.d (.int .i64 (i:Nat))),[])) (.exi 0,E75 (.d (.str s)) (.d (.str stops)) (.d (.int .i64 0)) (.d (.int .i64 (s.length:Nat))),[]) ?_ ?_ ?_
 ·rw [show (E75 (.d (.str s)) (.d (.str stops)) (.d (.int .i64 0)) (.d (.int .i64 0)),([]:Hp))=(E75 (.d (.str s)) (.d (.str stops)) (.d (.int .i64 0)) (.d (.int .i64 ((0:Nat):Int))),([]:Hp)) from rfl,key]
  have e:=findIdx_take s (λx=>!stops.contains x)
  simp only [Bool.not_not] at e
  cases h:s.findIdx? (λx=>stops.contains x) with
  | none=>
   rw [h] at e
   simp only at e
   simp only [Option.bind_some,K75_0x0,lnS_str,fin_pure_d,← e]
  | some i=>
   rw [h] at e
   simp only at e
   simp only [Option.bind_some,K75_0r,fin_pure_d,← e]
 ·intro i hi hq
  have e1:decide ((i:Int)<(s.length:Int))=true:=by simpa using hi
  have e2:IntKind.i64.wrap ((i:Int)+1)=((i+1:Nat):Int):=by rw [wrap64 (by omega) (by omega)];simp
  rw [B75_0]
  simp only [lnS_str,iBin_lss,Option.bind_some,br3_bool,e1,if_true,ixS_nat hi,s99 hS _ _ ht,liftR_val,hq,Bool.false_eq_true,if_false,iBin_add,e2]
 ·intro i hi hq
  have e1:decide ((i:Int)<(s.length:Int))=true:=by simpa using hi
  rw [B75_0]
  simp only [lnS_str,iBin_lss,Option.bind_some,br3_bool,e1,if_true,ixS_nat hi,s99 hS _ _ ht,liftR_val,hq]
 ·have e1:decide ((s.length:Int)<(s.length:Int))=false:=by simp
  rw [B75_0]
  simp only [lnS_str,iBin_lss,Option.bind_some,br3_bool,e1,Bool.false_eq_true,if_false]
def tok (s:List UInt8):Bool:=s.all bToken && !s.isEmpty
theorem s76 (hS:SysOK sys) (s:List UInt8) (hs:s.length<2 ^ 34):run sys lim ro 76 [.d (.str s)] H=some (.val (.d (.bool (tok s))),H):=by
 refine runP hS rfl (by kernel_rfl) rfl ?_
 rw [R76]
 have key:=loopW_find (step:=stepL (C76 (run sys) 0 0 []) [0,2,3] (cd 76 [1,0,1,0,0])) s (λx=>!bToken x) (λi=>(E76 (.d (.str s)) (.d (.bool false)) (.d (.int .i64 (i:Nat))),([]:Hp)))
  (λi=>(.ret,E76 (.d (.str s)) (.d (.bool false)) (.d (.int .i64 (i:Nat))),[])) (.exi 0,E76 (.d (.str s)) (.d (.bool false)) (.d (.int .i64 (s.length:Nat))),[]) ?_ ?_ ?_
 ·rw [show (0:Int)=((0:Nat):Int) from rfl,key]
  have e:=findIdx_all s bToken false true
  cases h:s.findIdx? (λx=>!bToken x) with
  | none=>
   rw [h] at e
   simp only at e
   simp only [Option.bind_some,K76_0x0,iBin_sneq,fin_pure_d]
   cases hc:s.all bToken with
   | false=>rw [hc] at e;simp at e
   | true=>simp [tok,hc];cases s <;> simp
  | some i=>
   rw [h] at e
   simp only at e
   simp only [Option.bind_some,K76_0r,fin_pure_d]
   cases hc:s.all bToken with
   | true=>rw [hc] at e;simp at e
   | false=>simp [tok,hc]
 ·intro i hi hq
  have hq':bToken s[i]=true:=by simpa using hq
  have e1:decide ((i:Int)<(s.length:Int))=true:=by simpa using hi
  have e2:IntKind.i64.wrap ((i:Int)+1)=((i+1:Nat):Int):=by rw [wrap64 (by omega) (by omega)];simp
  rw [B76_0]
  simp only [lnS_str,iBin_lss,Option.bind_some,br3_bool,e1,if_true,ixS_nat hi,s100 hS,liftR_val,iUn_not,hq',Bool.not_true,Bool.false_eq_true,if_false,iBin_add,e2]
 ·intro i hi hq
  have hq':bToken s[i]=false:=by simpa using hq
  have e1:decide ((i:Int)<(s.length:Int))=true:=by simpa using hi
  rw [B76_0]
  simp only [lnS_str,iBin_lss,Option.bind_some,br3_bool,e1,if_true,ixS_nat hi,s100 hS,liftR_val,iUn_not,hq',Bool.not_false]
 ·have e1:decide ((s.length:Int)<(s.length:Int))=false:=by simp
  rw [B76_0]
  simp only [lnS_str,iBin_lss,Option.bind_some,br3_bool,e1,Bool.false_eq_true,if_false]
theorem s80 (hS:SysOK sys) (s:List UInt8) (hs:s.length<2 ^ 34):run sys lim ro 80 [.d (.str s)] H=some (.val (.d (.bool (s.all bQuoted))),H):=by
 refine runP hS rfl (by kernel_rfl) rfl ?_
 rw [R80]
 have key:=loopW_find (step:=stepL (C80 (run sys) 0 0 []) [0,2,3] (cd 80 [1,0,1,0,0])) s (λx=>!bQuoted x) (λi=>(E80 (.d (.str s)) (.d (.bool false)) (.d (.int .i64 (i:Nat))),([]:Hp)))
  (λi=>(.ret,E80 (.d (.str s)) (.d (.bool false)) (.d (.int .i64 (i:Nat))),[])) (.exi 0,E80 (.d (.str s)) (.d (.bool false)) (.d (.int .i64 (s.length:Nat))),[]) ?_ ?_ ?_
 ·rw [show (0:Int)=((0:Nat):Int) from rfl,key]
  have e:=findIdx_all s bQuoted false true
  cases h:s.findIdx? (λx=>!bQuoted x) with
  | none=>
   rw [h] at e
   simp only at e
   simp only [Option.bind_some,K80_0x0,iBin_sneq,fin_pure_d]
   cases hc:s.all bQuoted with
   | false=>rw [hc] at e;simp at e
   | true=>rfl
  | some i=>
   rw [h] at e
   simp only at e
   simp only [Option.bind_some,K80_0r,fin_pure_d]
   cases hc:s.all bQuoted with
   | true=>rw [hc] at e;simp at e
   | false=>simp [tok,hc]
 ·intro i hi hq
  have hq':bQuoted s[i]=true:=by simpa using hq
  have e1:decide ((i:Int)<(s.length:Int))=true:=by simpa using hi
  have e2:IntKind.i64.wrap ((i:Int)+1)=((i+1:Nat):Int):=by rw [wrap64 (by omega) (by omega)];simp
  rw [B80_0]
  simp only [lnS_str,iBin_lss,Option.bind_some,br3_bool,e1,if_true,ixS_nat hi,s101 hS,liftR_val,iUn_not,hq',Bool.not_true,Bool.false_eq_true,if_false,iBin_add,e2]
 ·intro i hi hq
  have hq':bQuoted s[i]=false:=by simpa using hq
  have e1:decide ((i:Int)<(s.length:Int))=true:=by simpa using hi
  rw [B80_0]
  simp only [lnS_str,iBin_lss,Option.bind_some,br3_bool,e1,if_true,ixS_nat hi,s101 hS,liftR_val,iUn_not,hq',Bool.not_false]
 ·have e1:decide ((s.length:Int)<(s.length:Int))=false:=by simp
  rw [B80_0]
  simp only [lnS_str,iBin_lss,Option.bind_some,br3_bool,e1,Bool.false_eq_true,if_false]
theorem s81 (hS:SysOK sys) (s:List UInt8) (hs:s.length<2 ^ 34):run sys lim ro 81 [.d (.str s)] H=some (.val (.d (.bool (tok s && decide (s.map lowB=s)))),H):=by
 refine runP hS rfl (by kernel_rfl) rfl ?_
 rw [R81]
 simp only [g81_0,g81_1,g81_2,s76 hS s hs,s36 hS s hs,liftR_val,brN3_bool,iBin_seql,Option.bind_some,fin_pure_d]
 cases tok s <;> simp
theorem ld1_new (H:Hp) (ty off:Nat) (cs:List IV):ld1 (.ptr H.length off) (H++[.cells ty cs])=cs[off]?:=by simp [ld1]
theorem ldN_new (H:Hp) (ty n:Nat) (cs:List IV) (h:n=cs.length):ldN n (.ptr H.length 0) (H++[.cells ty cs])=some (.agg cs):=by subst h;simp [ldN]
theorem padd_ptr (b off k:Nat):padd (.ptr b off) k=some (.ptr b (off+k)):=rfl
theorem padd_lptr (cs:List D) (off k:Nat):padd (.lptr cs off) k=some (.lptr cs (off+k)):=rfl
theorem ld_lptr (cs:List D) (off:Nat) (G:Hp):ld1 (.lptr cs off) G=cs[off]?.map .d:=rfl
theorem ldN_lptr (cs:List D) (G:Hp) {n:Nat} (h:n=cs.length):ldN n (.lptr cs 0) G=some (.d (.agg cs)):=by
 subst h
 simp [ldN]
theorem ixA_strs {strs:List (List UInt8)} {i:Nat} {k:IntKind} (h:i<strs.length):ixA 1 (.d (.lst (strs.map .str))) (.d (.int k (i:Nat)))=some (.lptr [.str strs[i]] 0):=by
 rw [ixA_lst (by simpa using h) (by simp;rfl)];simp;rfl
def mimD (t s:List UInt8) (ps:List D):D:=.agg [.str t,.str s,.lst ps]
theorem box_mim (t s:List UInt8) (ps:List D) (H:Hp):iBox 34 (.d (mimD t s ps)) H=some (.ptr H.length 0,H++[.cells 69 [.d (.str t),.d (.str s),.d (.lst ps)]]):=rfl
theorem s20 (hS:SysOK sys) (t s:List UInt8) (ps:List D) (h:t.length+s.length<2 ^ 34):run sys lim ro 20 [.d (mimD t s ps)] H=some (.val (.d (.str (t++[47]++s))),H):=by
 refine runP hS rfl (by kernel_rfl) rfl ?_
 rw [R20]
 have h1:(t++[47]).length+s.length<9223372036854775808:=by simp;omega
 simp only [box_mim,Option.bind_some,padd_ptr,ld1_new,iBin_sadd _ t [47] (by simp;omega),iBin_sadd _ (t++[47]) s h1,List.getElem?_cons_zero,List.getElem?_cons_succ,Nat.zero_add,fin_pure_d]
theorem s19 (hS:SysOK sys) (s:List UInt8) (strs:List (List UInt8)) (hs:strs.length<2 ^ 34):run sys lim ro 19 [.d (.str s),.d (.lst (strs.map .str))] H=some (.val (.d (.bool (strs.contains s))),H):=by
 refine runP hS rfl (by kernel_rfl) rfl ?_
 rw [R19]
 have key:=loopW_find (step:=stepL (C19 (run sys) 0 0 []) [0,1,4,5] (cd 19 [1,0,1,0,0])) strs (· == s) (λi=>(E19 (.d (.str s)) (.d (.lst (strs.map .str))) (.d (.bool false)) (.d (.int .i64 (i:Nat))),([]:Hp)))
  (λi=>(.ret,E19 (.d (.str s)) (.d (.lst (strs.map .str))) (.d (.bool true)) (.d (.int .i64 (i:Nat))),[])) (.exi 0,E19 (.d (.str s)) (.d (.lst (strs.map .str))) (.d (.bool false)) (.d (.int .i64 (strs.length:Nat))),[]) ?_ ?_ ?_
 ·rw [show (0:Int)=((0:Nat):Int) from rfl,key]
  have e:=findIdx_contains strs s true false
  cases h:strs.findIdx? (· == s) with
  | none=>
   rw [h] at e
   simp only at e
   simp only [Option.bind_some,K19_0x0,fin_pure_d]
   cases hc:strs.contains s with
   | true=>rw [hc] at e;simp at e
   | false=>rfl
  | some i=>
   rw [h] at e
   simp only at e
   simp only [Option.bind_some,K19_0r,fin_pure_d]
   cases hc:strs.contains s with
   | false=>rw [hc] at e;simp at e
   | true=>rfl
 ·intro i hi hq
  have hq':decide (strs[i]=s)=false:=by simpa using hq
  have e1:decide ((i:Int)<((strs.map D.str).length:Int))=true:=by simpa using hi
  have e2:IntKind.i64.wrap ((i:Int)+1)=((i+1:Nat):Int):=by rw [wrap64 (by omega) (by omega)];simp
  rw [B19_0]
  simp only [lnV_lst,iBin_lss,Option.bind_some,br3_bool,e1,if_true,ixA_strs hi,ld_lptr,List.getElem?_cons_zero,Option.map_some,iBin_seql,hq',Bool.false_eq_true,if_false,iBin_add,e2]
 ·intro i hi hq
  have hq':decide (strs[i]=s)=true:=by simpa using hq
  have e1:decide ((i:Int)<((strs.map D.str).length:Int))=true:=by simpa using hi
  rw [B19_0]
  simp only [lnV_lst,iBin_lss,Option.bind_some,br3_bool,e1,if_true,ixA_strs hi,ld_lptr,List.getElem?_cons_zero,Option.map_some,iBin_seql,hq']
 ·have e1:decide ((strs.length:Int)<((strs.map D.str).length:Int))=false:=by simp
  rw [B19_0]
  simp only [lnV_lst,iBin_lss,Option.bind_some,br3_bool,e1,Bool.false_eq_true,if_false]
theorem joinL_snoc (sep:List UInt8) (l:List (List UInt8)) (x:List UInt8):joinL sep (l++[x])=if l=[] then x else joinL sep l++sep++x:=by
 induction l with
 | nil=>rfl
 | cons a l ih=>
  cases l with
  | nil=>simp [joinL]
  | cons b l=>
   have:joinL sep (a::b::l++[x])=a++sep++joinL sep (b::l++[x]):=rfl
   rw [this,ih]
   simp [joinL]
theorem joinL_take_le (sep:List UInt8) (l:List (List UInt8)):∀ i,(joinL sep (l.take i)).length≤(joinL sep l).length:=by
 have key:∀ (a b:List (List UInt8)),(joinL sep a).length≤(joinL sep (a++b)).length:=by
  intro a b
  induction a with
  | nil=>simp [joinL]
  | cons x a ih=>
   cases a with
   | nil=>cases b <;> simp [joinL]
   | cons y a=>
    have h1:joinL sep (x::y::a++b)=x++sep++joinL sep (y::a++b):=rfl
    have h2:joinL sep (x::y::a)=x++sep++joinL sep (y::a):=rfl
    rw [h1,h2]
    simp only [List.length_append] at ih ⊢;omega
 intro i
 have:=key (l.take i) (l.drop i)
 rwa [List.take_append_drop] at this
theorem s58 (hS:SysOK sys) (strs:List (List UInt8)) (hs:strs.length<2 ^ 34) (hj:(joinL [44,32] strs).length<2 ^ 34):run sys lim ro 58 [.d (.lst (strs.map .str))] H=some (.val (.d (.str (joinL [44,32] strs))),H):=by
 refine runP hS rfl (by kernel_rfl) rfl ?_
 rw [R58]
 have key:=loopW_count (step:=stepL (C58 (run sys) 0 0 []) [0,3,4] (cd 58 [1,1,0,1,0,0])) (λi=>(E58 (.d (.lst (strs.map .str))) (.d (.str (joinL [44,32] (strs.take i)))) (.d (.int .i64 (i:Nat))),([]:Hp))) strs.length
  (r:=(.exi 0,E58 (.d (.lst (strs.map .str))) (.d (.str (joinL [44,32] strs))) (.d (.int .i64 (strs.length:Nat))),[])) ?_ ?_ 0 (Nat.zero_le _)
 ·have k2:loopW (stepL (C58 (run sys) 0 0 []) [0,3,4] (cd 58 [1,1,0,1,0,0])) (E58 (.d (.lst (strs.map .str))) (.d (.str [])) (.d (.int .i64 0)),([]:Hp))=_:=key
  rw [k2]
  simp only [Option.bind_some,K58_0x0,fin_pure_d]
 ·intro i hi
  have e1:decide ((i:Int)<((strs.map D.str).length:Int))=true:=by simpa using hi
  have e2:IntKind.i64.wrap ((i:Int)+1)=((i+1:Nat):Int):=by rw [wrap64 (by omega) (by omega)];simp
  have et:=take_succ_get strs i hi
  have hl:=joinL_take_le [44,32] strs (i+1)
  rw [et,joinL_snoc] at hl
  rw [B58_0,et,joinL_snoc]
  by_cases hne:strs.take i=[]
  ·have hi0:i=0:=by
    have:=congrArg List.length hne
    simp at this
    rcases this with h | h
    ·exact h
    ·rw [h] at hi;simp at hi
   subst hi0
   rw [if_pos hne] at hl ⊢
   have h0:iBin P .add 9 (.d (.str [])) (.d (.str strs[0]))=some (.d (.str strs[0])):=iBin_sadd 9 [] _ (by simp;omega)
   simp only [List.take_zero,joinL,lnV_lst,iBin_lss,Option.bind_some,br3_bool,e1,if_true,iBin_gtr,show decide ((0:Int)<((0:Nat):Int))=false from rfl,Bool.false_eq_true,if_false,ixA_strs hi,ld_lptr,List.getElem?_cons_zero,Option.map_some,h0,iBin_add,e2]
  ·rw [if_neg hne] at hl ⊢
   have hi0:0<i:=by
    rcases Nat.eq_zero_or_pos i with h | h
    ·subst h;simp at hne
    ·exact h
   have e3:decide ((0:Int)<(i:Int))=true:=by simpa using hi0
   simp only [List.length_append] at hl
   have h1:iBin P .add 9 (.d (.str (joinL [44,32] (strs.take i)))) (.d (.str [44,32]))=some (.d (.str (joinL [44,32] (strs.take i)++[44,32]))):=iBin_sadd 9 _ _ (by omega)
   have h2:iBin P .add 9 (.d (.str (joinL [44,32] (strs.take i)++[44,32]))) (.d (.str strs[i]))=some (.d (.str (joinL [44,32] (strs.take i)++[44,32]++strs[i]))):=iBin_sadd 9 _ _ (by simp only [List.length_append];omega)
   simp only [lnV_lst,iBin_lss,Option.bind_some,br3_bool,e1,if_true,iBin_gtr,e3,ixA_strs hi,ld_lptr,List.getElem?_cons_zero,Option.map_some,h1,h2,iBin_add,e2]
 ·have e1:decide ((strs.length:Int)<((strs.map D.str).length:Int))=false:=by simp
  rw [B58_0]
  simp only [lnV_lst,iBin_lss,Option.bind_some,br3_bool,e1,Bool.false_eq_true,if_false,List.take_length]
abbrev Hd:=List UInt8×List UInt8
def hdD (h:Hd):D:=.agg [.str h.1,.str h.2]
theorem box_hd (h:Hd) (H:Hp):iBox 84 (.d (hdD h)) H=some (.ptr H.length 0,H++[.cells 169 [.d (.str h.1),.d (.str h.2)]]):=rfl
def named (name:List UInt8) (h:Hd):Bool:=decide (h.1.map lowB=name.map lowB)
theorem s34 (hS:SysOK sys) (h:Hd) (name:List UInt8) (h1:h.1.length<2 ^ 34) (h2:name.length<2 ^ 34):run sys lim ro 34 [.d (hdD h),.d (.str name)] H=some (.val (.d (.bool (named name h))),H):=by
 refine runP hS rfl (by kernel_rfl) rfl ?_
 rw [R34]
 simp only [box_hd,Option.bind_some,padd_ptr,ld1_new,List.getElem?_cons_zero,Nat.zero_add,s36 hS _ h1,s36 hS _ h2,liftR_val,iBin_seql,fin_pure_d,named]
def getV (name:List UInt8) (hs:List Hd):List (List UInt8):=(hs.filter (named name)).map (·.2)
theorem ixA_hds {hs:List Hd} {i:Nat} {k:IntKind} (h:i<hs.length):ixA 2 (.d (.lst (hs.map hdD))) (.d (.int k (i:Nat)))=some (.lptr [.str hs[i].1,.str hs[i].2] 0):=by
 rw [ixA_lst (by simpa using h) (by simp;rfl)];simp;rfl
theorem getV_len (name:List UInt8) (hs:List Hd):(getV name hs).length≤hs.length:=by
 unfold getV;rw [List.length_map];exact List.length_filter_le _ _
def Short (hs:List Hd):Prop:=hs.length<2 ^ 34∧∀ h ∈ hs,h.1.length<2 ^ 34∧h.2.length<2 ^ 34
theorem s14 (hS:SysOK sys) (name:List UInt8) (hs:List Hd) (hn:name.length<2 ^ 34) (hh:Short hs):run sys lim ro 14 [.d (.str name),.d (.lst (hs.map hdD))] H=some (.val (.d (.lst ((getV name hs).map .str))),H):=by
 refine runP hS rfl (by kernel_rfl) rfl ?_
 rw [R14,bs_str0]
 simp only [Option.bind_some]
 have key:∀ k i (G:Hp) v,i+k=hs.length→Acc 9 1 0 G v ((getV name (hs.take i)).map .str)→∃ G' v',loopW (stepL (C14 (run sys) 0 0 []) [0,1,5,6] (cd 14 [1,1,0,1,0,0])) (E14 (.d (.str name)) (.d (.lst (hs.map hdD))) v (.d (.int .i64 (i:Nat))),G) =
   some (.exi 0,E14 (.d (.str name)) (.d (.lst (hs.map hdD))) v' (.d (.int .i64 (hs.length:Nat))),G')∧Acc 9 1 0 G' v' ((getV name hs).map .str):=by
  intro k
  induction k with
  | zero=>
   intro i G v hi hA
   have hi':i=hs.length:=by omega
   subst hi'
   rw [List.take_length] at hA
   refine⟨G,v,loopW_done ?_,hA⟩
   have e1:decide ((hs.length:Int)<((hs.map hdD).length:Int))=false:=by simp
   rw [B14_0]
   simp only [lnV_lst,iBin_lss,Option.bind_some,br3_bool,e1,Bool.false_eq_true,if_false]
  | succ k ih=>
   intro i G v hi hA
   have hlt:i<hs.length:=by omega
   have hl:=hh.1
   have e1:decide ((i:Int)<((hs.map hdD).length:Int))=true:=by simpa using hlt
   have e2:IntKind.i64.wrap ((i:Int)+1)=((i+1:Nat):Int):=by rw [wrap64 (by omega) (by omega)];simp
   have hsh:=hh.2 hs[i] (List.getElem_mem hlt)
   have hrun:=s34 (lim:=([]:Hp).length) (ro:=([]:Hp).length) (H:=G) hS hs[i] name hsh.1 hn
   have hg:getV name (hs.take (i+1))=getV name (hs.take i)++(if named name hs[i]=true then [hs[i].2] else []):=by
    rw [take_succ_get hs i hlt]
    unfold getV
    rw [List.filter_append,List.map_append]
    cases h:named name hs[i] <;> simp [h]
   cases hnm:named name hs[i] with
   | true=>
    obtain⟨v',G',hp,hA', -⟩:=hA.push (e:=.str hs[i].2) (OkE.str _) (Nat.zero_le _) (by have:=getV_len name (hs.take i);simp only [List.length_map,List.length_take] at this ⊢;omega)
    have hA'':Acc 9 1 0 G' v' ((getV name (hs.take (i+1))).map .str):=by rw [hg,hnm,List.map_append];exact hA'
    obtain⟨G2,v2,hl,hA2⟩:=ih (i+1) G' v' (by omega) hA''
    refine⟨G2,v2,loopW_next ?_ hl,hA2⟩
    have hp':app 9 1 ([]:Hp).length v (.vec G.length 1 0 1) (G++[.cells 18 [.d (.str hs[i].2)]])=some (v',G'):=hp
    rw [hnm] at hrun
    rw [B14_0]
    simp only [lnV_lst,iBin_lss,Option.bind_some,br3_bool,e1,if_true,ixA_hds hlt,ldN_lptr _ _ (show 2=([D.str hs[i].1,D.str hs[i].2]:List D).length from rfl),show D.agg [D.str hs[i].1,D.str hs[i].2]=hdD hs[i] from rfl,hrun,liftR_val,padd_lptr,ld_lptr,Nat.zero_add,List.getElem?_cons_succ,List.getElem?_cons_zero,Option.map_some,bs_str,hp',iBin_add,e2]
   | false=>
    have hA'':Acc 9 1 0 G v ((getV name (hs.take (i+1))).map .str):=by rw [hg,hnm];simpa using hA
    obtain⟨G2,v2,hl,hA2⟩:=ih (i+1) G v (by omega) hA''
    refine⟨G2,v2,loopW_next ?_ hl,hA2⟩
    rw [hnm] at hrun
    rw [B14_0]
    simp only [lnV_lst,iBin_lss,Option.bind_some,br3_bool,e1,if_true,ixA_hds hlt,ldN_lptr _ _ (show 2=([D.str hs[i].1,D.str hs[i].2]:List D).length from rfl),show D.agg [D.str hs[i].1,D.str hs[i].2]=hdD hs[i] from rfl,hrun,liftR_val,Bool.false_eq_true,if_false,iBin_add,e2]
 obtain⟨G',v',hl,hA⟩:=key hs.length 0 ([]++[.cells 18 []]) (.vec 0 1 0 0) (by omega) (Acc.new 9 1 0 [] (Nat.zero_le _))
 rw [show (0:Int)=((0:Nat):Int) from rfl,show ([]:Hp).length=0 from rfl,hl]
 simp only [Option.bind_some,K14_0x0]
 exact hA.fin []
theorem s15 (hS:SysOK sys) (hs:List Hd) (hh:Short hs):∃ t b,run sys lim ro 15 [.d (.lst (hs.map hdD))] H=some (.val (.tup [.d (.str t),.d (.bool b)]),H)∧t.length<2 ^ 34:=by
 have hg:=λl r G=>s14 (lim:=l) (ro:=r) (H:=G) hS [99,111,110,116,101,110,116,45,116,121,112,101] hs (by decide) hh
 cases hv:getV [99,111,110,116,101,110,116,45,116,121,112,101] hs with
 | nil=>
  refine⟨[],false,runP hS rfl (by kernel_rfl) rfl ?_,by decide⟩
  rw [R15]
  simp only [hg,hv,liftR_val,lnV_lst,List.map_nil,List.length_nil,iBin_eql,Option.bind_some,br3_bool]
  simp
 | cons x l=>
  have hlast:∃ t,(x::l).getLast? = some t∧t.length<2 ^ 34:=by
   refine⟨(x::l).getLast (by simp),List.getLast?_eq_some_getLast (by simp),?_⟩
   have hm:(x::l).getLast (by simp) ∈ getV [99,111,110,116,101,110,116,45,116,121,112,101] hs:=by rw [hv];exact List.getLast_mem _
   unfold getV at hm
   obtain⟨h,hm1,hm2⟩:=List.mem_map.1 hm
   rw [← hm2]
   exact (hh.2 h (List.mem_filter.1 hm1).1).2
  obtain⟨t,ht,htl⟩:=hlast
  have hlen:(x::l).length<2 ^ 34:=by
   rw [← hv]
   unfold getV
   rw [List.length_map]
   exact Nat.lt_of_le_of_lt (List.filter_sublist).length_le hh.1
  have hidx:(x::l)[(x::l).length - 1]? = some t:=by rw [← List.getLast?_eq_getElem?];exact ht
  have hlt:(x::l).length - 1<(x::l).length:=by simp
  have hget:(x::l)[(x::l).length - 1]=t:=by rw [List.getElem?_eq_getElem hlt] at hidx;exact Option.some.inj hidx
  refine⟨t,true,runP hS rfl (by kernel_rfl) rfl ?_,htl⟩
  rw [R15]
  have e0:decide ((((x::l).map D.str).length:Int)=0)=false:=by simp;omega
  have e1:IntKind.i64.wrap ((((x::l).map D.str).length:Int) - 1)=(((x::l).length - 1:Nat):Int):=by
   simp only [List.length_map]
   simp only [List.length_cons] at hlen ⊢
   rw [wrap64 (by omega) (by omega)];omega
  simp only [hg,hv,liftR_val,lnV_lst,iBin_eql,Option.bind_some,br3_bool,e0,Bool.false_eq_true,if_false,iBin_sub,e1,ixA_strs hlt,hget,ld_lptr,List.getElem?_cons_zero,Option.map_some,fin_pure_dd]
end Go.Tg
