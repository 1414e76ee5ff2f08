/- What bytes are: the functions of class. -/
import Derived.Test.YtnkobejhnphmhaaGreatDoorAh
import Derived.Test.YtnkobejhnphmhaaGreatDoorBa
set_option linter.all false
namespace Go.Tg
variable [Globs] {lim ro:Nat} {H:Hp}
def cSmall (c:Int):Bool:=decide (97≤c) && decide (c≤122)
def cGreat (c:Int):Bool:=decide (65≤c) && decide (c≤90)
def cDigit (c:Int):Bool:=decide (48≤c) && decide (c≤57)
def cLetter (c:Int):Bool:=cSmall c || cGreat c
def cWhite (c:Int):Bool:=decide (c=9) || decide (c=10) || decide (c=13) || decide (c=32)
def cTab (c:Int):Bool:=decide (c=9) || decide (c=32)
def cQuoted (c:Int):Bool:=decide (c=9) || decide (32≤c) && decide (c≤126) || decide (128≤c)
theorem s394 (hS:SysOK sys) (c:Int):run sys lim ro 394 [.d (.int .u8 c)] H=some (.val (.d (.bool (cSmall c))),H):=by
 refine runP hS rfl (by kernel_rfl) rfl ?_
 rw [R394]
 simp only [g394_0,g394_1,g394_2,iBin_geq,iBin_leq,Option.bind_some,brN3_bool,fin_pure_d]
 unfold cSmall
 split <;> (try simp_all) <;> (try omega)
theorem s395 (hS:SysOK sys) (c:Int):run sys lim ro 395 [.d (.int .u8 c)] H=some (.val (.d (.bool (cGreat c))),H):=by
 refine runP hS rfl (by kernel_rfl) rfl ?_
 rw [R395]
 simp only [g395_0,g395_1,g395_2,iBin_geq,iBin_leq,Option.bind_some,brN3_bool,fin_pure_d]
 unfold cGreat
 split <;> (try simp_all) <;> (try omega)
theorem s339 (hS:SysOK sys) (c:Int):run sys lim ro 339 [.d (.int .u8 c)] H=some (.val (.d (.bool (cDigit c))),H):=by
 refine runP hS rfl (by kernel_rfl) rfl ?_
 rw [R339]
 simp only [g339_0,g339_1,g339_2,iBin_geq,iBin_leq,Option.bind_some,brN3_bool,fin_pure_d]
 unfold cDigit
 split <;> (try simp_all) <;> (try omega)
theorem s345 (hS:SysOK sys) (c:Int):run sys lim ro 345 [.d (.int .u8 c)] H=some (.val (.d (.bool (cLetter c))),H):=by
 refine runP hS rfl (by kernel_rfl) rfl ?_
 rw [R345]
 simp only [g345_0,g345_1,g345_2,s394 hS,s395 hS,liftR_val,brN3_bool,fin_pure_d]
 unfold cLetter
 split <;> (try simp_all) <;> (try omega)
theorem s347 (hS:SysOK sys) (c:Int):run sys lim ro 347 [.d (.int .u8 c)] H=some (.val (.d (.bool (cWhite c))),H):=by
 refine runP hS rfl (by kernel_rfl) rfl ?_
 rw [R347]
 simp only [g347_0,g347_1,g347_2,g347_3,g347_4,g347_5,g347_6,iBin_eql,Option.bind_some,brN3_bool,fin_pure_d]
 unfold cWhite
 repeat' split
 all_goals ((try simp_all) <;> (try omega))
theorem s421 (hS:SysOK sys) (c:Int):run sys lim ro 421 [.d (.int .u8 c)] H=some (.val (.d (.bool (cTab c))),H):=by
 refine runP hS rfl (by kernel_rfl) rfl ?_
 rw [R421]
 simp only [g421_0,g421_1,g421_2,iBin_eql,Option.bind_some,brN3_bool,fin_pure_d]
 unfold cTab
 split <;> (try simp_all) <;> (try omega)
theorem s332 (hS:SysOK sys) (c:Int):run sys lim ro 332 [.d (.int .u8 c)] H=some (.val (.d (.bool (cWhite c))),H):=by
 refine runP hS rfl (by kernel_rfl) rfl ?_
 rw [R332];simp only [s347 hS,liftR_val,fin_pure_d]
theorem s380 (hS:SysOK sys) (c:Int):run sys lim ro 380 [.d (.int .u8 c)] H=some (.val (.d (.bool (cTab c))),H):=by
 refine runP hS rfl (by kernel_rfl) rfl ?_
 rw [R380];simp only [s421 hS,liftR_val,fin_pure_d]
theorem s446 (hS:SysOK sys) (c:Int):run sys lim ro 446 [.d (.int .u8 c)] H=some (.val (.d (.bool (cQuoted c))),H):=by
 refine runP hS rfl (by kernel_rfl) rfl ?_
 rw [R446]
 simp only [g446_0,g446_1,g446_2,g446_3,g446_4,g446_5,g446_6,iBin_eql,iBin_leq,iBin_geq,Option.bind_some,brN3_bool,fin_pure_d]
 unfold cQuoted
 repeat' split
 all_goals ((try simp_all) <;> (try omega))
theorem s392 (hS:SysOK sys) (s:List UInt8) (c:Int):run sys lim ro 392 [.d (.str s),.d (.int .u8 c)] H=some (.val (.d (.int .i64 (firstAt s c.toNat.toUInt8))),H):=
 run_prim hS (g:=pIndexByte) rfl rfl
theorem s340 (hS:SysOK sys) (s:List UInt8) (c:Int):run sys lim ro 340 [.d (.str s),.d (.int .u8 c)] H=some (.val (.d (.int .i64 (firstAt s c.toNat.toUInt8))),H):=by
 refine runP hS rfl (by kernel_rfl) rfl ?_
 rw [R340];simp only [s392 hS,liftR_val,fin_pure_d]
theorem s264 (hS:SysOK sys) (s:List UInt8) (c:Int):run sys lim ro 264 [.d (.str s),.d (.int .u8 c)] H=some (.val (.d (.int .i64 (firstAt s c.toNat.toUInt8))),H):=by
 refine runP hS rfl (by kernel_rfl) rfl ?_
 rw [R264];simp only [s340 hS,liftR_val,fin_pure_d]
def hasB (s:List UInt8) (c:UInt8):Bool:=s.contains c
theorem firstAt_nonneg (s:List UInt8) (c:UInt8):decide (0≤firstAt s c)=hasB s c:=by
 unfold firstAt hasB
 cases h:s.findIdx? (· == c) with
 | none=>
  rw [List.findIdx?_eq_none_iff] at h
  simp only [Int.reduceNeg,Int.reduceLE,decide_false]
  symm
  rw [List.contains_eq_any_beq,List.any_eq_false]
  intro x hx
  have:=h x hx
  simp at this ⊢
  exact λe=>this e.symm
 | some i=>
  simp only [Int.natCast_nonneg,decide_true]
  symm
  rw [List.contains_eq_any_beq,List.any_eq_true]
  have hi:=List.findIdx?_eq_some_iff_getElem.1 h
  obtain⟨h1,h2,_⟩:=hi
  exact⟨s[i],List.getElem_mem h1,by simp at h2;simp [h2]⟩
def signsL:List UInt8:=[33,35,36,37,38,39,42,43,45,46,94,95,124,126,96]
def cToken (c:Int):Bool:=cLetter c || cDigit c || hasB signsL c.toNat.toUInt8
theorem s278 (hS:SysOK sys) (c:Int):run sys lim ro 278 [.d (.int .u8 c)] H=some (.val (.d (.bool (cToken c))),H):=by
 refine runP hS rfl (by kernel_rfl) rfl ?_
 rw [R278]
 simp only [g278_0,g278_1,g278_2,g278_3,g278_4,s345 hS,s339 hS,s264 hS,iBin_geq,firstAt_nonneg,Option.bind_some,liftR_val,brN3_bool,fin_pure_d]
 unfold cToken signsL
 repeat' split
 all_goals ((try simp_all) <;> (try omega))
def lowB (b:UInt8):UInt8:=if 65≤b∧b≤90 then b+32 else b
theorem s377 (hS:SysOK sys) (b:UInt8):run sys lim ro 377 [.d (.int .u8 (b.toNat:Int))] H=some (.val (.d (.int .u8 ((lowB b).toNat:Int))),H):=by
 refine runP hS rfl (by kernel_rfl) rfl ?_
 rw [R377]
 simp only [s395 hS,iBin_add,Option.bind_some,liftR_val,br3_bool,fin_pure_d]
 have hb:b.toNat<256:=b.toNat_lt
 unfold cGreat lowB
 by_cases h:65≤b∧b≤90
 ·have h1:(65:Nat)≤b.toNat:=UInt8.le_iff_toNat_le.1 h.1
  have h2:b.toNat≤90:=UInt8.le_iff_toNat_le.1 h.2
  have e1:decide ((65:Int)≤(b.toNat:Int))=true:=by simp;omega
  have e2:decide ((b.toNat:Int)≤90)=true:=by simp;omega
  rw [e1,e2,if_pos h]
  simp only [Bool.and_self,if_true]
  have:(b+32).toNat=b.toNat+32:=by rw [UInt8.toNat_add];simp;omega
  rw [this]
  congr 4
  unfold IntKind.wrap;simp [IntKind.signed,IntKind.bits];omega
 ·have h1:¬ (65≤b.toNat∧b.toNat≤90):=λhh=>h ⟨UInt8.le_iff_toNat_le.2 hh.1,UInt8.le_iff_toNat_le.2 hh.2⟩
  rw [if_neg h]
  by_cases h3:65≤b.toNat
  ·have e2:decide ((b.toNat:Int)≤90)=false:=by simp;omega
   rw [e2];simp
  ·have e1:decide ((65:Int)≤(b.toNat:Int))=false:=by simp;omega
   rw [e1];simp
end Go.Tg
namespace Go.Tg
variable [Globs] {lim ro:Nat} {H:Hp}
def bv (l:List UInt8):List IV:=l.map λb=>.d (.int .u8 (b.toNat:Int))
theorem bv_length (l:List UInt8):(bv l).length=l.length:=by simp [bv]
theorem bv_get (l:List UInt8) (i:Nat) (h:i<l.length):(bv l)[i]? = some (.d (.int .u8 (l[i].toNat:Int))):=by simp [bv,h]
theorem byteOf_nat (b:UInt8):byteOf (.d (.int .u8 (b.toNat:Int)))=some b:=by simp [byteOf]
theorem mapM_bv (l:List UInt8):(bv l).mapM byteOf=some l:=by
 induction l with
 | nil=>rfl
 | cons b l ih=>show (List.map _ (b::l)).mapM byteOf=_;rw [List.map_cons,List.mapM_cons,byteOf_nat];show ((bv l).mapM byteOf).bind _=_;rw [ih];rfl
theorem ixA_vec {b n off len i:Nat} {k:IntKind} (h:i<len):ixA n (.vec b n off len) (.d (.int k (i:Int)))=some (.ptr b (off+i*n)):=by
 simp [ixA,h]
theorem ixA_lst {els:List D} {n i:Nat} {k:IntKind} (h:i<els.length) (hc:(els[i]).cells.length=n):ixA n (.d (.lst els)) (.d (.int k (i:Int)))=some (.lptr (els[i]).cells 0):=by
 simp [ixA,h,hc]
def endL (p:UInt8→Bool) (s:List UInt8):List UInt8:=(s.reverse.dropWhile p).reverse
abbrev Judges (f:Nat) (p:UInt8→Bool):Prop:=∀ (lim ro:Nat) (H:Hp) (b:UInt8),run sys lim ro f [.d (.int .u8 (b.toNat:Int))] H=some (.val (.d (.bool (p b))),H)
def bWhite (b:UInt8):Bool:=cWhite (b.toNat:Int)
def bTab (b:UInt8):Bool:=cTab (b.toNat:Int)
def bToken (b:UInt8):Bool:=cToken (b.toNat:Int)
def bQuoted (b:UInt8):Bool:=cQuoted (b.toNat:Int)
theorem j347 (hS:SysOK sys):Judges 347 bWhite:=λ_ _ _ _=>s347 hS _
theorem j332 (hS:SysOK sys):Judges 332 bWhite:=λ_ _ _ _=>s332 hS _
theorem j421 (hS:SysOK sys):Judges 421 bTab:=λ_ _ _ _=>s421 hS _
theorem j380 (hS:SysOK sys):Judges 380 bTab:=λ_ _ _ _=>s380 hS _
theorem j278 (hS:SysOK sys):Judges 278 bToken:=λ_ _ _ _=>s278 hS _
theorem j446 (hS:SysOK sys):Judges 446 bQuoted:=λ_ _ _ _=>s446 hS _
theorem take_succ_get {α:Type} (s:List α) (n:Nat) (h:n<s.length):s.take (n+1)=s.take n++[s[n]]:=by
 rw [List.take_succ,List.getElem?_eq_getElem h];rfl
theorem endL_concat (p:UInt8→Bool) (s:List UInt8) (b:UInt8):endL p (s++[b])=if p b=true then endL p s else s++[b]:=by
 unfold endL
 rw [List.reverse_append,List.reverse_singleton,List.singleton_append,List.dropWhile_cons]
 split
 ·rfl
 ·rw [List.reverse_cons,List.reverse_reverse]
theorem endL_length (p:UInt8→Bool) (s:List UInt8):(endL p s).length≤s.length:=by
 unfold endL;rw [List.length_reverse]
 exact Nat.le_trans (List.dropWhile_sublist _).length_le (by simp)
theorem endL_prefix (p:UInt8→Bool) (s:List UInt8):s.take (endL p s).length=endL p s:=by
 have h:(s.reverse.takeWhile p)++(s.reverse.dropWhile p)=s.reverse:=List.takeWhile_append_dropWhile
 have h2:s=endL p s++(s.reverse.takeWhile p).reverse:=by
  unfold endL;rw [← List.reverse_append,h,List.reverse_reverse]
 generalize hq:(s.reverse.takeWhile p).reverse=q at h2
 generalize endL p s=e at h2 ⊢
 rw [h2];simp
theorem s346 (hS:SysOK sys) {f:Nat} {p:UInt8→Bool} (hf:Judges f p) (s:List UInt8) (hs:s.length<2 ^ 62) :
  run sys lim ro 346 [.d (.str s),.fn f [] []] H=some (.val (.d (.int .i64 ((endL p s).length:Nat))),H):=by
 refine runP hS rfl (by kernel_rfl) rfl ?_
 rw [R346]
 simp only [lnS_str,Option.bind_some]
 have key:∀ n,n≤s.length→loopW (stepL (C346 (run sys) 0 0 []) [0,1,5] (cd 346 [1,1,0,0,0])) (E346 (.d (.str s)) (.fn f [] []) (.d (.int .i64 (n:Nat))),[]) =
   some (.exi 0,E346 (.d (.str s)) (.fn f [] []) (.d (.int .i64 ((endL p (s.take n)).length:Nat))),[]):=by
  intro n
  induction n with
  | zero=>
   intro _
   refine loopW_done ?_
   rw [B346_0]
   simp [g346_0,g346_2,iBin_gtr,endL]
  | succ n ih=>
   intro hn
   have hlt:n<s.length:=by omega
   have e1:IntKind.i64.wrap (((n+1:Nat):Int) - 1)=(n:Int):=by rw [wrap64] <;> omega
   have e2:decide ((0:Int)<((n+1:Nat):Int))=true:=by simp
   have e3:(s.take n++[s[n]]).length=n+1:=by rw [List.length_append,List.length_take,Nat.min_eq_left (by omega)];rfl
   rw [take_succ_get s n hlt,endL_concat]
   cases hp:p s[n] with
   | true=>
    refine loopW_next (s':=(E346 (.d (.str s)) (.fn f [] []) (.d (.int .i64 (n:Nat))),[])) ?_ (by simpa using ih (by omega))
    rw [B346_0]
    simp only [g346_0,iBin_gtr,Option.bind_some,brN3_bool,e2,if_true,g346_1,iBin_sub,e1,ixS_nat hlt,goVal3_fn,C346,List.nil_append,List.append_nil,hf,liftR_val,br3_bool,hp]
   | false=>
    refine loopW_done ?_
    rw [B346_0]
    simp only [g346_0,iBin_gtr,Option.bind_some,brN3_bool,e2,if_true,g346_1,iBin_sub,e1,ixS_nat hlt,goVal3_fn,C346,List.nil_append,List.append_nil,hf,liftR_val,br3_bool,hp,Bool.false_eq_true,if_false,e3]
 have:=key s.length (Nat.le_refl _)
 rw [List.take_length] at this
 rw [this]
 simp only [Option.bind_some,K346_0x0,fin_pure_d]
theorem s417 (hS:SysOK sys) (s:List UInt8) (hs:s.length<2 ^ 62):run sys lim ro 417 [.d (.str s)] H=some (.val (.d (.str (endL bTab s))),H):=by
 refine runP hS rfl (by kernel_rfl) rfl ?_
 rw [R417]
 simp only [s346 hS (j421 hS) s hs,liftR_val,slS_take (endL_length bTab s),Option.bind_some,endL_prefix,fin_pure_d]
end Go.Tg
namespace Go.Tg
variable [Globs] {lim ro:Nat} {H:Hp}
def trimL (p:UInt8→Bool) (s:List UInt8):List UInt8:=(endL p s).dropWhile p
theorem drop_dropWhile (p:UInt8→Bool) (s:List UInt8):s.drop (s.takeWhile p).length=s.dropWhile p:=by
 induction s with
 | nil=>rfl
 | cons b s ih=>
  rw [List.takeWhile_cons,List.dropWhile_cons]
  split
  ·simpa using ih
  ·rfl
theorem takeWhile_len_le (p:UInt8→Bool) (s:List UInt8):(s.takeWhile p).length≤s.length:=(List.takeWhile_sublist _).length_le
theorem takeWhile_get (p:UInt8→Bool) (s:List UInt8) {i:Nat} (h:i<(s.takeWhile p).length) (h':i<s.length):p s[i]=true:=by
 have e:s[i]=(s.takeWhile p)[i]:=by
  have:=List.takeWhile_append_dropWhile (p:=p) (l:=s)
  conv=>lhs;rw [List.getElem_of_eq this.symm]
  rw [List.getElem_append_left h]
 rw [e]
 exact List.all_takeWhile (p:=p) (l:=s) |> λh2=>(List.all_eq_true.1 h2) _ (List.getElem_mem h)
theorem takeWhile_stop (p:UInt8→Bool) (s:List UInt8) (h:(s.takeWhile p).length<s.length):p (s[(s.takeWhile p).length])=false:=by
 have h2:(s.dropWhile p)≠[]:=by
  intro e
  have:=congrArg List.length (List.takeWhile_append_dropWhile (p:=p) (l:=s))
  rw [e] at this;simp at this;omega
 have h3:=List.head_dropWhile_not p h2
 have e:s[(s.takeWhile p).length]=(s.dropWhile p).head h2:=by
  have:=List.takeWhile_append_dropWhile (p:=p) (l:=s)
  conv=>lhs;rw [List.getElem_of_eq this.symm]
  rw [List.getElem_append_right (Nat.le_refl _)]
  simp [List.head_eq_getElem]
 rw [e];exact h3
theorem s279 (hS:SysOK sys) (s:List UInt8) (hs:s.length<2 ^ 62):run sys lim ro 279 [.d (.str s)] H=some (.val (.d (.str (trimL bWhite s))),H):=by
 refine runP hS rfl (by kernel_rfl) rfl ?_
 rw [R279]
 simp only [s346 hS (j347 hS) s hs,liftR_val,slS_take (endL_length bWhite s),Option.bind_some,endL_prefix]
 have hl:=endL_length bWhite s
 unfold trimL
 generalize endL bWhite s=t at hl
 have key:=loopW_count (step:=stepL (C279 (run sys) 0 0 []) [0,3] (cd 279 [1,1,1,0,0,0])) (λi=>(E279 (.d (.str t)) (.d (.int .i64 (i:Nat))),([]:Hp))) (t.takeWhile bWhite).length
  (r:=(.exi 0,E279 (.d (.str t)) (.d (.int .i64 ((t.takeWhile bWhite).length:Nat))),[])) ?_ ?_ 0 (Nat.zero_le _)
 ·rw [show (0:Int)=((0:Nat):Int) from rfl,key]
  simp only [Option.bind_some,K279_0x0,slS_drop (takeWhile_len_le bWhite t),drop_dropWhile,fin_pure_d]
 ·intro i hi
  have hlt:i<t.length:=Nat.lt_of_lt_of_le hi (takeWhile_len_le bWhite t)
  have e1:decide ((i:Int)<(t.length:Int))=true:=by simpa using hlt
  have e2:IntKind.i64.wrap ((i:Int)+1)=((i+1:Nat):Int):=by rw [wrap64] <;> omega
  rw [B279_0]
  simp only [g279_0,lnS_str,iBin_lss,Option.bind_some,brN3_bool,e1,if_true,g279_1,ixS_nat hlt,j347 hS _ _ _ _,liftR_val,br3_bool,takeWhile_get bWhite t hi hlt,iBin_add,e2]
 ·rw [B279_0]
  by_cases hlt:(t.takeWhile bWhite).length<t.length
  ·have e1:decide (((t.takeWhile bWhite).length:Int)<(t.length:Int))=true:=by simpa using hlt
   simp only [g279_0,lnS_str,iBin_lss,Option.bind_some,brN3_bool,e1,if_true,g279_1,ixS_nat hlt,j347 hS _ _ _ _,liftR_val,br3_bool,takeWhile_stop bWhite t hlt,Bool.false_eq_true,if_false]
  ·have e1:decide (((t.takeWhile bWhite).length:Int)<(t.length:Int))=false:=by simpa using hlt
   simp only [g279_0,lnS_str,iBin_lss,Option.bind_some,brN3_bool,e1,Bool.false_eq_true,if_false,g279_2]
theorem iBin_fn_neq (f:Nat) (a b:List IV):iBin P .neq 140 (.fn f a b) .nofn=some (.d (.bool true)):=by kernel_rfl
theorem s344 (hS:SysOK sys) {f:Nat} {p:UInt8→Bool} (hf:Judges f p) (s:List UInt8) (hs:s.length<2 ^ 62) :
  run sys lim ro 344 [.d (.str s),.fn f [] []] H=some (.val (.d (.int .i64 ((s.filter p).length:Nat))),H):=by
 refine runP hS rfl (by kernel_rfl) rfl ?_
 rw [R344]
 have key:=loopW_count (step:=stepL (C344 (run sys) 0 0 []) [0,1,5,6] (cd 344 [1,1,0,1,0,0])) (λi=>(E344 (.d (.str s)) (.fn f [] []) (.d (.int .i64 (((s.take i).filter p).length:Nat))) (.d (.int .i64 (i:Nat))),([]:Hp))) s.length
  (r:=(.exi 0,E344 (.d (.str s)) (.fn f [] []) (.d (.int .i64 ((s.filter p).length:Nat))) (.d (.int .i64 (s.length:Nat))),[])) ?_ ?_ 0 (Nat.zero_le _)
 ·simp only [List.take_zero,List.filter_nil,List.length_nil] at key
  rw [show (0:Int)=((0:Nat):Int) from rfl,key]
  simp only [Option.bind_some,K344_0x0,fin_pure_d]
 ·intro i hi
  have e1:decide ((i:Int)<(s.length:Int))=true:=by simpa using hi
  have e2:IntKind.i64.wrap ((i:Int)+1)=((i+1:Nat):Int):=by rw [wrap64] <;> omega
  have hc:((s.take i).filter p).length≤i:=Nat.le_trans (List.filter_sublist).length_le (by simp;omega)
  have e3:IntKind.i64.wrap ((((s.take i).filter p).length:Int)+1)=((((s.take i).filter p).length+1:Nat):Int):=by rw [wrap64] <;> omega
  rw [B344_0]
  simp only [g344_0,iBin_fn_neq,Option.bind_some,brN3_bool,if_true,g344_1,lnS_str,iBin_lss,br3_bool,e1,ixS_nat hi,goVal3_fn,C344,List.nil_append,List.append_nil,hf,liftR_val,iBin_add,e2,e3,take_succ_get s i hi,List.filter_append]
  cases hp:p s[i] <;> simp [hp]
 ·have e1:decide ((s.length:Int)<(s.length:Int))=false:=by simp
  rw [B344_0]
  simp only [g344_0,iBin_fn_neq,Option.bind_some,brN3_bool,if_true,g344_1,lnS_str,iBin_lss,br3_bool,e1,Bool.false_eq_true,if_false,List.take_length]
theorem filter_len_all (p:UInt8→Bool) (s:List UInt8):decide (((s.filter p).length:Int)=(s.length:Int))=s.all p:=by
 rw [Bool.eq_iff_iff]
 simp only [decide_eq_true_eq,Int.natCast_inj]
 rw [List.length_filter_eq_length_iff,List.all_eq_true]
theorem s277 (hS:SysOK sys) {f:Nat} {p:UInt8→Bool} (hf:Judges f p) (s:List UInt8) (hs:s.length<2 ^ 62) :
  run sys lim ro 277 [.d (.str s),.fn f [] []] H=some (.val (.d (.bool (s.all p))),H):=by
 refine runP hS rfl (by kernel_rfl) rfl ?_
 rw [R277]
 simp only [s344 hS hf s hs,liftR_val,lnS_str,iBin_eql,Option.bind_some,filter_len_all,fin_pure_d]
end Go.Tg
