/- The cursor's functions. -/
import Derived.Test.YtnkobejhnphmhaaGreatDoorBb
import Derived.Test.YtnkobejhnphmhaaGreatDoorBc
set_option linter.all false
namespace Go.Tg
variable [Globs] {lim ro:Nat} {H:Hp}
def curB (s:List UInt8) (at_:Nat):Blk:=.cells 577 [.d (.str s),.d (.int .i64 at_)]
theorem cur_eql (b:Nat):iBin P .eql 241 (.ptr b 0) .nul=some (.d (.bool false)):=by kernel_rfl
theorem cur_neq (b:Nat):iBin P .neq 241 (.ptr b 0) .nul=some (.d (.bool true)):=by kernel_rfl
theorem cur_ld0 {b at_:Nat} {s:List UInt8} (h:H[b]? = some (curB s at_)):ld1 (.ptr b 0) H=some (.d (.str s)):=by rw [ld1_cells h];rfl
theorem cur_ld1 {b at_:Nat} {s:List UInt8} (h:H[b]? = some (curB s at_)):ld1 (.ptr b 1) H=some (.d (.int .i64 at_)):=by rw [ld1_cells h];rfl
theorem cur_st {b at_ n:Nat} {s:List UInt8} (h:H[b]? = some (curB s at_)) (hr:ro≤b):st 1 lim ro (.ptr b 1) (.d (.int .i64 (n:Nat))) H=some (H.set b (curB s n)):=by
 rw [st_cells (v:=.d (.int .i64 (n:Nat))) (n:=1) h rfl (by simp) rfl hr (Or.inr rfl)]
 rfl
theorem set_get {b:Nat} {x:Blk} {v:Blk} (h:H[b]? = some v):(H.set b x)[b]? = some x:=by
 have:b<H.length:=by
  rcases Nat.lt_or_ge b H.length with h' | h'
  ·exact h'
  ·rw [List.getElem?_eq_none h'] at h;cases h
 rw [List.getElem?_set_self this]
theorem set_take {b:Nat} {x:Blk}:(H.set b x).take H.length=H.set b x:=by
 rw [List.take_of_length_le (by simp)]
theorem s381 (hS:SysOK sys) {b at_:Nat} {s:List UInt8} (h:H[b]? = some (curB s at_)) (ha:at_≤s.length):run sys lim ro 381 [.ptr b 0] H=some (.val (.d (.str (s.drop at_))),H):=by
 refine runB hS rfl (λ_=>rfl) ?_
 rw [R381]
 simp only [cur_eql,Option.bind_some,br3_bool,Bool.false_eq_true,if_false,cur_ld0 h,cur_ld1 h,slS_drop ha,fin_pure_d]
theorem s388 (hS:SysOK sys) {b at_:Nat} {s:List UInt8} (h:H[b]? = some (curB s at_)):run sys lim ro 388 [.ptr b 0] H=some (.val (.d (.int .i64 at_)),H):=by
 refine runB hS rfl (λ_=>rfl) ?_
 rw [R388]
 simp only [cur_eql,Option.bind_some,br3_bool,Bool.false_eq_true,if_false,cur_ld1 h,fin_pure_d]
theorem s333 (hS:SysOK sys) {b at_:Nat} {s:List UInt8} (h:H[b]? = some (curB s at_)):run sys lim ro 333 [.ptr b 0] H=some (.val (.d (.int .i64 at_)),H):=by
 refine runB hS rfl (λ_=>rfl) ?_
 rw [R333]
 simp only [s388 hS h,liftR_val,fin_pure_d]
theorem s254 (hS:SysOK sys) (s:List UInt8):run sys lim ro 254 [.d (.str s)] H=some (.val (.ptr H.length 0),H++[curB s 0]):=by
 have e:tab.mode 254=.keep:=by kernel_rfl
 refine runB hS rfl (λh=>by rw [e] at h;cases h) ?_
 rw [R254];rfl
theorem s373 (hS:SysOK sys) {b at_:Nat} {s:List UInt8} (h:H[b]? = some (curB s at_)) (ha:at_≤s.length):run sys lim ro 373 [.ptr b 0,.d (.int .i64 0)] H =
  some (.val (.tup (match s.drop at_ with | []=>[.d (.int .u8 0),.d (.bool false)] | x::_=>[.d (.int .u8 (x.toNat:Nat)),.d (.bool true)])),H):=by
 refine runB hS rfl (λ_=>rfl) ?_
 rw [R373]
 simp only [s381 hS h ha,liftR_val,g373_0,iBin_lss,Option.bind_some,brN3_bool,show decide ((0:Int)<0)=false from rfl,Bool.false_eq_true,if_false,g373_2,lnS_str,iBin_geq,br3_bool]
 cases hd:s.drop at_ with
 | nil=>simp
 | cons x l=>simp [ixS]
theorem s387 (hS:SysOK sys) {b at_ n:Nat} {s:List UInt8} (h:H[b]? = some (curB s at_)) (hr:ro≤b) (ha:at_+n≤s.length) (hs:s.length<2 ^ 34):run sys lim ro 387 [.ptr b 0,.d (.int .i64 n)] H=some (.val (.d (.str ((s.drop at_).take n))),H.set b (curB s (at_+n))):=by
 refine runB hS rfl (λ_=>rfl) ?_
 rw [R387]
 have e:IntKind.i64.wrap ((at_:Int)+n)=((at_+n:Nat):Int):=by rw [wrap64 (by omega) (by omega)];simp
 simp only [s381 hS h (by omega),liftR_val,slS_take (s:=s.drop at_) (n:=n) (by simp;omega),cur_neq,Option.bind_some,br3_bool,if_true,cur_ld1 h,iBin_add,e,cur_st h hr,fin_mut_d,set_take]
theorem s418 (hS:SysOK sys) {b at_:Nat} {s:List UInt8} (h:H[b]? = some (curB s at_)) (hr:ro≤b) (ha:at_≤s.length) (hs:s.length<2 ^ 34):run sys lim ro 418 [.ptr b 0] H=some (.val (.d (.str (s.drop at_))),H.set b (curB s s.length)):=by
 refine runB hS rfl (λ_=>rfl) ?_
 rw [R418]
 have e:=s387 (lim:=H.length) (n:=(s.drop at_).length) hS h hr (by simp;omega) hs
 have e2:at_+(s.drop at_).length=s.length:=by simp;omega
 rw [e2,List.take_length] at e
 simp only [s381 hS h ha,liftR_val,lnS_str,Option.bind_some,e,fin_mut_d,set_take]
theorem s173 (hS:SysOK sys) (x y:Int):run sys lim ro 173 [.d (.bool true),.d (.int .i64 x),.d (.int .i64 y)] H=some (.val (.tup []),H):=by
 refine runP hS rfl (by kernel_rfl) rfl ?_
 rw [R173]
 simp only [iUn_not,Bool.not_true,Option.bind_some,br3_bool,Bool.false_eq_true,if_false,fin_pure_nil]
theorem s389 (hS:SysOK sys) {b at_ n:Nat} {s:List UInt8} (h:H[b]? = some (curB s at_)) (hr:ro≤b) (ha:at_+n≤s.length) (hs:s.length<2 ^ 34):run sys lim ro 389 [.ptr b 0,.d (.int .i64 n)] H=some (.val (.d (.str ((s.drop at_).take n))),H.set b (curB s (at_+n))):=by
 refine runB hS rfl (λ_=>rfl) ?_
 rw [R389]
 have e:IntKind.i64.wrap ((at_:Int)+n)=((at_+n:Nat):Int):=by rw [wrap64 (by omega) (by omega)];simp
 have e1:decide ((0:Int)≤(n:Int))=true:=by simp
 have e2:decide ((n:Int)≤((s.drop at_).length:Nat))=true:=by simp;omega
 simp only [s381 hS h (by omega),liftR_val,cur_neq,Option.bind_some,s173 hS,iBin_geq,e1,cur_ld1 h,lnS_str,iBin_leq,e2,iBin_add,e,cur_st h hr,slS_take (s:=s.drop at_) (n:=n) (by simp;omega),fin_mut_d,set_take]
theorem s335 (hS:SysOK sys) {b at_:Nat} {s:List UInt8} (h:H[b]? = some (curB s at_)) (hr:ro≤b) (ha:at_<s.length) (hs:s.length<2 ^ 34):run sys lim ro 335 [.ptr b 0] H=some (.val (.d (.int .u8 (s[at_].toNat:Nat))),H.set b (curB s (at_+1))):=by
 refine runB hS rfl (λ_=>rfl) ?_
 rw [R335]
 have e:=s389 (lim:=H.length) (n:=1) hS h hr (by omega) hs
 have e2:(s.drop at_).take 1=[s[at_]]:=by
  rw [List.drop_eq_getElem_cons ha];rfl
 rw [e2] at e
 have e':run sys H.length ro 389 [.ptr b 0,.d (.int .i64 1)] H=_:=e
 simp only [e',liftR_val]
 simp [ixS,set_take]
theorem s324 (hS:SysOK sys) (s t:List UInt8):run sys lim ro 324 [.d (.str s),.d (.str t)] H=some (.val (.d (.bool (t.isPrefixOf s))),H):=by
 refine runP hS rfl (by kernel_rfl) rfl ?_
 rw [R324]
 simp only [g324_0,lnS_str,iBin_geq,Option.bind_some,brN3_bool]
 by_cases hl:t.length≤s.length
 ·have e1:decide ((t.length:Int)≤(s.length:Int))=true:=by simpa using hl
  simp only [e1,if_true,g324_1,lnS_str,slS_take hl,Option.bind_some,iBin_seql,fin_pure_d]
  have:decide (s.take t.length=t)=t.isPrefixOf s:=by
   rw [Bool.eq_iff_iff];simp only [decide_eq_true_eq,List.isPrefixOf_iff_prefix,List.prefix_iff_eq_take]
   exact eq_comm
  rw [this]
 ·have e1:decide ((t.length:Int)≤(s.length:Int))=false:=by simpa using hl
  simp only [e1,Bool.false_eq_true,if_false,g324_2,fin_pure_d]
  have:t.isPrefixOf s=false:=by
   rw [Bool.eq_false_iff];intro h
   exact hl (List.isPrefixOf_iff_prefix.1 h).length_le
  rw [this]
theorem s249 (hS:SysOK sys) (s t:List UInt8):run sys lim ro 249 [.d (.str s),.d (.str t)] H=some (.val (.d (.bool (t.isPrefixOf s))),H):=by
 refine runP hS rfl (by kernel_rfl) rfl ?_
 rw [R249]
 simp only [s324 hS,liftR_val,fin_pure_d]
theorem s317 (hS:SysOK sys) {b at_:Nat} {s:List UInt8} (x:UInt8) (h:H[b]? = some (curB s at_)) (hr:ro≤b) (ha:at_≤s.length) (hs:s.length<2 ^ 34):run sys lim ro 317 [.ptr b 0,.d (.str [x])] H =
  some (.val (.d (.bool ([x].isPrefixOf (s.drop at_)))),if [x].isPrefixOf (s.drop at_)=true then H.set b (curB s (at_+1)) else H):=by
 refine runB hS rfl (λ_=>rfl) ?_
 rw [R317]
 simp only [s381 hS h ha,liftR_val,s249 hS,iUn_not,Option.bind_some,br3_bool]
 cases hp:[x].isPrefixOf (s.drop at_) with
 | false=>simp
 | true=>
  have hl:=(List.isPrefixOf_iff_prefix.1 hp).length_le
  simp only [List.length_drop,List.length_singleton] at hl
  have e:IntKind.i64.wrap ((at_:Int)+(([x]:List UInt8).length:Nat))=((at_+1:Nat):Int):=by rw [wrap64 (by simp;omega) (by simp;omega)];simp
  simp only [Bool.not_true,Bool.false_eq_true,if_false,cur_neq,Option.bind_some,br3_bool,if_true,cur_ld1 h,lnS_str,iBin_add,e,cur_st h hr,fin_mut_d,set_take]
theorem s331 (hS:SysOK sys) {f:Nat} {p:UInt8→Bool} (hf:Judges f p) {b at_:Nat} {s:List UInt8} (h:H[b]? = some (curB s at_)) (hr:ro≤b) (ha:at_≤s.length) (hs:s.length<2 ^ 34) :
  run sys lim ro 331 [.ptr b 0,.fn f [] []] H=some (.val (.d (.str ((s.drop at_).takeWhile p))),H.set b (curB s (at_+((s.drop at_).takeWhile p).length))):=by
 refine runB hS rfl (λ_=>rfl) ?_
 rw [R331]
 simp only [s381 hS h ha,liftR_val]
 generalize ht:s.drop at_=t
 have hl:t.length=s.length - at_:=by rw [← ht];simp
 have key:=loopW_count (step:=stepL (C331 (run sys) lim ro H) [0,1,5,6] (cd 331 [1,1,0,1,0,0])) (λi=>(E331 (.ptr b 0) (.fn f [] []) (.d (.int .i64 (i:Nat))) (.d (.str t)),H)) (t.takeWhile p).length
  (r:=(.exi 0,E331 (.ptr b 0) (.fn f [] []) (.d (.int .i64 ((t.takeWhile p).length:Nat))) (.d (.str t)),H)) ?_ ?_ 0 (Nat.zero_le _)
 ·rw [show (0:Int)=((0:Nat):Int) from rfl,key]
  have hle:=takeWhile_len_le p t
  have e:=s387 (lim:=H.length) (n:=(t.takeWhile p).length) hS h hr (by omega) hs
  have e2:t.take (t.takeWhile p).length=t.takeWhile p:=by
   conv=>lhs;arg 2;rw [← List.takeWhile_append_dropWhile (p:=p) (l:=t)]
   exact List.take_left' rfl
  rw [ht,e2] at e
  simp only [Option.bind_some,K331_0x0,e,liftR_val,fin_mut_d,set_take]
 ·intro i hi
  have hlt:i<t.length:=Nat.lt_of_lt_of_le hi (takeWhile_len_le p t)
  have e1:decide ((i:Int)<(t.length:Int))=true:=by simpa using hlt
  have e2:IntKind.i64.wrap ((i:Int)+1)=((i+1:Nat):Int):=by rw [wrap64 (by omega) (by omega)];simp
  rw [B331_0]
  simp only [g331_0,iBin_fn_neq,Option.bind_some,brN3_bool,if_true,g331_1,lnS_str,iBin_lss,e1,g331_3,ixS_nat hlt,goVal3_fn,List.nil_append,List.append_nil,hf _ _ _ _,liftR_val,br3_bool,takeWhile_get p t hi hlt,iBin_add,e2]
 ·rw [B331_0]
  by_cases hlt:(t.takeWhile p).length<t.length
  ·have e1:decide (((t.takeWhile p).length:Int)<(t.length:Int))=true:=by simpa using hlt
   simp only [g331_0,iBin_fn_neq,Option.bind_some,brN3_bool,if_true,g331_1,lnS_str,iBin_lss,e1,g331_3,ixS_nat hlt,goVal3_fn,List.nil_append,List.append_nil,hf _ _ _ _,liftR_val,br3_bool,takeWhile_stop p t hlt,Bool.false_eq_true,if_false]
  ·have e1:decide (((t.takeWhile p).length:Int)<(t.length:Int))=false:=by simpa using hlt
   simp only [g331_0,iBin_fn_neq,Option.bind_some,brN3_bool,if_true,g331_1,lnS_str,iBin_lss,e1,Bool.false_eq_true,if_false,g331_4]
theorem firstAt_mem (l:List UInt8) (x:UInt8):decide (firstAt l x<0)=!l.contains x:=by
 unfold firstAt
 cases h:l.findIdx? (· == x) with
 | none=>
  have h2:=List.findIdx?_eq_none_iff.1 h
  have:l.contains x=false:=by
   rw [Bool.eq_false_iff];intro hc
   have hm:x ∈ l:=by simpa using hc
   have:=h2 x hm
   simp at this
  rw [this];rfl
 | some i=>
  have hx:x ∈ l:=by
   have:=List.findIdx?_eq_some_iff_getElem.1 h
   obtain⟨hi,h2,_⟩:=this
   have e:l[i]=x:=by simpa using h2
   rw [← e];exact List.getElem_mem hi
  have:l.contains x=true:=by simpa using hx
  rw [this];simp
theorem s334 (hS:SysOK sys) (stops:List UInt8) {b at_:Nat} {s:List UInt8} (h:H[b]? = some (curB s at_)) (hr:ro≤b) (ha:at_≤s.length) (hs:s.length<2 ^ 34) :
  run sys lim ro 334 [.ptr b 0,.d (.str stops)] H=some (.val (.d (.str ((s.drop at_).takeWhile (λx=>!stops.contains x)))),H.set b (curB s (at_+((s.drop at_).takeWhile (λx=>!stops.contains x)).length))):=by
 refine runB hS rfl (λ_=>rfl) ?_
 rw [R334]
 simp only [s381 hS h ha,liftR_val]
 generalize ht:s.drop at_=t
 generalize hp:(λx=>!stops.contains x)=p
 have hf:∀ x,decide (firstAt stops x<0)=p x:=λx=>by rw [firstAt_mem,← hp]
 have hl:t.length=s.length - at_:=by rw [← ht];simp
 have key:=loopW_count (step:=stepL (C334 (run sys) lim ro H) [0,1,5,6] (cd 334 [1,1,0,1,0,0])) (λi=>(E334 (.ptr b 0) (.d (.str stops)) (.d (.int .i64 (i:Nat))) (.d (.str t)),H)) (t.takeWhile p).length
  (r:=(.exi 0,E334 (.ptr b 0) (.d (.str stops)) (.d (.int .i64 ((t.takeWhile p).length:Nat))) (.d (.str t)),H)) ?_ ?_ 0 (Nat.zero_le _)
 ·rw [show (0:Int)=((0:Nat):Int) from rfl,key]
  have hle:=takeWhile_len_le p t
  have e:=s387 (lim:=H.length) (n:=(t.takeWhile p).length) hS h hr (by omega) hs
  have e2:t.take (t.takeWhile p).length=t.takeWhile p:=by
   conv=>lhs;arg 2;rw [← List.takeWhile_append_dropWhile (p:=p) (l:=t)]
   exact List.take_left' rfl
  rw [ht,e2] at e
  simp only [Option.bind_some,K334_0x0,e,liftR_val,fin_mut_d,set_take]
 ·intro i hi
  have hlt:i<t.length:=Nat.lt_of_lt_of_le hi (takeWhile_len_le p t)
  have e1:decide ((i:Int)<(t.length:Int))=true:=by simpa using hlt
  have e2:IntKind.i64.wrap ((i:Int)+1)=((i+1:Nat):Int):=by rw [wrap64 (by omega) (by omega)];simp
  rw [B334_0]
  simp only [g334_0,Option.bind_some,brN3_bool,if_true,g334_1,lnS_str,iBin_lss,e1,ixS_nat hlt,s264 hS,Int.toNat_natCast,UInt8.ofNat_toNat,hf,liftR_val,br3_bool,takeWhile_get p t hi hlt,iBin_add,e2]
 ·rw [B334_0]
  by_cases hlt:(t.takeWhile p).length<t.length
  ·have e1:decide (((t.takeWhile p).length:Int)<(t.length:Int))=true:=by simpa using hlt
   simp only [g334_0,Option.bind_some,brN3_bool,if_true,g334_1,lnS_str,iBin_lss,e1,ixS_nat hlt,s264 hS,Int.toNat_natCast,UInt8.ofNat_toNat,hf,liftR_val,br3_bool,takeWhile_stop p t hlt,Bool.false_eq_true,if_false]
  ·have e1:decide (((t.takeWhile p).length:Int)<(t.length:Int))=false:=by simpa using hlt
   simp only [g334_0,Option.bind_some,brN3_bool,lnS_str,iBin_lss,e1,Bool.false_eq_true,if_false,g334_2]
end Go.Tg
namespace Go.Tg
variable [Globs] {lim ro:Nat} {H:Hp}
def bldY (own:Option Nat) (t:List UInt8):IV:=match own with | none=>.vnil | some b'=>.vec b' 1 0 t.length
def Owns (H:Hp) (b:Nat) (own:Option Nat) (t:List UInt8):Prop:=match own with | none=>t=[] | some b'=>b'≠b∧t≠[]∧H[b']? = some (.cells 10 (bv t))
def Bld (H:Hp) (b:Nat) (own:Option Nat) (t:List UInt8):Prop:=
 (∃ x,(x=.nul∨x=.ptr b 0)∧H[b]? = some (.cells 601 [x,bldY own t]))∧Owns H b own t
def KeptBut (b:Nat) (own:Option Nat) (H G:Hp):Prop:=H.length≤G.length∧∀ i,i<H.length→i≠b→own≠some i→G[i]? = H[i]?
theorem KeptBut.refl (b:Nat) (own:Option Nat) (H:Hp):KeptBut b own H H:=⟨Nat.le_refl _,λ_ _ _ _=>rfl⟩
theorem get_lt {b:Nat} {v:Blk} (h:H[b]? = some v):b<H.length:=by
 rcases Nat.lt_or_ge b H.length with h' | h'
 ·exact h'
 ·rw [List.getElem?_eq_none h'] at h;cases h
theorem get_app {b:Nat} {v:Blk} (X:Hp) (h:H[b]? = some v):(H++X)[b]? = some v:=by
 rw [List.getElem?_append_left (get_lt h)];exact h
theorem s438 (hS:SysOK sys) (x:IV):run sys lim ro 438 [x] H=some (.val x,H):=by
 refine run_prim hS (g:=pSame) rfl ?_
 rfl
theorem iUnsafe_out {b ty off:Nat} {cs:List IV} (h:H[b]? = some (.cells ty cs)) (ho:off<cs.length):iUnsafe P (.ptr b off) H none=some (.ptr b off):=by
 unfold iUnsafe;simp only [h];rw [if_pos ho]
theorem iUnsafe_bld {b:Nat} {x y:IV} (h:H[b]? = some (.cells 601 [x,y])):iUnsafe P (.ptr b 0) H (some 300)=some (.ptr b 0):=by
 have e:sizeT P 300=some 2:=by kernel_rfl
 unfold iUnsafe;simp only [h,e];rw [if_pos (by simp)]
theorem bld_eql (b:Nat):iBin P .eql 298 (.ptr b 0) .nul=some (.d (.bool false)):=by kernel_rfl
theorem bld_eqln:iBin P .eql 298 .nul .nul=some (.d (.bool true)):=by kernel_rfl
theorem bld_neq (b:Nat):iBin P .neq 298 (.ptr b 0) (.ptr b 0)=some (.d (.bool false)):=by
 have e:P.eqGuardType P.depth 298=false:=by kernel_rfl
 have hu:P.underlying 298=some (.pointer 300):=by kernel_rfl
 have hs:(sizeT P 300).isSome=true:=by kernel_rfl
 have e2:ieq P 20 298 (.ptr b 0) (.ptr b 0)=some true:=by
  unfold ieq;rw [hu]
  show (if b=b∧0=0∧(sizeT P 300).isSome=true then some true else none)=_
  rw [if_pos ⟨rfl,rfl,hs⟩]
 show (if P.eqGuardType P.depth 298=true then none else (ieq P 20 298 (.ptr b 0) (.ptr b 0)).map λr=>IV.d (.bool (!r)))=_
 rw [e,e2];rfl
theorem s407 (hS:SysOK sys) {b:Nat} {x y:IV} (hx:x=.nul∨x=.ptr b 0) (h:H[b]? = some (.cells 601 [x,y])) (hr:ro≤b) (hl:lim≤b):run sys lim ro 407 [.ptr b 0] H=some (.val (.tup []),H.set b (.cells 601 [.ptr b 0,y])):=by
 have e:tab.mode 407=.keep:=by kernel_rfl
 refine runB hS rfl (λh=>by rw [e] at h;cases h) ?_
 rw [R407]
 have e0:ld1 (.ptr b 0) H=some x:=by rw [ld1_cells h];rfl
 rw [e0]
 rcases hx with rfl | rfl
 ·have e1:st 1 lim ro (.ptr b 0) (.ptr b 0) H=some (H.set b (.cells 601 [.ptr b 0,y])):=by
   rw [st_cells (v:=.ptr b 0) (n:=1) h rfl (by simp) rfl hr (Or.inl hl)];rfl
  have eo:=iUnsafe_out (off:=0) h (by simp)
  simp only [Option.bind_some,bld_eqln,br3_bool,if_true,eo,Option.map_some,s438 hS,liftR_val,iUnsafe_bld h,e1,fin_keep]
  rfl
 ·have e1:H.set b (.cells 601 [.ptr b 0,y])=H:=by
   have hb:=get_lt h
   rw [List.getElem?_eq_getElem hb] at h
   have:H[b]=_:=Option.some.inj h
   rw [← this,List.set_getElem_self]
  simp only [Option.bind_some,bld_eql,br3_bool,Bool.false_eq_true,if_false,e0,bld_neq,fin_keep,e1]
  rfl
theorem app_bld {b:Nat} {own:Option Nat} {t s:List UInt8} {v:IV} {x:IV} (hx:H[b]? = some (.cells 601 [x,bldY own t])) (ho:Owns H b own t) (hro:∀ b',own=some b'→ro≤b')
  (hs:srcCells 1 v H=some (s.length,bv s)) (hb:sameBlk (bldY own t) v=false) (hsz:t.length+s.length≤34359738368) :
  ∃ G own',app 5 1 ro (bldY own t) v H=some (bldY own' (t++s),G)∧H.length≤G.length∧(∀ i,i<H.length→own≠some i→G[i]? = H[i]?)∧(own'=own∨∃ j,own'=some j∧H.length≤j∧j<G.length) ∧
   Owns G b own' (t++s):=by
 have hbl:=get_lt hx
 unfold app
 rw [hs]
 simp only [Option.bind_some,hb,Bool.false_eq_true,if_false]
 cases own with
 | none=>
  have ho:t=[]:=ho
  subst ho
  cases s with
  | nil=>exact⟨H,none,rfl,Nat.le_refl _,λ_ _ _=>rfl,Or.inl rfl,rfl⟩
  | cons c s=>
   refine⟨H++[.cells 10 (bv (c::s))],some H.length,by simp only [bldY];rw [if_neg (by simp),if_pos (by simpa using hsz)];rfl,by simp,λi hi _=>List.getElem?_append_left hi,Or.inr ⟨_,rfl,Nat.le_refl _,by simp⟩,by omega,by simp,?_⟩
   simp
 | some b'=>
  obtain⟨h1,h2,h3⟩:=ho
  have hb':=get_lt h3
  simp only [bldY,h3]
  rw [if_pos ⟨trivial,trivial,by rw [bv_length];omega,hro b' rfl⟩]
  cases s with
  | nil=>exact⟨H,some b',by simp [bldY],Nat.le_refl _,λ_ _ _=>rfl,Or.inl rfl,h1,by simpa using h2,by simpa using h3⟩
  | cons c s=>
   refine⟨H.set b' .dead++[.cells 10 (bv (t++c::s))],some H.length,?_,by simp,?_,Or.inr ⟨_,rfl,Nat.le_refl _,by simp⟩,by omega,by simp,by simp⟩
   ·rw [if_neg (by simp),if_pos (by omega)]
    simp [bldY,bv,List.take_of_length_le]
   ·intro i hi hn
    rw [List.getElem?_append_left (by simpa using hi),List.getElem?_set_ne]
    intro hc;exact hn (by rw [hc])
theorem bldY_st {b:Nat} {own:Option Nat} {t:List UInt8} {x y:IV} (h:H[b]? = some (.cells 601 [x,y])) (hr:ro≤b) (hl:lim≤b):st 1 lim ro (.ptr b 1) (bldY own t) H=some (H.set b (.cells 601 [x,bldY own t])):=by
 have e1:(bldY own t).cells=[bldY own t]:=by cases own <;> rfl
 have e2:(bldY own t).one=true:=by cases own <;> rfl
 rw [st_cells (v:=bldY own t) (n:=1) h (by rw [e1];rfl) (by simp) (by rw [e1];simp [e2]) hr (Or.inl hl),e1]
 rfl
theorem bld_after {b:Nat} {own own':Option Nat} {t u:List UInt8} {G:Hp} (hr:ro≤b) (hl:lim≤b) (hb:b<H.length) (hG:G[b]? = some (.cells 601 [.ptr b 0,bldY own t]))
  (hlen:H.length≤G.length) (hk:∀ i,i<H.length→i≠b→own≠some i→G[i]? = H[i]?)
  (ho:Owns G b own' u) :
  ∃ G',st 1 lim ro (.ptr b 1) (bldY own' u) G=some G'∧Bld G' b own' u∧KeptBut b own H G':=by
 refine⟨_,bldY_st hG hr hl,⟨⟨.ptr b 0,Or.inr rfl,set_get hG⟩,?_⟩,by simpa using hlen,?_⟩
 ·cases own' with
  | none=>exact ho
  | some b'=>
   obtain⟨h1,h2,h3⟩:=ho
   exact⟨h1,h2,by rw [List.getElem?_set_ne (Ne.symm h1)];exact h3⟩
 ·intro i hi hib hio
  rw [List.getElem?_set_ne (Ne.symm hib)];exact hk i hi hib hio
theorem s358 (hS:SysOK sys) {b:Nat} {own:Option Nat} {t:List UInt8} (s:List UInt8) (hsz:t.length+s.length≤34359738368) (hB:Bld H b own t) (hr:ro≤b) (hl:lim≤b) (hro:∀ b',own=some b'→ro≤b') :
  ∃ G own',run sys lim ro 358 [.ptr b 0,.d (.str s)] H=some (.val (.tup [.d (.int .i64 s.length),.noifc]),G)∧Bld G b own' (t++s)∧KeptBut b own H G∧(own'=own∨∃ j,own'=some j∧H.length≤j∧j<G.length):=by
 obtain⟨⟨x,hx,hH⟩,ho⟩:=hB
 have hb:=get_lt hH
 have h1:(H.set b (.cells 601 [.ptr b 0,bldY own t]))[b]? = some (.cells 601 [.ptr b 0,bldY own t]):=set_get hH
 have ho1:Owns (H.set b (.cells 601 [.ptr b 0,bldY own t])) b own t:=by
  cases own with
  | none=>exact ho
  | some b'=>exact⟨ho.1,ho.2.1,by rw [List.getElem?_set_ne (Ne.symm ho.1)];exact ho.2.2⟩
 have hob:own≠some b:=by cases own with | none=>simp | some b'=>intro e;cases e;exact ho.1 rfl
 have hsb:sameBlk (bldY own t) (.d (.str s))=false:=by cases own <;> rfl
 obtain⟨G1,own',ha,hlen,hk,how,ho'⟩:=app_bld (ro:=ro) (v:=.d (.str s)) (s:=s) h1 ho1 hro rfl hsb hsz
 have hlen':H.length≤G1.length:=by simpa using hlen
 have hk':∀ i,i<H.length→i≠b→own≠some i→G1[i]? = H[i]?:=by
  intro i hi hib hio
  rw [hk i (by simpa using hi) hio,List.getElem?_set_ne (Ne.symm hib)]
 have hG1:G1[b]? = some (.cells 601 [.ptr b 0,bldY own t]):=by rw [hk b (by simpa using hb) hob];exact h1
 obtain⟨G2,hst,hB2,hK2⟩:=bld_after (u:=t++s) hr hl hb hG1 hlen' hk' ho'
 refine⟨G2,own',?_,hB2,hK2,?_⟩
 ·have e:tab.mode 358=.keep:=by kernel_rfl
  refine runB hS rfl (λh=>by rw [e] at h;cases h) ?_
  rw [R358]
  have el:ld1 (.ptr b 1) (H.set b (.cells 601 [.ptr b 0,bldY own t]))=some (bldY own t):=by rw [ld1_cells h1];rfl
  simp only [s407 hS hx hH hr hl,liftR_val,el,Option.bind_some,ha,hst,lnS_str,fin_keep]
  rfl
 ·rcases how with h | ⟨j,h,h',h''⟩
  ·exact Or.inl h
  ·refine Or.inr ⟨j,h,by simpa using h',?_⟩
   have:=hK2
   have e2:G2.length=G1.length:=by rw [bldY_st hG1 hr hl] at hst;cases hst;simp
   omega
theorem s359 (hS:SysOK sys) {b:Nat} {own:Option Nat} {t:List UInt8} (c:UInt8) (hsz:t.length<34359738368) (hB:Bld H b own t) (hr:ro≤b) (hl:lim≤b) (hro:∀ b',own=some b'→ro≤b') :
  ∃ G own',run sys lim ro 359 [.ptr b 0,.d (.int .u8 (c.toNat:Nat))] H=some (.val .noifc,G)∧Bld G b own' (t++[c])∧KeptBut b own H G∧(own'=own∨∃ j,own'=some j∧H.length≤j∧j<G.length):=by
 obtain⟨⟨x,hx,hH⟩,ho⟩:=hB
 have hb:=get_lt hH
 generalize hH1:H.set b (.cells 601 [.ptr b 0,bldY own t])=H1
 have hl1:H1.length=H.length:=by rw [← hH1];simp
 have h1:H1[b]? = some (.cells 601 [.ptr b 0,bldY own t]):=by rw [← hH1];exact set_get hH
 have hbs:iBuildSlice P 113 1 [(0,.d (.int .u8 (c.toNat:Nat)))] H1=some (.vec H1.length 1 0 1,H1++[.cells 10 (bv [c])]):=by
  have e:P.underlying 113=some (.slice 5):=by kernel_rfl
  have e2:sizeT P 5=some 1:=by kernel_rfl
  have e3:zeroT P 5=some (.d (.int .u8 0)):=by kernel_rfl
  unfold iBuildSlice
  rw [e]
  simp only [e2,e3]
  rfl
 have h2:=get_app [.cells 10 (bv [c])] h1
 have ho1:Owns (H1++[.cells 10 (bv [c])]) b own t:=by
  cases own with
  | none=>exact ho
  | some b'=>
   refine⟨ho.1,ho.2.1,get_app _ ?_⟩
   rw [← hH1,List.getElem?_set_ne (Ne.symm ho.1)];exact ho.2.2
 have hob:own≠some b:=by cases own with | none=>simp | some b'=>intro e;cases e;exact ho.1 rfl
 have hsb:sameBlk (bldY own t) (.vec H1.length 1 0 1)=false:=by
  cases own with
  | none=>rfl
  | some b'=>
   have:=get_lt ho.2.2
   simp [bldY,sameBlk];omega
 obtain⟨G1,own',ha,hlen,hk,how,ho'⟩:=app_bld (ro:=ro) (v:=.vec H1.length 1 0 1) (s:=[c]) h2 ho1 hro (by simp [srcCells,bv]) hsb hsz
 have hlen':H.length≤G1.length:=by simp at hlen;omega
 have hk':∀ i,i<H.length→i≠b→own≠some i→G1[i]? = H[i]?:=by
  intro i hi hib hio
  rw [hk i (by simp;omega) hio,List.getElem?_append_left (by omega),← hH1,List.getElem?_set_ne (Ne.symm hib)]
 have hG1:G1[b]? = some (.cells 601 [.ptr b 0,bldY own t]):=by rw [hk b (by simp;omega) hob];exact h2
 obtain⟨G2,hst,hB2,hK2⟩:=bld_after (u:=t++[c]) hr hl hb hG1 hlen' hk' ho'
 refine⟨G2,own',?_,hB2,hK2,?_⟩
 ·have e:tab.mode 359=.keep:=by kernel_rfl
  refine runB hS rfl (λh=>by rw [e] at h;cases h) ?_
  rw [R359]
  have el:ld1 (.ptr b 1) H1=some (bldY own t):=by rw [ld1_cells h1];rfl
  simp only [s407 hS hx hH hr hl,hH1,liftR_val,el,Option.bind_some,hbs,ha,hst,fin_keep]
  rfl
 ·rcases how with h | ⟨j,h,h',h''⟩
  ·exact Or.inl h
  ·refine Or.inr ⟨j,h,by simp at h';omega,?_⟩
   have e2:G2.length=G1.length:=by rw [bldY_st hG1 hr hl] at hst;cases hst;simp
   omega
theorem datas_bv (t:List UInt8):∃ l,datas (bv t)=some l:=by
 induction t with
 | nil=>exact⟨_,rfl⟩
 | cons c t ih=>obtain⟨l,h⟩:=ih;exact⟨_,by show (datas (bv t)).map _=_;rw [h];rfl⟩
theorem s360 (hS:SysOK sys) {b:Nat} {own:Option Nat} {t:List UInt8} (hB:Bld H b own t) (hro:∀ b',own=some b'→ro≤b') (ht:t.length<2 ^ 34) :
  ∃ G,run sys lim ro 360 [.ptr b 0] H=some (.val (.d (.str t)),G)∧KeptBut b own H G∧G[b]? = H[b]? ∧ G.length=H.length:=by
 obtain⟨⟨x,hx,hH⟩,ho⟩:=hB
 have e:tab.mode 360=.keep:=by kernel_rfl
 have el:ld1 (.ptr b 1) H=some (bldY own t):=by rw [ld1_cells hH];rfl
 cases own with
 | none=>
  have ho:t=[]:=ho
  subst ho
  refine⟨H,?_,KeptBut.refl _ _ _,rfl,rfl⟩
  refine runB hS rfl (λh=>by rw [e] at h;cases h) ?_
  rw [R360]
  simp only [el,Option.bind_some,bldY,iSliceData,Option.map_some,lnV_vnil]
  rfl
 | some b'=>
  obtain⟨h1,h2,h3⟩:=ho
  obtain⟨l,hl⟩:=datas_bv t
  refine⟨H.set b' (.frz l),?_,⟨by simp,λi _ _ hn=>List.getElem?_set_ne (λhc=>hn (by rw [hc]))⟩,List.getElem?_set_ne h1,by simp⟩
  refine runB hS rfl (λh=>by rw [e] at h;cases h) ?_
  rw [R360]
  obtain⟨m,hm⟩:∃ m,t.length=m+1:=⟨t.length - 1,by have:=List.length_pos_iff.2 h2;omega⟩
  have eu:iUnsafeStr P #[332,3] ro (.ptr b' 0) (.d (.int .i64 t.length)) H=some (.d (.str t),H.set b' (.frz l)):=by
   have hu:P.underlying 332=some (.pointer 5):=by kernel_rfl
   have hz:sizeT P 5=some 1:=by kernel_rfl
   rw [hm]
   show (match H[b']?,((#[332,3]:Array TypeId)[0]?).bind P.underlying with
    | some (Blk.cells ty cs),some (.pointer u)=>
     if ty=2*u∧0+(m+1)≤cs.length∧ro≤b'∧sizeT P u=some 1∧(m+1:Nat)≤2 ^ 62 then
      (datas cs).bind λl=>(((cs.drop 0).take (m+1)).mapM byteOf).map λs=>(IV.d (.str s),H.set b' (.frz l))
     else none
    | _,_=>none)=_
   have e0:((#[332,3]:Array TypeId)[0]?).bind P.underlying=some (.pointer 5):=by kernel_rfl
   have hm62:m+1≤2 ^ 62:=by omega
   rw [h3,e0]
   simp only
   rw [if_pos ⟨trivial,by rw [bv_length];omega,hro b' rfl,hz,hm62⟩,hl,Option.bind_some,List.drop_zero,← hm,← bv_length t,List.take_length,mapM_bv]
   rfl
  have es:iSliceData (bldY (some b') t)=some (.ptr b' 0):=by simp only [bldY,hm];rfl
  simp only [el,Option.bind_some,es,Option.map_some]
  simp only [bldY,lnV_vec,Option.bind_some,eu,fin_keep]
  rfl
theorem s376 (hS:SysOK sys) {b:Nat} {x y:IV} (h:H[b]? = some (.cells 601 [x,y])) (hr:ro≤b) (hl:lim≤b):run sys lim ro 376 [.ptr b 0] H=some (.val (.tup []),H.set b (.cells 601 [.nul,.vnil])):=by
 have e:tab.mode 376=.keep:=by kernel_rfl
 refine runB hS rfl (λh=>by rw [e] at h;cases h) ?_
 rw [R376]
 have e1:st 1 lim ro (.ptr b 0) .nul H=some (H.set b (.cells 601 [.nul,y])):=by
  rw [st_cells (v:=.nul) (n:=1) h rfl (by simp) rfl hr (Or.inl hl)];rfl
 have e2:st 1 lim ro (.ptr b 1) .vnil (H.set b (.cells 601 [.nul,y]))=some (H.set b (.cells 601 [.nul,.vnil])):=by
  rw [st_cells (v:=.vnil) (n:=1) (set_get h) rfl (by simp) rfl hr (Or.inl hl),List.set_set];rfl
 simp only [e1,Option.bind_some,e2,fin_keep]
 rfl
end Go.Tg
namespace Go.Tg
variable [Globs] {lim ro:Nat} {H:Hp}
def asp (b:UInt8):Bool:=b == 9 || b == 10 || b == 11 || b == 12 || b == 13 || b == 32
def aspN (i:Nat):Int:=if i=9∨i=10∨i=11∨i=12∨i=13∨i=32 then 1 else 0
def aspT:List D:=(List.range 256).map λi=>.int .u8 (aspN i)
def GAsp:Prop:=Globs.gl 0=aspT
def b01 (b:Bool):Int:=if b=true then 1 else 0
theorem aspN_b (b:UInt8):aspN b.toNat=b01 (asp b):=by
 have h:∀ n:Fin 256,aspN n.1=b01 (asp (UInt8.ofNat n.1)):=by decide +kernel
 have:=h ⟨b.toNat,b.toNat_lt⟩
 simpa using this
theorem aspT_get (hG:GAsp) (b:UInt8) (H:Hp):((iArrAt P 271 (.lptr (Globs.gl 0) 0) (.d (.int .u8 (b.toNat:Nat)))).map λx=>(x,H))=some (.lptr aspT b.toNat,H):=by
 rw [hG]
 have e:P.underlying 271=some (.array 256 5):=by kernel_rfl
 have e2:sizeT P 5=some 1:=by kernel_rfl
 have h:=b.toNat_lt
 simp [iArrAt,e,e2,padd,h]
 omega
theorem ld1_asp (b:UInt8) (H:Hp):ld1 (.lptr aspT b.toNat) H=some (.d (.int .u8 (b01 (asp b)))):=by
 have h:=b.toNat_lt
 simp [ld1,aspT,h,aspN_b]
def cntF:Bool→List UInt8→Nat
 | _,[]=>0
 | was,b::s=>(if was && !asp b then 1 else 0)+cntF (asp b) s
def goF:Bool→List UInt8→List UInt8→List (List UInt8)
 | true,_,[]=>[]
 | false,cur,[]=>[cur]
 | true,cur,b::s=>if asp b then goF true cur s else goF false [b] s
 | false,cur,b::s=>if asp b then cur::goF true cur s else goF false (cur++[b]) s
def fields (s:List UInt8):List (List UInt8):=goF true [] s
theorem cntF_go (s:List UInt8):(∀ cur,(goF true cur s).length=cntF true s)∧∀ cur,(goF false cur s).length=cntF false s+1:=by
 induction s with
 | nil=>exact⟨λ_=>rfl,λ_=>rfl⟩
 | cons b s ih=>
  refine⟨λcur=>?_,λcur=>?_⟩
  ·unfold goF cntF
   cases asp b <;> simp [ih.1,ih.2];omega
  ·unfold goF cntF
   cases asp b <;> simp [ih.1,ih.2]
theorem goF_true (c c':List UInt8) (s:List UInt8):goF true c s=goF true c' s:=by
 induction s with
 | nil=>rfl
 | cons b s ih=>unfold goF;rw [ih]
theorem ixS_app {k:IntKind} (pre:List UInt8) (b:UInt8) (s:List UInt8):ixS (.d (.str (pre++b::s))) (.d (.int k (pre.length:Nat)))=some (.d (.int .u8 (b.toNat:Nat))):=by
 rw [ixS_nat (by simp)];simp
theorem or_small:∀ (a b:Nat),a<128→b<128→∃ c:Nat,c<128∧iBin P .or 5 (.d (.int .u8 a)) (.d (.int .u8 b))=some (.d (.int .u8 c)):=by
 intro a b ha hb
 refine⟨a ||| b,Nat.or_lt_two_pow (n:=7) ha hb,?_⟩
 have hab:a ||| b<128:=Nat.or_lt_two_pow (n:=7) ha hb
 have:(IntKind.u8.wrap ((BitVec.ofInt 8 (a:Int) ||| BitVec.ofInt 8 (b:Int)).toNat:Int))=((a ||| b:Nat):Int):=by
  have e:(BitVec.ofInt 8 (a:Int) ||| BitVec.ofInt 8 (b:Int)).toNat=a ||| b:=by
   rw [BitVec.toNat_or]
   simp [BitVec.toNat_ofInt]
   rw [Nat.mod_eq_of_lt (by omega),Nat.mod_eq_of_lt (by omega)]
  rw [e]
  unfold IntKind.wrap;simp [IntKind.signed,IntKind.bits];omega
 show (ibits .or .u8 a b).map (λn=>IV.d (.int .u8 n))=_
 show some (IV.d (.int .u8 (IntKind.u8.wrap _)))=_
 exact congrArg (λn=>some (IV.d (.int .u8 n))) this
theorem and_was (was:Bool) (a:Bool):(iUn .xor (.d (.int .i64 (b01 a)))).bind (λv=>iBin P .and 3 (.d (.int .i64 (b01 was))) v)=some (.d (.int .i64 (b01 (was && !a)))):=by
 cases was <;> cases a <;> rfl
theorem conv01 (a:Bool):iConvInt .i64 (.d (.int .u8 (b01 a)))=some (.d (.int .i64 (b01 a))):=by cases a <;> rfl
theorem count242 (hG:GAsp) (u9 u10 u11 u12:IV):∀ (s pre:List UInt8) (n:Nat) (was:Bool) (t:Nat),t<128→(∀ b ∈ s,b.toNat<128)→n+s.length<2 ^ 40→pre.length+s.length<2 ^ 40 →
  ∃ (was':Bool) (t':Nat),t'<128∧loopW (stepL (C242 (run sys) 0 0 []) [0,3,4,5,6,9,10,11,12] (cd 242 [1,1,1,1,0,1,0,0])) (E242 (.d (.str (pre++s))) (.d (.int .i64 n)) (.d (.int .i64 (b01 was))) (.d (.int .u8 t)) (.d (.int .i64 pre.length)) u9 u10 u11 u12,[]) =
   some (.exi 0,E242 (.d (.str (pre++s))) (.d (.int .i64 (n+cntF was s:Nat))) (.d (.int .i64 (b01 was'))) (.d (.int .u8 t')) (.d (.int .i64 (pre++s).length)) u9 u10 u11 u12,[]):=by
 intro s
 induction s with
 | nil=>
  intro pre n was t ht _ _ _
  refine⟨was,t,ht,loopW_done ?_⟩
  rw [B242_0]
  simp [cntF]
 | cons b s ih=>
  intro pre n was t ht hb hn hp
  simp only [List.length_cons] at hn hp
  obtain⟨t1,ht1,ho⟩:=or_small t b.toNat ht (hb b (by simp))
  obtain⟨was',t',ht',h⟩:=ih (pre++[b]) (n+if was && !asp b then 1 else 0) (asp b) t1 ht1 (λc hc=>hb c (by simp [hc])) (by split <;> omega) (by simp;omega)
  refine⟨was',t',ht',loopW_next ?_ (by simpa [cntF,Nat.add_assoc] using h)⟩
  rw [B242_0]
  have e1:decide ((pre.length:Int)<((pre++b::s).length:Nat))=true:=by simp;omega
  have e2:IntKind.i64.wrap ((pre.length:Int)+1)=((pre++[b]).length:Nat):=by rw [wrap64 (by omega) (by omega)];simp
  have e3:IntKind.i64.wrap ((n:Int)+b01 (was && !asp b))=((n+if was && !asp b then 1 else 0:Nat):Int):=by
   cases (was && !asp b) <;> simp [b01] <;> rw [wrap64] <;> omega
  have ea:=and_was was (asp b)
  rw [Option.bind_eq_some_iff] at ea
  obtain⟨vx,hx,ea⟩:=ea
  simp only [lnS_str,iBin_lss,Option.bind_some,br3_bool,e1,if_true,ixS_app,ho,aspT_get hG,ld1_asp,conv01,hx,ea,iBin_add,e2,e3]
  simp
def memF (ws:List (List UInt8)) (m:Nat):Hp:=[.cells 18 (ws.map (λw=>.d (.str w))++List.replicate m (.d (.str [])))]
theorem reps1 (n:Nat) (v:IV):reps n [v]=List.replicate n v:=by
 induction n with
 | zero=>rfl
 | succ n ih=>rw [reps,ih];rfl
theorem make31 (n:Nat) (h:n<2 ^ 40):iMakeSlice P 31 (.d (.int .i64 n)) (.d (.int .i64 n)) []=some (.vec 0 1 0 n,memF [] n):=by
 have e:P.underlying 31=some (.slice 9):=by kernel_rfl
 have e2:sizeT P 9=some 1:=by kernel_rfl
 have e3:zeroT P 9=some (.d (.str [])):=by kernel_rfl
 have e4:(P.info? 9).map (λx=>(x.bytes:Int))=some 16:=by kernel_rfl
 unfold iMakeSlice
 rw [e]
 simp only [e2,e3,e4]
 rw [if_pos (by refine⟨rfl,rfl,?_,?_,?_,?_⟩ <;> omega)]
 simp [memF,IV.cells,D.cells,reps1]
theorem memF_st (ws:List (List UInt8)) (m:Nat) (w:List UInt8):st 1 0 0 (.ptr 0 ws.length) (.d (.str w)) (memF ws (m+1))=some (memF (ws++[w]) m):=by
 rw [st_cells (v:=.d (.str w)) (n:=1) (cs:=ws.map (λw=>.d (.str w))++List.replicate (m+1) (.d (.str []))) (ty:=18) rfl rfl (by simp) rfl (Nat.zero_le _) (Or.inl (Nat.zero_le _))]
 simp [memF,IV.cells,D.cells,wr,List.set_append,List.replicate_succ]
theorem skip242a (hG:GAsp) (u3 u4 u5 u9 u10 u11:IV) (G:Hp):∀ (s pre:List UInt8),pre.length+s.length<2 ^ 40 →
  loopW (stepL (C242 (run sys) 0 0 []) [0,3,4,5,6,9,10,11,12] (cd 242 [1,1,1,1,1,1,1,1,1,1,0,0,0])) (E242 (.d (.str (pre++s))) u3 u4 u5 u9 u10 u11 (.d (.int .i64 0)) (.d (.int .i64 pre.length)),G) =
   some (.exi 2,E242 (.d (.str (pre++s))) u3 u4 u5 u9 u10 u11 (.d (.int .i64 0)) (.d (.int .i64 (pre.length+(s.takeWhile asp).length:Nat))),G):=by
 intro s
 induction s with
 | nil=>
  intro pre _
  refine loopW_done ?_
  rw [B242_1]
  simp [g242_0,g242_2]
 | cons b s ih=>
  intro pre hp
  simp only [List.length_cons] at hp
  have e1:decide ((pre.length:Int)<((pre++b::s).length:Nat))=true:=by simp;omega
  by_cases hb:asp b=true
  ·refine loopW_next ?_ (by simpa [hb,Nat.add_assoc,Nat.add_comm 1] using ih (pre++[b]) (by simp;omega))
   have e2:IntKind.i64.wrap ((pre.length:Int)+1)=((pre++[b]).length:Nat):=by rw [wrap64 (by omega) (by omega)];simp
   rw [B242_1]
   simp only [g242_0,g242_1,lnS_str,iBin_lss,Option.bind_some,brN3_bool,br3_bool,e1,if_true,ixS_app,aspT_get hG,ld1_asp,hb,iBin_neq,iBin_add,e2]
   simp [b01]
  ·refine loopW_done ?_
   rw [B242_1]
   simp only [g242_0,g242_1,lnS_str,iBin_lss,Option.bind_some,brN3_bool,br3_bool,e1,if_true,ixS_app,aspT_get hG,ld1_asp,hb,iBin_neq]
   simp [b01,hb]
theorem skip242b (hG:GAsp) (u3 u4 u5 u6 u9 u10 u11:IV) (G:Hp):∀ (s pre:List UInt8),pre.length+s.length<2 ^ 40 →
  loopW (stepL (C242 (run sys) 0 0 []) [0,3,4,5,6,9,10,11,12] (cd 242 [1,1,1,1,1,1,1,1,1,1,1,1,0,0,0,1,0,1,1,1,1,0,0,0])) (E242 (.d (.str (pre++s))) u3 u4 u5 u6 u9 u10 u11 (.d (.int .i64 pre.length)),G) =
   some (.exi 6,E242 (.d (.str (pre++s))) u3 u4 u5 u6 u9 u10 u11 (.d (.int .i64 (pre.length+(s.takeWhile asp).length:Nat))),G):=by
 intro s
 induction s with
 | nil=>
  intro pre _
  refine loopW_done ?_
  rw [B242_3]
  simp [g242_3,g242_5]
 | cons b s ih=>
  intro pre hp
  simp only [List.length_cons] at hp
  have e1:decide ((pre.length:Int)<((pre++b::s).length:Nat))=true:=by simp;omega
  by_cases hb:asp b=true
  ·refine loopW_next ?_ (by simpa [hb,Nat.add_assoc,Nat.add_comm 1] using ih (pre++[b]) (by simp;omega))
   have e2:IntKind.i64.wrap ((pre.length:Int)+1)=((pre++[b]).length:Nat):=by rw [wrap64 (by omega) (by omega)];simp
   rw [B242_3]
   simp only [g242_3,g242_4,lnS_str,iBin_lss,Option.bind_some,brN3_bool,br3_bool,e1,if_true,ixS_app,aspT_get hG,ld1_asp,hb,iBin_neq,iBin_add,e2]
   simp [b01]
  ·refine loopW_done ?_
   rw [B242_3]
   simp only [g242_3,g242_4,lnS_str,iBin_lss,Option.bind_some,brN3_bool,br3_bool,e1,if_true,ixS_app,aspT_get hG,ld1_asp,hb,iBin_neq]
   simp [b01,hb]
theorem slS_mid {k k':IntKind} (pre cur rest:List UInt8) (i:Nat) (hi:i=pre.length+cur.length):slS (.d (.str (pre++(cur++rest)))) (some (.d (.int k pre.length))) (some (.d (.int k' i)))=some (.d (.str cur)):=by
 subst hi
 have h:pre.length+cur.length≤(pre++(cur++rest)).length:=by simp
 simp only [slS,bnd]
 rw [if_pos (by omega),if_pos (by omega)]
 simp only [Option.bind_some,Int.toNat_natCast]
 rw [if_pos ⟨by omega,h⟩]
 have e:(pre++(cur++rest)).take (pre.length+cur.length)=pre++cur:=by
  rw [← List.append_assoc];exact List.take_left' (by simp)
 rw [e,List.drop_left]
def stillF (cur rest:List UInt8):List (List UInt8):=if cur++rest=[] then [] else goF false cur rest
theorem goF_true_still (c r:List UInt8):goF true c r=stillF [] (r.dropWhile asp):=by
 induction r with
 | nil=>rfl
 | cons b r ih=>
  unfold goF
  rw [List.dropWhile_cons]
  cases hb:asp b with
  | true=>simp only [if_true];rw [goF_true c c];simpa using ih
  | false=>simp [stillF,goF,hb]
theorem main242 (hG:GAsp) (u3 u4 u5 u6:IV) (N:Nat):∀ (k:Nat) (rest pre cur:List UInt8) (ws:List (List UInt8)),rest.length≤k→pre.length+cur.length+rest.length<2 ^ 40→ws.length+(stillF cur rest).length=N→N<2 ^ 40 →
  ∃ (pre' cur':List UInt8) (ws':List (List UInt8)),pre++(cur++rest)=pre'++cur'∧ws++stillF cur rest=ws'++stillF cur' [] ∧
  loopW (stepL (C242 (run sys) 0 0 []) [0,3,4,5,6,9,10,11,12] (cd 242 [1,1,1,1,1,1,1,1,1,1,1,1,0,0,0])) (E242 (.d (.str (pre++(cur++rest)))) u3 u4 u5 u6 (.vec 0 1 0 N) (.d (.int .i64 ws.length)) (.d (.int .i64 pre.length)) (.d (.int .i64 (pre.length+cur.length:Nat))),memF ws (stillF cur rest).length) =
   some (.exi 4,E242 (.d (.str (pre++(cur++rest)))) u3 u4 u5 u6 (.vec 0 1 0 N) (.d (.int .i64 ws'.length)) (.d (.int .i64 pre'.length)) (.d (.int .i64 (pre'.length+cur'.length:Nat))),memF ws' (stillF cur' []).length):=by
 intro k
 induction k with
 | zero=>
  intro rest pre cur ws hk hp hm hN
  have:rest=[]:=by cases rest with | nil=>rfl | cons b r=>simp at hk
  subst this
  refine⟨pre,cur,ws,by simp,rfl,loopW_done ?_⟩
  rw [B242_2]
  have e1:decide (((pre.length+cur.length:Nat):Int)<((pre++(cur++[])).length:Nat))=false:=by simp
  simp only [lnS_str,iBin_lss,Option.bind_some,br3_bool,e1,Bool.false_eq_true,if_false]
 | succ k ih=>
  intro rest pre cur ws hk hp hm hN
  cases rest with
  | nil=>
   refine⟨pre,cur,ws,by simp,rfl,loopW_done ?_⟩
   rw [B242_2]
   have e1:decide (((pre.length+cur.length:Nat):Int)<((pre++(cur++[])).length:Nat))=false:=by simp
   simp only [lnS_str,iBin_lss,Option.bind_some,br3_bool,e1,Bool.false_eq_true,if_false]
  | cons b r=>
   simp only [List.length_cons] at hk hp
   have e1:decide (((pre.length+cur.length:Nat):Int)<((pre++(cur++b::r)).length:Nat))=true:=by simp;omega
   have ex:∀ k,ixS (.d (.str (pre++(cur++b::r)))) (.d (.int k (pre.length+cur.length:Nat)))=some (.d (.int .u8 (b.toNat:Nat))):=by
    intro k
    have:=ixS_app (k:=k) (pre++cur) b r
    rwa [List.append_assoc,List.length_append] at this
   by_cases hb:asp b=true
   ·have hs:stillF cur (b::r)=cur::stillF [] (r.dropWhile asp):=by
     rw [← goF_true_still cur]
     simp [stillF,goF,hb]
    have hr:r.takeWhile asp++r.dropWhile asp=r:=List.takeWhile_append_dropWhile
    have hl:=congrArg List.length hr
    simp only [List.length_append] at hl
    have e5:pre++(cur++b::r)=(pre++(cur++b::r.takeWhile asp))++([]++r.dropWhile asp):=by
     conv=>lhs;rw [← hr]
     simp
    rw [hs] at hm ⊢
    simp only [List.length_cons] at hm
    obtain⟨pre',cur',ws',h1,h2,h3⟩:=ih (r.dropWhile asp) (pre++(cur++b::r.takeWhile asp)) [] (ws++[cur]) (by omega) (by simp;omega) (by simp;omega) hN
    refine⟨pre',cur',ws',e5.trans h1,by rw [← h2];simp,loopW_next (s':=(E242 (.d (.str (pre++(cur++b::r)))) u3 u4 u5 u6 (.vec 0 1 0 N) (.d (.int .i64 (ws++[cur]).length)) (.d (.int .i64 (pre++(cur++b::r.takeWhile asp)).length)) (.d (.int .i64 (pre++(cur++b::r.takeWhile asp)).length)),memF (ws++[cur]) (stillF [] (r.dropWhile asp)).length)) ?_ ?_⟩
    ·have e2:IntKind.i64.wrap (((pre.length+cur.length:Nat):Int)+1)=((pre++(cur++[b])).length:Nat):=by rw [wrap64 (by omega) (by omega)];simp;omega
     have e3:IntKind.i64.wrap ((ws.length:Int)+1)=((ws++[cur]).length:Nat):=by rw [wrap64 (by omega) (by omega)];simp
     have e4:st 1 0 0 (.ptr 0 ws.length) (.d (.str cur)) (memF ws (cur::stillF [] (r.dropWhile asp)).length)=some (memF (ws++[cur]) (stillF [] (r.dropWhile asp)).length):=memF_st ws (stillF [] (r.dropWhile asp)).length cur
     have ei:ixA 1 (.vec 0 1 0 N) (.d (.int .i64 ws.length))=some (.ptr 0 ws.length):=by rw [ixA_vec (by omega)];simp
     have e6:=skip242b hG u3 u4 u5 u6 (.vec 0 1 0 N) (.d (.int .i64 (ws++[cur]).length)) (.d (.int .i64 pre.length)) (memF (ws++[cur]) (stillF [] (r.dropWhile asp)).length) r (pre++(cur++[b])) (by simp;omega)
     have e7:(pre++(cur++[b]))++r=pre++(cur++b::r):=by simp
     have e8:(pre++(cur++[b])).length+(r.takeWhile asp).length=(pre++(cur++b::r.takeWhile asp)).length:=by simp;omega
     rw [e7,e8] at e6
     rw [B242_2]
     have e9:(decide (b01 true=0))=false:=rfl
     simp only [lnS_str,iBin_lss,Option.bind_some,br3_bool,e1,if_true,ex,aspT_get hG,ld1_asp,hb,iBin_eql,e9,Bool.false_eq_true,if_false,slS_mid pre cur (b::r) _ rfl,ei,List.length_nil,e4,iBin_add,e2,e3,e6,K242_3x6]
    ·have h4:=h3
     rw [← e5] at h4
     simpa using h4
   ·have hb':asp b=false:=by simpa using hb
    have hs:stillF cur (b::r)=stillF (cur++[b]) r:=by simp [stillF,goF,hb']
    have e5:pre++(cur++b::r)=pre++((cur++[b])++r):=by simp
    rw [hs] at hm ⊢
    obtain⟨pre',cur',ws',h1,h2,h3⟩:=ih r pre (cur++[b]) ws (by omega) (by simp;omega) hm hN
    refine⟨pre',cur',ws',e5.trans h1,h2,loopW_next ?_ (by rw [e5];exact h3)⟩
    have e2:IntKind.i64.wrap (((pre.length+cur.length:Nat):Int)+1)=((pre.length+(cur++[b]).length:Nat):Int):=by rw [wrap64 (by omega) (by omega)];simp;omega
    rw [B242_2]
    have e9:(decide (b01 false=0))=true:=rfl
    simp only [lnS_str,iBin_lss,Option.bind_some,br3_bool,e1,if_true,ex,aspT_get hG,ld1_asp,hb',iBin_eql,e9,iBin_add,e2]
    rw [e5]
theorem frzMany_dF (g:IV→Hp→Option (D×Hp)) (hg:∀ x H,g (.d x) H=some (x,H)) (l:List D) (H:Hp):frzMany g (l.map .d) H=some (l,H):=by
 induction l with
 | nil=>rfl
 | cons x l ih=>rw [List.map_cons,frzMany,hg];simp [ih]
theorem group1 (l:List D):frz.group 1 l.length l=l:=by
 induction l with
 | nil=>rfl
 | cons x l ih=>rw [List.length_cons,frz.group];simp [ih]
theorem fin_memF (ws:List (List UInt8)):fin .pure [] 0 [.vec 0 1 0 ws.length] (memF ws 0)=some (.val (.d (.lst (ws.map .str))),[]):=by
 have e:memF ws 0=[.cells 18 ((ws.map D.str).map .d)]:=by simp [memF]
 have e2:=frzMany_dF (frz 0 5) (λ_ _=>rfl) (ws.map .str) [.cells 18 ((ws.map D.str).map .d)]
 have e3:=group1 (ws.map .str)
 rw [List.length_map] at e3
 rw [e]
 have e4:frz 0 6 (.vec 0 1 0 ws.length) [.cells 18 ((ws.map D.str).map .d)]=some (.lst (ws.map .str),[.frz (ws.map .str)]):=by
  show (if 0+ws.length*1≤((ws.map D.str).map IV.d).length∧0≤0 then (frzMany (frz 0 5) ((ws.map D.str).map .d) [.cells 18 ((ws.map D.str).map .d)]).bind λr=>match r.2[0]? with
   | some (Blk.cells _ _)=>some (D.lst (frz.group 1 ws.length (r.1.drop 0)),r.2.set 0 (.frz r.1))
   | _=>none else none)=_
  rw [if_pos (by simp),e2]
  simp [e3]
 show (((frz 0 6 (.vec 0 1 0 ws.length) [.cells 18 ((ws.map D.str).map .d)]).map λr=>(IV.d r.1,r.2)).bind λr=>(frzRs 0 [] r.2).map λq=>(r.1::q.1,q.2)).map _=_
 rw [e4];rfl
theorem s242 (hS:SysOK sys) (hG:GAsp) (s:List UInt8) (hs:s.length<2 ^ 38) (hb:∀ b ∈ s,b.toNat<128):run sys lim ro 242 [.d (.str s)] H=some (.val (.d (.lst ((fields s).map .str))),H):=by
 refine runP hS rfl (by kernel_rfl) rfl ?_
 rw [R242]
 obtain⟨was,t,ht,h1⟩:=count242 hG .un .un .un .un s [] 0 true 0 (by omega) hb (by omega) (by simp;omega)
 simp only [List.nil_append] at h1
 rw [show (1:Int)=b01 true from rfl,show (0:Int)=((0:Nat):Int) from rfl,show ((0:Nat):Int)=(([]:List UInt8).length:Int) from rfl]
 have hn:cntF true s=(fields s).length:=((cntF_go s).1 []).symm
 have hcl:cntF true s≤s.length:=by
  have:∀ (s:List UInt8) w,cntF w s≤s.length:=by
   intro s
   induction s with
   | nil=>intro w;exact Nat.le_refl 0
   | cons b s ih=>intro w;unfold cntF;have:=ih (asp b);simp only [List.length_cons];split <;> omega
  exact this s true
 have e1:decide ((128:Int)≤(t:Int))=false:=by simp;omega
 have h1':loopW (stepL (C242 (run sys) 0 0 []) [0,3,4,5,6,9,10,11,12] (cd 242 [1,1,1,1,0,1,0,0])) (E242 (.d (.str s)) (.d (.int .i64 ([]:List UInt8).length)) (.d (.int .i64 (b01 true))) (.d (.int .u8 ([]:List UInt8).length)) (.d (.int .i64 ([]:List UInt8).length)) .un .un .un .un,[])=_:=h1
 rw [h1']
 have hm:=make31 (cntF true s) (by omega)
 have hsk:=skip242a hG (.d (.int .i64 (cntF true s:Nat))) (.d (.int .i64 (b01 was))) (.d (.int .u8 t)) (.d (.int .i64 s.length)) (.vec 0 1 0 (cntF true s)) (.d (.int .i64 0)) (memF [] (cntF true s)) s [] (by simp;omega)
 simp only [List.nil_append,List.length_nil,Nat.zero_add] at hsk
 have hr:s.takeWhile asp++s.dropWhile asp=s:=List.takeWhile_append_dropWhile
 have hl:=congrArg List.length hr
 simp only [List.length_append] at hl
 have hst:stillF [] (s.dropWhile asp)=fields s:=(goF_true_still [] s).symm
 obtain⟨pre',cur',ws',h2,h3,h4⟩:=main242 hG (.d (.int .i64 (cntF true s:Nat))) (.d (.int .i64 (b01 was))) (.d (.int .u8 t)) (.d (.int .i64 s.length)) (cntF true s) (s.dropWhile asp).length (s.dropWhile asp) (s.takeWhile asp) [] [] (Nat.le_refl _) (by simp;omega) (by simp [hst,hn]) (by omega)
 rw [hst,← hn] at h4
 simp only [List.nil_append,hr,List.length_nil,Nat.add_zero,hst] at h2 h3 h4
 simp only [Option.bind_some,Nat.zero_add,K242_0x0,iBin_geq,e1,br3_bool,Bool.false_eq_true,if_false,hm]
 simp only [List.length_nil] at *
 simp only [show ((0:Nat):Int)=0 from rfl] at hsk h4 ⊢
 have hsk':=hsk
 have h4':=h4
 rw [hsk']
 simp only [Option.bind_some,K242_1x2]
 rw [h4']
 simp only [Option.bind_some,K242_2x4,lnS_str,iBin_lss,br3_bool]
 by_cases hc:cur'=[]
 ·subst hc
  have hw:ws'=fields s:=by simpa [stillF] using h3.symm
  have e2:decide ((pre'.length:Int)<(s.length:Int))=false:=by rw [h2];simp
  rw [e2]
  simp only [Bool.false_eq_true,if_false]
  have:=fin_memF ws'
  rw [← hw] at hn
  rw [hn]
  rw [hw] at this ⊢
  simpa [stillF] using this
 ·have hw:fields s=ws'++[cur']:=by simpa [stillF,hc,goF] using h3
  have e2:decide ((pre'.length:Int)<(s.length:Int))=true:=by
   have:0<cur'.length:=List.length_pos_iff.2 hc
   rw [h2];simp;omega
  have e3:slS (.d (.str s)) (some (.d (.int .i64 pre'.length))) none=some (.d (.str cur')):=by
   rw [h2,slS_drop (by simp),List.drop_left]
  have hnl:cntF true s=ws'.length+1:=by rw [hn,hw];simp
  have ei:ixA 1 (.vec 0 1 0 (cntF true s)) (.d (.int .i64 ws'.length))=some (.ptr 0 ws'.length):=by rw [ixA_vec (by omega)];simp
  have e4:=memF_st ws' 0 cur'
  have e5:(stillF cur' []).length=0+1:=by simp [stillF,hc,goF]
  have e6:=fin_memF (ws'++[cur'])
  rw [← hw,← hn] at e6
  rw [e2,e5]
  have e4':st 1 ([]:Hp).length ([]:Hp).length (.ptr 0 ws'.length) (.d (.str cur')) (memF ws' (0+1))=some (memF (ws'++[cur']) 0):=e4
  simp only [if_true,e3,Option.bind_some,ei,e4']
  rw [← hw]
  exact e6
end Go.Tg
