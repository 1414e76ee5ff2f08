/- What the bodies of some functions come to, operation by operation. By program (gen.py). -/
import Derived.Test.YtnkobejhnphmhaaGreatDoorAh
import Derived.Test.YtnkobejhnphmhaaGreatDoorAg
import Derived.KernelRfl
set_option linter.all false
set_option linter.unusedVariables false
namespace Go.Tg
noncomputable section
variable [Globs] (c:Oracle)(l u:Nat)(H:Hp)
section
variable (a0:List UInt8)(a1:Int)(e0 e1 e4 e5:IV)(G:Hp)
abbrev C99 (c:Oracle)(l u:Nat)(H:Hp):Ctx:=⟨P,tab,c,H.length,H.length⟩
abbrev k99 (c:Oracle)(l u:Nat)(H:Hp):KR:=endK P (fnOf 99) .pure H H.length
def E99:Env:=[e0,e1,.un,.un,e4,e5,.un,.un,.un,.un,.un,.un,.un,.un,.un,.un,.un]
theorem R99:bodyK2 P tab c l u 99 [.d (.str a0),.d (.int .u8 a1)] H=(loopW (stepL (C99 c l u H) [0,1,4,5] (cd 99 [1,0,1,0,0])) ((E99 (.d (.str a0)) (.d (.int .u8 a1)) (.d (.bool false)) (.d (.int .i64 0))),H)).bind λr1=>popK (C99 c l u H) [0,1,4,5] (k99 c l u H) [.bk 0,.sq (cd 99 [1,1])] r1.1 r1.2.1 r1.2.2:=by kernel_rfl
theorem B99_0:stepL (C99 c l u H) [0,1,4,5] (cd 99 [1,0,1,0,0]) ((E99 e0 e1 e4 e5),G)=(lnS e0).bind λv2=>(iBin P .lss 3 e5 v2).bind λv3=>
 br3 v3 ((ixS e0 e5).bind λv4=>(iBin P .eql 5 v4 e1).bind λv5=>
 br3 v5 (some (.inr (.ret,(E99 e0 e1 (.d (.bool true)) e5),G))) ((iBin P .add 3 e5 (.d (.int .i64 1))).bind λv6=>
 some (.inl ((E99 e0 e1 e4 v6),G)))) (some (.inr (.exi 0,(E99 e0 e1 e4 e5),G))):=by kernel_rfl
theorem K99_0x0:popK (C99 c l u H) [0,1,4,5] (k99 c l u H) [.bk 0,.sq (cd 99 [1,1])] (.exi 0) (E99 e0 e1 e4 e5) G =
 fin .pure H H.length [.d (.bool false)] G:=by kernel_rfl
theorem K99_0r:popK (C99 c l u H) [0,1,4,5] (k99 c l u H) [.bk 0,.sq (cd 99 [1,1])] (.ret) (E99 e0 e1 e4 e5) G =
 fin .pure H H.length [e4] G:=by kernel_rfl
end
theorem R78 (a0:Int):bodyK2 P tab c l u 78 [.d (.int .u8 a0)] H =
 liftR (c H.length H.length 99 [.d (.str [9,10,13,32]),.d (.int .u8 a0)] H) (λv1 h2=>
 fin .pure H H.length [v1] h2) (λp3 h4=>finP .pure H H.length p3 h4):=by kernel_rfl
theorem R103 (a0:Int):bodyK2 P tab c l u 103 [.d (.int .u8 a0)] H =
 liftR (c H.length H.length 99 [.d (.str [9,32]),.d (.int .u8 a0)] H) (λv1 h2=>
 fin .pure H H.length [v1] h2) (λp3 h4=>finP .pure H H.length p3 h4):=by kernel_rfl
section
variable (a0:Int)(v1 v2 v3 v4:IV)
abbrev C128 (c:Oracle)(l u:Nat)(H:Hp):Ctx:=⟨P,tab,c,H.length,H.length⟩
abbrev k128 (c:Oracle)(l u:Nat)(H:Hp):KR:=endK P (fnOf 128) .pure H H.length
def en128_0:Env:=mkE 17 [(0,.d (.int .u8 a0)),(2,.d (.bool false))]
def q128_0 (c:Oracle)(l u:Nat)(H:Hp):KR:=popK (C128 c l u H) [] (k128 c l u H) [.sq (cd 128 [1,1])]
def o128_0 (c:Oracle)(l u:Nat)(H:Hp) (n:Nat) (e:Env) (G:Hp):Res:=opsK2 (C128 c l u H) none (rg 128 [1,0]) (dr 128 [1,0] n) e G (q128_0 c l u H)
def en128_1:Env:=mkE 17 [(0,.d (.int .u8 a0)),(2,.d (.bool false)),(3,.d (.int .u8 a0)),(4,v1),(5,.d (.bool true)),(6,.d (.int .u8 a0))]
def en128_2:Env:=mkE 17 [(0,.d (.int .u8 a0)),(2,.d (.bool false)),(3,.d (.int .u8 a0)),(4,v1),(5,.d (.bool false)),(6,.no)]
def en128_3:Env:=mkE 17 [(0,.d (.int .u8 a0)),(2,.d (.bool false)),(3,.d (.int .u8 a0)),(4,v1),(5,.d (.bool true)),(6,.d (.int .u8 a0)),(7,v2),(8,v2),(9,.d (.bool true)),(10,.no)]
def en128_4:Env:=mkE 17 [(0,.d (.int .u8 a0)),(2,.d (.bool false)),(3,.d (.int .u8 a0)),(4,v1),(5,.d (.bool true)),(6,.d (.int .u8 a0)),(7,v2),(8,v2),(9,.d (.bool false)),(10,.d (.int .u8 a0))]
def en128_5:Env:=upE (en128_2 a0 v1) [(7,.no),(8,.d (.bool false)),(9,.d (.bool false)),(10,.d (.int .u8 a0)),(11,v3),(12,.d (.bool true)),(13,.d (.int .u8 a0))]
def en128_6:Env:=upE (en128_5 a0 v1 v3) [(12,.d (.bool false)),(13,.no)]
def en128_7:Env:=upE (en128_4 a0 v1 v2) [(11,v4),(12,.d (.bool true)),(13,.d (.int .u8 a0))]
def en128_8:Env:=upE (en128_7 a0 v1 v2 v4) [(12,.d (.bool false)),(13,.no)]
theorem R128:bodyK2 P tab c l u 128 [.d (.int .u8 a0)] H =
 o128_0 c l u H 0 (en128_0 a0) H:=by kernel_rfl
theorem g128_0:o128_0 c l u H 0 (en128_0 a0) H=(iBin P .geq 5 (.d (.int .u8 a0)) (.d (.int .u8 97))).bind λv1=>
 brN3 v1 (o128_0 c l u H 4 (en128_1 a0 v1) H) (o128_0 c l u H 4 (en128_2 a0 v1) H) (o128_0 c l u H 4 (List.set (en128_2 a0 v1) 5 v1) H):=by
 unfold o128_0
 refine (oG 4).trans ?_
 generalize opsK2 _ _ _=X
 kernel_rfl
theorem g128_1:o128_0 c l u H 4 (en128_1 a0 v1) H=(iBin P .leq 5 (.d (.int .u8 a0)) (.d (.int .u8 122))).bind λv2=>
 brN3 v2 (o128_0 c l u H 8 (en128_3 a0 v1 v2) H) (o128_0 c l u H 8 (en128_4 a0 v1 v2) H) (o128_0 c l u H 8 (List.set (en128_3 a0 v1 v2) 9 v2) H):=by
 unfold o128_0
 refine (oG 4).trans ?_
 generalize opsK2 _ _ _=X
 kernel_rfl
theorem g128_2:o128_0 c l u H 4 (en128_2 a0 v1) H=(iBin P .geq 5 (.d (.int .u8 a0)) (.d (.int .u8 65))).bind λv3=>
 brN3 v3 (o128_0 c l u H 11 (en128_5 a0 v1 v3) H) (o128_0 c l u H 11 (en128_6 a0 v1 v3) H) (o128_0 c l u H 11 (List.set (en128_6 a0 v1 v3) 12 v3) H):=by
 unfold o128_0
 refine (oG 7).trans ?_
 generalize opsK2 _ _ _=X
 kernel_rfl
theorem g128_3:o128_0 c l u H 8 (en128_3 a0 v1 v2) H =
 fin .pure H H.length [.d (.bool true)] H:=by
 unfold o128_0
 refine (oG 8).trans ?_
 generalize opsK2 _ _ _=X
 kernel_rfl
theorem g128_4:o128_0 c l u H 8 (en128_4 a0 v1 v2) H=(iBin P .geq 5 (.d (.int .u8 a0)) (.d (.int .u8 65))).bind λv4=>
 brN3 v4 (o128_0 c l u H 11 (en128_7 a0 v1 v2 v4) H) (o128_0 c l u H 11 (en128_8 a0 v1 v2 v4) H) (o128_0 c l u H 11 (List.set (en128_8 a0 v1 v2 v4) 12 v4) H):=by
 unfold o128_0
 refine (oG 3).trans ?_
 generalize opsK2 _ _ _=X
 kernel_rfl
theorem g128_5:o128_0 c l u H 11 (en128_5 a0 v1 v3) H=(iBin P .leq 5 (.d (.int .u8 a0)) (.d (.int .u8 90))).bind λv5=>
 fin .pure H H.length [v5] H:=by
 unfold o128_0
 refine (oG 5).trans ?_
 generalize opsK2 _ _ _=X
 kernel_rfl
theorem g128_6:o128_0 c l u H 11 (en128_6 a0 v1 v3) H =
 fin .pure H H.length [.d (.bool false)] H:=by
 unfold o128_0
 refine (oG 5).trans ?_
 generalize opsK2 _ _ _=X
 kernel_rfl
theorem g128_7:o128_0 c l u H 11 (en128_7 a0 v1 v2 v4) H=(iBin P .leq 5 (.d (.int .u8 a0)) (.d (.int .u8 90))).bind λv6=>
 fin .pure H H.length [v6] H:=by
 unfold o128_0
 refine (oG 5).trans ?_
 generalize opsK2 _ _ _=X
 kernel_rfl
theorem g128_8:o128_0 c l u H 11 (en128_8 a0 v1 v2 v4) H =
 fin .pure H H.length [.d (.bool false)] H:=by
 unfold o128_0
 refine (oG 5).trans ?_
 generalize opsK2 _ _ _=X
 kernel_rfl
end
section
variable (a0:Int)(v1:IV)
abbrev C129 (c:Oracle)(l u:Nat)(H:Hp):Ctx:=⟨P,tab,c,H.length,H.length⟩
abbrev k129 (c:Oracle)(l u:Nat)(H:Hp):KR:=endK P (fnOf 129) .pure H H.length
def en129_0:Env:=mkE 9 [(0,.d (.int .u8 a0)),(2,.d (.bool false))]
def q129_0 (c:Oracle)(l u:Nat)(H:Hp):KR:=popK (C129 c l u H) [] (k129 c l u H) [.sq (cd 129 [1,1])]
def o129_0 (c:Oracle)(l u:Nat)(H:Hp) (n:Nat) (e:Env) (G:Hp):Res:=opsK2 (C129 c l u H) none (rg 129 [1,0]) (dr 129 [1,0] n) e G (q129_0 c l u H)
def en129_1:Env:=mkE 9 [(0,.d (.int .u8 a0)),(2,.d (.bool false)),(3,.d (.int .u8 a0)),(4,v1),(5,.d (.bool true)),(6,.d (.int .u8 a0))]
def en129_2:Env:=mkE 9 [(0,.d (.int .u8 a0)),(2,.d (.bool false)),(3,.d (.int .u8 a0)),(4,v1),(5,.d (.bool false)),(6,.no)]
theorem R129:bodyK2 P tab c l u 129 [.d (.int .u8 a0)] H =
 o129_0 c l u H 0 (en129_0 a0) H:=by kernel_rfl
theorem g129_0:o129_0 c l u H 0 (en129_0 a0) H=(iBin P .geq 5 (.d (.int .u8 a0)) (.d (.int .u8 48))).bind λv1=>
 brN3 v1 (o129_0 c l u H 4 (en129_1 a0 v1) H) (o129_0 c l u H 4 (en129_2 a0 v1) H) (o129_0 c l u H 4 (List.set (en129_2 a0 v1) 5 v1) H):=by
 unfold o129_0
 refine (oG 4).trans ?_
 generalize opsK2 _ _ _=X
 kernel_rfl
theorem g129_1:o129_0 c l u H 4 (en129_1 a0 v1) H=(iBin P .leq 5 (.d (.int .u8 a0)) (.d (.int .u8 57))).bind λv2=>
 fin .pure H H.length [v2] H:=by
 unfold o129_0
 refine (oG 4).trans ?_
 generalize opsK2 _ _ _=X
 kernel_rfl
theorem g129_2:o129_0 c l u H 4 (en129_2 a0 v1) H =
 fin .pure H H.length [.d (.bool false)] H:=by
 unfold o129_0
 refine (oG 4).trans ?_
 generalize opsK2 _ _ _=X
 kernel_rfl
end
section
variable (a0:Int)(h2 h6:Hp)(v1 v5:IV)
abbrev C100 (c:Oracle)(l u:Nat)(H:Hp):Ctx:=⟨P,tab,c,H.length,H.length⟩
abbrev k100 (c:Oracle)(l u:Nat)(H:Hp):KR:=endK P (fnOf 100) .pure H H.length
def en100_0:Env:=mkE 13 [(0,.d (.int .u8 a0)),(2,.d (.bool false))]
def q100_0 (c:Oracle)(l u:Nat)(H:Hp):KR:=popK (C100 c l u H) [] (k100 c l u H) [.sq (cd 100 [1,1])]
def o100_0 (c:Oracle)(l u:Nat)(H:Hp) (n:Nat) (e:Env) (G:Hp):Res:=opsK2 (C100 c l u H) none (rg 100 [1,0]) (dr 100 [1,0] n) e G (q100_0 c l u H)
def en100_1:Env:=mkE 13 [(0,.d (.int .u8 a0)),(2,.d (.bool false)),(3,.d (.int .u8 a0)),(4,v1),(5,.d (.bool true)),(6,.no)]
def en100_2:Env:=mkE 13 [(0,.d (.int .u8 a0)),(2,.d (.bool false)),(3,.d (.int .u8 a0)),(4,v1),(5,.d (.bool false)),(6,.d (.int .u8 a0))]
def en100_3:Env:=mkE 13 [(0,.d (.int .u8 a0)),(2,.d (.bool false)),(3,.d (.int .u8 a0)),(4,v1),(5,.d (.bool false)),(6,.d (.int .u8 a0)),(7,v5),(8,v5),(9,.d (.bool true)),(10,.no)]
def en100_4:Env:=mkE 13 [(0,.d (.int .u8 a0)),(2,.d (.bool false)),(3,.d (.int .u8 a0)),(4,v1),(5,.d (.bool false)),(6,.d (.int .u8 a0)),(7,v5),(8,v5),(9,.d (.bool false)),(10,.d (.int .u8 a0))]
theorem R100:bodyK2 P tab c l u 100 [.d (.int .u8 a0)] H =
 o100_0 c l u H 0 (en100_0 a0) H:=by kernel_rfl
theorem g100_0:o100_0 c l u H 0 (en100_0 a0) H =
 liftR (c H.length H.length 128 [.d (.int .u8 a0)] H) (λv1 h2=>
 brN3 v1 (o100_0 c l u H 4 (en100_1 a0 v1) h2) (o100_0 c l u H 4 (en100_2 a0 v1) h2) (o100_0 c l u H 4 (List.set (en100_1 a0 v1) 5 v1) h2)) (λp3 h4=>finP .pure H H.length p3 h4):=by
 unfold o100_0
 refine (oG 4).trans ?_
 generalize opsK2 _ _ _=X
 kernel_rfl
theorem g100_1:o100_0 c l u H 4 (en100_1 a0 v1) h2 =
 fin .pure H H.length [.d (.bool true)] h2:=by
 unfold o100_0
 refine (oG 8).trans ?_
 generalize opsK2 _ _ _=X
 kernel_rfl
theorem g100_2:o100_0 c l u H 4 (en100_2 a0 v1) h2 =
 liftR (c H.length H.length 129 [.d (.int .u8 a0)] h2) (λv5 h6=>
 brN3 v5 (o100_0 c l u H 8 (en100_3 a0 v1 v5) h6) (o100_0 c l u H 8 (en100_4 a0 v1 v5) h6) (o100_0 c l u H 8 (List.set (en100_3 a0 v1 v5) 9 v5) h6)) (λp7 h8=>finP .pure H H.length p7 h8):=by
 unfold o100_0
 refine (oG 4).trans ?_
 generalize opsK2 _ _ _=X
 kernel_rfl
theorem g100_3:o100_0 c l u H 8 (en100_3 a0 v1 v5) h6 =
 fin .pure H H.length [.d (.bool true)] h6:=by
 unfold o100_0
 refine (oG 4).trans ?_
 generalize opsK2 _ _ _=X
 kernel_rfl
theorem g100_4:o100_0 c l u H 8 (en100_4 a0 v1 v5) h6 =
 liftR (c H.length H.length 99 [.d (.str [33,35,36,37,38,39,42,43,45,46,94,95,96,124,126]),.d (.int .u8 a0)] h6) (λv9 h10=>
 fin .pure H H.length [v9] h10) (λp11 h12=>finP .pure H H.length p11 h12):=by
 unfold o100_0
 refine (oG 4).trans ?_
 generalize opsK2 _ _ _=X
 kernel_rfl
end
section
variable (a0:Int)(v1 v2:IV)
abbrev C101 (c:Oracle)(l u:Nat)(H:Hp):Ctx:=⟨P,tab,c,H.length,H.length⟩
abbrev k101 (c:Oracle)(l u:Nat)(H:Hp):KR:=endK P (fnOf 101) .pure H H.length
def en101_0:Env:=mkE 13 [(0,.d (.int .u8 a0)),(2,.d (.bool false))]
def q101_0 (c:Oracle)(l u:Nat)(H:Hp):KR:=popK (C101 c l u H) [] (k101 c l u H) [.sq (cd 101 [1,1])]
def o101_0 (c:Oracle)(l u:Nat)(H:Hp) (n:Nat) (e:Env) (G:Hp):Res:=opsK2 (C101 c l u H) none (rg 101 [1,0]) (dr 101 [1,0] n) e G (q101_0 c l u H)
def en101_1:Env:=mkE 13 [(0,.d (.int .u8 a0)),(2,.d (.bool false)),(3,.d (.int .u8 a0)),(4,v1),(5,.d (.bool true)),(6,.no)]
def en101_2:Env:=mkE 13 [(0,.d (.int .u8 a0)),(2,.d (.bool false)),(3,.d (.int .u8 a0)),(4,v1),(5,.d (.bool false)),(6,.d (.int .u8 a0))]
def en101_3:Env:=mkE 13 [(0,.d (.int .u8 a0)),(2,.d (.bool false)),(3,.d (.int .u8 a0)),(4,v1),(5,.d (.bool false)),(6,.d (.int .u8 a0)),(7,v2),(8,.d (.bool true)),(9,.d (.int .u8 a0))]
def en101_4:Env:=mkE 13 [(0,.d (.int .u8 a0)),(2,.d (.bool false)),(3,.d (.int .u8 a0)),(4,v1),(5,.d (.bool false)),(6,.d (.int .u8 a0)),(7,v2),(8,.d (.bool false)),(9,.no)]
theorem R101:bodyK2 P tab c l u 101 [.d (.int .u8 a0)] H =
 o101_0 c l u H 0 (en101_0 a0) H:=by kernel_rfl
theorem g101_0:o101_0 c l u H 0 (en101_0 a0) H=(iBin P .eql 5 (.d (.int .u8 a0)) (.d (.int .u8 9))).bind λv1=>
 brN3 v1 (o101_0 c l u H 4 (en101_1 a0 v1) H) (o101_0 c l u H 4 (en101_2 a0 v1) H) (o101_0 c l u H 4 (List.set (en101_1 a0 v1) 5 v1) H):=by
 unfold o101_0
 refine (oG 4).trans ?_
 generalize opsK2 _ _ _=X
 kernel_rfl
theorem g101_1:o101_0 c l u H 4 (en101_1 a0 v1) H =
 fin .pure H H.length [.d (.bool true)] H:=by
 unfold o101_0
 refine (oG 8).trans ?_
 generalize opsK2 _ _ _=X
 kernel_rfl
theorem g101_2:o101_0 c l u H 4 (en101_2 a0 v1) H=(iBin P .gtr 5 (.d (.int .u8 a0)) (.d (.int .u8 31))).bind λv2=>
 brN3 v2 (o101_0 c l u H 7 (en101_3 a0 v1 v2) H) (o101_0 c l u H 7 (en101_4 a0 v1 v2) H) (o101_0 c l u H 7 (List.set (en101_4 a0 v1 v2) 8 v2) H):=by
 unfold o101_0
 refine (oG 3).trans ?_
 generalize opsK2 _ _ _=X
 kernel_rfl
theorem g101_3:o101_0 c l u H 7 (en101_3 a0 v1 v2) H=(iBin P .neq 5 (.d (.int .u8 a0)) (.d (.int .u8 127))).bind λv3=>
 fin .pure H H.length [v3] H:=by
 unfold o101_0
 refine (oG 5).trans ?_
 generalize opsK2 _ _ _=X
 kernel_rfl
theorem g101_4:o101_0 c l u H 7 (en101_4 a0 v1 v2) H =
 fin .pure H H.length [.d (.bool false)] H:=by
 unfold o101_0
 refine (oG 5).trans ?_
 generalize opsK2 _ _ _=X
 kernel_rfl
end
section
variable (a0:List UInt8)(e0 e3 e4:IV)(G:Hp)(v3 v4 v5 v6:IV)
abbrev C36 (c:Oracle)(l u:Nat)(H:Hp):Ctx:=⟨P,tab,c,H.length,H.length⟩
abbrev k36 (c:Oracle)(l u:Nat)(H:Hp):KR:=endK P (fnOf 36) .pure H H.length
def E36:Env:=[e0,.un,.un,e3,e4,.un,.un,.un,.un,.un,.un,.un,.un,.un,.un,.un,.un,.un,.un,.un,.un,.un,.un,.un,.un,.un,.un,.un,.un,.un]
def en36_0:Env:=mkE 30 [(0,e0),(3,e3),(4,e4),(5,v5),(7,e4),(8,e0),(9,v3),(10,v4),(13,e0),(14,e4),(15,v5)]
def q36_0 (c:Oracle)(l u:Nat)(H:Hp):Ex→Env→Hp→OS:=popK (C36 c l u H) [0,3,4] (stepK [0,3,4]) [.sq (cd 36 [1,1,0,1,0,0,1,0,0,1,0,1]),.sq (cd 36 [1,1,0,1,0,0,1,0,0,1,1]),.bk 1,.sq (cd 36 [1,1,0,1,0,0,1,1])]
def o36_0 (c:Oracle)(l u:Nat)(H:Hp) (n:Nat) (e:Env) (G:Hp):OS:=opsK2 (C36 c l u H) none (rg 36 [1,1,0,1,0,0,1,0,0,1,0,0]) (dr 36 [1,1,0,1,0,0,1,0,0,1,0,0] n) e G (q36_0 c l u H)
def en36_1:Env:=mkE 30 [(0,e0),(3,e3),(4,e4),(5,v5),(7,e4),(8,e0),(9,v3),(10,v4),(13,e0),(14,e4),(15,v5),(16,v5),(17,v6),(18,.d (.bool true)),(19,v5)]
def en36_2:Env:=mkE 30 [(0,e0),(3,e3),(4,e4),(5,v5),(7,e4),(8,e0),(9,v3),(10,v4),(13,e0),(14,e4),(15,v5),(16,v5),(17,v6),(18,.d (.bool false)),(19,.no)]
theorem R36:bodyK2 P tab c l u 36 [.d (.str a0)] H=(iBuildSlice P 113 0 [] H).bind λr1=>(loopW (stepL (C36 c l u H) [0,3,4] (cd 36 [1,1,0,1,0,0])) ((E36 (.d (.str a0)) r1.1 (.d (.int .i64 0))),r1.2)).bind λr2=>popK (C36 c l u H) [0,3,4] (k36 c l u H) [.bk 0,.sq (cd 36 [1,1,1])] r2.1 r2.2.1 r2.2.2:=by kernel_rfl
theorem B36_0:stepL (C36 c l u H) [0,3,4] (cd 36 [1,1,0,1,0,0]) ((E36 e0 e3 e4),G)=(lnS e0).bind λv3=>(iBin P .lss 3 e4 v3).bind λv4=>
 br3 v4 ((ixS e0 e4).bind λv5=>
 o36_0 c l u H 0 (en36_0 e0 e3 e4 v3 v4 v5) G) (some (.inr (.exi 0,(E36 e0 e3 e4),G))):=by kernel_rfl
theorem g36_0 (G:Hp) (e0 e3 e4 v3 v4 v5:IV):o36_0 c l u H 0 (en36_0 e0 e3 e4 v3 v4 v5) G=(iBin P .geq 5 v5 (.d (.int .u8 65))).bind λv6=>
 brN3 v6 (o36_0 c l u H 4 (en36_1 e0 e3 e4 v3 v4 v5 v6) G) (o36_0 c l u H 4 (en36_2 e0 e3 e4 v3 v4 v5 v6) G) (o36_0 c l u H 4 (List.set (en36_2 e0 e3 e4 v3 v4 v5 v6) 18 v6) G):=by
 unfold o36_0
 refine (oG 4).trans ?_
 generalize opsK2 _ _ _=X
 kernel_rfl
theorem g36_1 (G:Hp) (e0 e3 e4 v3 v4 v5 v6:IV):o36_0 c l u H 4 (en36_1 e0 e3 e4 v3 v4 v5 v6) G=(iBin P .leq 5 v5 (.d (.int .u8 90))).bind λv7=>
 br3 v7 ((iBin P .add 5 v5 (.d (.int .u8 32))).bind λv8=>(iBuildSlice P 113 1 [(0,v8)] G).bind λr9=>(app 5 1 H.length e3 r9.1 r9.2).bind λr10=>(iBin P .add 3 e4 (.d (.int .i64 1))).bind λv11=>
 some (.inl ((E36 e0 r10.1 v11),r10.2))) ((iBuildSlice P 113 1 [(0,v5)] G).bind λr12=>(app 5 1 H.length e3 r12.1 r12.2).bind λr13=>(iBin P .add 3 e4 (.d (.int .i64 1))).bind λv14=>
 some (.inl ((E36 e0 r13.1 v14),r13.2))):=by
 unfold o36_0
 refine (oG 3).trans ?_
 generalize opsK2 _ _ _=X
 kernel_rfl
theorem g36_2 (G:Hp) (e0 e3 e4 v3 v4 v5 v6:IV):o36_0 c l u H 4 (en36_2 e0 e3 e4 v3 v4 v5 v6) G=(iBuildSlice P 113 1 [(0,v5)] G).bind λr15=>(app 5 1 H.length e3 r15.1 r15.2).bind λr16=>(iBin P .add 3 e4 (.d (.int .i64 1))).bind λv17=>
 some (.inl ((E36 e0 r16.1 v17),r16.2)):=by
 unfold o36_0
 refine (oG 3).trans ?_
 generalize opsK2 _ _ _=X
 kernel_rfl
theorem K36_0x0:popK (C36 c l u H) [0,3,4] (k36 c l u H) [.bk 0,.sq (cd 36 [1,1,1])] (.exi 0) (E36 e0 e3 e4) G=(bstr e3 G).bind λv18=>
 fin .pure H H.length [v18] G:=by kernel_rfl
end
section
variable (a0:List UInt8)(e0:IV)(G:Hp)(v2 v3 v11 v12:IV)
abbrev C74 (c:Oracle)(l u:Nat)(H:Hp):Ctx:=⟨P,tab,c,H.length,H.length⟩
abbrev k74 (c:Oracle)(l u:Nat)(H:Hp):KR:=endK P (fnOf 74) .pure H H.length
def E74:Env:=[e0,.un,.un,.un,.un,.un,.un,.un,.un,.un,.un,.un,.un,.un,.un,.un,.un,.un,.un,.un,.un,.un,.un,.un,.un,.un,.un,.un,.un,.un]
def en74_0:Env:=mkE 30 [(0,e0)]
def q74_0 (c:Oracle)(l u:Nat)(H:Hp):Ex→Env→Hp→OS:=popK (C74 c l u H) [0] (stepK [0]) [.sq (cd 74 [1,0,0,0,0,1]),.sq (cd 74 [1,0,0,0,1])]
def o74_0 (c:Oracle)(l u:Nat)(H:Hp) (n:Nat) (e:Env) (G:Hp):OS:=opsK2 (C74 c l u H) none (rg 74 [1,0,0,0,0,0]) (dr 74 [1,0,0,0,0,0] n) e G (q74_0 c l u H)
def en74_1:Env:=mkE 30 [(0,e0),(3,e0),(4,v2),(5,v3),(6,.d (.bool true)),(7,e0)]
def en74_2:Env:=mkE 30 [(0,e0),(3,e0),(4,v2),(5,v3),(6,.d (.bool false)),(7,.no)]
def q74_1 (c:Oracle)(l u:Nat)(H:Hp):Ex→Env→Hp→OS:=popK (C74 c l u H) [0] (stepK [0]) [.sq (cd 74 [1,1,0,0,0,0,1]),.sq (cd 74 [1,1,0,0,0,1])]
def o74_1 (c:Oracle)(l u:Nat)(H:Hp) (n:Nat) (e:Env) (G:Hp):OS:=opsK2 (C74 c l u H) none (rg 74 [1,1,0,0,0,0,0]) (dr 74 [1,1,0,0,0,0,0] n) e G (q74_1 c l u H)
def en74_3:Env:=mkE 30 [(0,e0),(13,e0),(14,v11),(15,v12),(16,.d (.bool true)),(17,e0)]
def en74_4:Env:=mkE 30 [(0,e0),(13,e0),(14,v11),(15,v12),(16,.d (.bool false)),(17,.no)]
theorem R74:bodyK2 P tab c l u 74 [.d (.str a0)] H=(loopW (stepL (C74 c l u H) [0] (cd 74 [1,0,0,0])) ((E74 (.d (.str a0))),H)).bind λr1=>popK (C74 c l u H) [0] (k74 c l u H) [.bk 0,.sq (cd 74 [1,1])] r1.1 r1.2.1 r1.2.2:=by kernel_rfl
theorem B74_0:stepL (C74 c l u H) [0] (cd 74 [1,0,0,0]) ((E74 e0),G) =
 o74_0 c l u H 0 (en74_0 e0) G:=by kernel_rfl
theorem g74_0 (G:Hp) (e0:IV):o74_0 c l u H 0 (en74_0 e0) G=(lnS e0).bind λv2=>(iBin P .gtr 3 v2 (.d (.int .i64 0))).bind λv3=>
 brN3 v3 (o74_0 c l u H 5 (en74_1 e0 v2 v3) G) (o74_0 c l u H 5 (en74_2 e0 v2 v3) G) (o74_0 c l u H 5 (List.set (en74_2 e0 v2 v3) 6 v3) G):=by
 unfold o74_0
 refine (oG 5).trans ?_
 generalize opsK2 _ _ _=X
 kernel_rfl
theorem g74_1 (G:Hp) (e0 v2 v3:IV):o74_0 c l u H 5 (en74_1 e0 v2 v3) G=(ixS e0 (.d (.int .i64 0))).bind λv4=>
 liftR (c H.length H.length 78 [v4] G) (λv5 h6=>
 br3 v5 ((slS e0 (some (.d (.int .i64 1))) none).bind λv7=>
 some (.inl ((E74 v7),h6))) (some (.inr (.exi 0,(E74 e0),h6)))) (λp8 h9=>some (.inr (.pan p8,(E74 e0),h9))):=by
 unfold o74_0
 refine (oG 4).trans ?_
 generalize opsK2 _ _ _=X
 kernel_rfl
theorem g74_2 (G:Hp) (e0 v2 v3:IV):o74_0 c l u H 5 (en74_2 e0 v2 v3) G =
 some (.inr (.exi 0,(E74 e0),G)):=by
 unfold o74_0
 refine (oG 4).trans ?_
 generalize opsK2 _ _ _=X
 kernel_rfl
theorem K74_0x0:popK (C74 c l u H) [0] (k74 c l u H) [.bk 0,.sq (cd 74 [1,1])] (.exi 0) (E74 e0) G=(loopW (stepL (C74 c l u H) [0] (cd 74 [1,1,0,0,0])) ((E74 e0),G)).bind λr10=>popK (C74 c l u H) [0] (k74 c l u H) [.bk 2,.sq (cd 74 [1,1,1])] r10.1 r10.2.1 r10.2.2:=by kernel_rfl
theorem B74_1:stepL (C74 c l u H) [0] (cd 74 [1,1,0,0,0]) ((E74 e0),G) =
 o74_1 c l u H 0 (en74_0 e0) G:=by kernel_rfl
theorem g74_3 (G:Hp) (e0:IV):o74_1 c l u H 0 (en74_0 e0) G=(lnS e0).bind λv11=>(iBin P .gtr 3 v11 (.d (.int .i64 0))).bind λv12=>
 brN3 v12 (o74_1 c l u H 5 (en74_3 e0 v11 v12) G) (o74_1 c l u H 5 (en74_4 e0 v11 v12) G) (o74_1 c l u H 5 (List.set (en74_4 e0 v11 v12) 16 v12) G):=by
 unfold o74_1
 refine (oG 5).trans ?_
 generalize opsK2 _ _ _=X
 kernel_rfl
theorem g74_4 (G:Hp) (e0 v11 v12:IV):o74_1 c l u H 5 (en74_3 e0 v11 v12) G=(lnS e0).bind λv13=>(iBin P .sub 3 v13 (.d (.int .i64 1))).bind λv14=>(ixS e0 v14).bind λv15=>
 liftR (c H.length H.length 78 [v15] G) (λv16 h17=>
 br3 v16 ((lnS e0).bind λv18=>(iBin P .sub 3 v18 (.d (.int .i64 1))).bind λv19=>(slS e0 none (some v19)).bind λv20=>
 some (.inl ((E74 v20),h17))) (some (.inr (.exi 2,(E74 e0),h17)))) (λp21 h22=>some (.inr (.pan p21,(E74 e0),h22))):=by
 unfold o74_1
 refine (oG 7).trans ?_
 generalize opsK2 _ _ _=X
 kernel_rfl
theorem g74_5 (G:Hp) (e0 v11 v12:IV):o74_1 c l u H 5 (en74_4 e0 v11 v12) G =
 some (.inr (.exi 2,(E74 e0),G)):=by
 unfold o74_1
 refine (oG 7).trans ?_
 generalize opsK2 _ _ _=X
 kernel_rfl
theorem K74_1x2:popK (C74 c l u H) [0] (k74 c l u H) [.bk 2,.sq (cd 74 [1,1,1])] (.exi 2) (E74 e0) G =
 fin .pure H H.length [e0] G:=by kernel_rfl
end
section
variable (a0:List UInt8)(e0:IV)(G:Hp)(v2 v3:IV)
abbrev C102 (c:Oracle)(l u:Nat)(H:Hp):Ctx:=⟨P,tab,c,H.length,H.length⟩
abbrev k102 (c:Oracle)(l u:Nat)(H:Hp):KR:=endK P (fnOf 102) .pure H H.length
def E102:Env:=[e0,.un,.un,.un,.un,.un,.un,.un,.un,.un,.un,.un,.un,.un,.un,.un,.un,.un,.un,.un]
def en102_0:Env:=mkE 20 [(0,e0)]
def q102_0 (c:Oracle)(l u:Nat)(H:Hp):Ex→Env→Hp→OS:=popK (C102 c l u H) [0] (stepK [0]) [.sq (cd 102 [1,0,0,0,0,1]),.sq (cd 102 [1,0,0,0,1])]
def o102_0 (c:Oracle)(l u:Nat)(H:Hp) (n:Nat) (e:Env) (G:Hp):OS:=opsK2 (C102 c l u H) none (rg 102 [1,0,0,0,0,0]) (dr 102 [1,0,0,0,0,0] n) e G (q102_0 c l u H)
def en102_1:Env:=mkE 20 [(0,e0),(3,e0),(4,v2),(5,v3),(6,.d (.bool true)),(7,e0)]
def en102_2:Env:=mkE 20 [(0,e0),(3,e0),(4,v2),(5,v3),(6,.d (.bool false)),(7,.no)]
theorem R102:bodyK2 P tab c l u 102 [.d (.str a0)] H=(loopW (stepL (C102 c l u H) [0] (cd 102 [1,0,0,0])) ((E102 (.d (.str a0))),H)).bind λr1=>popK (C102 c l u H) [0] (k102 c l u H) [.bk 0,.sq (cd 102 [1,1])] r1.1 r1.2.1 r1.2.2:=by kernel_rfl
theorem B102_0:stepL (C102 c l u H) [0] (cd 102 [1,0,0,0]) ((E102 e0),G) =
 o102_0 c l u H 0 (en102_0 e0) G:=by kernel_rfl
theorem g102_0 (G:Hp) (e0:IV):o102_0 c l u H 0 (en102_0 e0) G=(lnS e0).bind λv2=>(iBin P .gtr 3 v2 (.d (.int .i64 0))).bind λv3=>
 brN3 v3 (o102_0 c l u H 5 (en102_1 e0 v2 v3) G) (o102_0 c l u H 5 (en102_2 e0 v2 v3) G) (o102_0 c l u H 5 (List.set (en102_2 e0 v2 v3) 6 v3) G):=by
 unfold o102_0
 refine (oG 5).trans ?_
 generalize opsK2 _ _ _=X
 kernel_rfl
theorem g102_1 (G:Hp) (e0 v2 v3:IV):o102_0 c l u H 5 (en102_1 e0 v2 v3) G=(lnS e0).bind λv4=>(iBin P .sub 3 v4 (.d (.int .i64 1))).bind λv5=>(ixS e0 v5).bind λv6=>
 liftR (c H.length H.length 103 [v6] G) (λv7 h8=>
 br3 v7 ((lnS e0).bind λv9=>(iBin P .sub 3 v9 (.d (.int .i64 1))).bind λv10=>(slS e0 none (some v10)).bind λv11=>
 some (.inl ((E102 v11),h8))) (some (.inr (.exi 0,(E102 e0),h8)))) (λp12 h13=>some (.inr (.pan p12,(E102 e0),h13))):=by
 unfold o102_0
 refine (oG 7).trans ?_
 generalize opsK2 _ _ _=X
 kernel_rfl
theorem g102_2 (G:Hp) (e0 v2 v3:IV):o102_0 c l u H 5 (en102_2 e0 v2 v3) G =
 some (.inr (.exi 0,(E102 e0),G)):=by
 unfold o102_0
 refine (oG 7).trans ?_
 generalize opsK2 _ _ _=X
 kernel_rfl
theorem K102_0x0:popK (C102 c l u H) [0] (k102 c l u H) [.bk 0,.sq (cd 102 [1,1])] (.exi 0) (E102 e0) G =
 fin .pure H H.length [e0] G:=by kernel_rfl
end
section
variable (a0:List UInt8)(e0:IV)(G:Hp)(v6 v7:IV)
abbrev C82 (c:Oracle)(l u:Nat)(H:Hp):Ctx:=⟨P,tab,c,H.length,H.length⟩
abbrev k82 (c:Oracle)(l u:Nat)(H:Hp):KR:=endK P (fnOf 82) .pure H H.length
def E82:Env:=[e0,.un,.un,.un,.un,.un,.un,.un,.un,.un,.un,.un,.un,.un,.un,.un]
def en82_0:Env:=mkE 16 [(0,e0)]
def q82_0 (c:Oracle)(l u:Nat)(H:Hp):Ex→Env→Hp→OS:=popK (C82 c l u H) [0] (stepK [0]) [.sq (cd 82 [1,1,0,0,0,0,1]),.sq (cd 82 [1,1,0,0,0,1])]
def o82_0 (c:Oracle)(l u:Nat)(H:Hp) (n:Nat) (e:Env) (G:Hp):OS:=opsK2 (C82 c l u H) none (rg 82 [1,1,0,0,0,0,0]) (dr 82 [1,1,0,0,0,0,0] n) e G (q82_0 c l u H)
def en82_1:Env:=mkE 16 [(0,e0),(5,e0),(6,v6),(7,v7),(8,.d (.bool true)),(9,e0)]
def en82_2:Env:=mkE 16 [(0,e0),(5,e0),(6,v6),(7,v7),(8,.d (.bool false)),(9,.no)]
theorem R82:bodyK2 P tab c l u 82 [.d (.str a0)] H =
 liftR (c H.length H.length 102 [.d (.str a0)] H) (λv1 h2=>(loopW (stepL (C82 c l u H) [0] (cd 82 [1,1,0,0,0])) ((E82 v1),h2)).bind λr3=>popK (C82 c l u H) [0] (k82 c l u H) [.bk 0,.sq (cd 82 [1,1,1])] r3.1 r3.2.1 r3.2.2) (λp4 h5=>finP .pure H H.length p4 h5):=by kernel_rfl
theorem B82_0:stepL (C82 c l u H) [0] (cd 82 [1,1,0,0,0]) ((E82 e0),G) =
 o82_0 c l u H 0 (en82_0 e0) G:=by kernel_rfl
theorem g82_0 (G:Hp) (e0:IV):o82_0 c l u H 0 (en82_0 e0) G=(lnS e0).bind λv6=>(iBin P .gtr 3 v6 (.d (.int .i64 0))).bind λv7=>
 brN3 v7 (o82_0 c l u H 5 (en82_1 e0 v6 v7) G) (o82_0 c l u H 5 (en82_2 e0 v6 v7) G) (o82_0 c l u H 5 (List.set (en82_2 e0 v6 v7) 8 v7) G):=by
 unfold o82_0
 refine (oG 5).trans ?_
 generalize opsK2 _ _ _=X
 kernel_rfl
theorem g82_1 (G:Hp) (e0 v6 v7:IV):o82_0 c l u H 5 (en82_1 e0 v6 v7) G=(ixS e0 (.d (.int .i64 0))).bind λv8=>
 liftR (c H.length H.length 103 [v8] G) (λv9 h10=>
 br3 v9 ((slS e0 (some (.d (.int .i64 1))) none).bind λv11=>
 some (.inl ((E82 v11),h10))) (some (.inr (.exi 0,(E82 e0),h10)))) (λp12 h13=>some (.inr (.pan p12,(E82 e0),h13))):=by
 unfold o82_0
 refine (oG 4).trans ?_
 generalize opsK2 _ _ _=X
 kernel_rfl
theorem g82_2 (G:Hp) (e0 v6 v7:IV):o82_0 c l u H 5 (en82_2 e0 v6 v7) G =
 some (.inr (.exi 0,(E82 e0),G)):=by
 unfold o82_0
 refine (oG 4).trans ?_
 generalize opsK2 _ _ _=X
 kernel_rfl
theorem K82_0x0:popK (C82 c l u H) [0] (k82 c l u H) [.bk 0,.sq (cd 82 [1,1,1])] (.exi 0) (E82 e0) G =
 fin .pure H H.length [e0] G:=by kernel_rfl
end
section
variable (a0:List UInt8)(e0:IV)(G:Hp)(v2 v3:IV)
abbrev C77 (c:Oracle)(l u:Nat)(H:Hp):Ctx:=⟨P,tab,c,H.length,H.length⟩
abbrev k77 (c:Oracle)(l u:Nat)(H:Hp):KR:=endK P (fnOf 77) .pure H H.length
def E77:Env:=[e0,.un,.un,.un,.un,.un,.un,.un,.un,.un,.un,.un,.un,.un,.un,.un,.un,.un,.un,.un]
def en77_0:Env:=mkE 20 [(0,e0)]
def q77_0 (c:Oracle)(l u:Nat)(H:Hp):Ex→Env→Hp→OS:=popK (C77 c l u H) [0] (stepK [0]) [.sq (cd 77 [1,0,0,0,0,1]),.sq (cd 77 [1,0,0,0,1])]
def o77_0 (c:Oracle)(l u:Nat)(H:Hp) (n:Nat) (e:Env) (G:Hp):OS:=opsK2 (C77 c l u H) none (rg 77 [1,0,0,0,0,0]) (dr 77 [1,0,0,0,0,0] n) e G (q77_0 c l u H)
def en77_1:Env:=mkE 20 [(0,e0),(3,e0),(4,v2),(5,v3),(6,.d (.bool true)),(7,e0)]
def en77_2:Env:=mkE 20 [(0,e0),(3,e0),(4,v2),(5,v3),(6,.d (.bool false)),(7,.no)]
theorem R77:bodyK2 P tab c l u 77 [.d (.str a0)] H=(loopW (stepL (C77 c l u H) [0] (cd 77 [1,0,0,0])) ((E77 (.d (.str a0))),H)).bind λr1=>popK (C77 c l u H) [0] (k77 c l u H) [.bk 0,.sq (cd 77 [1,1])] r1.1 r1.2.1 r1.2.2:=by kernel_rfl
theorem B77_0:stepL (C77 c l u H) [0] (cd 77 [1,0,0,0]) ((E77 e0),G) =
 o77_0 c l u H 0 (en77_0 e0) G:=by kernel_rfl
theorem g77_0 (G:Hp) (e0:IV):o77_0 c l u H 0 (en77_0 e0) G=(lnS e0).bind λv2=>(iBin P .gtr 3 v2 (.d (.int .i64 0))).bind λv3=>
 brN3 v3 (o77_0 c l u H 5 (en77_1 e0 v2 v3) G) (o77_0 c l u H 5 (en77_2 e0 v2 v3) G) (o77_0 c l u H 5 (List.set (en77_2 e0 v2 v3) 6 v3) G):=by
 unfold o77_0
 refine (oG 5).trans ?_
 generalize opsK2 _ _ _=X
 kernel_rfl
theorem g77_1 (G:Hp) (e0 v2 v3:IV):o77_0 c l u H 5 (en77_1 e0 v2 v3) G=(lnS e0).bind λv4=>(iBin P .sub 3 v4 (.d (.int .i64 1))).bind λv5=>(ixS e0 v5).bind λv6=>
 liftR (c H.length H.length 78 [v6] G) (λv7 h8=>
 br3 v7 ((lnS e0).bind λv9=>(iBin P .sub 3 v9 (.d (.int .i64 1))).bind λv10=>(slS e0 none (some v10)).bind λv11=>
 some (.inl ((E77 v11),h8))) (some (.inr (.exi 0,(E77 e0),h8)))) (λp12 h13=>some (.inr (.pan p12,(E77 e0),h13))):=by
 unfold o77_0
 refine (oG 7).trans ?_
 generalize opsK2 _ _ _=X
 kernel_rfl
theorem g77_2 (G:Hp) (e0 v2 v3:IV):o77_0 c l u H 5 (en77_2 e0 v2 v3) G =
 some (.inr (.exi 0,(E77 e0),G)):=by
 unfold o77_0
 refine (oG 7).trans ?_
 generalize opsK2 _ _ _=X
 kernel_rfl
theorem K77_0x0:popK (C77 c l u H) [0] (k77 c l u H) [.bk 0,.sq (cd 77 [1,1])] (.exi 0) (E77 e0) G =
 fin .pure H H.length [e0] G:=by kernel_rfl
end
section
variable (a0 a1:List UInt8)(e0 e1 e4 e5:IV)(G:Hp)
abbrev C75 (c:Oracle)(l u:Nat)(H:Hp):Ctx:=⟨P,tab,c,H.length,H.length⟩
abbrev k75 (c:Oracle)(l u:Nat)(H:Hp):KR:=endK P (fnOf 75) .pure H H.length
def E75:Env:=[e0,e1,.un,.un,e4,e5,.un,.un,.un,.un,.un,.un,.un,.un,.un,.un,.un,.un,.un,.un]
theorem R75:bodyK2 P tab c l u 75 [.d (.str a0),.d (.str a1)] H=(loopW (stepL (C75 c l u H) [0,1,4,5] (cd 75 [1,0,1,0,0])) ((E75 (.d (.str a0)) (.d (.str a1)) (.d (.int .i64 0)) (.d (.int .i64 0))),H)).bind λr1=>popK (C75 c l u H) [0,1,4,5] (k75 c l u H) [.bk 0,.sq (cd 75 [1,1])] r1.1 r1.2.1 r1.2.2:=by kernel_rfl
theorem B75_0:stepL (C75 c l u H) [0,1,4,5] (cd 75 [1,0,1,0,0]) ((E75 e0 e1 e4 e5),G)=(lnS e0).bind λv2=>(iBin P .lss 3 e5 v2).bind λv3=>
 br3 v3 ((ixS e0 e5).bind λv4=>
 liftR (c H.length H.length 99 [e1,v4] G) (λv5 h6=>
 br3 v5 (some (.inr (.ret,(E75 e0 e1 e5 e5),h6))) ((iBin P .add 3 e5 (.d (.int .i64 1))).bind λv7=>
 some (.inl ((E75 e0 e1 e4 v7),h6)))) (λp8 h9=>some (.inr (.pan p8,(E75 e0 e1 e4 e5),h9)))) (some (.inr (.exi 0,(E75 e0 e1 e4 e5),G))):=by kernel_rfl
theorem K75_0x0:popK (C75 c l u H) [0,1,4,5] (k75 c l u H) [.bk 0,.sq (cd 75 [1,1])] (.exi 0) (E75 e0 e1 e4 e5) G=(lnS e0).bind λv10=>
 fin .pure H H.length [v10] G:=by kernel_rfl
theorem K75_0r:popK (C75 c l u H) [0,1,4,5] (k75 c l u H) [.bk 0,.sq (cd 75 [1,1])] (.ret) (E75 e0 e1 e4 e5) G =
 fin .pure H H.length [e4] G:=by kernel_rfl
end
section
variable (a0:List UInt8)(e0 e2 e3:IV)(G:Hp)
abbrev C76 (c:Oracle)(l u:Nat)(H:Hp):Ctx:=⟨P,tab,c,H.length,H.length⟩
abbrev k76 (c:Oracle)(l u:Nat)(H:Hp):KR:=endK P (fnOf 76) .pure H H.length
def E76:Env:=[e0,.un,e2,e3,.un,.un,.un,.un,.un,.un,.un,.un,.un,.un,.un,.un,.un]
theorem R76:bodyK2 P tab c l u 76 [.d (.str a0)] H=(loopW (stepL (C76 c l u H) [0,2,3] (cd 76 [1,0,1,0,0])) ((E76 (.d (.str a0)) (.d (.bool false)) (.d (.int .i64 0))),H)).bind λr1=>popK (C76 c l u H) [0,2,3] (k76 c l u H) [.bk 0,.sq (cd 76 [1,1])] r1.1 r1.2.1 r1.2.2:=by kernel_rfl
theorem B76_0:stepL (C76 c l u H) [0,2,3] (cd 76 [1,0,1,0,0]) ((E76 e0 e2 e3),G)=(lnS e0).bind λv2=>(iBin P .lss 3 e3 v2).bind λv3=>
 br3 v3 ((ixS e0 e3).bind λv4=>
 liftR (c H.length H.length 100 [v4] G) (λv5 h6=>(iUn .not v5).bind λv7=>
 br3 v7 (some (.inr (.ret,(E76 e0 (.d (.bool false)) e3),h6))) ((iBin P .add 3 e3 (.d (.int .i64 1))).bind λv8=>
 some (.inl ((E76 e0 e2 v8),h6)))) (λp9 h10=>some (.inr (.pan p9,(E76 e0 e2 e3),h10)))) (some (.inr (.exi 0,(E76 e0 e2 e3),G))):=by kernel_rfl
theorem K76_0x0:popK (C76 c l u H) [0,2,3] (k76 c l u H) [.bk 0,.sq (cd 76 [1,1])] (.exi 0) (E76 e0 e2 e3) G=(iBin P .neq 9 e0 (.d (.str []))).bind λv11=>
 fin .pure H H.length [v11] G:=by kernel_rfl
theorem K76_0r:popK (C76 c l u H) [0,2,3] (k76 c l u H) [.bk 0,.sq (cd 76 [1,1])] (.ret) (E76 e0 e2 e3) G =
 fin .pure H H.length [e2] G:=by kernel_rfl
end
section
variable (a0:List UInt8)(e0 e2 e3:IV)(G:Hp)
abbrev C80 (c:Oracle)(l u:Nat)(H:Hp):Ctx:=⟨P,tab,c,H.length,H.length⟩
abbrev k80 (c:Oracle)(l u:Nat)(H:Hp):KR:=endK P (fnOf 80) .pure H H.length
def E80:Env:=[e0,.un,e2,e3,.un,.un,.un,.un,.un,.un,.un,.un,.un,.un,.un]
theorem R80:bodyK2 P tab c l u 80 [.d (.str a0)] H=(loopW (stepL (C80 c l u H) [0,2,3] (cd 80 [1,0,1,0,0])) ((E80 (.d (.str a0)) (.d (.bool false)) (.d (.int .i64 0))),H)).bind λr1=>popK (C80 c l u H) [0,2,3] (k80 c l u H) [.bk 0,.sq (cd 80 [1,1])] r1.1 r1.2.1 r1.2.2:=by kernel_rfl
theorem B80_0:stepL (C80 c l u H) [0,2,3] (cd 80 [1,0,1,0,0]) ((E80 e0 e2 e3),G)=(lnS e0).bind λv2=>(iBin P .lss 3 e3 v2).bind λv3=>
 br3 v3 ((ixS e0 e3).bind λv4=>
 liftR (c H.length H.length 101 [v4] G) (λv5 h6=>(iUn .not v5).bind λv7=>
 br3 v7 (some (.inr (.ret,(E80 e0 (.d (.bool false)) e3),h6))) ((iBin P .add 3 e3 (.d (.int .i64 1))).bind λv8=>
 some (.inl ((E80 e0 e2 v8),h6)))) (λp9 h10=>some (.inr (.pan p9,(E80 e0 e2 e3),h10)))) (some (.inr (.exi 0,(E80 e0 e2 e3),G))):=by kernel_rfl
theorem K80_0x0:popK (C80 c l u H) [0,2,3] (k80 c l u H) [.bk 0,.sq (cd 80 [1,1])] (.exi 0) (E80 e0 e2 e3) G =
 fin .pure H H.length [.d (.bool true)] G:=by kernel_rfl
theorem K80_0r:popK (C80 c l u H) [0,2,3] (k80 c l u H) [.bk 0,.sq (cd 80 [1,1])] (.ret) (E80 e0 e2 e3) G =
 fin .pure H H.length [e2] G:=by kernel_rfl
end
section
variable (a0:List UInt8)(h2:Hp)(v1:IV)
abbrev C81 (c:Oracle)(l u:Nat)(H:Hp):Ctx:=⟨P,tab,c,H.length,H.length⟩
abbrev k81 (c:Oracle)(l u:Nat)(H:Hp):KR:=endK P (fnOf 81) .pure H H.length
def en81_0:Env:=mkE 11 [(0,.d (.str a0)),(2,.d (.bool false))]
def q81_0 (c:Oracle)(l u:Nat)(H:Hp):KR:=popK (C81 c l u H) [] (k81 c l u H) [.sq (cd 81 [1,1])]
def o81_0 (c:Oracle)(l u:Nat)(H:Hp) (n:Nat) (e:Env) (G:Hp):Res:=opsK2 (C81 c l u H) none (rg 81 [1,0]) (dr 81 [1,0] n) e G (q81_0 c l u H)
def en81_1:Env:=mkE 11 [(0,.d (.str a0)),(2,.d (.bool false)),(3,.d (.str a0)),(4,v1),(5,.d (.bool true)),(6,.d (.str a0))]
def en81_2:Env:=mkE 11 [(0,.d (.str a0)),(2,.d (.bool false)),(3,.d (.str a0)),(4,v1),(5,.d (.bool false)),(6,.no)]
theorem R81:bodyK2 P tab c l u 81 [.d (.str a0)] H =
 o81_0 c l u H 0 (en81_0 a0) H:=by kernel_rfl
theorem g81_0:o81_0 c l u H 0 (en81_0 a0) H =
 liftR (c H.length H.length 76 [.d (.str a0)] H) (λv1 h2=>
 brN3 v1 (o81_0 c l u H 4 (en81_1 a0 v1) h2) (o81_0 c l u H 4 (en81_2 a0 v1) h2) (o81_0 c l u H 4 (List.set (en81_2 a0 v1) 5 v1) h2)) (λp3 h4=>finP .pure H H.length p3 h4):=by
 unfold o81_0
 refine (oG 4).trans ?_
 generalize opsK2 _ _ _=X
 kernel_rfl
theorem g81_1:o81_0 c l u H 4 (en81_1 a0 v1) h2 =
 liftR (c H.length H.length 36 [.d (.str a0)] h2) (λv5 h6=>(iBin P .eql 9 v5 (.d (.str a0))).bind λv7=>
 fin .pure H H.length [v7] h6) (λp8 h9=>finP .pure H H.length p8 h9):=by
 unfold o81_0
 refine (oG 6).trans ?_
 generalize opsK2 _ _ _=X
 kernel_rfl
theorem g81_2:o81_0 c l u H 4 (en81_2 a0 v1) h2 =
 fin .pure H H.length [.d (.bool false)] h2:=by
 unfold o81_0
 refine (oG 6).trans ?_
 generalize opsK2 _ _ _=X
 kernel_rfl
end
theorem R20 (a0:IV):bodyK2 P tab c l u 20 [a0] H=(iBox 34 a0 H).bind λr1=>(padd r1.1 0).bind λv2=>(ld1 v2 r1.2).bind λv3=>(iBin P .add 9 v3 (.d (.str [47]))).bind λv4=>(padd r1.1 1).bind λv5=>(ld1 v5 r1.2).bind λv6=>(iBin P .add 9 v4 v6).bind λv7=>
 fin .pure H H.length [v7] r1.2:=by kernel_rfl
section
variable (a0:List UInt8)(a1:List D)(e0 e1 e4 e5:IV)(G:Hp)
abbrev C19 (c:Oracle)(l u:Nat)(H:Hp):Ctx:=⟨P,tab,c,H.length,H.length⟩
abbrev k19 (c:Oracle)(l u:Nat)(H:Hp):KR:=endK P (fnOf 19) .pure H H.length
def E19:Env:=[e0,e1,.un,.un,e4,e5,.un,.un,.un,.un,.un,.un,.un,.un,.un,.un,.un,.un]
theorem R19:bodyK2 P tab c l u 19 [.d (.str a0),.d (.lst a1)] H=(loopW (stepL (C19 c l u H) [0,1,4,5] (cd 19 [1,0,1,0,0])) ((E19 (.d (.str a0)) (.d (.lst a1)) (.d (.bool false)) (.d (.int .i64 0))),H)).bind λr1=>popK (C19 c l u H) [0,1,4,5] (k19 c l u H) [.bk 0,.sq (cd 19 [1,1])] r1.1 r1.2.1 r1.2.2:=by kernel_rfl
theorem B19_0:stepL (C19 c l u H) [0,1,4,5] (cd 19 [1,0,1,0,0]) ((E19 e0 e1 e4 e5),G)=(lnV e1).bind λv2=>(iBin P .lss 3 e5 v2).bind λv3=>
 br3 v3 ((ixA 1 e1 e5).bind λv4=>(ld1 v4 G).bind λv5=>(iBin P .eql 9 v5 e0).bind λv6=>
 br3 v6 (some (.inr (.ret,(E19 e0 e1 (.d (.bool true)) e5),G))) ((iBin P .add 3 e5 (.d (.int .i64 1))).bind λv7=>
 some (.inl ((E19 e0 e1 e4 v7),G)))) (some (.inr (.exi 0,(E19 e0 e1 e4 e5),G))):=by kernel_rfl
theorem K19_0x0:popK (C19 c l u H) [0,1,4,5] (k19 c l u H) [.bk 0,.sq (cd 19 [1,1])] (.exi 0) (E19 e0 e1 e4 e5) G =
 fin .pure H H.length [.d (.bool false)] G:=by kernel_rfl
theorem K19_0r:popK (C19 c l u H) [0,1,4,5] (k19 c l u H) [.bk 0,.sq (cd 19 [1,1])] (.ret) (E19 e0 e1 e4 e5) G =
 fin .pure H H.length [e4] G:=by kernel_rfl
end
section
variable (a0:List D)(e0 e3 e4:IV)(G:Hp)
abbrev C58 (c:Oracle)(l u:Nat)(H:Hp):Ctx:=⟨P,tab,c,H.length,H.length⟩
abbrev k58 (c:Oracle)(l u:Nat)(H:Hp):KR:=endK P (fnOf 58) .pure H H.length
def E58:Env:=[e0,.un,.un,e3,e4,.un,.un,.un,.un,.un,.un,.un,.un,.un,.un,.un,.un,.un,.un,.un,.un,.un]
theorem R58:bodyK2 P tab c l u 58 [.d (.lst a0)] H=(loopW (stepL (C58 c l u H) [0,3,4] (cd 58 [1,1,0,1,0,0])) ((E58 (.d (.lst a0)) (.d (.str [])) (.d (.int .i64 0))),H)).bind λr1=>popK (C58 c l u H) [0,3,4] (k58 c l u H) [.bk 0,.sq (cd 58 [1,1,1])] r1.1 r1.2.1 r1.2.2:=by kernel_rfl
theorem B58_0:stepL (C58 c l u H) [0,3,4] (cd 58 [1,1,0,1,0,0]) ((E58 e0 e3 e4),G)=(lnV e0).bind λv2=>(iBin P .lss 3 e4 v2).bind λv3=>
 br3 v3 ((iBin P .gtr 3 e4 (.d (.int .i64 0))).bind λv4=>
 br3 v4 ((iBin P .add 9 e3 (.d (.str [44,32]))).bind λv5=>(ixA 1 e0 e4).bind λv6=>(ld1 v6 G).bind λv7=>(iBin P .add 9 v5 v7).bind λv8=>(iBin P .add 3 e4 (.d (.int .i64 1))).bind λv9=>
 some (.inl ((E58 e0 v8 v9),G))) ((ixA 1 e0 e4).bind λv10=>(ld1 v10 G).bind λv11=>(iBin P .add 9 e3 v11).bind λv12=>(iBin P .add 3 e4 (.d (.int .i64 1))).bind λv13=>
 some (.inl ((E58 e0 v12 v13),G)))) (some (.inr (.exi 0,(E58 e0 e3 e4),G))):=by kernel_rfl
theorem K58_0x0:popK (C58 c l u H) [0,3,4] (k58 c l u H) [.bk 0,.sq (cd 58 [1,1,1])] (.exi 0) (E58 e0 e3 e4) G =
 fin .pure H H.length [e3] G:=by kernel_rfl
end
theorem R34 (a0:IV) (a1:List UInt8):bodyK2 P tab c l u 34 [a0,.d (.str a1)] H=(iBox 84 a0 H).bind λr1=>(padd r1.1 0).bind λv2=>(ld1 v2 r1.2).bind λv3=>
 liftR (c H.length H.length 36 [v3] r1.2) (λv4 h5=>
 liftR (c H.length H.length 36 [.d (.str a1)] h5) (λv6 h7=>(iBin P .eql 9 v4 v6).bind λv8=>
 fin .pure H H.length [v8] h7) (λp9 h10=>finP .pure H H.length p9 h10)) (λp11 h12=>finP .pure H H.length p11 h12):=by kernel_rfl
section
variable (a0:List UInt8)(a1:List D)(e0 e1 e5 e6:IV)(G:Hp)
abbrev C14 (c:Oracle)(l u:Nat)(H:Hp):Ctx:=⟨P,tab,c,H.length,H.length⟩
abbrev k14 (c:Oracle)(l u:Nat)(H:Hp):KR:=endK P (fnOf 14) .pure H H.length
def E14:Env:=[e0,e1,.un,.un,.un,e5,e6,.un,.un,.un,.un,.un,.un,.un,.un,.un,.un,.un,.un,.un,.un,.un,.un,.un,.un,.un,.un,.un,.un]
theorem R14:bodyK2 P tab c l u 14 [.d (.str a0),.d (.lst a1)] H=(iBuildSlice P 31 0 [] H).bind λr1=>(loopW (stepL (C14 c l u H) [0,1,5,6] (cd 14 [1,1,0,1,0,0])) ((E14 (.d (.str a0)) (.d (.lst a1)) r1.1 (.d (.int .i64 0))),r1.2)).bind λr2=>popK (C14 c l u H) [0,1,5,6] (k14 c l u H) [.bk 0,.sq (cd 14 [1,1,1])] r2.1 r2.2.1 r2.2.2:=by kernel_rfl
theorem B14_0:stepL (C14 c l u H) [0,1,5,6] (cd 14 [1,1,0,1,0,0]) ((E14 e0 e1 e5 e6),G)=(lnV e1).bind λv3=>(iBin P .lss 3 e6 v3).bind λv4=>
 br3 v4 ((ixA 2 e1 e6).bind λv5=>(ldN 2 v5 G).bind λv6=>
 liftR (c H.length H.length 34 [v6,e0] G) (λv7 h8=>
 br3 v7 ((ixA 2 e1 e6).bind λv9=>(padd v9 1).bind λv10=>(ld1 v10 h8).bind λv11=>(iBuildSlice P 31 1 [(0,v11)] h8).bind λr12=>(app 9 1 H.length e5 r12.1 r12.2).bind λr13=>(iBin P .add 3 e6 (.d (.int .i64 1))).bind λv14=>
 some (.inl ((E14 e0 e1 r13.1 v14),r13.2))) ((iBin P .add 3 e6 (.d (.int .i64 1))).bind λv15=>
 some (.inl ((E14 e0 e1 e5 v15),h8)))) (λp16 h17=>some (.inr (.pan p16,(E14 e0 e1 e5 e6),h17)))) (some (.inr (.exi 0,(E14 e0 e1 e5 e6),G))):=by kernel_rfl
theorem K14_0x0:popK (C14 c l u H) [0,1,5,6] (k14 c l u H) [.bk 0,.sq (cd 14 [1,1,1])] (.exi 0) (E14 e0 e1 e5 e6) G =
 fin .pure H H.length [e5] G:=by kernel_rfl
end
theorem R15 (a0:List D):bodyK2 P tab c l u 15 [.d (.lst a0)] H =
 liftR (c H.length H.length 14 [.d (.str [99,111,110,116,101,110,116,45,116,121,112,101]),.d (.lst a0)] H) (λv1 h2=>(lnV v1).bind λv3=>(iBin P .eql 3 v3 (.d (.int .i64 0))).bind λv4=>
 br3 v4 (fin .pure H H.length [.d (.str []),.d (.bool false)] h2) ((lnV v1).bind λv5=>(iBin P .sub 3 v5 (.d (.int .i64 1))).bind λv6=>(ixA 1 v1 v6).bind λv7=>(ld1 v7 h2).bind λv8=>
 fin .pure H H.length [v8,.d (.bool true)] h2)) (λp9 h10=>finP .pure H H.length p9 h10):=by kernel_rfl
section
variable (a0:List UInt8)(v1 v2 v3:IV)
abbrev C17 (c:Oracle)(l u:Nat)(H:Hp):Ctx:=⟨P,tab,c,H.length,H.length⟩
abbrev k17 (c:Oracle)(l u:Nat)(H:Hp):KR:=endK P (fnOf 17) .pure H H.length
def en17_0:Env:=mkE 17 [(0,.d (.str a0)),(2,.d (.bool false))]
def q17_0 (c:Oracle)(l u:Nat)(H:Hp):KR:=popK (C17 c l u H) [] (k17 c l u H) [.sq (cd 17 [1,1])]
def o17_0 (c:Oracle)(l u:Nat)(H:Hp) (n:Nat) (e:Env) (G:Hp):Res:=opsK2 (C17 c l u H) none (rg 17 [1,0]) (dr 17 [1,0] n) e G (q17_0 c l u H)
def en17_1:Env:=mkE 17 [(0,.d (.str a0)),(2,.d (.bool false)),(3,.d (.str a0)),(4,v1),(5,.d (.bool true)),(6,.no)]
def en17_2:Env:=mkE 17 [(0,.d (.str a0)),(2,.d (.bool false)),(3,.d (.str a0)),(4,v1),(5,.d (.bool false)),(6,.d (.str a0))]
def en17_3:Env:=mkE 17 [(0,.d (.str a0)),(2,.d (.bool false)),(3,.d (.str a0)),(4,v1),(5,.d (.bool false)),(6,.d (.str a0)),(7,v2),(8,v2),(9,.d (.bool true)),(10,.no)]
def en17_4:Env:=mkE 17 [(0,.d (.str a0)),(2,.d (.bool false)),(3,.d (.str a0)),(4,v1),(5,.d (.bool false)),(6,.d (.str a0)),(7,v2),(8,v2),(9,.d (.bool false)),(10,.d (.str a0))]
def en17_5:Env:=upE (en17_4 a0 v1 v2) [(11,v3),(12,v3),(13,.d (.bool true)),(14,.no)]
def en17_6:Env:=upE (en17_5 a0 v1 v2 v3) [(13,.d (.bool false)),(14,.d (.str a0))]
theorem R17:bodyK2 P tab c l u 17 [.d (.str a0)] H =
 o17_0 c l u H 0 (en17_0 a0) H:=by kernel_rfl
theorem g17_0:o17_0 c l u H 0 (en17_0 a0) H=(iBin P .eql 9 (.d (.str a0)) (.d (.str [116,101,120,116,47,112,108,97,105,110]))).bind λv1=>
 brN3 v1 (o17_0 c l u H 4 (en17_1 a0 v1) H) (o17_0 c l u H 4 (en17_2 a0 v1) H) (o17_0 c l u H 4 (List.set (en17_1 a0 v1) 5 v1) H):=by
 unfold o17_0
 refine (oG 4).trans ?_
 generalize opsK2 _ _ _=X
 kernel_rfl
theorem g17_1:o17_0 c l u H 4 (en17_1 a0 v1) H =
 fin .pure H H.length [.d (.bool true)] H:=by
 unfold o17_0
 refine (oG 12).trans ?_
 generalize opsK2 _ _ _=X
 kernel_rfl
theorem g17_2:o17_0 c l u H 4 (en17_2 a0 v1) H=(iBin P .eql 9 (.d (.str a0)) (.d (.str [116,101,120,116,47,112,108,97,105,110,59,32,99,104,97,114,115,101,116,61,73,83,79,45,56,56,53,57,45,49]))).bind λv2=>
 brN3 v2 (o17_0 c l u H 8 (en17_3 a0 v1 v2) H) (o17_0 c l u H 8 (en17_4 a0 v1 v2) H) (o17_0 c l u H 8 (List.set (en17_3 a0 v1 v2) 9 v2) H):=by
 unfold o17_0
 refine (oG 4).trans ?_
 generalize opsK2 _ _ _=X
 kernel_rfl
theorem g17_3:o17_0 c l u H 8 (en17_3 a0 v1 v2) H =
 fin .pure H H.length [.d (.bool true)] H:=by
 unfold o17_0
 refine (oG 8).trans ?_
 generalize opsK2 _ _ _=X
 kernel_rfl
theorem g17_4:o17_0 c l u H 8 (en17_4 a0 v1 v2) H=(iBin P .eql 9 (.d (.str a0)) (.d (.str [116,101,120,116,47,112,108,97,105,110,59,32,99,104,97,114,115,101,116,61,105,115,111,45,56,56,53,57,45,49]))).bind λv3=>
 brN3 v3 (o17_0 c l u H 12 (en17_5 a0 v1 v2 v3) H) (o17_0 c l u H 12 (en17_6 a0 v1 v2 v3) H) (o17_0 c l u H 12 (List.set (en17_5 a0 v1 v2 v3) 13 v3) H):=by
 unfold o17_0
 refine (oG 4).trans ?_
 generalize opsK2 _ _ _=X
 kernel_rfl
theorem g17_5:o17_0 c l u H 12 (en17_5 a0 v1 v2 v3) H =
 fin .pure H H.length [.d (.bool true)] H:=by
 unfold o17_0
 refine (oG 4).trans ?_
 generalize opsK2 _ _ _=X
 kernel_rfl
theorem g17_6:o17_0 c l u H 12 (en17_6 a0 v1 v2 v3) H=(iBin P .eql 9 (.d (.str a0)) (.d (.str [116,101,120,116,47,112,108,97,105,110,59,32,99,104,97,114,115,101,116,61,85,84,70,45,56]))).bind λv4=>
 fin .pure H H.length [v4] H:=by
 unfold o17_0
 refine (oG 4).trans ?_
 generalize opsK2 _ _ _=X
 kernel_rfl
end
section
variable (a0:List UInt8)(e0 e2 e3 e4 e5:IV)(G:Hp)(v2 v3 v4 v5 v6 v7:IV)
abbrev C79 (c:Oracle)(l u:Nat)(H:Hp):Ctx:=⟨P,tab,c,H.length,H.length⟩
abbrev k79 (c:Oracle)(l u:Nat)(H:Hp):KR:=endK P (fnOf 79) .pure H H.length
def E79:Env:=[e0,.un,e2,e3,e4,e5,.un,.un,.un,.un,.un,.un,.un,.un,.un,.un,.un,.un,.un,.un,.un,.un,.un,.un,.un,.un,.un,.un,.un,.un,.un,.un,.un,.un,.un,.un,.un,.un,.un,.un]
def en79_0:Env:=mkE 40 [(0,e0),(2,e2),(3,e3),(4,e4),(5,v5),(6,v4),(7,e5),(8,e0),(9,v2),(10,v3),(11,e0),(12,e5),(13,v4),(14,e5),(15,v5),(16,v4),(17,v6)]
def q79_0 (c:Oracle)(l u:Nat)(H:Hp):Ex→Env→Hp→OS:=popK (C79 c l u H) [0,2,3,4,5] (stepK [0,2,3,4,5]) [.sq (cd 79 [1,1,0,0,0,1,0,1,1,1,0,1]),.sq (cd 79 [1,1,0,0,0,1,0,1,1,1,1]),.bk 1]
def o79_0 (c:Oracle)(l u:Nat)(H:Hp) (n:Nat) (e:Env) (G:Hp):OS:=opsK2 (C79 c l u H) none (rg 79 [1,1,0,0,0,1,0,1,1,1,0,0]) (dr 79 [1,1,0,0,0,1,0,1,1,1,0,0] n) e G (q79_0 c l u H)
def en79_1:Env:=upE (en79_0 e0 e2 e3 e4 e5 v2 v3 v4 v5 v6) [(20,v4),(21,v7),(22,.d (.bool true)),(23,v5)]
def en79_2:Env:=upE (en79_1 e0 e2 e3 e4 e5 v2 v3 v4 v5 v6 v7) [(22,.d (.bool false)),(23,.no)]
theorem R79:bodyK2 P tab c l u 79 [.d (.str a0)] H=(loopW (stepL (C79 c l u H) [0,2,3,4,5] (cd 79 [1,1,0,0,0])) ((E79 (.d (.str a0)) (.d (.str [])) (.d (.int .i64 0)) (.d (.str [])) (.d (.int .i64 1))),H)).bind λr1=>popK (C79 c l u H) [0,2,3,4,5] (k79 c l u H) [.bk 0,.sq (cd 79 [1,1,1])] r1.1 r1.2.1 r1.2.2:=by kernel_rfl
theorem B79_0:stepL (C79 c l u H) [0,2,3,4,5] (cd 79 [1,1,0,0,0]) ((E79 e0 e2 e3 e4 e5),G)=(lnS e0).bind λv2=>(iBin P .lss 3 e5 v2).bind λv3=>
 br3 v3 ((ixS e0 e5).bind λv4=>(iBin P .add 3 e5 (.d (.int .i64 1))).bind λv5=>(iBin P .eql 5 v4 (.d (.int .u8 34))).bind λv6=>
 br3 v6 (some (.inr (.ret,(E79 e0 e4 v5 e4 v5),G))) (o79_0 c l u H 0 (en79_0 e0 e2 e3 e4 e5 v2 v3 v4 v5 v6) G)) (some (.inr (.exi 0,(E79 e0 e2 e3 e4 e5),G))):=by kernel_rfl
theorem g79_0 (G:Hp) (e0 e2 e3 e4 e5 v2 v3 v4 v5 v6:IV):o79_0 c l u H 0 (en79_0 e0 e2 e3 e4 e5 v2 v3 v4 v5 v6) G=(iBin P .eql 5 v4 (.d (.int .u8 92))).bind λv7=>
 brN3 v7 (o79_0 c l u H 4 (en79_1 e0 e2 e3 e4 e5 v2 v3 v4 v5 v6 v7) G) (o79_0 c l u H 4 (en79_2 e0 e2 e3 e4 e5 v2 v3 v4 v5 v6 v7) G) (o79_0 c l u H 4 (List.set (en79_2 e0 e2 e3 e4 e5 v2 v3 v4 v5 v6 v7) 22 v7) G):=by
 unfold o79_0
 refine (oG 4).trans ?_
 generalize opsK2 _ _ _=X
 kernel_rfl
theorem g79_1 (G:Hp) (e0 e2 e3 e4 e5 v2 v3 v4 v5 v6 v7:IV):o79_0 c l u H 4 (en79_1 e0 e2 e3 e4 e5 v2 v3 v4 v5 v6 v7) G=(lnS e0).bind λv8=>(iBin P .lss 3 v5 v8).bind λv9=>
 br3 v9 ((ixS e0 v5).bind λv10=>(iBin P .add 3 v5 (.d (.int .i64 1))).bind λv11=>(iBuildSlice P 113 1 [(0,v10)] G).bind λr12=>(bstr r12.1 r12.2).bind λv13=>(iBin P .add 9 e4 v13).bind λv14=>
 some (.inl ((E79 e0 e2 e3 v14 v11),r12.2))) ((iBuildSlice P 113 1 [(0,v4)] G).bind λr15=>(bstr r15.1 r15.2).bind λv16=>(iBin P .add 9 e4 v16).bind λv17=>
 some (.inl ((E79 e0 e2 e3 v17 v5),r15.2))):=by
 unfold o79_0
 refine (oG 5).trans ?_
 generalize opsK2 _ _ _=X
 kernel_rfl
theorem g79_2 (G:Hp) (e0 e2 e3 e4 e5 v2 v3 v4 v5 v6 v7:IV):o79_0 c l u H 4 (en79_2 e0 e2 e3 e4 e5 v2 v3 v4 v5 v6 v7) G=(iBuildSlice P 113 1 [(0,v4)] G).bind λr18=>(bstr r18.1 r18.2).bind λv19=>(iBin P .add 9 e4 v19).bind λv20=>
 some (.inl ((E79 e0 e2 e3 v20 v5),r18.2)):=by
 unfold o79_0
 refine (oG 5).trans ?_
 generalize opsK2 _ _ _=X
 kernel_rfl
theorem K79_0x0:popK (C79 c l u H) [0,2,3,4,5] (k79 c l u H) [.bk 0,.sq (cd 79 [1,1,1])] (.exi 0) (E79 e0 e2 e3 e4 e5) G =
 fin .pure H H.length [e4,e5] G:=by kernel_rfl
theorem K79_0r:popK (C79 c l u H) [0,2,3,4,5] (k79 c l u H) [.bk 0,.sq (cd 79 [1,1,1])] (.ret) (E79 e0 e2 e3 e4 e5) G =
 fin .pure H H.length [e2,e3] G:=by kernel_rfl
end
section
variable (a0:IV)(r1:IV×Hp)(v2 v3 v4 v5 v6 v7 v8 v9 v10 v11:IV)
abbrev C6 (c:Oracle)(l u:Nat)(H:Hp):Ctx:=⟨P,tab,c,H.length,H.length⟩
abbrev k6 (c:Oracle)(l u:Nat)(H:Hp):KR:=endK P (fnOf 6) .pure H H.length
def en6_0:Env:=mkE 21 [(0,a0),(1,r1.1),(2,.d (.bool false))]
def q6_0 (c:Oracle)(l u:Nat)(H:Hp):KR:=popK (C6 c l u H) [] (k6 c l u H) [.sq (cd 6 [1,1])]
def o6_0 (c:Oracle)(l u:Nat)(H:Hp) (n:Nat) (e:Env) (G:Hp):Res:=opsK2 (C6 c l u H) none (rg 6 [1,0]) (dr 6 [1,0] n) e G (q6_0 c l u H)
def en6_1:Env:=mkE 21 [(0,a0),(1,r1.1),(2,.d (.bool false)),(3,v2),(4,v3),(5,v4),(6,.d (.bool true)),(7,v5)]
def en6_2:Env:=mkE 21 [(0,a0),(1,r1.1),(2,.d (.bool false)),(3,v2),(4,v3),(5,v4),(6,.d (.bool false)),(7,.no)]
def en6_3:Env:=mkE 21 [(0,a0),(1,r1.1),(2,.d (.bool false)),(3,v2),(4,v3),(5,v4),(6,.d (.bool true)),(7,v5),(8,v6),(9,v7),(10,v7),(11,.d (.bool true)),(12,v8)]
def en6_4:Env:=mkE 21 [(0,a0),(1,r1.1),(2,.d (.bool false)),(3,v2),(4,v3),(5,v4),(6,.d (.bool true)),(7,v5),(8,v6),(9,v7),(10,v7),(11,.d (.bool false)),(12,.no)]
def en6_5:Env:=upE (en6_3 a0 r1 v2 v3 v4 v5 v6 v7 v8) [(13,v9),(14,v10),(15,v10),(16,.d (.bool true)),(17,v11)]
def en6_6:Env:=upE (en6_3 a0 r1 v2 v3 v4 v5 v6 v7 v8) [(13,v9),(14,v10),(15,v10),(16,.d (.bool false)),(17,.no)]
theorem R6:bodyK2 P tab c l u 6 [a0] H=(iBox 23 a0 H).bind λr1=>
 o6_0 c l u H 0 (en6_0 a0 r1) r1.2:=by kernel_rfl
theorem g6_0:o6_0 c l u H 0 (en6_0 a0 r1) r1.2=(padd r1.1 1).bind λv2=>(ld1 v2 r1.2).bind λv3=>(iBin P .geq 3 v3 (.d (.int .i64 1445))).bind λv4=>
 brN3 v4 ((padd r1.1 1).bind λv5=>
 o6_0 c l u H 5 (en6_1 a0 r1 v2 v3 v4 v5) r1.2) (o6_0 c l u H 5 (en6_2 a0 r1 v2 v3 v4) r1.2) (o6_0 c l u H 5 (List.set (en6_2 a0 r1 v2 v3 v4) 6 v4) r1.2):=by
 unfold o6_0
 refine (oG 5).trans ?_
 generalize opsK2 _ _ _=X
 kernel_rfl
theorem g6_1:o6_0 c l u H 5 (en6_1 a0 r1 v2 v3 v4 v5) r1.2=(ld1 v5 r1.2).bind λv6=>(iBin P .leq 3 v6 (.d (.int .i64 1048576))).bind λv7=>
 brN3 v7 ((padd r1.1 2).bind λv8=>
 o6_0 c l u H 10 (en6_3 a0 r1 v2 v3 v4 v5 v6 v7 v8) r1.2) (o6_0 c l u H 10 (en6_4 a0 r1 v2 v3 v4 v5 v6 v7) r1.2) (o6_0 c l u H 10 (List.set (en6_4 a0 r1 v2 v3 v4 v5 v6 v7) 11 v7) r1.2):=by
 unfold o6_0
 refine (oG 5).trans ?_
 generalize opsK2 _ _ _=X
 kernel_rfl
theorem g6_2:o6_0 c l u H 5 (en6_2 a0 r1 v2 v3 v4) r1.2 =
 fin .pure H H.length [.d (.bool false)] r1.2:=by
 unfold o6_0
 refine (oG 15).trans ?_
 generalize opsK2 _ _ _=X
 kernel_rfl
theorem g6_3:o6_0 c l u H 10 (en6_3 a0 r1 v2 v3 v4 v5 v6 v7 v8) r1.2=(ld1 v8 r1.2).bind λv9=>(iBin P .geq 3 v9 (.d (.int .i64 0))).bind λv10=>
 brN3 v10 ((padd r1.1 2).bind λv11=>
 o6_0 c l u H 15 (en6_5 a0 r1 v2 v3 v4 v5 v6 v7 v8 v9 v10 v11) r1.2) (o6_0 c l u H 15 (en6_6 a0 r1 v2 v3 v4 v5 v6 v7 v8 v9 v10) r1.2) (o6_0 c l u H 15 (List.set (en6_6 a0 r1 v2 v3 v4 v5 v6 v7 v8 v9 v10) 16 v10) r1.2):=by
 unfold o6_0
 refine (oG 5).trans ?_
 generalize opsK2 _ _ _=X
 kernel_rfl
theorem g6_4:o6_0 c l u H 10 (en6_4 a0 r1 v2 v3 v4 v5 v6 v7) r1.2 =
 fin .pure H H.length [.d (.bool false)] r1.2:=by
 unfold o6_0
 refine (oG 10).trans ?_
 generalize opsK2 _ _ _=X
 kernel_rfl
theorem g6_5:o6_0 c l u H 15 (en6_5 a0 r1 v2 v3 v4 v5 v6 v7 v8 v9 v10 v11) r1.2=(ld1 v11 r1.2).bind λv12=>(iBin P .leq 3 v12 (.d (.int .i64 200))).bind λv13=>
 fin .pure H H.length [v13] r1.2:=by
 unfold o6_0
 refine (oG 5).trans ?_
 generalize opsK2 _ _ _=X
 kernel_rfl
theorem g6_6:o6_0 c l u H 15 (en6_6 a0 r1 v2 v3 v4 v5 v6 v7 v8 v9 v10) r1.2 =
 fin .pure H H.length [.d (.bool false)] r1.2:=by
 unfold o6_0
 refine (oG 5).trans ?_
 generalize opsK2 _ _ _=X
 kernel_rfl
end
theorem R18 (a0:IV):bodyK2 P tab c l u 18 [a0] H=(iBox 34 a0 H).bind λr1=>(ldN 3 r1.1 r1.2).bind λv2=>
 liftR (c H.length H.length 20 (frzArgs H.length [(true,v2)] r1.2).1 (frzArgs H.length [(true,v2)] r1.2).2) (λv3 h4=>(iBuildSlice P 31 16 [(0,.d (.str [97,112,112,108,105,99,97,116,105,111,110,47,101,99,109,97,115,99,114,105,112,116])),(1,.d (.str [97,112,112,108,105,99,97,116,105,111,110,47,106,97,118,97,115,99,114,105,112,116])),(2,.d (.str [97,112,112,108,105,99,97,116,105,111,110,47,120,45,101,99,109,97,115,99,114,105,112,116])),(3,.d (.str [97,112,112,108,105,99,97,116,105,111,110,47,120,45,106,97,118,97,115,99,114,105,112,116])),(4,.d (.str [116,101,120,116,47,101,99,109,97,115,99,114,105,112,116])),(5,.d (.str [116,101,120,116,47,106,97,118,97,115,99,114,105,112,116])),(6,.d (.str [116,101,120,116,47,106,97,118,97,115,99,114,105,112,116,49,46,48])),(7,.d (.str [116,101,120,116,47,106,97,118,97,115,99,114,105,112,116,49,46,49])),(8,.d (.str [116,101,120,116,47,106,97,118,97,115,99,114,105,112,116,49,46,50])),(9,.d (.str [116,101,120,116,47,106,97,118,97,115,99,114,105,112,116,49,46,51])),(10,.d (.str [116,101,120,116,47,106,97,118,97,115,99,114,105,112,116,49,46,52])),(11,.d (.str [116,101,120,116,47,106,97,118,97,115,99,114,105,112,116,49,46,53])),(12,.d (.str [116,101,120,116,47,106,115,99,114,105,112,116])),(13,.d (.str [116,101,120,116,47,108,105,118,101,115,99,114,105,112,116])),(14,.d (.str [116,101,120,116,47,120,45,101,99,109,97,115,99,114,105,112,116])),(15,.d (.str [116,101,120,116,47,120,45,106,97,118,97,115,99,114,105,112,116]))] h4).bind λr5=>
 liftR (c H.length H.length 19 (frzArgs H.length [(false,v3),(true,r5.1)] r5.2).1 (frzArgs H.length [(false,v3),(true,r5.1)] r5.2).2) (λv6 h7=>
 fin .pure H H.length [v6] h7) (λp8 h9=>finP .pure H H.length p8 h9)) (λp10 h11=>finP .pure H H.length p10 h11):=by kernel_rfl
section
variable (a0:IV)(h4:Hp)(r1:IV×Hp)(v2 v3 v5:IV)
abbrev C5 (c:Oracle)(l u:Nat)(H:Hp):Ctx:=⟨P,tab,c,H.length,H.length⟩
abbrev k5 (c:Oracle)(l u:Nat)(H:Hp):KR:=endK P (fnOf 5) .pure H H.length
def en5_0:Env:=mkE 11 [(0,a0),(1,r1.1),(2,.d (.bool false))]
def q5_0 (c:Oracle)(l u:Nat)(H:Hp):KR:=popK (C5 c l u H) [] (k5 c l u H) [.sq (cd 5 [1,1])]
def o5_0 (c:Oracle)(l u:Nat)(H:Hp) (n:Nat) (e:Env) (G:Hp):Res:=opsK2 (C5 c l u H) none (rg 5 [1,0]) (dr 5 [1,0] n) e G (q5_0 c l u H)
def en5_1:Env:=mkE 11 [(0,a0),(1,r1.1),(2,.d (.bool false)),(3,v2),(4,v3),(5,.d (.bool true)),(6,.no)]
def en5_2:Env:=mkE 11 [(0,a0),(1,r1.1),(2,.d (.bool false)),(3,v2),(4,v3),(5,.d (.bool false)),(6,v5)]
theorem R5:bodyK2 P tab c l u 5 [a0] H=(iBox 34 a0 H).bind λr1=>
 o5_0 c l u H 0 (en5_0 a0 r1) r1.2:=by kernel_rfl
theorem g5_0:o5_0 c l u H 0 (en5_0 a0 r1) r1.2=(ldN 3 r1.1 r1.2).bind λv2=>
 liftR (c H.length H.length 18 (frzArgs H.length [(true,v2)] r1.2).1 (frzArgs H.length [(true,v2)] r1.2).2) (λv3 h4=>
 brN3 v3 (o5_0 c l u H 4 (en5_1 a0 r1 v2 v3) h4) ((ldN 3 r1.1 h4).bind λv5=>
 o5_0 c l u H 4 (en5_2 a0 r1 v2 v3 v5) h4) (o5_0 c l u H 4 (List.set (en5_1 a0 r1 v2 v3) 5 v3) h4)) (λp6 h7=>finP .pure H H.length p6 h7):=by
 unfold o5_0
 refine (oG 4).trans ?_
 generalize opsK2 _ _ _=X
 kernel_rfl
theorem g5_1:o5_0 c l u H 4 (en5_1 a0 r1 v2 v3) h4 =
 fin .pure H H.length [.d (.bool true)] h4:=by
 unfold o5_0
 refine (oG 6).trans ?_
 generalize opsK2 _ _ _=X
 kernel_rfl
theorem g5_2:o5_0 c l u H 4 (en5_2 a0 r1 v2 v3 v5) h4 =
 liftR (c H.length H.length 20 (frzArgs H.length [(true,v5)] h4).1 (frzArgs H.length [(true,v5)] h4).2) (λv8 h9=>(iBuildSlice P 31 2 [(0,.d (.str [116,101,120,116,47,99,115,115])),(1,.d (.str [105,109,97,103,101,47,115,118,103,43,120,109,108]))] h9).bind λr10=>
 liftR (c H.length H.length 19 (frzArgs H.length [(false,v8),(true,r10.1)] r10.2).1 (frzArgs H.length [(false,v8),(true,r10.1)] r10.2).2) (λv11 h12=>
 fin .pure H H.length [v11] h12) (λp13 h14=>finP .pure H H.length p13 h14)) (λp15 h16=>finP .pure H H.length p15 h16):=by
 unfold o5_0
 refine (oG 6).trans ?_
 generalize opsK2 _ _ _=X
 kernel_rfl
end
theorem R35 (a0:List D):bodyK2 P tab c l u 35 [.d (.lst a0)] H =
 liftR (c H.length H.length 14 [.d (.str [120,45,99,111,110,116,101,110,116,45,116,121,112,101,45,111,112,116,105,111,110,115]),.d (.lst a0)] H) (λv1 h2=>(lnV v1).bind λv3=>(iBin P .eql 3 v3 (.d (.int .i64 0))).bind λv4=>
 br3 v4 (fin .pure H H.length [.vnil] h2) (liftR (c H.length H.length 58 (frzArgs H.length [(true,v1)] h2).1 (frzArgs H.length [(true,v1)] h2).2) (λv5 h6=>
 liftR (c H.length H.length 57 [v5] h6) (λv7 h8=>
 fin .pure H H.length [v7] h8) (λp9 h10=>finP .pure H H.length p9 h10)) (λp11 h12=>finP .pure H H.length p11 h12))) (λp13 h14=>finP .pure H H.length p13 h14):=by kernel_rfl
theorem R53 (a0:List D):bodyK2 P tab c l u 53 [.d (.lst a0)] H=(lnV (.d (.lst a0))).bind λv1=>(iBin P .eql 3 v1 (.d (.int .i64 0))).bind λv2=>
 br3 v2 (fin .pure H H.length [.vnil] H) (liftR (c H.length H.length 58 [.d (.lst a0)] H) (λv3 h4=>
 liftR (c H.length H.length 57 [v3] h4) (λv5 h6=>
 fin .pure H H.length [v5] h6) (λp7 h8=>finP .pure H H.length p7 h8)) (λp9 h10=>finP .pure H H.length p9 h10)):=by kernel_rfl
section
variable (a0:List D)(h2:Hp)(v1 v5 v6:IV)
abbrev C16 (c:Oracle)(l u:Nat)(H:Hp):Ctx:=⟨P,tab,c,H.length,H.length⟩
abbrev k16 (c:Oracle)(l u:Nat)(H:Hp):KR:=endK P (fnOf 16) .pure H H.length
def en16_0:Env:=mkE 16 [(0,.d (.lst a0)),(2,.d (.bool false)),(3,v1),(4,.d (.lst a0)),(5,v1)]
def q16_0 (c:Oracle)(l u:Nat)(H:Hp):KR:=popK (C16 c l u H) [] (k16 c l u H) [.sq (cd 16 [1,1,1])]
def o16_0 (c:Oracle)(l u:Nat)(H:Hp) (n:Nat) (e:Env) (G:Hp):Res:=opsK2 (C16 c l u H) none (rg 16 [1,1,0]) (dr 16 [1,1,0] n) e G (q16_0 c l u H)
def en16_1:Env:=mkE 16 [(0,.d (.lst a0)),(2,.d (.bool false)),(3,v1),(4,.d (.lst a0)),(5,v1),(6,v1),(7,v5),(8,v6),(9,.d (.bool true)),(10,v1)]
def en16_2:Env:=mkE 16 [(0,.d (.lst a0)),(2,.d (.bool false)),(3,v1),(4,.d (.lst a0)),(5,v1),(6,v1),(7,v5),(8,v6),(9,.d (.bool false)),(10,.no)]
theorem R16:bodyK2 P tab c l u 16 [.d (.lst a0)] H =
 liftR (c H.length H.length 35 [.d (.lst a0)] H) (λv1 h2=>
 o16_0 c l u H 0 (en16_0 a0 v1) h2) (λp3 h4=>finP .pure H H.length p3 h4):=by kernel_rfl
theorem g16_0:o16_0 c l u H 0 (en16_0 a0 v1) h2=(lnV v1).bind λv5=>(iBin P .gtr 3 v5 (.d (.int .i64 0))).bind λv6=>
 brN3 v6 (o16_0 c l u H 5 (en16_1 a0 v1 v5 v6) h2) (o16_0 c l u H 5 (en16_2 a0 v1 v5 v6) h2) (o16_0 c l u H 5 (List.set (en16_2 a0 v1 v5 v6) 9 v6) h2):=by
 unfold o16_0
 refine (oG 5).trans ?_
 generalize opsK2 _ _ _=X
 kernel_rfl
theorem g16_1:o16_0 c l u H 5 (en16_1 a0 v1 v5 v6) h2=(ixA 1 v1 (.d (.int .i64 0))).bind λv7=>(ld1 v7 h2).bind λv8=>
 liftR (c H.length H.length 36 [v8] h2) (λv9 h10=>(iBin P .eql 9 v9 (.d (.str [110,111,115,110,105,102,102]))).bind λv11=>
 fin .pure H H.length [v11] h10) (λp12 h13=>finP .pure H H.length p12 h13):=by
 unfold o16_0
 refine (oG 7).trans ?_
 generalize opsK2 _ _ _=X
 kernel_rfl
theorem g16_2:o16_0 c l u H 5 (en16_2 a0 v1 v5 v6) h2 =
 fin .pure H H.length [.d (.bool false)] h2:=by
 unfold o16_0
 refine (oG 7).trans ?_
 generalize opsK2 _ _ _=X
 kernel_rfl
end
section
variable (a0:IV)(a1:List UInt8)(e1 e2 e4 e5:IV)(G:Hp)
abbrev C55 (c:Oracle)(l u:Nat)(H:Hp):Ctx:=⟨P,tab,c,H.length,H.length⟩
abbrev k55 (c:Oracle)(l u:Nat)(H:Hp):KR:=endK P (fnOf 55) .pure H H.length
def E55:Env:=[.un,e1,e2,.un,e4,e5,.un,.un,.un,.un,.un,.un,.un,.un,.un,.un,.un,.un,.un,.un,.un,.un]
theorem R55:bodyK2 P tab c l u 55 [a0,.d (.str a1)] H=(iBox 34 a0 H).bind λr1=>(loopW (stepL (C55 c l u H) [1,2,4,5] (cd 55 [1,0,1,0,0])) ((E55 (.d (.str a1)) r1.1 (.d (.int .i64 0)) (.d (.int .i64 0))),r1.2)).bind λr2=>popK (C55 c l u H) [1,2,4,5] (k55 c l u H) [.bk 0,.sq (cd 55 [1,1])] r2.1 r2.2.1 r2.2.2:=by kernel_rfl
theorem B55_0:stepL (C55 c l u H) [1,2,4,5] (cd 55 [1,0,1,0,0]) ((E55 e1 e2 e4 e5),G)=(padd e2 2).bind λv3=>(ld1 v3 G).bind λv4=>(lnV v4).bind λv5=>(iBin P .lss 3 e5 v5).bind λv6=>
 br3 v6 ((padd e2 2).bind λv7=>(ld1 v7 G).bind λv8=>(ixA 2 v8 e5).bind λv9=>(padd v9 0).bind λv10=>(ld1 v10 G).bind λv11=>(iBin P .eql 9 v11 e1).bind λv12=>
 br3 v12 (some (.inr (.ret,(E55 e1 e2 e5 e5),G))) ((iBin P .add 3 e5 (.d (.int .i64 1))).bind λv13=>
 some (.inl ((E55 e1 e2 e4 v13),G)))) (some (.inr (.exi 0,(E55 e1 e2 e4 e5),G))):=by kernel_rfl
theorem K55_0x0:popK (C55 c l u H) [1,2,4,5] (k55 c l u H) [.bk 0,.sq (cd 55 [1,1])] (.exi 0) (E55 e1 e2 e4 e5) G =
 fin .pure H H.length [.d (.int .i64 (-1))] G:=by kernel_rfl
theorem K55_0r:popK (C55 c l u H) [1,2,4,5] (k55 c l u H) [.bk 0,.sq (cd 55 [1,1])] (.ret) (E55 e1 e2 e4 e5) G =
 fin .pure H H.length [e4] G:=by kernel_rfl
end
section
variable (a0:List UInt8)(e0 e3 e4 e5:IV)(G:Hp)
abbrev C57 (c:Oracle)(l u:Nat)(H:Hp):Ctx:=⟨P,tab,c,H.length,H.length⟩
abbrev k57 (c:Oracle)(l u:Nat)(H:Hp):KR:=endK P (fnOf 57) .pure H H.length
def E57:Env:=[e0,.un,.un,e3,e4,e5,.un,.un,.un,.un,.un,.un,.un,.un,.un,.un,.un,.un,.un,.un,.un,.un,.un,.un,.un,.un,.un,.un,.un,.un,.un,.un,.un,.un,.un,.un,.un,.un,.un,.un,.un,.un,.un,.un,.un,.un,.un,.un,.un,.un]
theorem R57:bodyK2 P tab c l u 57 [.d (.str a0)] H=(iBuildSlice P 31 0 [] H).bind λr1=>(loopW (stepL (C57 c l u H) [0,3,4,5] (cd 57 [1,1,0,1,0,0])) ((E57 (.d (.str a0)) r1.1 (.d (.int .i64 0)) (.d (.int .i64 0))),r1.2)).bind λr2=>popK (C57 c l u H) [0,3,4,5] (k57 c l u H) [.bk 0,.sq (cd 57 [1,1,1])] r2.1 r2.2.1 r2.2.2:=by kernel_rfl
theorem B57_0:stepL (C57 c l u H) [0,3,4,5] (cd 57 [1,1,0,1,0,0]) ((E57 e0 e3 e4 e5),G)=(lnS e0).bind λv3=>(iBin P .lss 3 e5 v3).bind λv4=>
 br3 v4 ((ixS e0 e5).bind λv5=>(iBin P .eql 5 v5 (.d (.int .u8 34))).bind λv6=>
 br3 v6 ((slS e0 (some e5) none).bind λv7=>
 liftR (c H.length H.length 79 [v7] G) (λv8 h9=>(iExtract v8 0).bind λv10=>(iExtract v8 1).bind λv11=>(iBin P .add 3 e5 v11).bind λv12=>
 some (.inl ((E57 e0 e3 e4 v12),h9))) (λp13 h14=>some (.inr (.pan p13,(E57 e0 e3 e4 e5),h14)))) ((ixS e0 e5).bind λv15=>(iBin P .eql 5 v15 (.d (.int .u8 44))).bind λv16=>
 br3 v16 ((slS e0 (some e4) (some e5)).bind λv17=>
 liftR (c H.length H.length 82 [v17] G) (λv18 h19=>(iBuildSlice P 31 1 [(0,v18)] h19).bind λr20=>(app 9 1 H.length e3 r20.1 r20.2).bind λr21=>(iBin P .add 3 e5 (.d (.int .i64 1))).bind λv22=>(iBin P .add 3 e5 (.d (.int .i64 1))).bind λv23=>
 some (.inl ((E57 e0 r21.1 v22 v23),r21.2))) (λp24 h25=>some (.inr (.pan p24,(E57 e0 e3 e4 e5),h25)))) ((iBin P .add 3 e5 (.d (.int .i64 1))).bind λv26=>
 some (.inl ((E57 e0 e3 e4 v26),G))))) (some (.inr (.exi 0,(E57 e0 e3 e4 e5),G))):=by kernel_rfl
theorem K57_0x0:popK (C57 c l u H) [0,3,4,5] (k57 c l u H) [.bk 0,.sq (cd 57 [1,1,1])] (.exi 0) (E57 e0 e3 e4 e5) G=(slS e0 (some e4) none).bind λv27=>
 liftR (c H.length H.length 82 [v27] G) (λv28 h29=>(iBuildSlice P 31 1 [(0,v28)] h29).bind λr30=>(app 9 1 H.length e3 r30.1 r30.2).bind λr31=>
 fin .pure H H.length [r31.1] r31.2) (λp32 h33=>finP .pure H H.length p32 h33):=by kernel_rfl
end
end
end Go.Tg
