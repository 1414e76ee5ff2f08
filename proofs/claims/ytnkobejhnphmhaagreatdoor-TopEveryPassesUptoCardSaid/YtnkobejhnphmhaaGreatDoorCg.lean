/- What the bodies of some functions come to, operation by operation. By program (gen.py). -/
import Derived.Test.YtnkobejhnphmhaaGreatDoorAh
import Derived.Test.YtnkobejhnphmhaaGreatDoorAg
import Derived.KernelRfl
set_option linter.all false
set_option linter.unusedVariables false
namespace Go.Tg
noncomputable section
variable [Globs] (c:Oracle)(l u:Nat)(H:Hp)
section
variable (a0:IV)(a1 a2:List UInt8)(r1:IV×Hp)(v2 v3 v4:IV)
abbrev C187 (c:Oracle)(l u:Nat)(H:Hp):Ctx:=⟨P,tab,c,H.length,H.length⟩
abbrev k187 (c:Oracle)(l u:Nat)(H:Hp):KR:=endK P (fnOf 187) .pure H H.length
def en187_0:Env:=mkE 18 [(0,a0),(1,.d (.str a1)),(2,.d (.str a2)),(3,r1.1),(6,.d (.bool false))]
def q187_0 (c:Oracle)(l u:Nat)(H:Hp):KR:=popK (C187 c l u H) [] (k187 c l u H) [.sq (cd 187 [1,1])]
def o187_0 (c:Oracle)(l u:Nat)(H:Hp) (n:Nat) (e:Env) (G:Hp):Res:=opsK2 (C187 c l u H) (some true) (rg 187 [1,0]) (dr 187 [1,0] n) e G (q187_0 c l u H)
def en187_1:Env:=upE (en187_0 a0 a1 a2 r1) [(7,v2),(8,v3),(9,.d (.str a1)),(10,v4),(11,.d (.bool true)),(12,.d (.str a2))]
def en187_2:Env:=mkE 18 [(0,a0),(1,.d (.str a1)),(2,.d (.str a2)),(3,r1.1),(6,.d (.bool false)),(7,v2),(8,v3),(9,.d (.str a1)),(10,v4),(11,.d (.bool false)),(12,.no)]
theorem R187:bodyK2 P tab c l u 187 [a0,.d (.str a1),.d (.str a2)] H=(iBox 34 a0 H).bind λr1=>
 o187_0 c l u H 0 (en187_0 a0 a1 a2 r1) r1.2:=by kernel_rfl
theorem g187_0:o187_0 c l u H 0 (en187_0 a0 a1 a2 r1) r1.2=(padd r1.1 0).bind λv2=>(ld1 v2 r1.2).bind λv3=>(iBin P .eql 9 v3 (.d (.str a1))).bind λv4=>
 brN3 v4 (o187_0 c l u H 6 (en187_1 a0 a1 a2 r1 v2 v3 v4) r1.2) (o187_0 c l u H 6 (en187_2 a0 a1 a2 r1 v2 v3 v4) r1.2) (o187_0 c l u H 6 (List.set (en187_2 a0 a1 a2 r1 v2 v3 v4) 11 v4) r1.2):=by
 unfold o187_0
 refine (oG 6).trans ?_
 generalize opsK2 _ _ _=X
 kernel_rfl
theorem g187_1:o187_0 c l u H 6 (en187_1 a0 a1 a2 r1 v2 v3 v4) r1.2 =
 liftR (c H.length H.length 242 [.d (.str a2)] r1.2) (λv5 h6=>(padd r1.1 1).bind λv7=>(ld1 v7 h6).bind λv8=>
 fitsL false [(true,v5),(false,v8)] (
 liftR (c H.length H.length 231 (frzArgs H.length [(true,v5),(false,v8)] h6).1 (frzArgs H.length [(true,v5),(false,v8)] h6).2) (λv9 h10=>
 fin .pure H H.length [v9] h10) (λp11 h12=>none))) (λp13 h14=>none):=by
 unfold o187_0
 refine (oG 7).trans ?_
 generalize opsK2 _ _ _=X
 kernel_rfl
theorem g187_2:o187_0 c l u H 6 (en187_2 a0 a1 a2 r1 v2 v3 v4) r1.2 =
 fin .pure H H.length [.d (.bool false)] r1.2:=by
 unfold o187_0
 refine (oG 7).trans ?_
 generalize opsK2 _ _ _=X
 kernel_rfl
end
theorem R231 (a0:List D) (a1:List UInt8):bodyK2 P tab c l u 231 [.d (.lst a0),.d (.str a1)] H =
 liftR (c H.length H.length 285 [.d (.lst a0),.d (.str a1)] H) (λv1 h2=>(iBin P .geq 3 v1 (.d (.int .i64 0))).bind λv3=>
 fin .pure H H.length [v3] h2) (λp4 h5=>finP .pure H H.length p4 h5):=by kernel_rfl
section
variable (a0:List D)(a1:List UInt8)(e0 e1 e4 e7 e8:IV)(G:Hp)
abbrev C285 (c:Oracle)(l u:Nat)(H:Hp):Ctx:=⟨P,tab,c,H.length,H.length⟩
abbrev k285 (c:Oracle)(l u:Nat)(H:Hp):KR:=endK P (fnOf 285) .pure H H.length
def E285:Env:=[e0,e1,.un,.un,e4,.un,.un,e7,e8,.un,.un,.un,.un,.un,.un,.un,.un,.un,.un]
theorem R285:bodyK2 P tab c l u 285 [.d (.lst a0),.d (.str a1)] H=(lnV (.d (.lst a0))).bind λv1=>(loopW (stepL (C285 c l u H) [0,1,4,7,8] (cd 285 [1,0,1,0,0])) ((E285 (.d (.lst a0)) (.d (.str a1)) (.d (.int .i64 0)) v1 (.d (.int .i64 0))),H)).bind λr2=>popK (C285 c l u H) [0,1,4,7,8] (k285 c l u H) [.bk 0,.sq (cd 285 [1,1])] r2.1 r2.2.1 r2.2.2:=by kernel_rfl
theorem B285_0:stepL (C285 c l u H) [0,1,4,7,8] (cd 285 [1,0,1,0,0]) ((E285 e0 e1 e4 e7 e8),G)=(iBin P .lss 3 e8 e7).bind λv3=>
 br3 v3 ((ixA 1 e0 e8).bind λv4=>(ld1 v4 G).bind λv5=>(iBin P .eql 9 e1 v5).bind λv6=>
 br3 v6 (some (.inr (.ret,(E285 e0 e1 e8 e7 e8),G))) ((iBin P .add 3 e8 (.d (.int .i64 1))).bind λv7=>
 some (.inl ((E285 e0 e1 e4 e7 v7),G)))) (some (.inr (.exi 0,(E285 e0 e1 e4 e7 e8),G))):=by kernel_rfl
theorem K285_0x0:popK (C285 c l u H) [0,1,4,7,8] (k285 c l u H) [.bk 0,.sq (cd 285 [1,1])] (.exi 0) (E285 e0 e1 e4 e7 e8) G =
 fin .pure H H.length [.d (.int .i64 (-1))] G:=by kernel_rfl
theorem K285_0r:popK (C285 c l u H) [0,1,4,7,8] (k285 c l u H) [.bk 0,.sq (cd 285 [1,1])] (.ret) (E285 e0 e1 e4 e7 e8) G =
 fin .pure H H.length [e4] G:=by kernel_rfl
end
theorem R188 (a0:IV) (a1:List UInt8):bodyK2 P tab c l u 188 [a0,.d (.str a1)] H=(iBox 34 a0 H).bind λr1=>(ldN 3 r1.1 r1.2).bind λv2=>
 liftR (c H.length H.length 195 (frzArgs H.length [(true,v2)] r1.2).1 (frzArgs H.length [(true,v2)] r1.2).2) (λv3 h4=>(iBin P .eql 9 v3 (.d (.str a1))).bind λv5=>
 fin .pure H H.length [v5] h4) (λp6 h7=>finP .pure H H.length p6 h7):=by kernel_rfl
section
variable (a0:IV)(h4:Hp)(r1:IV×Hp)(v2 v3 v5:IV)
abbrev C193 (c:Oracle)(l u:Nat)(H:Hp):Ctx:=⟨P,tab,c,H.length,H.length⟩
abbrev k193 (c:Oracle)(l u:Nat)(H:Hp):KR:=endK P (fnOf 193) .pure H H.length
def en193_0:Env:=mkE 9 [(0,a0),(1,r1.1),(2,.d (.bool false))]
def q193_0 (c:Oracle)(l u:Nat)(H:Hp):KR:=popK (C193 c l u H) [] (k193 c l u H) [.sq (cd 193 [1,1])]
def o193_0 (c:Oracle)(l u:Nat)(H:Hp) (n:Nat) (e:Env) (G:Hp):Res:=opsK2 (C193 c l u H) none (rg 193 [1,0]) (dr 193 [1,0] n) e G (q193_0 c l u H)
def en193_1:Env:=mkE 9 [(0,a0),(1,r1.1),(2,.d (.bool false)),(3,v2),(4,v3),(5,.d (.bool true)),(6,.no)]
def en193_2:Env:=mkE 9 [(0,a0),(1,r1.1),(2,.d (.bool false)),(3,v2),(4,v3),(5,.d (.bool false)),(6,v5)]
theorem R193:bodyK2 P tab c l u 193 [a0] H=(iBox 34 a0 H).bind λr1=>
 o193_0 c l u H 0 (en193_0 a0 r1) r1.2:=by kernel_rfl
theorem g193_0:o193_0 c l u H 0 (en193_0 a0 r1) r1.2=(ldN 3 r1.1 r1.2).bind λv2=>
 liftR (c H.length H.length 187 (frzArgs H.length [(true,v2),(false,.d (.str [97,112,112,108,105,99,97,116,105,111,110])),(false,.d (.str [101,99,109,97,115,99,114,105,112,116,32,106,97,118,97,115,99,114,105,112,116,32,120,45,101,99,109,97,115,99,114,105,112,116,32,120,45,106,97,118,97,115,99,114,105,112,116,32]))] r1.2).1 (frzArgs H.length [(true,v2),(false,.d (.str [97,112,112,108,105,99,97,116,105,111,110])),(false,.d (.str [101,99,109,97,115,99,114,105,112,116,32,106,97,118,97,115,99,114,105,112,116,32,120,45,101,99,109,97,115,99,114,105,112,116,32,120,45,106,97,118,97,115,99,114,105,112,116,32]))] r1.2).2) (λv3 h4=>
 brN3 v3 (o193_0 c l u H 4 (en193_1 a0 r1 v2 v3) h4) ((ldN 3 r1.1 h4).bind λv5=>
 o193_0 c l u H 4 (en193_2 a0 r1 v2 v3 v5) h4) (o193_0 c l u H 4 (List.set (en193_1 a0 r1 v2 v3) 5 v3) h4)) (λp6 h7=>finP .pure H H.length p6 h7):=by
 unfold o193_0
 refine (oG 4).trans ?_
 generalize opsK2 _ _ _=X
 kernel_rfl
theorem g193_1:o193_0 c l u H 4 (en193_1 a0 r1 v2 v3) h4 =
 fin .pure H H.length [.d (.bool true)] h4:=by
 unfold o193_0
 refine (oG 4).trans ?_
 generalize opsK2 _ _ _=X
 kernel_rfl
theorem g193_2:o193_0 c l u H 4 (en193_2 a0 r1 v2 v3 v5) h4 =
 liftR (c H.length H.length 187 (frzArgs H.length [(true,v5),(false,.d (.str [116,101,120,116])),(false,.d (.str [101,99,109,97,115,99,114,105,112,116,32,106,97,118,97,115,99,114,105,112,116,32,120,45,101,99,109,97,115,99,114,105,112,116,32,120,45,106,97,118,97,115,99,114,105,112,116,32,106,97,118,97,115,99,114,105,112,116,49,46,48,32,106,97,118,97,115,99,114,105,112,116,49,46,49,32,106,97,118,97,115,99,114,105,112,116,49,46,50,32,106,97,118,97,115,99,114,105,112,116,49,46,51,32,106,97,118,97,115,99,114,105,112,116,49,46,52,32,106,97,118,97,115,99,114,105,112,116,49,46,53,32,106,115,99,114,105,112,116,32,108,105,118,101,115,99,114,105,112,116]))] h4).1 (frzArgs H.length [(true,v5),(false,.d (.str [116,101,120,116])),(false,.d (.str [101,99,109,97,115,99,114,105,112,116,32,106,97,118,97,115,99,114,105,112,116,32,120,45,101,99,109,97,115,99,114,105,112,116,32,120,45,106,97,118,97,115,99,114,105,112,116,32,106,97,118,97,115,99,114,105,112,116,49,46,48,32,106,97,118,97,115,99,114,105,112,116,49,46,49,32,106,97,118,97,115,99,114,105,112,116,49,46,50,32,106,97,118,97,115,99,114,105,112,116,49,46,51,32,106,97,118,97,115,99,114,105,112,116,49,46,52,32,106,97,118,97,115,99,114,105,112,116,49,46,53,32,106,115,99,114,105,112,116,32,108,105,118,101,115,99,114,105,112,116]))] h4).2) (λv8 h9=>
 fin .pure H H.length [v8] h9) (λp10 h11=>finP .pure H H.length p10 h11):=by
 unfold o193_0
 refine (oG 4).trans ?_
 generalize opsK2 _ _ _=X
 kernel_rfl
end
section
variable (a0:IV)(h4 h9:Hp)(r1:IV×Hp)(v2 v3 v5 v8 v10:IV)
abbrev C148 (c:Oracle)(l u:Nat)(H:Hp):Ctx:=⟨P,tab,c,H.length,H.length⟩
abbrev k148 (c:Oracle)(l u:Nat)(H:Hp):KR:=endK P (fnOf 148) .pure H H.length
def en148_0:Env:=mkE 13 [(0,a0),(1,r1.1),(2,.d (.bool false))]
def q148_0 (c:Oracle)(l u:Nat)(H:Hp):KR:=popK (C148 c l u H) [] (k148 c l u H) [.sq (cd 148 [1,1])]
def o148_0 (c:Oracle)(l u:Nat)(H:Hp) (n:Nat) (e:Env) (G:Hp):Res:=opsK2 (C148 c l u H) none (rg 148 [1,0]) (dr 148 [1,0] n) e G (q148_0 c l u H)
def en148_1:Env:=mkE 13 [(0,a0),(1,r1.1),(2,.d (.bool false)),(3,v2),(4,v3),(5,.d (.bool true)),(6,.no)]
def en148_2:Env:=mkE 13 [(0,a0),(1,r1.1),(2,.d (.bool false)),(3,v2),(4,v3),(5,.d (.bool false)),(6,v5)]
def en148_3:Env:=mkE 13 [(0,a0),(1,r1.1),(2,.d (.bool false)),(3,v2),(4,v3),(5,.d (.bool false)),(6,v5),(7,v8),(8,v8),(9,.d (.bool true)),(10,.no)]
def en148_4:Env:=mkE 13 [(0,a0),(1,r1.1),(2,.d (.bool false)),(3,v2),(4,v3),(5,.d (.bool false)),(6,v5),(7,v8),(8,v8),(9,.d (.bool false)),(10,v10)]
theorem R148:bodyK2 P tab c l u 148 [a0] H=(iBox 34 a0 H).bind λr1=>
 o148_0 c l u H 0 (en148_0 a0 r1) r1.2:=by kernel_rfl
theorem g148_0:o148_0 c l u H 0 (en148_0 a0 r1) r1.2=(ldN 3 r1.1 r1.2).bind λv2=>
 liftR (c H.length H.length 193 (frzArgs H.length [(true,v2)] r1.2).1 (frzArgs H.length [(true,v2)] r1.2).2) (λv3 h4=>
 brN3 v3 (o148_0 c l u H 4 (en148_1 a0 r1 v2 v3) h4) ((ldN 3 r1.1 h4).bind λv5=>
 o148_0 c l u H 4 (en148_2 a0 r1 v2 v3 v5) h4) (o148_0 c l u H 4 (List.set (en148_1 a0 r1 v2 v3) 5 v3) h4)) (λp6 h7=>finP .pure H H.length p6 h7):=by
 unfold o148_0
 refine (oG 4).trans ?_
 generalize opsK2 _ _ _=X
 kernel_rfl
theorem g148_1:o148_0 c l u H 4 (en148_1 a0 r1 v2 v3) h4 =
 fin .pure H H.length [.d (.bool true)] h4:=by
 unfold o148_0
 refine (oG 8).trans ?_
 generalize opsK2 _ _ _=X
 kernel_rfl
theorem g148_2:o148_0 c l u H 4 (en148_2 a0 r1 v2 v3 v5) h4 =
 liftR (c H.length H.length 187 (frzArgs H.length [(true,v5),(false,.d (.str [116,101,120,116])),(false,.d (.str [99,115,115]))] h4).1 (frzArgs H.length [(true,v5),(false,.d (.str [116,101,120,116])),(false,.d (.str [99,115,115]))] h4).2) (λv8 h9=>
 brN3 v8 (o148_0 c l u H 8 (en148_3 a0 r1 v2 v3 v5 v8) h9) ((ldN 3 r1.1 h9).bind λv10=>
 o148_0 c l u H 8 (en148_4 a0 r1 v2 v3 v5 v8 v10) h9) (o148_0 c l u H 8 (List.set (en148_3 a0 r1 v2 v3 v5 v8) 9 v8) h9)) (λp11 h12=>finP .pure H H.length p11 h12):=by
 unfold o148_0
 refine (oG 4).trans ?_
 generalize opsK2 _ _ _=X
 kernel_rfl
theorem g148_3:o148_0 c l u H 8 (en148_3 a0 r1 v2 v3 v5 v8) h9 =
 fin .pure H H.length [.d (.bool true)] h9:=by
 unfold o148_0
 refine (oG 4).trans ?_
 generalize opsK2 _ _ _=X
 kernel_rfl
theorem g148_4:o148_0 c l u H 8 (en148_4 a0 r1 v2 v3 v5 v8 v10) h9 =
 liftR (c H.length H.length 188 (frzArgs H.length [(true,v10),(false,.d (.str [105,109,97,103,101,47,115,118,103,43,120,109,108]))] h9).1 (frzArgs H.length [(true,v10),(false,.d (.str [105,109,97,103,101,47,115,118,103,43,120,109,108]))] h9).2) (λv13 h14=>
 fin .pure H H.length [v13] h14) (λp15 h16=>finP .pure H H.length p15 h16):=by
 unfold o148_0
 refine (oG 4).trans ?_
 generalize opsK2 _ _ _=X
 kernel_rfl
end
section
variable (a0 a1:IV)(r1:IV×Hp)(v2 v3:IV)
abbrev C147 (c:Oracle)(l u:Nat)(H:Hp):Ctx:=⟨P,tab,c,H.length,H.length⟩
abbrev k147 (c:Oracle)(l u:Nat)(H:Hp):KR:=endK P (fnOf 147) .pure H H.length
def en147_0:Env:=mkE 13 [(0,a0),(1,a1),(2,r1.1),(4,.d (.bool false))]
def q147_0 (c:Oracle)(l u:Nat)(H:Hp):KR:=popK (C147 c l u H) [] (k147 c l u H) [.sq (cd 147 [1,1])]
def o147_0 (c:Oracle)(l u:Nat)(H:Hp) (n:Nat) (e:Env) (G:Hp):Res:=opsK2 (C147 c l u H) none (rg 147 [1,0]) (dr 147 [1,0] n) e G (q147_0 c l u H)
def en147_1:Env:=mkE 13 [(0,a0),(1,a1),(2,r1.1),(4,.d (.bool false)),(5,v2),(6,v3),(7,.d (.bool true)),(8,a1)]
def en147_2:Env:=mkE 13 [(0,a0),(1,a1),(2,r1.1),(4,.d (.bool false)),(5,v2),(6,v3),(7,.d (.bool false)),(8,.no)]
theorem R147:bodyK2 P tab c l u 147 [a0,a1] H=(iBox 36 a0 H).bind λr1=>
 o147_0 c l u H 0 (en147_0 a0 a1 r1) r1.2:=by kernel_rfl
theorem g147_0:o147_0 c l u H 0 (en147_0 a0 a1 r1) r1.2=(padd r1.1 3).bind λv2=>(ld1 v2 r1.2).bind λv3=>
 brN3 v3 (o147_0 c l u H 4 (en147_1 a0 a1 r1 v2 v3) r1.2) (o147_0 c l u H 4 (en147_2 a0 a1 r1 v2 v3) r1.2) (o147_0 c l u H 4 (List.set (en147_2 a0 a1 r1 v2 v3) 7 v3) r1.2):=by
 unfold o147_0
 refine (oG 4).trans ?_
 generalize opsK2 _ _ _=X
 kernel_rfl
theorem g147_1:o147_0 c l u H 4 (en147_1 a0 a1 r1 v2 v3) r1.2=(padd r1.1 0).bind λv4=>(ldN 3 v4 r1.2).bind λv5=>
 goVal3 (C147 c l u H) a1 [v5] r1.2 (λv6 h7=>
 fin .pure H H.length [v6] h7) (λp8 h9=>finP .pure H H.length p8 h9):=by
 unfold o147_0
 refine (oG 6).trans ?_
 generalize opsK2 _ _ _=X
 kernel_rfl
theorem g147_2:o147_0 c l u H 4 (en147_2 a0 a1 r1 v2 v3) r1.2 =
 fin .pure H H.length [.d (.bool false)] r1.2:=by
 unfold o147_0
 refine (oG 6).trans ?_
 generalize opsK2 _ _ _=X
 kernel_rfl
end
section
variable (a0:IV)(r1:IV×Hp)(v2 v3 v4:IV)
abbrev C145 (c:Oracle)(l u:Nat)(H:Hp):Ctx:=⟨P,tab,c,H.length,H.length⟩
abbrev k145 (c:Oracle)(l u:Nat)(H:Hp):KR:=endK P (fnOf 145) .pure H H.length
def en145_0:Env:=mkE 9 [(0,a0),(1,r1.1),(2,.d (.bool false))]
def q145_0 (c:Oracle)(l u:Nat)(H:Hp):KR:=popK (C145 c l u H) [] (k145 c l u H) [.sq (cd 145 [1,1])]
def o145_0 (c:Oracle)(l u:Nat)(H:Hp) (n:Nat) (e:Env) (G:Hp):Res:=opsK2 (C145 c l u H) none (rg 145 [1,0]) (dr 145 [1,0] n) e G (q145_0 c l u H)
def en145_1:Env:=mkE 9 [(0,a0),(1,r1.1),(2,.d (.bool false)),(3,v2),(4,v3),(5,.d (.bool true)),(6,v4)]
def en145_2:Env:=mkE 9 [(0,a0),(1,r1.1),(2,.d (.bool false)),(3,v2),(4,v3),(5,.d (.bool false)),(6,.no)]
theorem R145:bodyK2 P tab c l u 145 [a0] H=(iBox 25 a0 H).bind λr1=>
 o145_0 c l u H 0 (en145_0 a0 r1) r1.2:=by kernel_rfl
theorem g145_0:o145_0 c l u H 0 (en145_0 a0 r1) r1.2=(padd r1.1 1).bind λv2=>(ld1 v2 r1.2).bind λv3=>
 brN3 v3 ((padd r1.1 2).bind λv4=>
 o145_0 c l u H 4 (en145_1 a0 r1 v2 v3 v4) r1.2) (o145_0 c l u H 4 (en145_2 a0 r1 v2 v3) r1.2) (o145_0 c l u H 4 (List.set (en145_2 a0 r1 v2 v3) 5 v3) r1.2):=by
 unfold o145_0
 refine (oG 4).trans ?_
 generalize opsK2 _ _ _=X
 kernel_rfl
theorem g145_1:o145_0 c l u H 4 (en145_1 a0 r1 v2 v3 v4) r1.2=(ld1 v4 r1.2).bind λv5=>
 fin .pure H H.length [v5] r1.2:=by
 unfold o145_0
 refine (oG 4).trans ?_
 generalize opsK2 _ _ _=X
 kernel_rfl
theorem g145_2:o145_0 c l u H 4 (en145_2 a0 r1 v2 v3) r1.2 =
 fin .pure H H.length [.d (.bool false)] r1.2:=by
 unfold o145_0
 refine (oG 4).trans ?_
 generalize opsK2 _ _ _=X
 kernel_rfl
end
theorem R142 (a0:IV):bodyK2 P tab c l u 142 [a0] H=(iBox 25 a0 H).bind λr1=>(ldN 4 r1.1 r1.2).bind λv2=>
 liftR (c H.length H.length 145 [v2] r1.2) (λv3 h4=>
 fin .pure H H.length [v3] h4) (λp5 h6=>finP .pure H H.length p5 h6):=by kernel_rfl
theorem R146 (a0:Int) (a1:List UInt8):bodyK2 P tab c l u 146 [.d (.int .i64 a0),.d (.str a1)] H=(st 4 H.length H.length (.ptr H.length 0) (.agg [.d (.int .i64 a0),.d (.str a1),.d (.int .i64 0),.d (.bool false)]) (H++[Blk.cells 145 [.d (.int .i64 0),.d (.str []),.d (.int .i64 0),.d (.bool false)]])).bind λh1=>((ldN 4 (.ptr H.length 0) h1).bind λv2=>(some []:Option (List IV)).map λl3=>v2::l3).bind λl4=>fin .pure H H.length l4 h1:=by kernel_rfl
theorem R149 (a0:IV):bodyK2 P tab c l u 149 [a0] H=(iBox 28 a0 H).bind λr1=>(padd r1.1 0).bind λv2=>(ld1 v2 r1.2).bind λv3=>
 liftR (c H.length H.length 194 [v3] r1.2) (λv4 h5=>
 fin .pure H H.length [v4] h5) (λp6 h7=>finP .pure H H.length p6 h7):=by kernel_rfl
theorem R194 (a0:Int):bodyK2 P tab c l u 194 [.d (.int .i64 a0)] H=(iBin P .eql 3 (.d (.int .i64 a0)) (.d (.int .i64 206))).bind λv1=>
 fin .pure H H.length [v1] H:=by kernel_rfl
theorem R141 (a0:IV):bodyK2 P tab c l u 141 [a0] H=(iBox 28 a0 H).bind λr1=>(ldN 2 r1.1 r1.2).bind λv2=>
 liftR (c H.length H.length 149 (frzArgs H.length [(true,v2)] r1.2).1 (frzArgs H.length [(true,v2)] r1.2).2) (λv3 h4=>
 fin .pure H H.length [v3] h4) (λp5 h6=>finP .pure H H.length p5 h6):=by kernel_rfl
theorem R88 (a0:IV):bodyK2 P tab c l u 88 [a0] H=(iBox 30 a0 H).bind λr1=>(padd r1.1 0).bind λv2=>(padd v2 0).bind λv3=>(ld1 v3 (r1.2++[Blk.cells 145 [.d (.int .i64 0),.d (.str []),.d (.int .i64 0),.d (.bool false)]])).bind λv4=>
 br3 v4 ((padd r1.1 3).bind λv5=>(ldN 4 v5 (r1.2++[Blk.cells 145 [.d (.int .i64 0),.d (.str []),.d (.int .i64 0),.d (.bool false)]])).bind λv6=>(padd r1.1 7).bind λv7=>(ldN 2 v7 (r1.2++[Blk.cells 145 [.d (.int .i64 0),.d (.str []),.d (.int .i64 0),.d (.bool false)]])).bind λv8=>
 liftR (c H.length H.length 114 (frzArgs H.length [(false,v6),(true,v8)] (r1.2++[Blk.cells 145 [.d (.int .i64 0),.d (.str []),.d (.int .i64 0),.d (.bool false)]])).1 (frzArgs H.length [(false,v6),(true,v8)] (r1.2++[Blk.cells 145 [.d (.int .i64 0),.d (.str []),.d (.int .i64 0),.d (.bool false)]])).2) (λv9 h10=>(st 4 H.length H.length (.ptr r1.2.length 0) v9 h10).bind λh11=>((ldN 4 (.ptr r1.2.length 0) h11).bind λv12=>(some []:Option (List IV)).map λl13=>v12::l13).bind λl14=>fin .pure H H.length l14 h11) (λp15 h16=>finP .pure H H.length p15 h16)) ((padd r1.1 3).bind λv17=>(ldN 4 v17 (r1.2++[Blk.cells 145 [.d (.int .i64 0),.d (.str []),.d (.int .i64 0),.d (.bool false)]])).bind λv18=>(padd r1.1 7).bind λv19=>(ldN 2 v19 (r1.2++[Blk.cells 145 [.d (.int .i64 0),.d (.str []),.d (.int .i64 0),.d (.bool false)]])).bind λv20=>(padd r1.1 9).bind λv21=>(ld1 v21 (r1.2++[Blk.cells 145 [.d (.int .i64 0),.d (.str []),.d (.int .i64 0),.d (.bool false)]])).bind λv22=>
 liftR (c H.length H.length 115 (frzArgs H.length [(false,v18),(true,v20),(false,v22)] (r1.2++[Blk.cells 145 [.d (.int .i64 0),.d (.str []),.d (.int .i64 0),.d (.bool false)]])).1 (frzArgs H.length [(false,v18),(true,v20),(false,v22)] (r1.2++[Blk.cells 145 [.d (.int .i64 0),.d (.str []),.d (.int .i64 0),.d (.bool false)]])).2) (λv23 h24=>(st 4 H.length H.length (.ptr r1.2.length 0) v23 h24).bind λh25=>((ldN 4 (.ptr r1.2.length 0) h25).bind λv26=>(some []:Option (List IV)).map λl27=>v26::l27).bind λl28=>fin .pure H H.length l28 h25) (λp29 h30=>finP .pure H H.length p29 h30)):=by kernel_rfl
theorem R65 (a0:IV):bodyK2 P tab c l u 65 [a0] H=(iBox 30 a0 H).bind λr1=>(ldN 10 r1.1 (r1.2++[Blk.cells 145 [.d (.int .i64 0),.d (.str []),.d (.int .i64 0),.d (.bool false)]])).bind λv2=>
 liftR (c H.length H.length 88 (frzArgs H.length [(true,v2)] (r1.2++[Blk.cells 145 [.d (.int .i64 0),.d (.str []),.d (.int .i64 0),.d (.bool false)]])).1 (frzArgs H.length [(true,v2)] (r1.2++[Blk.cells 145 [.d (.int .i64 0),.d (.str []),.d (.int .i64 0),.d (.bool false)]])).2) (λv3 h4=>(st 4 H.length H.length (.ptr r1.2.length 0) v3 h4).bind λh5=>((ldN 4 (.ptr r1.2.length 0) h5).bind λv6=>(some []:Option (List IV)).map λl7=>v6::l7).bind λl8=>fin .pure H H.length l8 h5) (λp9 h10=>finP .pure H H.length p9 h10):=by kernel_rfl
end
end Go.Tg
set_option linter.unusedVariables false
namespace Go.Tg
noncomputable section
variable [Globs] (c:Oracle)(l u:Nat)(H:Hp)
abbrev C115 (c:Oracle)(l u:Nat)(H:Hp):Ctx:=⟨P,tab,c,H.length,H.length⟩
abbrev k115 (c:Oracle)(l u:Nat)(H:Hp):KR:=endK P (fnOf 115) .pure H H.length
def en115_0 (a0 a1:IV) (a2:Bool) (h6:Hp) (r1 r2:IV×Hp) (v3 v4 v5 v8 v9 v11 v20 v21 v31 v32:IV):Env:=mkE 62 [(0,a0),(1,a1),(2,.d (.bool a2)),(3,r1.1),(4,r2.1),(6,.ptr r2.2.length 0),(7,.ptr h6.length 0),(8,v3),(9,v4),(10,v5),(11,v11),(12,v8),(13,v9),(14,v11),(16,v21),(17,v20),(18,v21),(20,v32),(21,v31),(22,v32)]
def q115_0 (c:Oracle)(l u:Nat)(H:Hp):KR:=popK (C115 c l u H) [] (k115 c l u H) [.sq (cd 115 [1,1,0,0,1,1,1,1,1,1,1]),.bk 0,.sq (cd 115 [1,1,1])]
def o115_0 (c:Oracle)(l u:Nat)(H:Hp) (n:Nat) (e:Env) (G:Hp):Res:=opsK2 (C115 c l u H) none (rg 115 [1,1,0,0,1,1,1,1,1,1,0]) (dr 115 [1,1,0,0,1,1,1,1,1,1,0] n) e G (q115_0 c l u H)
theorem R115 (a0:IV) (a1:IV) (a2:Bool):bodyK2 P tab c l u 115 [a0,a1,.d (.bool a2)] H=(iBox 25 a0 H).bind λr1=>(iBox 28 a1 r1.2).bind λr2=>(padd r2.1 1).bind λv3=>(ld1 v3 (r2.2++[Blk.cells 145 [.d (.int .i64 0),.d (.str []),.d (.int .i64 0),.d (.bool false)]])).bind λv4=>
 liftR (c H.length H.length 140 (frzArgs H.length [(true,v4)] (r2.2++[Blk.cells 145 [.d (.int .i64 0),.d (.str []),.d (.int .i64 0),.d (.bool false)]])).1 (frzArgs H.length [(true,v4)] (r2.2++[Blk.cells 145 [.d (.int .i64 0),.d (.str []),.d (.int .i64 0),.d (.bool false)]])).2) (λv5 h6=>(st 6 H.length H.length (.ptr h6.length 0) v5 (h6++[Blk.cells 73 [.d (.str []),.d (.str []),.vnil,.d (.bool false),.d (.bool false),.d (.bool false)]])).bind λh7=>(ldN 4 r1.1 h7).bind λv8=>
 liftR (c H.length H.length 145 [v8] h7) (λv9 h10=>(iUn .not v9).bind λv11=>
 br3 v11 (liftR (c H.length H.length 146 [.d (.int .i64 1),.d (.str [111,112,101,110])] h10) (λv12 h13=>(st 4 H.length H.length (.ptr r2.2.length 0) v12 h13).bind λh14=>((ldN 4 (.ptr r2.2.length 0) h14).bind λv15=>(some []:Option (List IV)).map λl16=>v15::l16).bind λl17=>fin .pure H H.length l17 h14) (λp18 h19=>finP .pure H H.length p18 h19)) ((ldN 6 (.ptr h6.length 0) h10).bind λv20=>
 liftR (c H.length H.length 147 (frzArgs H.length [(true,v20),(false,.fn 148 [] [])] h10).1 (frzArgs H.length [(true,v20),(false,.fn 148 [] [])] h10).2) (λv21 h22=>
 br3 v21 (liftR (c H.length H.length 146 [.d (.int .i64 1),.d (.str [115,97,102,101])] h22) (λv23 h24=>(st 4 H.length H.length (.ptr r2.2.length 0) v23 h24).bind λh25=>((ldN 4 (.ptr r2.2.length 0) h25).bind λv26=>(some []:Option (List IV)).map λl27=>v26::l27).bind λl28=>fin .pure H H.length l28 h25) (λp29 h30=>finP .pure H H.length p29 h30)) ((ldN 6 (.ptr h6.length 0) h22).bind λv31=>
 liftR (c H.length H.length 147 (frzArgs H.length [(true,v31),(false,.fn 143 [] [])] h22).1 (frzArgs H.length [(true,v31),(false,.fn 143 [] [])] h22).2) (λv32 h33=>
 br3 v32 (liftR (c H.length H.length 146 [.d (.int .i64 2),.d (.str [110,101,118,101,114])] h33) (λv34 h35=>(st 4 H.length H.length (.ptr r2.2.length 0) v34 h35).bind λh36=>((ldN 4 (.ptr r2.2.length 0) h36).bind λv37=>(some []:Option (List IV)).map λl38=>v37::l38).bind λl39=>fin .pure H H.length l39 h36) (λp40 h41=>finP .pure H H.length p40 h41)) (o115_0 c l u H 0 (en115_0 a0 a1 a2 h6 r1 r2 v3 v4 v5 v8 v9 v11 v20 v21 v31 v32) h33)) (λp42 h43=>finP .pure H H.length p42 h43))) (λp44 h45=>finP .pure H H.length p44 h45))) (λp46 h47=>finP .pure H H.length p46 h47)) (λp48 h49=>finP .pure H H.length p48 h49):=by kernel_rfl
abbrev C114 (c:Oracle)(l u:Nat)(H:Hp):Ctx:=⟨P,tab,c,H.length,H.length⟩
abbrev k114 (c:Oracle)(l u:Nat)(H:Hp):KR:=endK P (fnOf 114) .pure H H.length
def en114_0 (a0 a1:IV) (h6:Hp) (r1 r2:IV×Hp) (v3 v4 v5 v8 v9 v11 v12 v14:IV):Env:=mkE 46 [(0,a0),(1,a1),(2,r1.1),(3,r2.1),(4,.ptr r2.2.length 0),(5,.ptr h6.length 0),(6,v9),(7,v3),(8,v4),(9,v5),(10,v8),(11,v9),(12,v14),(13,v11),(14,v12),(15,v14)]
def q114_0 (c:Oracle)(l u:Nat)(H:Hp):KR:=popK (C114 c l u H) [] (k114 c l u H) [.sq (cd 114 [1,1,1,0,0,1,1,1]),.bk 0,.sq (cd 114 [1,1,1,1])]
def o114_0 (c:Oracle)(l u:Nat)(H:Hp) (n:Nat) (e:Env) (G:Hp):Res:=opsK2 (C114 c l u H) none (rg 114 [1,1,1,0,0,1,1,0]) (dr 114 [1,1,1,0,0,1,1,0] n) e G (q114_0 c l u H)
theorem R114 (a0:IV) (a1:IV):bodyK2 P tab c l u 114 [a0,a1] H=(iBox 25 a0 H).bind λr1=>(iBox 28 a1 r1.2).bind λr2=>(padd r2.1 1).bind λv3=>(ld1 v3 (r2.2++[Blk.cells 145 [.d (.int .i64 0),.d (.str []),.d (.int .i64 0),.d (.bool false)]])).bind λv4=>
 liftR (c H.length H.length 140 (frzArgs H.length [(true,v4)] (r2.2++[Blk.cells 145 [.d (.int .i64 0),.d (.str []),.d (.int .i64 0),.d (.bool false)]])).1 (frzArgs H.length [(true,v4)] (r2.2++[Blk.cells 145 [.d (.int .i64 0),.d (.str []),.d (.int .i64 0),.d (.bool false)]])).2) (λv5 h6=>(st 6 H.length H.length (.ptr h6.length 0) v5 (h6++[Blk.cells 73 [.d (.str []),.d (.str []),.vnil,.d (.bool false),.d (.bool false),.d (.bool false)]])).bind λh7=>(ldN 2 r2.1 h7).bind λv8=>
 liftR (c H.length H.length 141 (frzArgs H.length [(true,v8)] h7).1 (frzArgs H.length [(true,v8)] h7).2) (λv9 h10=>(ldN 4 r1.1 h10).bind λv11=>
 liftR (c H.length H.length 142 [v11] h10) (λv12 h13=>(iUn .not v12).bind λv14=>
 br3 v14 ((st 4 H.length H.length (.ptr r2.2.length 0) (.agg [.d (.int .i64 1),.d (.str [111,112,101,110]),.d (.int .i64 0),.d (.bool false)]) h13).bind λh15=>((ldN 4 (.ptr r2.2.length 0) h15).bind λv16=>(some []:Option (List IV)).map λl17=>v16::l17).bind λl18=>fin .pure H H.length l18 h15) (o114_0 c l u H 0 (en114_0 a0 a1 h6 r1 r2 v3 v4 v5 v8 v9 v11 v12 v14) h13)) (λp19 h20=>finP .pure H H.length p19 h20)) (λp21 h22=>finP .pure H H.length p21 h22)) (λp23 h24=>finP .pure H H.length p23 h24):=by kernel_rfl
end
end Go.Tg
