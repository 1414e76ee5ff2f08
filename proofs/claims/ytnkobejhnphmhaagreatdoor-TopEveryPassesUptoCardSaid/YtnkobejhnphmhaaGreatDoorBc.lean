/- What the bodies of some functions come to, operation by operation. By program (gen.py). -/
import Derived.Test.YtnkobejhnphmhaaGreatDoorAh
import Derived.KernelRfl
set_option linter.all false
namespace Go.Tg
noncomputable section
variable [Globs] (c:Oracle)(l u:Nat)(H:Hp)
theorem R254 (a0:List UInt8):bodyK2 P tab c l u 254 [.d (.str a0)] H =
 fin .keep H u [.ptr H.length 0] (H++[Blk.cells 577 [.d (.str a0),.d (.int .i64 0)]]):=by kernel_rfl
theorem R317 (b0:Nat) (a1:List UInt8):bodyK2 P tab c l u 317 [.ptr b0 0,.d (.str a1)] H =
 liftR (c H.length u 381 [.ptr b0 0] H) (λv1 h2=>
 liftR (c H.length u 249 [v1,.d (.str a1)] h2) (λv3 h4=>(iUn .not v3).bind λv5=>
 br3 v5 (fin .mut H u [.d (.bool false)] h4) ((iBin P .neq 241 (.ptr b0 0) .nul).bind λv6=>
 br3 v6 ((ld1 (.ptr b0 1) h4).bind λv7=>(lnS (.d (.str a1))).bind λv8=>(iBin P .add 3 v7 v8).bind λv9=>(st 1 H.length u (.ptr b0 1) v9 h4).bind λh10=>
 fin .mut H u [.d (.bool true)] h10) (fin .mut H u [.d (.bool true)] h4))) (λp11 h12=>finP .mut H u p11 h12)) (λp13 h14=>finP .mut H u p13 h14):=by kernel_rfl
theorem R249 (a0:List UInt8) (a1:List UInt8):bodyK2 P tab c l u 249 [.d (.str a0),.d (.str a1)] H =
 liftR (c H.length H.length 324 [.d (.str a0),.d (.str a1)] H) (λv1 h2=>
 fin .pure H H.length [v1] h2) (λp3 h4=>finP .pure H H.length p3 h4):=by kernel_rfl
section
variable (a0 a1:List UInt8)(v1 v2 v3:IV)
abbrev C324 (c:Oracle)(l u:Nat)(H:Hp):Ctx:=⟨P,tab,c,H.length,H.length⟩
abbrev k324 (c:Oracle)(l u:Nat)(H:Hp):KR:=endK P (fnOf 324) .pure H H.length
def en324_0:Env:=mkE 18 [(0,.d (.str a0)),(1,.d (.str a1)),(4,.d (.bool false))]
def q324_0 (c:Oracle)(l u:Nat)(H:Hp):KR:=popK (C324 c l u H) [] (k324 c l u H) [.sq (cd 324 [1,1])]
def o324_0 (c:Oracle)(l u:Nat)(H:Hp) (n:Nat) (e:Env) (G:Hp):Res:=opsK2 (C324 c l u H) none (rg 324 [1,0]) (dr 324 [1,0] n) e G (q324_0 c l u H)
def en324_1:Env:=mkE 18 [(0,.d (.str a0)),(1,.d (.str a1)),(4,.d (.bool false)),(5,.d (.str a0)),(6,v1),(7,.d (.str a1)),(8,v2),(9,v3),(10,.d (.bool true)),(11,.d (.str a0))]
def en324_2:Env:=mkE 18 [(0,.d (.str a0)),(1,.d (.str a1)),(4,.d (.bool false)),(5,.d (.str a0)),(6,v1),(7,.d (.str a1)),(8,v2),(9,v3),(10,.d (.bool false)),(11,.no)]
theorem R324:bodyK2 P tab c l u 324 [.d (.str a0),.d (.str a1)] H =
 o324_0 c l u H 0 (en324_0 a0 a1) H:=by kernel_rfl
theorem g324_0:o324_0 c l u H 0 (en324_0 a0 a1) H=(lnS (.d (.str a0))).bind λv1=>(lnS (.d (.str a1))).bind λv2=>(iBin P .geq 3 v1 v2).bind λv3=>
 brN3 v3 (o324_0 c l u H 7 (en324_1 a0 a1 v1 v2 v3) H) (o324_0 c l u H 7 (en324_2 a0 a1 v1 v2 v3) H) (o324_0 c l u H 7 (List.set (en324_2 a0 a1 v1 v2 v3) 10 v3) H):=by
 unfold o324_0
 refine (oG 7).trans ?_
 generalize opsK2 _ _ _=X
 kernel_rfl
theorem g324_1:o324_0 c l u H 7 (en324_1 a0 a1 v1 v2 v3) H=(lnS (.d (.str a1))).bind λv4=>(slS (.d (.str a0)) none (some v4)).bind λv5=>(iBin P .eql 9 v5 (.d (.str a1))).bind λv6=>
 fin .pure H H.length [v6] H:=by
 unfold o324_0
 refine (oG 8).trans ?_
 generalize opsK2 _ _ _=X
 kernel_rfl
theorem g324_2:o324_0 c l u H 7 (en324_2 a0 a1 v1 v2 v3) H =
 fin .pure H H.length [.d (.bool false)] H:=by
 unfold o324_0
 refine (oG 8).trans ?_
 generalize opsK2 _ _ _=X
 kernel_rfl
end
section
variable (e0 e1 e5 e6:IV)(G:Hp)(v6 v7 v8:IV)
abbrev C331 (c:Oracle)(l u:Nat)(H:Hp):Ctx:=⟨P,tab,c,H.length,u⟩
abbrev k331 (c:Oracle)(l u:Nat)(H:Hp):KR:=endK P (fnOf 331) .mut H u
def E331:Env:=[e0,e1,.un,.un,.un,e5,e6,.un,.un,.un,.un,.un,.un,.un,.un,.un,.un,.un,.un,.un,.un,.un,.un,.un,.un,.un,.un,.un,.un]
def en331_0:Env:=mkE 29 [(0,e0),(1,e1),(5,e5),(6,e6)]
def q331_0 (c:Oracle)(l u:Nat)(H:Hp):Ex→Env→Hp→OS:=popK (C331 c l u H) [0,1,5,6] (stepK [0,1,5,6]) [.sq (cd 331 [1,1,0,1,0,0,0,1]),.sq (cd 331 [1,1,0,1,0,0,1])]
def o331_0 (c:Oracle)(l u:Nat)(H:Hp) (n:Nat) (e:Env) (G:Hp):OS:=opsK2 (C331 c l u H) none (rg 331 [1,1,0,1,0,0,0,0]) (dr 331 [1,1,0,1,0,0,0,0] n) e G (q331_0 c l u H)
def en331_1:Env:=mkE 29 [(0,e0),(1,e1),(5,e5),(6,e6),(9,e1),(10,v6),(11,.d (.bool true)),(12,e5)]
def en331_2:Env:=mkE 29 [(0,e0),(1,e1),(5,e5),(6,e6),(9,e1),(10,v6),(11,.d (.bool false)),(12,.no)]
def en331_3:Env:=mkE 29 [(0,e0),(1,e1),(5,e5),(6,e6),(9,e1),(10,v6),(11,.d (.bool true)),(12,e5),(13,e6),(14,v7),(15,v8),(16,v8),(17,.d (.bool true)),(18,e1)]
def en331_4:Env:=mkE 29 [(0,e0),(1,e1),(5,e5),(6,e6),(9,e1),(10,v6),(11,.d (.bool true)),(12,e5),(13,e6),(14,v7),(15,v8),(16,v8),(17,.d (.bool false)),(18,.no)]
theorem R331 (b0:Nat) (a1:IV):bodyK2 P tab c l u 331 [.ptr b0 0,a1] H =
 liftR (c H.length u 381 [.ptr b0 0] H) (λv1 h2=>(loopW (stepL (C331 c l u H) [0,1,5,6] (cd 331 [1,1,0,1,0,0])) ((E331 (.ptr b0 0) a1 (.d (.int .i64 0)) v1),h2)).bind λr3=>popK (C331 c l u H) [0,1,5,6] (k331 c l u H) [.bk 0,.sq (cd 331 [1,1,1])] r3.1 r3.2.1 r3.2.2) (λp4 h5=>finP .mut H u p4 h5):=by kernel_rfl
theorem B331_0:stepL (C331 c l u H) [0,1,5,6] (cd 331 [1,1,0,1,0,0]) ((E331 e0 e1 e5 e6),G) =
 o331_0 c l u H 0 (en331_0 e0 e1 e5 e6) G:=by kernel_rfl
theorem g331_0 (G:Hp) (e0 e1 e5 e6:IV):o331_0 c l u H 0 (en331_0 e0 e1 e5 e6) G=(iBin P .neq 140 e1 .nofn).bind λv6=>
 brN3 v6 (o331_0 c l u H 4 (en331_1 e0 e1 e5 e6 v6) G) (o331_0 c l u H 4 (en331_2 e0 e1 e5 e6 v6) G) (o331_0 c l u H 4 (List.set (en331_2 e0 e1 e5 e6 v6) 11 v6) G):=by
 unfold o331_0
 refine (oG 4).trans ?_
 generalize opsK2 _ _ _=X
 kernel_rfl
theorem g331_1 (G:Hp) (e0 e1 e5 e6 v6:IV):o331_0 c l u H 4 (en331_1 e0 e1 e5 e6 v6) G=(lnS e6).bind λv7=>(iBin P .lss 3 e5 v7).bind λv8=>
 brN3 v8 (o331_0 c l u H 10 (en331_3 e0 e1 e5 e6 v6 v7 v8) G) (o331_0 c l u H 10 (en331_4 e0 e1 e5 e6 v6 v7 v8) G) (o331_0 c l u H 10 (List.set (en331_4 e0 e1 e5 e6 v6 v7 v8) 17 v8) G):=by
 unfold o331_0
 refine (oG 6).trans ?_
 generalize opsK2 _ _ _=X
 kernel_rfl
theorem g331_3 (G:Hp) (e0 e1 e5 e6 v6 v7 v8:IV):o331_0 c l u H 10 (en331_3 e0 e1 e5 e6 v6 v7 v8) G=(ixS e6 e5).bind λv9=>
 goVal3 (C331 c l u H) e1 [v9] G (λv10 h11=>
 br3 v10 ((iBin P .add 3 e5 (.d (.int .i64 1))).bind λv12=>
 some (.inl ((E331 e0 e1 v12 e6),h11))) (some (.inr (.exi 0,(E331 e0 e1 e5 e6),h11)))) (λp13 h14=>some (.inr (.pan p13,(E331 e0 e1 e5 e6),h14))):=by
 unfold o331_0
 refine (oG 6).trans ?_
 generalize opsK2 _ _ _=X
 kernel_rfl
theorem g331_4 (G:Hp) (e0 e1 e5 e6 v6 v7 v8:IV):o331_0 c l u H 10 (en331_4 e0 e1 e5 e6 v6 v7 v8) G =
 some (.inr (.exi 0,(E331 e0 e1 e5 e6),G)):=by
 unfold o331_0
 refine (oG 6).trans ?_
 generalize opsK2 _ _ _=X
 kernel_rfl
theorem K331_0x0:popK (C331 c l u H) [0,1,5,6] (k331 c l u H) [.bk 0,.sq (cd 331 [1,1,1])] (.exi 0) (E331 e0 e1 e5 e6) G =
 liftR (c H.length u 387 [e0,e5] G) (λv15 h16=>
 fin .mut H u [v15] h16) (λp17 h18=>finP .mut H u p17 h18):=by kernel_rfl
end
theorem R333 (b0:Nat):bodyK2 P tab c l u 333 [.ptr b0 0] H =
 liftR (c H.length H.length 388 [.ptr b0 0] H) (λv1 h2=>
 fin .pure H H.length [v1] h2) (λp3 h4=>finP .pure H H.length p3 h4):=by kernel_rfl
section
variable (e0 e1 e5 e6:IV)(G:Hp)(v6 v7:IV)
abbrev C334 (c:Oracle)(l u:Nat)(H:Hp):Ctx:=⟨P,tab,c,H.length,u⟩
abbrev k334 (c:Oracle)(l u:Nat)(H:Hp):KR:=endK P (fnOf 334) .mut H u
def E334:Env:=[e0,e1,.un,.un,.un,e5,e6,.un,.un,.un,.un,.un,.un,.un,.un,.un,.un,.un,.un,.un,.un,.un,.un,.un,.un,.un]
def en334_0:Env:=mkE 26 [(0,e0),(1,e1),(5,e5),(6,e6)]
def q334_0 (c:Oracle)(l u:Nat)(H:Hp):Ex→Env→Hp→OS:=popK (C334 c l u H) [0,1,5,6] (stepK [0,1,5,6]) [.sq (cd 334 [1,1,0,1,0,0,0,1]),.sq (cd 334 [1,1,0,1,0,0,1])]
def o334_0 (c:Oracle)(l u:Nat)(H:Hp) (n:Nat) (e:Env) (G:Hp):OS:=opsK2 (C334 c l u H) none (rg 334 [1,1,0,1,0,0,0,0]) (dr 334 [1,1,0,1,0,0,0,0] n) e G (q334_0 c l u H)
def en334_1:Env:=mkE 26 [(0,e0),(1,e1),(5,e5),(6,e6),(9,e5),(10,e6),(11,v6),(12,v7),(13,.d (.bool true)),(14,e1)]
def en334_2:Env:=mkE 26 [(0,e0),(1,e1),(5,e5),(6,e6),(9,e5),(10,e6),(11,v6),(12,v7),(13,.d (.bool false)),(14,.no)]
theorem R334 (b0:Nat) (a1:List UInt8):bodyK2 P tab c l u 334 [.ptr b0 0,.d (.str a1)] H =
 liftR (c H.length u 381 [.ptr b0 0] H) (λv1 h2=>(loopW (stepL (C334 c l u H) [0,1,5,6] (cd 334 [1,1,0,1,0,0])) ((E334 (.ptr b0 0) (.d (.str a1)) (.d (.int .i64 0)) v1),h2)).bind λr3=>popK (C334 c l u H) [0,1,5,6] (k334 c l u H) [.bk 0,.sq (cd 334 [1,1,1])] r3.1 r3.2.1 r3.2.2) (λp4 h5=>finP .mut H u p4 h5):=by kernel_rfl
theorem B334_0:stepL (C334 c l u H) [0,1,5,6] (cd 334 [1,1,0,1,0,0]) ((E334 e0 e1 e5 e6),G) =
 o334_0 c l u H 0 (en334_0 e0 e1 e5 e6) G:=by kernel_rfl
theorem g334_0 (G:Hp) (e0 e1 e5 e6:IV):o334_0 c l u H 0 (en334_0 e0 e1 e5 e6) G=(lnS e6).bind λv6=>(iBin P .lss 3 e5 v6).bind λv7=>
 brN3 v7 (o334_0 c l u H 6 (en334_1 e0 e1 e5 e6 v6 v7) G) (o334_0 c l u H 6 (en334_2 e0 e1 e5 e6 v6 v7) G) (o334_0 c l u H 6 (List.set (en334_2 e0 e1 e5 e6 v6 v7) 13 v7) G):=by
 unfold o334_0
 refine (oG 6).trans ?_
 generalize opsK2 _ _ _=X
 kernel_rfl
theorem g334_1 (G:Hp) (e0 e1 e5 e6 v6 v7:IV):o334_0 c l u H 6 (en334_1 e0 e1 e5 e6 v6 v7) G=(ixS e6 e5).bind λv8=>
 liftR (c H.length u 264 [e1,v8] G) (λv9 h10=>(iBin P .lss 3 v9 (.d (.int .i64 0))).bind λv11=>
 br3 v11 ((iBin P .add 3 e5 (.d (.int .i64 1))).bind λv12=>
 some (.inl ((E334 e0 e1 v12 e6),h10))) (some (.inr (.exi 0,(E334 e0 e1 e5 e6),h10)))) (λp13 h14=>some (.inr (.pan p13,(E334 e0 e1 e5 e6),h14))):=by
 unfold o334_0
 refine (oG 7).trans ?_
 generalize opsK2 _ _ _=X
 kernel_rfl
theorem g334_2 (G:Hp) (e0 e1 e5 e6 v6 v7:IV):o334_0 c l u H 6 (en334_2 e0 e1 e5 e6 v6 v7) G =
 some (.inr (.exi 0,(E334 e0 e1 e5 e6),G)):=by
 unfold o334_0
 refine (oG 7).trans ?_
 generalize opsK2 _ _ _=X
 kernel_rfl
theorem K334_0x0:popK (C334 c l u H) [0,1,5,6] (k334 c l u H) [.bk 0,.sq (cd 334 [1,1,1])] (.exi 0) (E334 e0 e1 e5 e6) G =
 liftR (c H.length u 387 [e0,e5] G) (λv15 h16=>
 fin .mut H u [v15] h16) (λp17 h18=>finP .mut H u p17 h18):=by kernel_rfl
end
theorem R335 (b0:Nat):bodyK2 P tab c l u 335 [.ptr b0 0] H =
 liftR (c H.length u 389 [.ptr b0 0,.d (.int .i64 1)] H) (λv1 h2=>(ixS v1 (.d (.int .i64 0))).bind λv3=>
 fin .mut H u [v3] h2) (λp4 h5=>finP .mut H u p4 h5):=by kernel_rfl
abbrev C373 (c:Oracle)(l u:Nat)(H:Hp):Ctx:=⟨P,tab,c,H.length,H.length⟩
abbrev k373 (c:Oracle)(l u:Nat)(H:Hp):KR:=endK P (fnOf 373) .pure H H.length
def en373_0 (a1:Int) (b0:Nat) (v1:IV):Env:=mkE 20 [(0,.ptr b0 0),(1,.d (.int .i64 a1)),(4,.d (.int .u8 0)),(5,.d (.bool false)),(6,v1),(7,.ptr b0 0),(8,v1)]
def q373_0 (c:Oracle)(l u:Nat)(H:Hp):KR:=popK (C373 c l u H) [] (k373 c l u H) [.sq (cd 373 [1,1,0,1]),.sq (cd 373 [1,1,1])]
def o373_0 (c:Oracle)(l u:Nat)(H:Hp) (n:Nat) (e:Env) (G:Hp):Res:=opsK2 (C373 c l u H) none (rg 373 [1,1,0,0]) (dr 373 [1,1,0,0] n) e G (q373_0 c l u H)
def en373_1 (a1:Int) (b0:Nat) (v1 v5:IV):Env:=mkE 20 [(0,.ptr b0 0),(1,.d (.int .i64 a1)),(4,.d (.int .u8 0)),(5,.d (.bool false)),(6,v1),(7,.ptr b0 0),(8,v1),(9,.d (.int .i64 a1)),(10,v5),(11,.d (.bool true)),(12,.no)]
def en373_2 (a1:Int) (b0:Nat) (v1 v5:IV):Env:=upE (en373_1 a1 b0 v1 v5) [(11,.d (.bool false)),(12,.d (.int .i64 a1))]
theorem R373 (b0:Nat) (a1:Int):bodyK2 P tab c l u 373 [.ptr b0 0,.d (.int .i64 a1)] H =
 liftR (c H.length H.length 381 [.ptr b0 0] H) (λv1 h2=>
 o373_0 c l u H 0 (en373_0 a1 b0 v1) h2) (λp3 h4=>finP .pure H H.length p3 h4):=by kernel_rfl
theorem g373_0 (a1:Int) (b0:Nat) (h2:Hp) (v1:IV):o373_0 c l u H 0 (en373_0 a1 b0 v1) h2=(iBin P .lss 3 (.d (.int .i64 a1)) (.d (.int .i64 0))).bind λv5=>
 brN3 v5 (o373_0 c l u H 4 (en373_1 a1 b0 v1 v5) h2) (o373_0 c l u H 4 (en373_2 a1 b0 v1 v5) h2) (o373_0 c l u H 4 (List.set (en373_1 a1 b0 v1 v5) 11 v5) h2):=by
 unfold o373_0
 refine (oG 4).trans ?_
 generalize opsK2 _ _ _=X
 kernel_rfl
theorem g373_2 (a1:Int) (b0:Nat) (h2:Hp) (v1 v5:IV):o373_0 c l u H 4 (en373_2 a1 b0 v1 v5) h2=(lnS v1).bind λv6=>(iBin P .geq 3 (.d (.int .i64 a1)) v6).bind λv7=>
 br3 v7 (fin .pure H H.length [.d (.int .u8 0),.d (.bool false)] h2) ((ixS v1 (.d (.int .i64 a1))).bind λv8=>
 fin .pure H H.length [v8,.d (.bool true)] h2):=by
 unfold o373_0
 refine (oG 5).trans ?_
 generalize opsK2 _ _ _=X
 kernel_rfl
theorem R381 (b0:Nat):bodyK2 P tab c l u 381 [.ptr b0 0] H=(iBin P .eql 241 (.ptr b0 0) .nul).bind λv1=>
 br3 v1 (fin .pure H H.length [.d (.str [])] H) ((ld1 (.ptr b0 0) H).bind λv2=>(ld1 (.ptr b0 1) H).bind λv3=>(slS v2 (some v3) none).bind λv4=>
 fin .pure H H.length [v4] H):=by kernel_rfl
theorem R387 (b0:Nat) (a1:Int):bodyK2 P tab c l u 387 [.ptr b0 0,.d (.int .i64 a1)] H =
 liftR (c H.length u 381 [.ptr b0 0] H) (λv1 h2=>(slS v1 none (some (.d (.int .i64 a1)))).bind λv3=>(iBin P .neq 241 (.ptr b0 0) .nul).bind λv4=>
 br3 v4 ((ld1 (.ptr b0 1) h2).bind λv5=>(iBin P .add 3 v5 (.d (.int .i64 a1))).bind λv6=>(st 1 H.length u (.ptr b0 1) v6 h2).bind λh7=>
 fin .mut H u [v3] h7) (fin .mut H u [v3] h2)) (λp8 h9=>finP .mut H u p8 h9):=by kernel_rfl
theorem R388 (b0:Nat):bodyK2 P tab c l u 388 [.ptr b0 0] H=(iBin P .eql 241 (.ptr b0 0) .nul).bind λv1=>
 br3 v1 (fin .pure H H.length [.d (.int .i64 0)] H) ((ld1 (.ptr b0 1) H).bind λv2=>
 fin .pure H H.length [v2] H):=by kernel_rfl
theorem R389 (b0:Nat) (a1:Int):bodyK2 P tab c l u 389 [.ptr b0 0,.d (.int .i64 a1)] H =
 liftR (c H.length u 381 [.ptr b0 0] H) (λv1 h2=>(iBin P .neq 241 (.ptr b0 0) .nul).bind λv3=>
 liftR (c H.length u 173 [v3,.d (.int .i64 0),.d (.int .i64 8)] h2) (λv4 h5=>(iBin P .geq 3 (.d (.int .i64 a1)) (.d (.int .i64 0))).bind λv6=>(ld1 (.ptr b0 1) h5).bind λv7=>
 liftR (c H.length u 173 [v6,v7,.d (.int .i64 9)] h5) (λv8 h9=>(lnS v1).bind λv10=>(iBin P .leq 3 (.d (.int .i64 a1)) v10).bind λv11=>(ld1 (.ptr b0 1) h9).bind λv12=>
 liftR (c H.length u 173 [v11,v12,.d (.int .i64 8)] h9) (λv13 h14=>(ld1 (.ptr b0 1) h14).bind λv15=>(iBin P .add 3 v15 (.d (.int .i64 a1))).bind λv16=>(st 1 H.length u (.ptr b0 1) v16 h14).bind λh17=>(slS v1 none (some (.d (.int .i64 a1)))).bind λv18=>
 fin .mut H u [v18] h17) (λp19 h20=>finP .mut H u p19 h20)) (λp21 h22=>finP .mut H u p21 h22)) (λp23 h24=>finP .mut H u p23 h24)) (λp25 h26=>finP .mut H u p25 h26):=by kernel_rfl
theorem R418 (b0:Nat):bodyK2 P tab c l u 418 [.ptr b0 0] H =
 liftR (c H.length u 381 [.ptr b0 0] H) (λv1 h2=>(lnS v1).bind λv3=>
 liftR (c H.length u 387 [.ptr b0 0,v3] h2) (λv4 h5=>
 fin .mut H u [v4] h5) (λp6 h7=>finP .mut H u p6 h7)) (λp8 h9=>finP .mut H u p8 h9):=by kernel_rfl
theorem R173 (a0:Bool) (a1:Int) (a2:Int):bodyK2 P tab c l u 173 [.d (.bool a0),.d (.int .i64 a1),.d (.int .i64 a2)] H=(iUn .not (.d (.bool a0))).bind λv1=>
 br3 v1 (liftR (c H.length H.length 229 [.d (.int .i64 a1),.d (.int .i64 a2)] H) (λv2 h3=>
 fin .pure H H.length [] h3) (λp4 h5=>finP .pure H H.length p4 h5)) (fin .pure H H.length [] H):=by kernel_rfl
end
end Go.Tg
namespace Go.Tg
noncomputable section
variable [Globs] (c:Oracle)(l u:Nat)(H:Hp)
theorem R358 (b0:Nat) (a1:List UInt8):bodyK2 P tab c l u 358 [.ptr b0 0,.d (.str a1)] H =
 liftR (c l u 407 [.ptr b0 0] H) (λv1 h2=>(ld1 (.ptr b0 1) h2).bind λv3=>(app 5 1 u v3 (.d (.str a1)) h2).bind λr4=>(st 1 l u (.ptr b0 1) r4.1 r4.2).bind λh5=>(lnS (.d (.str a1))).bind λv6=>
 fin .keep H u [v6,.noifc] h5) (λp7 h8=>finP .keep H u p7 h8):=by kernel_rfl
theorem R359 (b0:Nat) (a1:Int):bodyK2 P tab c l u 359 [.ptr b0 0,.d (.int .u8 a1)] H =
 liftR (c l u 407 [.ptr b0 0] H) (λv1 h2=>(ld1 (.ptr b0 1) h2).bind λv3=>(iBuildSlice P 113 1 [(0,.d (.int .u8 a1))] h2).bind λr4=>(app 5 1 u v3 r4.1 r4.2).bind λr5=>(st 1 l u (.ptr b0 1) r5.1 r5.2).bind λh6=>
 fin .keep H u [.noifc] h6) (λp7 h8=>finP .keep H u p7 h8):=by kernel_rfl
theorem R360 (b0:Nat):bodyK2 P tab c l u 360 [.ptr b0 0] H=(ld1 (.ptr b0 1) H).bind λv1=>((iSliceData v1).map λx3=>(x3,(H:Hp))).bind λr2=>(ld1 (.ptr b0 1) r2.2).bind λv4=>(lnV v4).bind λv5=>(iUnsafeStr P #[332,3] u r2.1 v5 r2.2).bind λr6=>
 fin .keep H u [r6.1] r6.2:=by kernel_rfl
theorem R376 (b0:Nat):bodyK2 P tab c l u 376 [.ptr b0 0] H=(st 1 l u (.ptr b0 0) .nul H).bind λh1=>(st 1 l u (.ptr b0 1) .vnil h1).bind λh2=>
 fin .keep H u [] h2:=by kernel_rfl
section
variable (e0 e4 e5:IV)(G:Hp)
abbrev C374 (c:Oracle)(l u:Nat)(H:Hp):Ctx:=⟨P,tab,c,H.length,u⟩
abbrev k374 (c:Oracle)(l u:Nat)(H:Hp):KR:=endK P (fnOf 374) .mut H u
def E374:Env:=[e0,.un,.un,.un,e4,e5,.un,.un,.un,.un,.un,.un,.un,.un,.un,.un,.un,.un,.un,.un,.un,.un,.un,.un,.un,.un,.un,.un,.un,.un,.un,.un,.un,.un,.un,.un,.un,.un,.un,.un,.un,.un,.un,.un,.un,.un,.un,.un,.un,.un,.un]
theorem R374 (b0:Nat):bodyK2 P tab c l u 374 [.ptr b0 0] H =
 liftR (c H.length u 317 [.ptr b0 0,.d (.str [34])] (((H++[Blk.cells 601 [.nul,.vnil]]))++[Blk.cells 601 [.nul,.vnil]])) (λv1 h2=>
 liftR (c H.length u 333 [.ptr b0 0] h2) (λv3 h4=>
 liftR (c H.length u 173 [v1,v3,.d (.int .i64 2)] h4) (λv5 h6=>
 liftR (c H.length u 359 [.ptr ((H++[Blk.cells 601 [.nul,.vnil]])).length 0,.d (.int .u8 34)] h6) (λv7 h8=>(loopW (stepL (C374 c l u H) [0,4,5] (cd 374 [1,1,1,1,0,0,0])) ((E374 (.ptr b0 0) (.ptr H.length 0) (.ptr ((H++[Blk.cells 601 [.nul,.vnil]])).length 0)),h8)).bind λr9=>popK (C374 c l u H) [0,4,5] (k374 c l u H) [.bk 0,.sq (cd 374 [1,1,1,1,1])] r9.1 r9.2.1 r9.2.2) (λp10 h11=>finP .mut H u p10 h11)) (λp12 h13=>finP .mut H u p12 h13)) (λp14 h15=>finP .mut H u p14 h15)) (λp16 h17=>finP .mut H u p16 h17):=by kernel_rfl
theorem B374_0:stepL (C374 c l u H) [0,4,5] (cd 374 [1,1,1,1,0,0,0]) ((E374 e0 e4 e5),G) =
 liftR (c H.length u 334 [e0,.d (.str [34,92])] G) (λv18 h19=>
 liftR (c H.length u 358 [e4,v18] h19) (λv20 h21=>
 liftR (c H.length u 358 [e5,v18] h21) (λv22 h23=>
 liftR (c H.length u 373 [e0,.d (.int .i64 0)] h23) (λv24 h25=>(iExtract v24 0).bind λv26=>(iExtract v24 1).bind λv27=>(iUn .not v27).bind λv28=>
 br3 v28 (some (.inr (.exi 0,(E374 e0 e4 e5),h25))) (liftR (c H.length u 335 [e0] h25) (λv29 h30=>
 liftR (c H.length u 359 [e5,v26] h30) (λv31 h32=>(iBin P .eql 5 v26 (.d (.int .u8 34))).bind λv33=>
 br3 v33 (some (.inr (.exi 0,(E374 e0 e4 e5),h32))) (liftR (c H.length u 373 [e0,.d (.int .i64 0)] h32) (λv34 h35=>(iExtract v34 0).bind λv36=>(iExtract v34 1).bind λv37=>
 br3 v37 (liftR (c H.length u 335 [e0] h35) (λv38 h39=>
 liftR (c H.length u 359 [e4,v36] h39) (λv40 h41=>
 liftR (c H.length u 359 [e5,v36] h41) (λv42 h43=>
 some (.inl ((E374 e0 e4 e5),h43))) (λp44 h45=>some (.inr (.pan p44,(E374 e0 e4 e5),h45)))) (λp46 h47=>some (.inr (.pan p46,(E374 e0 e4 e5),h47)))) (λp48 h49=>some (.inr (.pan p48,(E374 e0 e4 e5),h49)))) (liftR (c H.length u 359 [e4,.d (.int .u8 92)] h35) (λv50 h51=>
 some (.inl ((E374 e0 e4 e5),h51))) (λp52 h53=>some (.inr (.pan p52,(E374 e0 e4 e5),h53))))) (λp54 h55=>some (.inr (.pan p54,(E374 e0 e4 e5),h55))))) (λp56 h57=>some (.inr (.pan p56,(E374 e0 e4 e5),h57)))) (λp58 h59=>some (.inr (.pan p58,(E374 e0 e4 e5),h59))))) (λp60 h61=>some (.inr (.pan p60,(E374 e0 e4 e5),h61)))) (λp62 h63=>some (.inr (.pan p62,(E374 e0 e4 e5),h63)))) (λp64 h65=>some (.inr (.pan p64,(E374 e0 e4 e5),h65)))) (λp66 h67=>some (.inr (.pan p66,(E374 e0 e4 e5),h67))):=by kernel_rfl
theorem K374_0x0:popK (C374 c l u H) [0,4,5] (k374 c l u H) [.bk 0,.sq (cd 374 [1,1,1,1,1])] (.exi 0) (E374 e0 e4 e5) G =
 liftR (c H.length u 360 [e4] G) (λv68 h69=>
 liftR (c H.length u 360 [e5] h69) (λv70 h71=>
 fin .mut H u [v68,v70] h71) (λp72 h73=>finP .mut H u p72 h73)) (λp74 h75=>finP .mut H u p74 h75):=by kernel_rfl
end
theorem R486 (b0:Nat) (a1:Bool):bodyK2 P tab c l u 486 [.ptr b0 0,.d (.bool a1)] H =
 liftR (c H.length u 374 [.ptr b0 0] H) (λv1 h2=>(iExtract v1 0).bind λv3=>(iExtract v1 1).bind λv4=>
 br3 (.d (.bool a1)) (fin .mut H u [v3] h2) (fin .mut H u [v4] h2)) (λp5 h6=>finP .mut H u p5 h6):=by kernel_rfl
theorem R375 (a0:List UInt8):bodyK2 P tab c l u 375 [.d (.str a0)] H =
 liftR (c H.length H.length 417 [.d (.str a0)] H) (λv1 h2=>
 liftR (c H.length H.length 254 [v1] h2) (λv3 h4=>
 liftR (c H.length H.length 331 [v3,.fn 380 [] []] h4) (λv5 h6=>
 liftR (c H.length H.length 418 [v3] h6) (λv7 h8=>
 fin .pure H H.length [v7] h8) (λp9 h10=>finP .pure H H.length p9 h10)) (λp11 h12=>finP .pure H H.length p11 h12)) (λp13 h14=>finP .pure H H.length p13 h14)) (λp15 h16=>finP .pure H H.length p15 h16):=by kernel_rfl
section
variable (a0:List UInt8)(e2 e3 e4 e5:IV)(G h11:Hp)(v6 v8 v10 v12 v13:IV)
abbrev C307 (c:Oracle)(l u:Nat)(H:Hp):Ctx:=⟨P,tab,c,H.length,H.length⟩
abbrev k307 (c:Oracle)(l u:Nat)(H:Hp):KR:=endK P (fnOf 307) .pure H H.length
def E307:Env:=[.un,.un,e2,e3,e4,e5,.un,.un,.un,.un,.un,.un,.un,.un,.un,.un,.un,.un,.un,.un,.un,.un,.un,.un,.un,.un,.un,.un,.un,.un,.un,.un,.un,.un,.un,.un,.un,.un,.un,.un,.un,.un,.un]
def en307_0:Env:=mkE 43 [(2,e2),(3,e3),(4,e4),(5,e5),(6,v12),(7,v13),(12,e5),(13,v6),(14,v8),(15,v10),(16,e5),(17,v10),(18,v12),(19,v13)]
def q307_0 (c:Oracle)(l u:Nat)(H:Hp):Ex→Env→Hp→OS:=popK (C307 c l u H) [2,3,4,5] (stepK [2,3,4,5]) [.sq (cd 307 [1,1,1,1,0,0,0,1,1,0,1]),.sq (cd 307 [1,1,1,1,0,0,0,1,1,1]),.bk 1]
def o307_0 (c:Oracle)(l u:Nat)(H:Hp) (n:Nat) (e:Env) (G:Hp):OS:=opsK2 (C307 c l u H) none (rg 307 [1,1,1,1,0,0,0,1,1,0,0]) (dr 307 [1,1,1,1,0,0,0,1,1,0,0] n) e G (q307_0 c l u H)
def en307_1:Env:=mkE 43 [(2,e2),(3,e3),(4,e4),(5,e5),(6,v12),(7,v13),(12,e5),(13,v6),(14,v8),(15,v10),(16,e5),(17,v10),(18,v12),(19,v13),(20,v13),(21,.d (.bool true)),(22,v12)]
def en307_2:Env:=mkE 43 [(2,e2),(3,e3),(4,e4),(5,e5),(6,v12),(7,v13),(12,e5),(13,v6),(14,v8),(15,v10),(16,e5),(17,v10),(18,v12),(19,v13),(20,v13),(21,.d (.bool false)),(22,.no)]
theorem R307:bodyK2 P tab c l u 307 [.d (.str a0)] H =
 liftR (c H.length H.length 254 [.d (.str a0)] (H++[Blk.cells 601 [.nul,.vnil]])) (λv1 h2=>(loopW (stepL (C307 c l u H) [2,3,4,5] (cd 307 [1,1,1,1,0,0])) ((E307 .vnil .vnil (.ptr H.length 0) v1),h2)).bind λr3=>popK (C307 c l u H) [2,3,4,5] (k307 c l u H) [.bk 0] r3.1 r3.2.1 r3.2.2) (λp4 h5=>finP .pure H H.length p4 h5):=by kernel_rfl
theorem B307_0:stepL (C307 c l u H) [2,3,4,5] (cd 307 [1,1,1,1,0,0]) ((E307 e2 e3 e4 e5),G) =
 liftR (c H.length H.length 334 [e5,.d (.str [34,44])] G) (λv6 h7=>
 liftR (c H.length H.length 358 [e4,v6] h7) (λv8 h9=>
 liftR (c H.length H.length 373 [e5,.d (.int .i64 0)] h9) (λv10 h11=>(iExtract v10 0).bind λv12=>(iExtract v10 1).bind λv13=>
 o307_0 c l u H 0 (en307_0 e2 e3 e4 e5 v6 v8 v10 v12 v13) h11) (λp14 h15=>some (.inr (.pan p14,(E307 e2 e3 e4 e5),h15)))) (λp16 h17=>some (.inr (.pan p16,(E307 e2 e3 e4 e5),h17)))) (λp18 h19=>some (.inr (.pan p18,(E307 e2 e3 e4 e5),h19))):=by kernel_rfl
theorem g307_0:o307_0 c l u H 0 (en307_0 e2 e3 e4 e5 v6 v8 v10 v12 v13) h11 =
 brN3 v13 (o307_0 c l u H 3 (en307_1 e2 e3 e4 e5 v6 v8 v10 v12 v13) h11) (o307_0 c l u H 3 (en307_2 e2 e3 e4 e5 v6 v8 v10 v12 v13) h11) (o307_0 c l u H 3 (List.set (en307_2 e2 e3 e4 e5 v6 v8 v10 v12 v13) 21 v13) h11):=by
 unfold o307_0
 refine (oG 3).trans ?_
 generalize opsK2 _ _ _=X
 kernel_rfl
theorem g307_1:o307_0 c l u H 3 (en307_1 e2 e3 e4 e5 v6 v8 v10 v12 v13) h11=(iBin P .eql 5 v12 (.d (.int .u8 34))).bind λv20=>
 br3 v20 (liftR (c H.length H.length 374 [e5] h11) (λv21 h22=>(iExtract v21 0).bind λv23=>(iExtract v21 1).bind λv24=>
 liftR (c H.length H.length 358 [e4,v24] h22) (λv25 h26=>
 some (.inl ((E307 e2 e3 e4 e5),h26))) (λp27 h28=>some (.inr (.pan p27,(E307 e2 e3 e4 e5),h28)))) (λp29 h30=>some (.inr (.pan p29,(E307 e2 e3 e4 e5),h30)))) (liftR (c H.length H.length 360 [e4] h11) (λv31 h32=>
 liftR (c H.length H.length 375 [v31] h32) (λv33 h34=>(iBuildSlice P 31 1 [(0,v33)] h34).bind λr35=>(app 9 1 H.length e3 r35.1 r35.2).bind λr36=>
 liftR (c H.length H.length 376 [e4] r36.2) (λv37 h38=>(iUn .not v13).bind λv39=>
 br3 v39 (some (.inr (.ret,(E307 r36.1 r36.1 e4 e5),h38))) (liftR (c H.length H.length 335 [e5] h38) (λv40 h41=>
 some (.inl ((E307 e2 r36.1 e4 e5),h41))) (λp42 h43=>some (.inr (.pan p42,(E307 e2 r36.1 e4 e5),h43))))) (λp44 h45=>some (.inr (.pan p44,(E307 e2 r36.1 e4 e5),h45)))) (λp46 h47=>some (.inr (.pan p46,(E307 e2 e3 e4 e5),h47)))) (λp48 h49=>some (.inr (.pan p48,(E307 e2 e3 e4 e5),h49)))):=by
 unfold o307_0
 refine (oG 3).trans ?_
 generalize opsK2 _ _ _=X
 kernel_rfl
theorem g307_2:o307_0 c l u H 3 (en307_2 e2 e3 e4 e5 v6 v8 v10 v12 v13) h11 =
 liftR (c H.length H.length 360 [e4] h11) (λv50 h51=>
 liftR (c H.length H.length 375 [v50] h51) (λv52 h53=>(iBuildSlice P 31 1 [(0,v52)] h53).bind λr54=>(app 9 1 H.length e3 r54.1 r54.2).bind λr55=>
 liftR (c H.length H.length 376 [e4] r55.2) (λv56 h57=>(iUn .not v13).bind λv58=>
 br3 v58 (some (.inr (.ret,(E307 r55.1 r55.1 e4 e5),h57))) (liftR (c H.length H.length 335 [e5] h57) (λv59 h60=>
 some (.inl ((E307 e2 r55.1 e4 e5),h60))) (λp61 h62=>some (.inr (.pan p61,(E307 e2 r55.1 e4 e5),h62))))) (λp63 h64=>some (.inr (.pan p63,(E307 e2 r55.1 e4 e5),h64)))) (λp65 h66=>some (.inr (.pan p65,(E307 e2 e3 e4 e5),h66)))) (λp67 h68=>some (.inr (.pan p67,(E307 e2 e3 e4 e5),h68))):=by
 unfold o307_0
 refine (oG 3).trans ?_
 generalize opsK2 _ _ _=X
 kernel_rfl
theorem K307_0r:popK (C307 c l u H) [2,3,4,5] (k307 c l u H) [.bk 0] (.ret) (E307 e2 e3 e4 e5) G =
 fin .pure H H.length [e2] G:=by kernel_rfl
end
end
end Go.Tg
namespace Go.Tg
noncomputable section
variable [Globs] (c:Oracle)(l u:Nat)(H:Hp)
theorem R407 (b0:Nat):bodyK2 P tab c l u 407 [.ptr b0 0] H=(ld1 (.ptr b0 0) H).bind λv1=>(iBin P .eql 298 v1 .nul).bind λv2=>
 br3 v2 (((iUnsafe P (.ptr b0 0) H none).map λx4=>(x4,(H:Hp))).bind λr3=>
 liftR (c l u 438 [r3.1] r3.2) (λv5 h6=>((iUnsafe P v5 h6 (some 300)).map λx8=>(x8,(h6:Hp))).bind λr7=>(st 1 l u (.ptr b0 0) r7.1 r7.2).bind λh9=>
 fin .keep H u [] h9) (λp10 h11=>finP .keep H u p10 h11)) ((ld1 (.ptr b0 0) H).bind λv12=>(iBin P .neq 298 v12 (.ptr b0 0)).bind λv13=>
 br3 v13 (none) (fin .keep H u [] H)):=by kernel_rfl
end
end Go.Tg
namespace Go.Tg
noncomputable section
variable [Globs] (c:Oracle)(l u:Nat)(H:Hp)
section
variable (a0:List UInt8)(e0 e3 e4 e5 e6 e9 e10 e11 e12:IV)(G:Hp)(v21 v22 v49 v50:IV)
abbrev C242 (c:Oracle)(l u:Nat)(H:Hp):Ctx:=⟨P,tab,c,H.length,H.length⟩
abbrev k242 (c:Oracle)(l u:Nat)(H:Hp):KR:=endK P (fnOf 242) .pure H H.length
def E242:Env:=[e0,.un,.un,e3,e4,e5,e6,.un,.un,e9,e10,e11,e12,.un,.un,.un,.un,.un,.un,.un,.un,.un,.un,.un,.un,.un,.un,.un,.un,.un,.un,.un,.un,.un,.un,.un,.un,.un,.un,.un,.un,.un,.un,.un,.un,.un,.un,.un,.un,.un,.un,.un,.un,.un,.un,.un,.un,.un,.un,.un,.un,.un,.un,.un,.un,.un,.un,.un,.un,.un,.un,.un,.un,.un,.un,.un,.un,.un,.un,.un,.un,.un,.un,.un,.un,.un,.un,.un,.un,.un,.un,.un,.un,.un,.un,.un,.un,.un,.un,.un,.un,.un,.un,.un,.un,.un]
def en242_0:Env:=mkE 106 [(0,e0),(3,e3),(4,e4),(5,e5),(6,e6),(9,e9),(10,e10),(11,e11),(12,e12)]
def q242_0 (c:Oracle)(l u:Nat)(H:Hp):Ex→Env→Hp→OS:=popK (C242 c l u H) [0,3,4,5,6,9,10,11,12] (stepK [0,3,4,5,6,9,10,11,12]) [.sq (cd 242 [1,1,1,1,1,1,1,1,1,1,0,0,0,0,1]),.sq (cd 242 [1,1,1,1,1,1,1,1,1,1,0,0,0,1])]
def o242_0 (c:Oracle)(l u:Nat)(H:Hp) (n:Nat) (e:Env) (G:Hp):OS:=opsK2 (C242 c l u H) none (rg 242 [1,1,1,1,1,1,1,1,1,1,0,0,0,0,0]) (dr 242 [1,1,1,1,1,1,1,1,1,1,0,0,0,0,0] n) e G (q242_0 c l u H)
def en242_1:Env:=mkE 106 [(0,e0),(3,e3),(4,e4),(5,e5),(6,e6),(9,e9),(10,e10),(11,e11),(12,e12),(42,e12),(43,e0),(44,v21),(45,v22),(46,.d (.bool true)),(47,e0)]
def en242_2:Env:=mkE 106 [(0,e0),(3,e3),(4,e4),(5,e5),(6,e6),(9,e9),(10,e10),(11,e11),(12,e12),(42,e12),(43,e0),(44,v21),(45,v22),(46,.d (.bool false)),(47,.no)]
def q242_1 (c:Oracle)(l u:Nat)(H:Hp):Ex→Env→Hp→OS:=popK (C242 c l u H) [0,3,4,5,6,9,10,11,12] (stepK [0,3,4,5,6,9,10,11,12]) [.sq (cd 242 [1,1,1,1,1,1,1,1,1,1,1,1,0,0,0,1,0,1,1,1,1,0,0,0,0,1]),.sq (cd 242 [1,1,1,1,1,1,1,1,1,1,1,1,0,0,0,1,0,1,1,1,1,0,0,0,1])]
def o242_1 (c:Oracle)(l u:Nat)(H:Hp) (n:Nat) (e:Env) (G:Hp):OS:=opsK2 (C242 c l u H) none (rg 242 [1,1,1,1,1,1,1,1,1,1,1,1,0,0,0,1,0,1,1,1,1,0,0,0,0,0]) (dr 242 [1,1,1,1,1,1,1,1,1,1,1,1,0,0,0,1,0,1,1,1,1,0,0,0,0,0] n) e G (q242_1 c l u H)
def en242_3:Env:=mkE 106 [(0,e0),(3,e3),(4,e4),(5,e5),(6,e6),(9,e9),(10,e10),(11,e11),(12,e12),(80,e12),(81,e0),(82,v49),(83,v50),(84,.d (.bool true)),(85,e0)]
def en242_4:Env:=mkE 106 [(0,e0),(3,e3),(4,e4),(5,e5),(6,e6),(9,e9),(10,e10),(11,e11),(12,e12),(80,e12),(81,e0),(82,v49),(83,v50),(84,.d (.bool false)),(85,.no)]
theorem R242:bodyK2 P tab c l u 242 [.d (.str a0)] H=(loopW (stepL (C242 c l u H) [0,3,4,5,6,9,10,11,12] (cd 242 [1,1,1,1,0,1,0,0])) ((E242 (.d (.str a0)) (.d (.int .i64 0)) (.d (.int .i64 1)) (.d (.int .u8 0)) (.d (.int .i64 0)) .un .un .un .un),H)).bind λr1=>popK (C242 c l u H) [0,3,4,5,6,9,10,11,12] (k242 c l u H) [.bk 0,.sq (cd 242 [1,1,1,1,1])] r1.1 r1.2.1 r1.2.2:=by kernel_rfl
theorem B242_0:stepL (C242 c l u H) [0,3,4,5,6,9,10,11,12] (cd 242 [1,1,1,1,0,1,0,0]) ((E242 e0 e3 e4 e5 e6 e9 e10 e11 e12),G)=(lnS e0).bind λv2=>(iBin P .lss 3 e6 v2).bind λv3=>
 br3 v3 ((ixS e0 e6).bind λv4=>(iBin P .or 5 e5 v4).bind λv5=>((iArrAt P 271 (.lptr (Globs.gl 0) 0) v4).map λx7=>(x7,(G:Hp))).bind λr6=>(ld1 r6.1 r6.2).bind λv8=>(iConvInt .i64 v8).bind λv9=>(iUn .xor v9).bind λv10=>(iBin P .and 3 e4 v10).bind λv11=>(iBin P .add 3 e3 v11).bind λv12=>(iBin P .add 3 e6 (.d (.int .i64 1))).bind λv13=>
 some (.inl ((E242 e0 v12 v9 v5 v13 e9 e10 e11 e12),r6.2))) (some (.inr (.exi 0,(E242 e0 e3 e4 e5 e6 e9 e10 e11 e12),G))):=by kernel_rfl
theorem K242_0x0:popK (C242 c l u H) [0,3,4,5,6,9,10,11,12] (k242 c l u H) [.bk 0,.sq (cd 242 [1,1,1,1,1])] (.exi 0) (E242 e0 e3 e4 e5 e6 e9 e10 e11 e12) G=(iBin P .geq 5 e5 (.d (.int .u8 128))).bind λv14=>
 br3 v14 (liftR (c H.length H.length 309 [e0,.fn 310 [] []] G) (λv15 h16=>
 fin .pure H H.length [v15] h16) (λp17 h18=>finP .pure H H.length p17 h18)) ((iMakeSlice P 31 e3 e3 G).bind λr19=>(loopW (stepL (C242 c l u H) [0,3,4,5,6,9,10,11,12] (cd 242 [1,1,1,1,1,1,1,1,1,1,0,0,0])) ((E242 e0 e3 e4 e5 e6 r19.1 (.d (.int .i64 0)) (.d (.int .i64 0)) (.d (.int .i64 0))),r19.2)).bind λr20=>popK (C242 c l u H) [0,3,4,5,6,9,10,11,12] (k242 c l u H) [.bk 2,.sq (cd 242 [1,1,1,1,1,1,1,1,1,1,1])] r20.1 r20.2.1 r20.2.2):=by kernel_rfl
theorem B242_1:stepL (C242 c l u H) [0,3,4,5,6,9,10,11,12] (cd 242 [1,1,1,1,1,1,1,1,1,1,0,0,0]) ((E242 e0 e3 e4 e5 e6 e9 e10 e11 e12),G) =
 o242_0 c l u H 0 (en242_0 e0 e3 e4 e5 e6 e9 e10 e11 e12) G:=by kernel_rfl
theorem g242_0 (G:Hp) (e0 e3 e4 e5 e6 e9 e10 e11 e12:IV):o242_0 c l u H 0 (en242_0 e0 e3 e4 e5 e6 e9 e10 e11 e12) G=(lnS e0).bind λv21=>(iBin P .lss 3 e12 v21).bind λv22=>
 brN3 v22 (o242_0 c l u H 6 (en242_1 e0 e3 e4 e5 e6 e9 e10 e11 e12 v21 v22) G) (o242_0 c l u H 6 (en242_2 e0 e3 e4 e5 e6 e9 e10 e11 e12 v21 v22) G) (o242_0 c l u H 6 (List.set (en242_2 e0 e3 e4 e5 e6 e9 e10 e11 e12 v21 v22) 46 v22) G):=by
 unfold o242_0
 refine (oG 6).trans ?_
 generalize opsK2 _ _ _=X
 kernel_rfl
theorem g242_1 (G:Hp) (e0 e3 e4 e5 e6 e9 e10 e11 e12 v21 v22:IV):o242_0 c l u H 6 (en242_1 e0 e3 e4 e5 e6 e9 e10 e11 e12 v21 v22) G=(ixS e0 e12).bind λv23=>((iArrAt P 271 (.lptr (Globs.gl 0) 0) v23).map λx25=>(x25,(G:Hp))).bind λr24=>(ld1 r24.1 r24.2).bind λv26=>(iBin P .neq 5 v26 (.d (.int .u8 0))).bind λv27=>
 br3 v27 ((iBin P .add 3 e12 (.d (.int .i64 1))).bind λv28=>
 some (.inl ((E242 e0 e3 e4 e5 e6 e9 e10 e11 v28),r24.2))) (some (.inr (.exi 2,(E242 e0 e3 e4 e5 e6 e9 e10 e11 e12),r24.2))):=by
 unfold o242_0
 refine (oG 7).trans ?_
 generalize opsK2 _ _ _=X
 kernel_rfl
theorem g242_2 (G:Hp) (e0 e3 e4 e5 e6 e9 e10 e11 e12 v21 v22:IV):o242_0 c l u H 6 (en242_2 e0 e3 e4 e5 e6 e9 e10 e11 e12 v21 v22) G =
 some (.inr (.exi 2,(E242 e0 e3 e4 e5 e6 e9 e10 e11 e12),G)):=by
 unfold o242_0
 refine (oG 7).trans ?_
 generalize opsK2 _ _ _=X
 kernel_rfl
theorem K242_1x2:popK (C242 c l u H) [0,3,4,5,6,9,10,11,12] (k242 c l u H) [.bk 2,.sq (cd 242 [1,1,1,1,1,1,1,1,1,1,1])] (.exi 2) (E242 e0 e3 e4 e5 e6 e9 e10 e11 e12) G=(loopW (stepL (C242 c l u H) [0,3,4,5,6,9,10,11,12] (cd 242 [1,1,1,1,1,1,1,1,1,1,1,1,0,0,0])) ((E242 e0 e3 e4 e5 e6 e9 e10 e12 e12),G)).bind λr29=>popK (C242 c l u H) [0,3,4,5,6,9,10,11,12] (k242 c l u H) [.bk 4,.sq (cd 242 [1,1,1,1,1,1,1,1,1,1,1,1,1])] r29.1 r29.2.1 r29.2.2:=by kernel_rfl
theorem B242_2:stepL (C242 c l u H) [0,3,4,5,6,9,10,11,12] (cd 242 [1,1,1,1,1,1,1,1,1,1,1,1,0,0,0]) ((E242 e0 e3 e4 e5 e6 e9 e10 e11 e12),G)=(lnS e0).bind λv30=>(iBin P .lss 3 e12 v30).bind λv31=>
 br3 v31 ((ixS e0 e12).bind λv32=>((iArrAt P 271 (.lptr (Globs.gl 0) 0) v32).map λx34=>(x34,(G:Hp))).bind λr33=>(ld1 r33.1 r33.2).bind λv35=>(iBin P .eql 5 v35 (.d (.int .u8 0))).bind λv36=>
 br3 v36 ((iBin P .add 3 e12 (.d (.int .i64 1))).bind λv37=>
 some (.inl ((E242 e0 e3 e4 e5 e6 e9 e10 e11 v37),r33.2))) ((slS e0 (some e11) (some e12)).bind λv38=>(ixA 1 e9 e10).bind λv39=>(st 1 H.length H.length v39 v38 r33.2).bind λh40=>(iBin P .add 3 e10 (.d (.int .i64 1))).bind λv41=>(iBin P .add 3 e12 (.d (.int .i64 1))).bind λv42=>(loopW (stepL (C242 c l u H) [0,3,4,5,6,9,10,11,12] (cd 242 [1,1,1,1,1,1,1,1,1,1,1,1,0,0,0,1,0,1,1,1,1,0,0,0])) ((E242 e0 e3 e4 e5 e6 e9 v41 e11 v42),h40)).bind λr43=>popK (C242 c l u H) [0,3,4,5,6,9,10,11,12] (stepK [0,3,4,5,6,9,10,11,12]) [.bk 6,.sq (cd 242 [1,1,1,1,1,1,1,1,1,1,1,1,0,0,0,1,0,1,1,1,1,1]),.bk 5] r43.1 r43.2.1 r43.2.2)) (some (.inr (.exi 4,(E242 e0 e3 e4 e5 e6 e9 e10 e11 e12),G))):=by kernel_rfl
theorem K242_2x4:popK (C242 c l u H) [0,3,4,5,6,9,10,11,12] (k242 c l u H) [.bk 4,.sq (cd 242 [1,1,1,1,1,1,1,1,1,1,1,1,1])] (.exi 4) (E242 e0 e3 e4 e5 e6 e9 e10 e11 e12) G=(lnS e0).bind λv44=>(iBin P .lss 3 e11 v44).bind λv45=>
 br3 v45 ((slS e0 (some e11) none).bind λv46=>(ixA 1 e9 e10).bind λv47=>(st 1 H.length H.length v47 v46 G).bind λh48=>
 fin .pure H H.length [e9] h48) (fin .pure H H.length [e9] G):=by kernel_rfl
theorem B242_3:stepL (C242 c l u H) [0,3,4,5,6,9,10,11,12] (cd 242 [1,1,1,1,1,1,1,1,1,1,1,1,0,0,0,1,0,1,1,1,1,0,0,0]) ((E242 e0 e3 e4 e5 e6 e9 e10 e11 e12),G) =
 o242_1 c l u H 0 (en242_0 e0 e3 e4 e5 e6 e9 e10 e11 e12) G:=by kernel_rfl
theorem g242_3 (G:Hp) (e0 e3 e4 e5 e6 e9 e10 e11 e12:IV):o242_1 c l u H 0 (en242_0 e0 e3 e4 e5 e6 e9 e10 e11 e12) G=(lnS e0).bind λv49=>(iBin P .lss 3 e12 v49).bind λv50=>
 brN3 v50 (o242_1 c l u H 6 (en242_3 e0 e3 e4 e5 e6 e9 e10 e11 e12 v49 v50) G) (o242_1 c l u H 6 (en242_4 e0 e3 e4 e5 e6 e9 e10 e11 e12 v49 v50) G) (o242_1 c l u H 6 (List.set (en242_4 e0 e3 e4 e5 e6 e9 e10 e11 e12 v49 v50) 84 v50) G):=by
 unfold o242_1
 refine (oG 6).trans ?_
 generalize opsK2 _ _ _=X
 kernel_rfl
theorem g242_4 (G:Hp) (e0 e3 e4 e5 e6 e9 e10 e11 e12 v49 v50:IV):o242_1 c l u H 6 (en242_3 e0 e3 e4 e5 e6 e9 e10 e11 e12 v49 v50) G=(ixS e0 e12).bind λv51=>((iArrAt P 271 (.lptr (Globs.gl 0) 0) v51).map λx53=>(x53,(G:Hp))).bind λr52=>(ld1 r52.1 r52.2).bind λv54=>(iBin P .neq 5 v54 (.d (.int .u8 0))).bind λv55=>
 br3 v55 ((iBin P .add 3 e12 (.d (.int .i64 1))).bind λv56=>
 some (.inl ((E242 e0 e3 e4 e5 e6 e9 e10 e11 v56),r52.2))) (some (.inr (.exi 6,(E242 e0 e3 e4 e5 e6 e9 e10 e11 e12),r52.2))):=by
 unfold o242_1
 refine (oG 7).trans ?_
 generalize opsK2 _ _ _=X
 kernel_rfl
theorem g242_5 (G:Hp) (e0 e3 e4 e5 e6 e9 e10 e11 e12 v49 v50:IV):o242_1 c l u H 6 (en242_4 e0 e3 e4 e5 e6 e9 e10 e11 e12 v49 v50) G =
 some (.inr (.exi 6,(E242 e0 e3 e4 e5 e6 e9 e10 e11 e12),G)):=by
 unfold o242_1
 refine (oG 7).trans ?_
 generalize opsK2 _ _ _=X
 kernel_rfl
theorem K242_3x6:popK (C242 c l u H) [0,3,4,5,6,9,10,11,12] (stepK [0,3,4,5,6,9,10,11,12]) [.bk 6,.sq (cd 242 [1,1,1,1,1,1,1,1,1,1,1,1,0,0,0,1,0,1,1,1,1,1]),.bk 5] (.exi 6) (E242 e0 e3 e4 e5 e6 e9 e10 e11 e12) G =
 some (.inl ((E242 e0 e3 e4 e5 e6 e9 e10 e12 e12),G)):=by kernel_rfl
end
end
end Go.Tg
