/- What the bodies of some functions come to, operation by operation. By program (gen.py). -/
import Derived.Test.YtnkobejhnphmhaaGreatDoorAh
import Derived.Test.YtnkobejhnphmhaaGreatDoorAg
import Derived.KernelRfl
set_option linter.all false
set_option linter.unusedVariables false
namespace Go.Tg
noncomputable section
variable [Globs] (c:Oracle)(l u:Nat)(H:Hp)
section
variable (a0:List UInt8)(e0 e3:IV)(G:Hp)(v3:IV)
abbrev C440 (c:Oracle)(l u:Nat)(H:Hp):Ctx:=⟨P,tab,c,H.length,H.length⟩
abbrev k440 (c:Oracle)(l u:Nat)(H:Hp):KR:=endK P (fnOf 440) .pure H H.length
def E440:Env:=[e0,.un,.un,e3,.un,.un,.un,.un,.un,.un,.un,.un,.un,.un,.un,.un,.un,.un,.un,.un]
def en440_0:Env:=mkE 20 [(0,e0),(3,e3)]
def q440_0 (c:Oracle)(l u:Nat)(H:Hp):Ex→Env→Hp→OS:=popK (C440 c l u H) [0,3] (stepK [0,3]) [.sq (cd 440 [1,1,0,0,0,0,1]),.sq (cd 440 [1,1,0,0,0,1])]
def o440_0 (c:Oracle)(l u:Nat)(H:Hp) (n:Nat) (e:Env) (G:Hp):OS:=opsK2 (C440 c l u H) none (rg 440 [1,1,0,0,0,0,0]) (dr 440 [1,1,0,0,0,0,0] n) e G (q440_0 c l u H)
def en440_1:Env:=mkE 20 [(0,e0),(3,e3),(6,e3),(7,v3),(8,.d (.bool true)),(9,e0)]
def en440_2:Env:=mkE 20 [(0,e0),(3,e3),(6,e3),(7,v3),(8,.d (.bool false)),(9,.no)]
theorem R440:bodyK2 P tab c l u 440 [.d (.str a0)] H=(lnS (.d (.str a0))).bind λv1=>(loopW (stepL (C440 c l u H) [0,3] (cd 440 [1,1,0,0,0])) ((E440 (.d (.str a0)) v1),H)).bind λr2=>popK (C440 c l u H) [0,3] (k440 c l u H) [.bk 0,.sq (cd 440 [1,1,1])] r2.1 r2.2.1 r2.2.2:=by kernel_rfl
theorem B440_0:stepL (C440 c l u H) [0,3] (cd 440 [1,1,0,0,0]) ((E440 e0 e3),G) =
 o440_0 c l u H 0 (en440_0 e0 e3) G:=by kernel_rfl
theorem g440_0 (G:Hp) (e0 e3:IV):o440_0 c l u H 0 (en440_0 e0 e3) G=(iBin P .gtr 3 e3 (.d (.int .i64 0))).bind λv3=>
 brN3 v3 (o440_0 c l u H 4 (en440_1 e0 e3 v3) G) (o440_0 c l u H 4 (en440_2 e0 e3 v3) G) (o440_0 c l u H 4 (List.set (en440_2 e0 e3 v3) 8 v3) G):=by
 unfold o440_0
 refine (oG 4).trans ?_
 generalize opsK2 _ _ _=X
 kernel_rfl
theorem g440_1 (G:Hp) (e0 e3 v3:IV):o440_0 c l u H 4 (en440_1 e0 e3 v3) G=(iBin P .sub 3 e3 (.d (.int .i64 1))).bind λv4=>(ixS e0 v4).bind λv5=>
 liftR (c H.length H.length 332 [v5] G) (λv6 h7=>
 br3 v6 ((iBin P .sub 3 e3 (.d (.int .i64 1))).bind λv8=>
 some (.inl ((E440 e0 v8),h7))) (some (.inr (.exi 0,(E440 e0 e3),h7)))) (λp9 h10=>some (.inr (.pan p9,(E440 e0 e3),h10))):=by
 unfold o440_0
 refine (oG 6).trans ?_
 generalize opsK2 _ _ _=X
 kernel_rfl
theorem g440_2 (G:Hp) (e0 e3 v3:IV):o440_0 c l u H 4 (en440_2 e0 e3 v3) G =
 some (.inr (.exi 0,(E440 e0 e3),G)):=by
 unfold o440_0
 refine (oG 6).trans ?_
 generalize opsK2 _ _ _=X
 kernel_rfl
theorem K440_0x0:popK (C440 c l u H) [0,3] (k440 c l u H) [.bk 0,.sq (cd 440 [1,1,1])] (.exi 0) (E440 e0 e3) G=(slS e0 none (some e3)).bind λv11=>
 fin .pure H H.length [v11] G:=by kernel_rfl
end
section
variable (a0:List UInt8)(v1:IV)
abbrev C441 (c:Oracle)(l u:Nat)(H:Hp):Ctx:=⟨P,tab,c,H.length,H.length⟩
abbrev k441 (c:Oracle)(l u:Nat)(H:Hp):KR:=endK P (fnOf 441) .pure H H.length
def en441_0:Env:=mkE 9 [(0,.d (.str a0)),(2,.d (.bool false))]
def q441_0 (c:Oracle)(l u:Nat)(H:Hp):KR:=popK (C441 c l u H) [] (k441 c l u H) [.sq (cd 441 [1,1])]
def o441_0 (c:Oracle)(l u:Nat)(H:Hp) (n:Nat) (e:Env) (G:Hp):Res:=opsK2 (C441 c l u H) none (rg 441 [1,0]) (dr 441 [1,0] n) e G (q441_0 c l u H)
def en441_1:Env:=mkE 9 [(0,.d (.str a0)),(2,.d (.bool false)),(3,.d (.str a0)),(4,v1),(5,.d (.bool true)),(6,.d (.str a0))]
def en441_2:Env:=mkE 9 [(0,.d (.str a0)),(2,.d (.bool false)),(3,.d (.str a0)),(4,v1),(5,.d (.bool false)),(6,.no)]
theorem R441:bodyK2 P tab c l u 441 [.d (.str a0)] H =
 o441_0 c l u H 0 (en441_0 a0) H:=by kernel_rfl
theorem g441_0:o441_0 c l u H 0 (en441_0 a0) H=(iBin P .neq 9 (.d (.str a0)) (.d (.str []))).bind λv1=>
 brN3 v1 (o441_0 c l u H 4 (en441_1 a0 v1) H) (o441_0 c l u H 4 (en441_2 a0 v1) H) (o441_0 c l u H 4 (List.set (en441_2 a0 v1) 5 v1) H):=by
 unfold o441_0
 refine (oG 4).trans ?_
 generalize opsK2 _ _ _=X
 kernel_rfl
theorem g441_1:o441_0 c l u H 4 (en441_1 a0 v1) H =
 liftR (c H.length H.length 277 [.d (.str a0),.fn 278 [] []] H) (λv2 h3=>
 fin .pure H H.length [v2] h3) (λp4 h5=>finP .pure H H.length p4 h5):=by
 unfold o441_0
 refine (oG 4).trans ?_
 generalize opsK2 _ _ _=X
 kernel_rfl
theorem g441_2:o441_0 c l u H 4 (en441_2 a0 v1) H =
 fin .pure H H.length [.d (.bool false)] H:=by
 unfold o441_0
 refine (oG 4).trans ?_
 generalize opsK2 _ _ _=X
 kernel_rfl
end
theorem R443 (a0:IV) (a1:List UInt8):bodyK2 P tab c l u 443 [a0,.d (.str a1)] H=(iBox 34 a0 H).bind λr1=>(padd r1.1 2).bind λv2=>(ld1 v2 (r1.2++[Blk.cells 19 [.d (.str a1)]])).bind λv3=>
 liftR (c H.length H.length 467 [v3,.fn 468 [] [.ptr r1.2.length 0]] (r1.2++[Blk.cells 19 [.d (.str a1)]])) (λv4 h5=>
 fin .pure H H.length [v4] h5) (λp6 h7=>finP .pure H H.length p6 h7):=by kernel_rfl
section
variable (a0 a1 e0 e1 e4 e7 e8:IV)(G:Hp)
abbrev C467 (c:Oracle)(l u:Nat)(H:Hp):Ctx:=⟨P,tab,c,H.length,H.length⟩
abbrev k467 (c:Oracle)(l u:Nat)(H:Hp):KR:=endK P (fnOf 467) .pure H H.length
def E467:Env:=[e0,e1,.un,.un,e4,.un,.un,e7,e8,.un,.un,.un,.un,.un,.un,.un,.un,.un,.un]
theorem R467:bodyK2 P tab c l u 467 [a0,a1] H=(lnV a0).bind λv1=>(loopW (stepL (C467 c l u H) [0,1,4,7,8] (cd 467 [1,0,1,0,0])) ((E467 a0 a1 (.d (.int .i64 0)) v1 (.d (.int .i64 0))),H)).bind λr2=>popK (C467 c l u H) [0,1,4,7,8] (k467 c l u H) [.bk 0,.sq (cd 467 [1,1])] r2.1 r2.2.1 r2.2.2:=by kernel_rfl
theorem B467_0:stepL (C467 c l u H) [0,1,4,7,8] (cd 467 [1,0,1,0,0]) ((E467 e0 e1 e4 e7 e8),G)=(iBin P .lss 3 e8 e7).bind λv3=>
 br3 v3 ((ixA 2 e0 e8).bind λv4=>(ldN 2 v4 G).bind λv5=>
 goVal3 (C467 c l u H) e1 [v5] G (λv6 h7=>
 br3 v6 (some (.inr (.ret,(E467 e0 e1 e8 e7 e8),h7))) ((iBin P .add 3 e8 (.d (.int .i64 1))).bind λv8=>
 some (.inl ((E467 e0 e1 e4 e7 v8),h7)))) (λp9 h10=>some (.inr (.pan p9,(E467 e0 e1 e4 e7 e8),h10)))) (some (.inr (.exi 0,(E467 e0 e1 e4 e7 e8),G))):=by kernel_rfl
theorem K467_0x0:popK (C467 c l u H) [0,1,4,7,8] (k467 c l u H) [.bk 0,.sq (cd 467 [1,1])] (.exi 0) (E467 e0 e1 e4 e7 e8) G =
 fin .pure H H.length [.d (.int .i64 (-1))] G:=by kernel_rfl
theorem K467_0r:popK (C467 c l u H) [0,1,4,7,8] (k467 c l u H) [.bk 0,.sq (cd 467 [1,1])] (.ret) (E467 e0 e1 e4 e7 e8) G =
 fin .pure H H.length [e4] G:=by kernel_rfl
end
theorem R468 (a0:IV) (c0:IV):bodyK2 P tab c l u 468 [a0,c0] H=(iBox 110 a0 H).bind λr1=>(padd r1.1 0).bind λv2=>(ld1 v2 r1.2).bind λv3=>(ld1 c0 r1.2).bind λv4=>(iBin P .eql 9 v3 v4).bind λv5=>
 fin .pure H H.length [v5] r1.2:=by kernel_rfl
theorem R412 (a0:IV) (a1:List UInt8):bodyK2 P tab c l u 412 [a0,.d (.str a1)] H=(iBox 34 a0 H).bind λr1=>(ldN 3 r1.1 r1.2).bind λv2=>
 liftR (c H.length H.length 443 [v2,.d (.str a1)] r1.2) (λv3 h4=>(iBin P .lss 3 v3 (.d (.int .i64 0))).bind λv5=>
 br3 v5 (fin .pure H H.length [.d (.str []),.d (.bool false)] h4) ((padd r1.1 2).bind λv6=>(ld1 v6 h4).bind λv7=>(ixA 2 v7 v3).bind λv8=>(padd v8 1).bind λv9=>(ld1 v9 h4).bind λv10=>
 fin .pure H H.length [v10,.d (.bool true)] h4)) (λp11 h12=>finP .pure H H.length p11 h12):=by kernel_rfl
theorem R413 (a0:IV):bodyK2 P tab c l u 413 [a0] H=(iBox 34 a0 H).bind λr1=>(padd r1.1 2).bind λv2=>(ld1 v2 (r1.2++[Blk.cells 69 [.d (.str []),.d (.str []),.vnil]])).bind λv3=>
 liftR (c H.length H.length 444 [v3] (r1.2++[Blk.cells 69 [.d (.str []),.d (.str []),.vnil]])) (λv4 h5=>(padd r1.1 2).bind λv6=>(st 1 H.length H.length v6 v4 h5).bind λh7=>(ldN 3 r1.1 h7).bind λv8=>(st 3 H.length H.length (.ptr r1.2.length 0) v8 h7).bind λh9=>((ldN 3 (.ptr r1.2.length 0) h9).bind λv10=>(some []:Option (List IV)).map λl11=>v10::l11).bind λl12=>fin .pure H H.length l12 h9) (λp13 h14=>finP .pure H H.length p13 h14):=by kernel_rfl
section
variable (a0 e1 e2 e6 e7 e8:IV)(G h33:Hp)(v30 v31 v32 v34:IV)
abbrev C445 (c:Oracle)(l u:Nat)(H:Hp):Ctx:=⟨P,tab,c,H.length,H.length⟩
abbrev k445 (c:Oracle)(l u:Nat)(H:Hp):KR:=endK P (fnOf 445) .pure H H.length
def E445:Env:=[.un,e1,e2,.un,.un,.un,e6,e7,e8,.un,.un,.un,.un,.un,.un,.un,.un,.un,.un,.un,.un,.un,.un,.un,.un,.un,.un,.un,.un,.un,.un,.un,.un,.un,.un,.un,.un,.un,.un,.un]
def en445_0 (G:Hp) (e1 e2 e6 e7 e8 v6 v7 v8:IV):Env:=mkE 40 [(1,e1),(2,e2),(3,e8),(4,.ptr (G).length 0),(6,e6),(7,e7),(8,e8),(9,v6),(10,e8),(11,v7),(12,v8)]
def q445_0 (c:Oracle)(l u:Nat)(H:Hp):Ex→Env→Hp→OS:=popK (C445 c l u H) [1,2,6,7,8] (stepK [1,2,6,7,8]) [.sq (cd 445 [1,0,1,0,0,1,1,0,0,1,1]),.bk 1,.sq (cd 445 [1,0,1,0,0,1,1,1])]
def o445_0 (c:Oracle)(l u:Nat)(H:Hp) (n:Nat) (e:Env) (G:Hp):OS:=opsK2 (C445 c l u H) none (rg 445 [1,0,1,0,0,1,1,0,0,1,0]) (dr 445 [1,0,1,0,0,1,1,0,0,1,0] n) e G (q445_0 c l u H)
def en445_1 (G:Hp) (e1 e2 e6 e7 e8 v6 v7 v8 v10 v11 v13:IV):Env:=upE (en445_0 G e1 e2 e6 e7 e8 v6 v7 v8) [(13,.ptr (G).length 0),(14,v10),(15,v11),(16,v13),(17,.d (.bool true)),(18,.no)]
def en445_2 (G:Hp) (e1 e2 e6 e7 e8 v6 v7 v8 v10 v11 v13:IV):Env:=upE (en445_1 G e1 e2 e6 e7 e8 v6 v7 v8 v10 v11 v13) [(17,.d (.bool false)),(18,.ptr (G).length 1)]
def en445_3 (G:Hp) (e1 e2 e6 e7 e8 v6 v7 v8 v10 v11 v13 v16 v17 v19:IV):Env:=upE (en445_2 G e1 e2 e6 e7 e8 v6 v7 v8 v10 v11 v13) [(19,v16),(20,v17),(21,v19),(22,v19),(23,.d (.bool true)),(24,.no)]
def en445_4 (G:Hp) (e1 e2 e6 e7 e8 v6 v7 v8 v10 v11 v13 v16 v17 v19 v20:IV):Env:=upE (en445_3 G e1 e2 e6 e7 e8 v6 v7 v8 v10 v11 v13 v16 v17 v19) [(23,.d (.bool false)),(24,v20)]
def en445_5:Env:=mkE 40 [(1,e1),(2,e2),(6,e6),(7,e7),(8,e8)]
def q445_1 (c:Oracle)(l u:Nat)(H:Hp):KR:=popK (C445 c l u H) [1,2,6,7,8] (k445 c l u H) [.sq (cd 445 [1,1,1])]
def o445_1 (c:Oracle)(l u:Nat)(H:Hp) (n:Nat) (e:Env) (G:Hp):Res:=opsK2 (C445 c l u H) none (rg 445 [1,1,0]) (dr 445 [1,1,0] n) e G (q445_1 c l u H)
def en445_6:Env:=mkE 40 [(1,e1),(2,e2),(6,e6),(7,e7),(8,e8),(32,v30),(33,v31),(34,v32),(35,.d (.bool true)),(36,v34)]
def en445_7:Env:=mkE 40 [(1,e1),(2,e2),(6,e6),(7,e7),(8,e8),(32,v30),(33,v31),(34,v32),(35,.d (.bool false)),(36,.no)]
theorem R445:bodyK2 P tab c l u 445 [a0] H=(iBox 34 a0 H).bind λr1=>(padd r1.1 2).bind λv2=>(ld1 v2 r1.2).bind λv3=>(lnV v3).bind λv4=>(loopW (stepL (C445 c l u H) [1,2,6,7,8] (cd 445 [1,0,1,0,0])) ((E445 r1.1 (.d (.bool false)) v3 v4 (.d (.int .i64 0))),r1.2)).bind λr5=>popK (C445 c l u H) [1,2,6,7,8] (k445 c l u H) [.bk 0,.sq (cd 445 [1,1])] r5.1 r5.2.1 r5.2.2:=by kernel_rfl
theorem B445_0:stepL (C445 c l u H) [1,2,6,7,8] (cd 445 [1,0,1,0,0]) ((E445 e1 e2 e6 e7 e8),G)=(iBin P .lss 3 e8 e7).bind λv6=>
 br3 v6 ((ixA 2 e6 e8).bind λv7=>(ldN 2 v7 G).bind λv8=>(st 2 H.length H.length (.ptr (G).length 0) v8 ((G)++[Blk.cells 221 [.d (.str []),.d (.str [])]])).bind λh9=>
 o445_0 c l u H 0 (en445_0 G e1 e2 e6 e7 e8 v6 v7 v8) h9) (some (.inr (.exi 0,(E445 e1 e2 e6 e7 e8),G))):=by kernel_rfl
theorem g445_0 (G:Hp) (e1 e2 e6 e7 e8:IV) (h9:Hp) (v6 v7 v8:IV):o445_0 c l u H 0 (en445_0 G e1 e2 e6 e7 e8 v6 v7 v8) h9=(ld1 (.ptr (G).length 0) h9).bind λv10=>
 liftR (c H.length H.length 469 [v10] h9) (λv11 h12=>(iUn .not v11).bind λv13=>
 brN3 v13 (o445_0 c l u H 6 (en445_1 G e1 e2 e6 e7 e8 v6 v7 v8 v10 v11 v13) h12) (o445_0 c l u H 6 (en445_2 G e1 e2 e6 e7 e8 v6 v7 v8 v10 v11 v13) h12) (o445_0 c l u H 6 (List.set (en445_1 G e1 e2 e6 e7 e8 v6 v7 v8 v10 v11 v13) 17 v13) h12)) (λp14 h15=>some (.inr (.pan p14,(E445 e1 e2 e6 e7 e8),h15))):=by
 unfold o445_0
 refine (oG 6).trans ?_
 generalize opsK2 _ _ _=X
 kernel_rfl
theorem g445_1 (G:Hp) (e1 e2 e6 e7 e8:IV) (h12:Hp) (v6 v7 v8 v10 v11 v13:IV):o445_0 c l u H 6 (en445_1 G e1 e2 e6 e7 e8 v6 v7 v8 v10 v11 v13) h12 =
 some (.inr (.ret,(E445 e1 (.d (.bool false)) e6 e7 e8),h12)):=by
 unfold o445_0
 refine (oG 13).trans ?_
 generalize opsK2 _ _ _=X
 kernel_rfl
theorem g445_2 (G:Hp) (e1 e2 e6 e7 e8:IV) (h12:Hp) (v6 v7 v8 v10 v11 v13:IV):o445_0 c l u H 6 (en445_2 G e1 e2 e6 e7 e8 v6 v7 v8 v10 v11 v13) h12=(ld1 (.ptr (G).length 1) h12).bind λv16=>
 liftR (c H.length H.length 277 [v16,.fn 446 [] []] h12) (λv17 h18=>(iUn .not v17).bind λv19=>
 brN3 v19 (o445_0 c l u H 12 (en445_3 G e1 e2 e6 e7 e8 v6 v7 v8 v10 v11 v13 v16 v17 v19) h18) ((ldN 3 e1 h18).bind λv20=>
 o445_0 c l u H 12 (en445_4 G e1 e2 e6 e7 e8 v6 v7 v8 v10 v11 v13 v16 v17 v19 v20) h18) (o445_0 c l u H 12 (List.set (en445_3 G e1 e2 e6 e7 e8 v6 v7 v8 v10 v11 v13 v16 v17 v19) 23 v19) h18)) (λp21 h22=>some (.inr (.pan p21,(E445 e1 e2 e6 e7 e8),h22))):=by
 unfold o445_0
 refine (oG 6).trans ?_
 generalize opsK2 _ _ _=X
 kernel_rfl
theorem g445_3 (G:Hp) (e1 e2 e6 e7 e8:IV) (h18:Hp) (v6 v7 v8 v10 v11 v13 v16 v17 v19:IV):o445_0 c l u H 12 (en445_3 G e1 e2 e6 e7 e8 v6 v7 v8 v10 v11 v13 v16 v17 v19) h18 =
 some (.inr (.ret,(E445 e1 (.d (.bool false)) e6 e7 e8),h18)):=by
 unfold o445_0
 refine (oG 7).trans ?_
 generalize opsK2 _ _ _=X
 kernel_rfl
theorem g445_4 (G:Hp) (e1 e2 e6 e7 e8:IV) (h18:Hp) (v6 v7 v8 v10 v11 v13 v16 v17 v19 v20:IV):o445_0 c l u H 12 (en445_4 G e1 e2 e6 e7 e8 v6 v7 v8 v10 v11 v13 v16 v17 v19 v20) h18=(ld1 (.ptr (G).length 0) h18).bind λv23=>
 liftR (c H.length H.length 443 [v20,v23] h18) (λv24 h25=>(iBin P .neq 3 v24 e8).bind λv26=>
 br3 v26 (some (.inr (.ret,(E445 e1 (.d (.bool false)) e6 e7 e8),h25))) ((iBin P .add 3 e8 (.d (.int .i64 1))).bind λv27=>
 some (.inl ((E445 e1 e2 e6 e7 v27),h25)))) (λp28 h29=>some (.inr (.pan p28,(E445 e1 e2 e6 e7 e8),h29))):=by
 unfold o445_0
 refine (oG 7).trans ?_
 generalize opsK2 _ _ _=X
 kernel_rfl
theorem K445_0x0:popK (C445 c l u H) [1,2,6,7,8] (k445 c l u H) [.bk 0,.sq (cd 445 [1,1])] (.exi 0) (E445 e1 e2 e6 e7 e8) G =
 o445_1 c l u H 0 (en445_5 e1 e2 e6 e7 e8) G:=by kernel_rfl
theorem K445_0r:popK (C445 c l u H) [1,2,6,7,8] (k445 c l u H) [.bk 0,.sq (cd 445 [1,1])] (.ret) (E445 e1 e2 e6 e7 e8) G =
 fin .pure H H.length [e2] G:=by kernel_rfl
theorem g445_5 (G:Hp) (e1 e2 e6 e7 e8:IV):o445_1 c l u H 0 (en445_5 e1 e2 e6 e7 e8) G=(padd e1 0).bind λv30=>(ld1 v30 G).bind λv31=>
 liftR (c H.length H.length 469 [v31] G) (λv32 h33=>
 brN3 v32 ((padd e1 1).bind λv34=>
 o445_1 c l u H 5 (en445_6 e1 e2 e6 e7 e8 v30 v31 v32 v34) h33) (o445_1 c l u H 5 (en445_7 e1 e2 e6 e7 e8 v30 v31 v32) h33) (o445_1 c l u H 5 (List.set (en445_7 e1 e2 e6 e7 e8 v30 v31 v32) 35 v32) h33)) (λp35 h36=>finP .pure H H.length p35 h36):=by
 unfold o445_1
 refine (oG 5).trans ?_
 generalize opsK2 _ _ _=X
 kernel_rfl
theorem g445_6:o445_1 c l u H 5 (en445_6 e1 e2 e6 e7 e8 v30 v31 v32 v34) h33=(ld1 v34 h33).bind λv37=>
 liftR (c H.length H.length 469 [v37] h33) (λv38 h39=>
 fin .pure H H.length [v38] h39) (λp40 h41=>finP .pure H H.length p40 h41):=by
 unfold o445_1
 refine (oG 5).trans ?_
 generalize opsK2 _ _ _=X
 kernel_rfl
theorem g445_7:o445_1 c l u H 5 (en445_7 e1 e2 e6 e7 e8 v30 v31 v32) h33 =
 fin .pure H H.length [.d (.bool false)] h33:=by
 unfold o445_1
 refine (oG 5).trans ?_
 generalize opsK2 _ _ _=X
 kernel_rfl
end
section
variable (a0:List UInt8)(h2:Hp)(v1:IV)
abbrev C469 (c:Oracle)(l u:Nat)(H:Hp):Ctx:=⟨P,tab,c,H.length,H.length⟩
abbrev k469 (c:Oracle)(l u:Nat)(H:Hp):KR:=endK P (fnOf 469) .pure H H.length
def en469_0:Env:=mkE 11 [(0,.d (.str a0)),(2,.d (.bool false))]
def q469_0 (c:Oracle)(l u:Nat)(H:Hp):KR:=popK (C469 c l u H) [] (k469 c l u H) [.sq (cd 469 [1,1])]
def o469_0 (c:Oracle)(l u:Nat)(H:Hp) (n:Nat) (e:Env) (G:Hp):Res:=opsK2 (C469 c l u H) none (rg 469 [1,0]) (dr 469 [1,0] n) e G (q469_0 c l u H)
def en469_1:Env:=mkE 11 [(0,.d (.str a0)),(2,.d (.bool false)),(3,.d (.str a0)),(4,v1),(5,.d (.bool true)),(6,.d (.str a0))]
def en469_2:Env:=mkE 11 [(0,.d (.str a0)),(2,.d (.bool false)),(3,.d (.str a0)),(4,v1),(5,.d (.bool false)),(6,.no)]
theorem R469:bodyK2 P tab c l u 469 [.d (.str a0)] H =
 o469_0 c l u H 0 (en469_0 a0) H:=by kernel_rfl
theorem g469_0:o469_0 c l u H 0 (en469_0 a0) H =
 liftR (c H.length H.length 441 [.d (.str a0)] H) (λv1 h2=>
 brN3 v1 (o469_0 c l u H 4 (en469_1 a0 v1) h2) (o469_0 c l u H 4 (en469_2 a0 v1) h2) (o469_0 c l u H 4 (List.set (en469_2 a0 v1) 5 v1) h2)) (λp3 h4=>finP .pure H H.length p3 h4):=by
 unfold o469_0
 refine (oG 4).trans ?_
 generalize opsK2 _ _ _=X
 kernel_rfl
theorem g469_1:o469_0 c l u H 4 (en469_1 a0 v1) h2 =
 liftR (c H.length H.length 351 [.d (.str a0)] h2) (λv5 h6=>(iBin P .eql 9 v5 (.d (.str a0))).bind λv7=>
 fin .pure H H.length [v7] h6) (λp8 h9=>finP .pure H H.length p8 h9):=by
 unfold o469_0
 refine (oG 6).trans ?_
 generalize opsK2 _ _ _=X
 kernel_rfl
theorem g469_2:o469_0 c l u H 4 (en469_2 a0 v1) h2 =
 fin .pure H H.length [.d (.bool false)] h2:=by
 unfold o469_0
 refine (oG 6).trans ?_
 generalize opsK2 _ _ _=X
 kernel_rfl
end
abbrev C466 (c:Oracle)(l u:Nat)(H:Hp):Ctx:=⟨P,tab,c,H.length,u⟩
abbrev k466 (c:Oracle)(l u:Nat)(H:Hp):KR:=endK P (fnOf 466) .mut H u
def en466_0 (b0:Nat) (v1 v3 v4:IV):Env:=mkE 29 [(0,.ptr b0 0),(2,.d (.str [])),(3,.d (.bool false)),(4,v3),(5,v4),(8,v1),(9,.ptr b0 0),(10,v1),(11,v3),(12,v4)]
def q466_0 (c:Oracle)(l u:Nat)(H:Hp):KR:=popK (C466 c l u H) [] (k466 c l u H) [.sq (cd 466 [1,0,1,1]),.sq (cd 466 [1,1])]
def o466_0 (c:Oracle)(l u:Nat)(H:Hp) (n:Nat) (e:Env) (G:Hp):Res:=opsK2 (C466 c l u H) none (rg 466 [1,0,1,0]) (dr 466 [1,0,1,0] n) e G (q466_0 c l u H)
def en466_1 (b0:Nat) (v1 v3 v4:IV):Env:=mkE 29 [(0,.ptr b0 0),(2,.d (.str [])),(3,.d (.bool false)),(4,v3),(5,v4),(8,v1),(9,.ptr b0 0),(10,v1),(11,v3),(12,v4),(13,v4),(14,.d (.bool true)),(15,v3)]
def en466_2 (b0:Nat) (v1 v3 v4:IV):Env:=mkE 29 [(0,.ptr b0 0),(2,.d (.str [])),(3,.d (.bool false)),(4,v3),(5,v4),(8,v1),(9,.ptr b0 0),(10,v1),(11,v3),(12,v4),(13,v4),(14,.d (.bool false)),(15,.no)]
theorem R466 (b0:Nat):bodyK2 P tab c l u 466 [.ptr b0 0] H =
 liftR (c H.length u 373 [.ptr b0 0,.d (.int .i64 0)] H) (λv1 h2=>(iExtract v1 0).bind λv3=>(iExtract v1 1).bind λv4=>
 o466_0 c l u H 0 (en466_0 b0 v1 v3 v4) h2) (λp5 h6=>finP .mut H u p5 h6):=by kernel_rfl
theorem g466_0 (b0:Nat) (h2:Hp) (v1 v3 v4:IV):o466_0 c l u H 0 (en466_0 b0 v1 v3 v4) h2 =
 brN3 v4 (o466_0 c l u H 3 (en466_1 b0 v1 v3 v4) h2) (o466_0 c l u H 3 (en466_2 b0 v1 v3 v4) h2) (o466_0 c l u H 3 (List.set (en466_2 b0 v1 v3 v4) 14 v4) h2):=by
 unfold o466_0
 refine (oG 3).trans ?_
 generalize opsK2 _ _ _=X
 kernel_rfl
theorem g466_1 (b0:Nat) (h2:Hp) (v1 v3 v4:IV):o466_0 c l u H 3 (en466_1 b0 v1 v3 v4) h2=(iBin P .eql 5 v3 (.d (.int .u8 34))).bind λv7=>
 br3 v7 (liftR (c H.length u 486 [.ptr b0 0,.d (.bool true)] h2) (λv8 h9=>
 liftR (c H.length u 334 [.ptr b0 0,.d (.str [59])] h9) (λv10 h11=>
 fin .mut H u [v8,.d (.bool true)] h11) (λp12 h13=>finP .mut H u p12 h13)) (λp14 h15=>finP .mut H u p14 h15)) (liftR (c H.length u 334 [.ptr b0 0,.d (.str [59])] h2) (λv16 h17=>
 liftR (c H.length u 440 [v16] h17) (λv18 h19=>(iBin P .neq 9 v18 (.d (.str []))).bind λv20=>
 fin .mut H u [v18,v20] h19) (λp21 h22=>finP .mut H u p21 h22)) (λp23 h24=>finP .mut H u p23 h24)):=by
 unfold o466_0
 refine (oG 3).trans ?_
 generalize opsK2 _ _ _=X
 kernel_rfl
theorem g466_2 (b0:Nat) (h2:Hp) (v1 v3 v4:IV):o466_0 c l u H 3 (en466_2 b0 v1 v3 v4) h2 =
 liftR (c H.length u 334 [.ptr b0 0,.d (.str [59])] h2) (λv25 h26=>
 liftR (c H.length u 440 [v25] h26) (λv27 h28=>(iBin P .neq 9 v27 (.d (.str []))).bind λv29=>
 fin .mut H u [v27,v29] h28) (λp30 h31=>finP .mut H u p30 h31)) (λp32 h33=>finP .mut H u p32 h33):=by
 unfold o466_0
 refine (oG 3).trans ?_
 generalize opsK2 _ _ _=X
 kernel_rfl
abbrev C442 (c:Oracle)(l u:Nat)(H:Hp):Ctx:=⟨P,tab,c,H.length,u⟩
abbrev k442 (c:Oracle)(l u:Nat)(H:Hp):KR:=endK P (fnOf 442) .mut H u
def en442_0 (H:Hp) (b0:Nat) (h6:Hp) (v1 v3 v5 v7:IV):Env:=mkE 39 [(0,.ptr b0 0),(2,.ptr H.length 0),(3,.d (.bool false)),(4,.ptr h6.length 0),(7,.ptr b0 0),(8,v1),(9,.ptr b0 0),(10,v3),(11,v5),(12,v7)]
def q442_0 (c:Oracle)(l u:Nat)(H:Hp):KR:=popK (C442 c l u H) [] (k442 c l u H) [.sq (cd 442 [1,1,1,0,1]),.sq (cd 442 [1,1,1,1])]
def o442_0 (c:Oracle)(l u:Nat)(H:Hp) (n:Nat) (e:Env) (G:Hp):Res:=opsK2 (C442 c l u H) none (rg 442 [1,1,1,0,0]) (dr 442 [1,1,1,0,0] n) e G (q442_0 c l u H)
def en442_1 (H:Hp) (b0:Nat) (h6:Hp) (v1 v3 v5 v7 v15 v17:IV):Env:=upE (en442_0 H b0 h6 v1 v3 v5 v7) [(13,.ptr b0 0),(14,v15),(15,v17),(16,.d (.bool true)),(17,.no)]
def en442_2 (H:Hp) (b0:Nat) (h6:Hp) (v1 v3 v5 v7 v15 v17:IV):Env:=upE (en442_1 H b0 h6 v1 v3 v5 v7 v15 v17) [(16,.d (.bool false)),(17,.ptr b0 0)]
def en442_3 (H:Hp) (b0:Nat) (h6:Hp) (v1 v3 v5 v7 v15 v17 v25 v32 v34 v35:IV):Env:=upE (en442_2 H b0 h6 v1 v3 v5 v7 v15 v17) [(5,v34),(6,v35),(18,v25),(19,v25),(21,v32),(22,.ptr b0 0),(23,v32),(24,v34),(25,v35),(26,v34),(27,.ptr h6.length 1)]
def q442_1 (c:Oracle)(l u:Nat)(H:Hp):KR:=popK (C442 c l u H) [] (k442 c l u H) [.sq (cd 442 [1,1,1,1,1,1,1])]
def o442_1 (c:Oracle)(l u:Nat)(H:Hp) (n:Nat) (e:Env) (G:Hp):Res:=opsK2 (C442 c l u H) (some true) (rg 442 [1,1,1,1,1,1,0]) (dr 442 [1,1,1,1,1,1,0] n) e G (q442_1 c l u H)
def en442_4 (H:Hp) (b0:Nat) (h6:Hp) (v1 v3 v5 v7 v15 v17 v25 v32 v34 v35 v41:IV):Env:=upE (en442_3 H b0 h6 v1 v3 v5 v7 v15 v17 v25 v32 v34 v35) [(28,v41),(29,v35),(30,.d (.bool true)),(31,.ptr h6.length 0)]
def en442_5 (H:Hp) (b0:Nat) (h6:Hp) (v1 v3 v5 v7 v15 v17 v25 v32 v34 v35 v41:IV):Env:=upE (en442_4 H b0 h6 v1 v3 v5 v7 v15 v17 v25 v32 v34 v35 v41) [(30,.d (.bool false)),(31,.no)]
def en442_6 (H:Hp) (b0:Nat) (h6:Hp) (v1 v3 v5 v7 v15 v17 v25 v32 v34 v35 v41 v42 v43:IV):Env:=upE (en442_4 H b0 h6 v1 v3 v5 v7 v15 v17 v25 v32 v34 v35 v41) [(32,v42),(33,v43),(34,v43),(35,.d (.bool true)),(36,v34)]
def en442_7 (H:Hp) (b0:Nat) (h6:Hp) (v1 v3 v5 v7 v15 v17 v25 v32 v34 v35 v41 v42 v43:IV):Env:=upE (en442_6 H b0 h6 v1 v3 v5 v7 v15 v17 v25 v32 v34 v35 v41 v42 v43) [(35,.d (.bool false)),(36,.no)]
theorem R442 (b0:Nat):bodyK2 P tab c l u 442 [.ptr b0 0] H =
 liftR (c H.length u 331 [.ptr b0 0,.fn 332 [] []] (H++[Blk.cells 221 [.d (.str []),.d (.str [])]])) (λv1 h2=>
 liftR (c H.length u 334 [.ptr b0 0,.d (.str [59,61])] h2) (λv3 h4=>
 liftR (c H.length u 351 [v3] h4) (λv5 h6=>(iBuild P 110 [(0,v5)]).bind λv7=>(st 2 H.length u (.ptr h6.length 0) v7 (h6++[Blk.cells 221 [.d (.str []),.d (.str [])]])).bind λh8=>
 o442_0 c l u H 0 (en442_0 H b0 h6 v1 v3 v5 v7) h8) (λp9 h10=>finP .mut H u p9 h10)) (λp11 h12=>finP .mut H u p11 h12)) (λp13 h14=>finP .mut H u p13 h14):=by kernel_rfl
theorem g442_0 (b0:Nat) (h6 h8:Hp) (v1 v3 v5 v7:IV):o442_0 c l u H 0 (en442_0 H b0 h6 v1 v3 v5 v7) h8 =
 liftR (c H.length u 317 [.ptr b0 0,.d (.str [61])] h8) (λv15 h16=>(iUn .not v15).bind λv17=>
 brN3 v17 (o442_0 c l u H 5 (en442_1 H b0 h6 v1 v3 v5 v7 v15 v17) h16) (o442_0 c l u H 5 (en442_2 H b0 h6 v1 v3 v5 v7 v15 v17) h16) (o442_0 c l u H 5 (List.set (en442_1 H b0 h6 v1 v3 v5 v7 v15 v17) 16 v17) h16)) (λp18 h19=>finP .mut H u p18 h19):=by
 unfold o442_0
 refine (oG 5).trans ?_
 generalize opsK2 _ _ _=X
 kernel_rfl
theorem g442_1 (b0:Nat) (h6 h16:Hp) (v1 v3 v5 v7 v15 v17:IV):o442_0 c l u H 5 (en442_1 H b0 h6 v1 v3 v5 v7 v15 v17) h16=(ldN 2 (.ptr h6.length 0) h16).bind λv20=>(st 2 H.length u (.ptr H.length 0) v20 h16).bind λh21=>((ldN 2 (.ptr H.length 0) h21).bind λv22=>(some [.d (.bool false)]:Option (List IV)).map λl23=>v22::l23).bind λl24=>fin .mut H u l24 h21:=by
 unfold o442_0
 refine (oG 3).trans ?_
 generalize opsK2 _ _ _=X
 kernel_rfl
theorem g442_2 (b0:Nat) (h6 h16:Hp) (v1 v3 v5 v7 v15 v17:IV):o442_0 c l u H 5 (en442_2 H b0 h6 v1 v3 v5 v7 v15 v17) h16 =
 liftR (c H.length u 382 [.ptr b0 0] h16) (λv25 h26=>
 br3 v25 ((ldN 2 (.ptr h6.length 0) h26).bind λv27=>(st 2 H.length u (.ptr H.length 0) v27 h26).bind λh28=>((ldN 2 (.ptr H.length 0) h28).bind λv29=>(some [.d (.bool false)]:Option (List IV)).map λl30=>v29::l30).bind λl31=>fin .mut H u l31 h28) (liftR (c H.length u 466 [.ptr b0 0] h26) (λv32 h33=>(iExtract v32 0).bind λv34=>(iExtract v32 1).bind λv35=>(st 1 H.length u (.ptr h6.length 1) v34 h33).bind λh36=>
 o442_1 c l u H 0 (en442_3 H b0 h6 v1 v3 v5 v7 v15 v17 v25 v32 v34 v35) h36) (λp37 h38=>finP .mut H u p37 h38))) (λp39 h40=>finP .mut H u p39 h40):=by
 unfold o442_0 o442_1
 refine (oG 3).trans ?_
 generalize opsK2 _ _ _=X
 kernel_rfl
theorem g442_3 (b0:Nat) (h6 h36:Hp) (v1 v3 v5 v7 v15 v17 v25 v32 v34 v35:IV):o442_1 c l u H 0 (en442_3 H b0 h6 v1 v3 v5 v7 v15 v17 v25 v32 v34 v35) h36=(ldN 2 (.ptr h6.length 0) h36).bind λv41=>
 brN3 v35 (o442_1 c l u H 4 (en442_4 H b0 h6 v1 v3 v5 v7 v15 v17 v25 v32 v34 v35 v41) h36) (o442_1 c l u H 4 (en442_5 H b0 h6 v1 v3 v5 v7 v15 v17 v25 v32 v34 v35 v41) h36) (o442_1 c l u H 4 (List.set (en442_5 H b0 h6 v1 v3 v5 v7 v15 v17 v25 v32 v34 v35 v41) 30 v35) h36):=by
 unfold o442_1
 refine (oG 4).trans ?_
 generalize opsK2 _ _ _=X
 kernel_rfl
theorem g442_4 (b0:Nat) (h6 h36:Hp) (v1 v3 v5 v7 v15 v17 v25 v32 v34 v35 v41:IV):o442_1 c l u H 4 (en442_4 H b0 h6 v1 v3 v5 v7 v15 v17 v25 v32 v34 v35 v41) h36=(ld1 (.ptr h6.length 0) h36).bind λv42=>
 liftR (c H.length u 441 [v42] h36) (λv43 h44=>
 brN3 v43 (o442_1 c l u H 9 (en442_6 H b0 h6 v1 v3 v5 v7 v15 v17 v25 v32 v34 v35 v41 v42 v43) h44) (o442_1 c l u H 9 (en442_7 H b0 h6 v1 v3 v5 v7 v15 v17 v25 v32 v34 v35 v41 v42 v43) h44) (o442_1 c l u H 9 (List.set (en442_7 H b0 h6 v1 v3 v5 v7 v15 v17 v25 v32 v34 v35 v41 v42 v43) 35 v43) h44)) (λp45 h46=>none):=by
 unfold o442_1
 refine (oG 5).trans ?_
 generalize opsK2 _ _ _=X
 kernel_rfl
theorem g442_5 (b0:Nat) (h6 h36:Hp) (v1 v3 v5 v7 v15 v17 v25 v32 v34 v35 v41:IV):o442_1 c l u H 4 (en442_5 H b0 h6 v1 v3 v5 v7 v15 v17 v25 v32 v34 v35 v41) h36=(st 2 H.length u (.ptr H.length 0) v41 h36).bind λh47=>((ldN 2 (.ptr H.length 0) h47).bind λv48=>(some [.d (.bool false)]:Option (List IV)).map λl49=>v48::l49).bind λl50=>fin .mut H u l50 h47:=by
 unfold o442_1
 refine (oG 10).trans ?_
 generalize opsK2 _ _ _=X
 kernel_rfl
theorem g442_6 (b0:Nat) (h6 h44:Hp) (v1 v3 v5 v7 v15 v17 v25 v32 v34 v35 v41 v42 v43:IV):o442_1 c l u H 9 (en442_6 H b0 h6 v1 v3 v5 v7 v15 v17 v25 v32 v34 v35 v41 v42 v43) h44 =
 liftR (c H.length u 277 [v34,.fn 446 [] []] h44) (λv51 h52=>(st 2 H.length u (.ptr H.length 0) v41 h52).bind λh53=>((ldN 2 (.ptr H.length 0) h53).bind λv54=>(some [v51]:Option (List IV)).map λl55=>v54::l55).bind λl56=>fin .mut H u l56 h53) (λp57 h58=>none):=by
 unfold o442_1
 refine (oG 5).trans ?_
 generalize opsK2 _ _ _=X
 kernel_rfl
theorem g442_7 (b0:Nat) (h6 h44:Hp) (v1 v3 v5 v7 v15 v17 v25 v32 v34 v35 v41 v42 v43:IV):o442_1 c l u H 9 (en442_7 H b0 h6 v1 v3 v5 v7 v15 v17 v25 v32 v34 v35 v41 v42 v43) h44=(st 2 H.length u (.ptr H.length 0) v41 h44).bind λh59=>((ldN 2 (.ptr H.length 0) h59).bind λv60=>(some [.d (.bool false)]:Option (List IV)).map λl61=>v60::l61).bind λl62=>fin .mut H u l62 h59:=by
 unfold o442_1
 refine (oG 5).trans ?_
 generalize opsK2 _ _ _=X
 kernel_rfl
section
variable (a0:List UInt8)(e2 e4 e5:IV)(G h8 h19 h43 h65 h68:Hp)(v1 v3 v5 v7 v9 v11 v13 v15 v17 v36 v41 v42 v44 v62 v64 v66 v67 v73:IV)
abbrev C411 (c:Oracle)(l u:Nat)(H:Hp):Ctx:=⟨P,tab,c,H.length,H.length⟩
abbrev k411 (c:Oracle)(l u:Nat)(H:Hp):KR:=endK P (fnOf 411) .pure H H.length
def E411:Env:=[.un,.un,e2,.un,e4,e5,.un,.un,.un,.un,.un,.un,.un,.un,.un,.un,.un,.un,.un,.un,.un,.un,.un,.un,.un,.un,.un,.un,.un,.un,.un,.un,.un,.un,.un,.un,.un,.un,.un,.un,.un,.un,.un,.un,.un,.un,.un,.un,.un,.un,.un,.un,.un,.un,.un,.un,.un,.un,.un,.un]
def en411_0 (H:Hp) (a0:List UInt8) (h8:Hp) (v1 v3 v5 v7 v9 v11 v13 v15 v17:IV):Env:=mkE 60 [(0,.d (.str a0)),(2,.ptr H.length 0),(3,.d (.int .i64 0)),(4,v3),(5,.ptr h8.length 0),(6,v11),(9,.d (.str a0)),(10,v1),(11,v3),(12,v3),(13,v5),(14,v7),(15,v9),(16,v3),(17,v11),(18,v3),(19,v13),(20,v15),(21,v17),(22,.ptr h8.length 1)]
def q411_0 (c:Oracle)(l u:Nat)(H:Hp):KR:=popK (C411 c l u H) [2,4,5] (k411 c l u H) [.sq (cd 411 [1,1,1,1,1,0,1]),.sq (cd 411 [1,1,1,1,1,1])]
def o411_0 (c:Oracle)(l u:Nat)(H:Hp) (n:Nat) (e:Env) (G:Hp):Res:=opsK2 (C411 c l u H) none (rg 411 [1,1,1,1,1,0,0]) (dr 411 [1,1,1,1,1,0,0] n) e G (q411_0 c l u H)
def en411_1 (H:Hp) (a0:List UInt8) (h8:Hp) (v1 v3 v5 v7 v9 v11 v13 v15 v17 v36:IV):Env:=upE (en411_0 H a0 h8 v1 v3 v5 v7 v9 v11 v13 v15 v17) [(23,v11),(24,v36),(25,.d (.bool true)),(26,.no)]
def en411_2 (H:Hp) (a0:List UInt8) (h8:Hp) (v1 v3 v5 v7 v9 v11 v13 v15 v17 v36:IV):Env:=upE (en411_1 H a0 h8 v1 v3 v5 v7 v9 v11 v13 v15 v17 v36) [(25,.d (.bool false)),(26,.ptr h8.length 0)]
def en411_3 (H:Hp) (a0:List UInt8) (h8:Hp) (v1 v3 v5 v7 v9 v11 v13 v15 v17 v36 v41 v42 v44:IV):Env:=upE (en411_2 H a0 h8 v1 v3 v5 v7 v9 v11 v13 v15 v17 v36) [(27,v41),(28,v42),(29,v44),(30,v44),(31,.d (.bool true)),(32,.no)]
def en411_4 (H:Hp) (a0:List UInt8) (h8:Hp) (v1 v3 v5 v7 v9 v11 v13 v15 v17 v36 v41 v42 v44:IV):Env:=upE (en411_3 H a0 h8 v1 v3 v5 v7 v9 v11 v13 v15 v17 v36 v41 v42 v44) [(31,.d (.bool false)),(32,.ptr h8.length 1)]
def en411_5:Env:=mkE 60 [(2,e2),(4,e4),(5,e5),(7,.ptr h65.length 0),(8,v67),(38,e4),(39,v62),(40,v64),(41,e4),(42,v64),(43,v66),(44,v67)]
def q411_1 (c:Oracle)(l u:Nat)(H:Hp):Ex→Env→Hp→OS:=popK (C411 c l u H) [2,4,5] (stepK [2,4,5]) [.sq (cd 411 [1,1,1,1,1,1,0,0,0,1,0,1,1]),.bk 1]
def o411_1 (c:Oracle)(l u:Nat)(H:Hp) (n:Nat) (e:Env) (G:Hp):OS:=opsK2 (C411 c l u H) none (rg 411 [1,1,1,1,1,1,0,0,0,1,0,1,0]) (dr 411 [1,1,1,1,1,1,0,0,0,1,0,1,0] n) e G (q411_1 c l u H)
def en411_6:Env:=upE (en411_5 e2 e4 e5 h65 v62 v64 v66 v67) [(45,v67),(46,.d (.bool true)),(47,v73)]
def en411_7:Env:=upE (en411_5 e2 e4 e5 h65 v62 v64 v66 v67) [(45,v67),(46,.d (.bool false)),(47,.no)]
theorem R411:bodyK2 P tab c l u 411 [.d (.str a0)] H =
 liftR (c H.length H.length 279 [.d (.str a0)] (H++[Blk.cells 69 [.d (.str []),.d (.str []),.vnil]])) (λv1 h2=>
 liftR (c H.length H.length 254 [v1] h2) (λv3 h4=>
 liftR (c H.length H.length 334 [v3,.d (.str [47])] h4) (λv5 h6=>
 liftR (c H.length H.length 351 [v5] h6) (λv7 h8=>(iBuild P 34 [(0,v7)]).bind λv9=>(st 3 H.length H.length (.ptr h8.length 0) v9 (h8++[Blk.cells 69 [.d (.str []),.d (.str []),.vnil]])).bind λh10=>
 liftR (c H.length H.length 317 [v3,.d (.str [47])] h10) (λv11 h12=>
 liftR (c H.length H.length 334 [v3,.d (.str [59])] h12) (λv13 h14=>
 liftR (c H.length H.length 440 [v13] h14) (λv15 h16=>
 liftR (c H.length H.length 351 [v15] h16) (λv17 h18=>(st 1 H.length H.length (.ptr h8.length 1) v17 h18).bind λh19=>
 o411_0 c l u H 0 (en411_0 H a0 h8 v1 v3 v5 v7 v9 v11 v13 v15 v17) h19) (λp20 h21=>finP .pure H H.length p20 h21)) (λp22 h23=>finP .pure H H.length p22 h23)) (λp24 h25=>finP .pure H H.length p24 h25)) (λp26 h27=>finP .pure H H.length p26 h27)) (λp28 h29=>finP .pure H H.length p28 h29)) (λp30 h31=>finP .pure H H.length p30 h31)) (λp32 h33=>finP .pure H H.length p32 h33)) (λp34 h35=>finP .pure H H.length p34 h35):=by kernel_rfl
theorem g411_0:o411_0 c l u H 0 (en411_0 H a0 h8 v1 v3 v5 v7 v9 v11 v13 v15 v17) h19=(iUn .not v11).bind λv36=>
 brN3 v36 (o411_0 c l u H 4 (en411_1 H a0 h8 v1 v3 v5 v7 v9 v11 v13 v15 v17 v36) h19) (o411_0 c l u H 4 (en411_2 H a0 h8 v1 v3 v5 v7 v9 v11 v13 v15 v17 v36) h19) (o411_0 c l u H 4 (List.set (en411_1 H a0 h8 v1 v3 v5 v7 v9 v11 v13 v15 v17 v36) 25 v36) h19):=by
 unfold o411_0
 refine (oG 4).trans ?_
 generalize opsK2 _ _ _=X
 kernel_rfl
theorem g411_1:o411_0 c l u H 4 (en411_1 H a0 h8 v1 v3 v5 v7 v9 v11 v13 v15 v17 v36) h19=(st 3 H.length H.length (.ptr H.length 0) (.agg [.d (.str []),.d (.str []),.vnil]) h19).bind λh37=>((ldN 3 (.ptr H.length 0) h37).bind λv38=>(some [.d (.int .i64 2)]:Option (List IV)).map λl39=>v38::l39).bind λl40=>fin .pure H H.length l40 h37:=by
 unfold o411_0
 refine (oG 11).trans ?_
 generalize opsK2 _ _ _=X
 kernel_rfl
theorem g411_2:o411_0 c l u H 4 (en411_2 H a0 h8 v1 v3 v5 v7 v9 v11 v13 v15 v17 v36) h19=(ld1 (.ptr h8.length 0) h19).bind λv41=>
 liftR (c H.length H.length 441 [v41] h19) (λv42 h43=>(iUn .not v42).bind λv44=>
 brN3 v44 (o411_0 c l u H 10 (en411_3 H a0 h8 v1 v3 v5 v7 v9 v11 v13 v15 v17 v36 v41 v42 v44) h43) (o411_0 c l u H 10 (en411_4 H a0 h8 v1 v3 v5 v7 v9 v11 v13 v15 v17 v36 v41 v42 v44) h43) (o411_0 c l u H 10 (List.set (en411_3 H a0 h8 v1 v3 v5 v7 v9 v11 v13 v15 v17 v36 v41 v42 v44) 31 v44) h43)) (λp45 h46=>finP .pure H H.length p45 h46):=by
 unfold o411_0
 refine (oG 6).trans ?_
 generalize opsK2 _ _ _=X
 kernel_rfl
theorem g411_3:o411_0 c l u H 10 (en411_3 H a0 h8 v1 v3 v5 v7 v9 v11 v13 v15 v17 v36 v41 v42 v44) h43=(st 3 H.length H.length (.ptr H.length 0) (.agg [.d (.str []),.d (.str []),.vnil]) h43).bind λh47=>((ldN 3 (.ptr H.length 0) h47).bind λv48=>(some [.d (.int .i64 2)]:Option (List IV)).map λl49=>v48::l49).bind λl50=>fin .pure H H.length l50 h47:=by
 unfold o411_0
 refine (oG 5).trans ?_
 generalize opsK2 _ _ _=X
 kernel_rfl
theorem g411_4:o411_0 c l u H 10 (en411_4 H a0 h8 v1 v3 v5 v7 v9 v11 v13 v15 v17 v36 v41 v42 v44) h43=(ld1 (.ptr h8.length 1) h43).bind λv51=>
 liftR (c H.length H.length 441 [v51] h43) (λv52 h53=>(iUn .not v52).bind λv54=>
 br3 v54 ((st 3 H.length H.length (.ptr H.length 0) (.agg [.d (.str []),.d (.str []),.vnil]) h53).bind λh55=>((ldN 3 (.ptr H.length 0) h55).bind λv56=>(some [.d (.int .i64 2)]:Option (List IV)).map λl57=>v56::l57).bind λl58=>fin .pure H H.length l58 h55) ((loopW (stepL (C411 c l u H) [2,4,5] (cd 411 [1,1,1,1,1,1,0,0,0])) ((E411 (.ptr H.length 0) v3 (.ptr h8.length 0)),h53)).bind λr59=>popK (C411 c l u H) [2,4,5] (k411 c l u H) [.bk 0,.sq (cd 411 [1,1,1,1,1,1,1])] r59.1 r59.2.1 r59.2.2)) (λp60 h61=>finP .pure H H.length p60 h61):=by
 unfold o411_0
 refine (oG 5).trans ?_
 generalize opsK2 _ _ _=X
 kernel_rfl
theorem B411_0:stepL (C411 c l u H) [2,4,5] (cd 411 [1,1,1,1,1,1,0,0,0]) ((E411 e2 e4 e5),G) =
 liftR (c H.length H.length 317 [e4,.d (.str [59])] G) (λv62 h63=>
 br3 v62 (liftR (c H.length H.length 442 [e4] h63) (λv64 h65=>(iExtract v64 0).bind λv66=>(iExtract v64 1).bind λv67=>(st 2 H.length H.length (.ptr h65.length 0) v66 (h65++[Blk.cells 221 [.d (.str []),.d (.str [])]])).bind λh68=>
 o411_1 c l u H 0 (en411_5 e2 e4 e5 h65 v62 v64 v66 v67) h68) (λp69 h70=>some (.inr (.pan p69,(E411 e2 e4 e5),h70)))) (some (.inr (.exi 0,(E411 e2 e4 e5),h63)))) (λp71 h72=>some (.inr (.pan p71,(E411 e2 e4 e5),h72))):=by kernel_rfl
theorem g411_5:o411_1 c l u H 0 (en411_5 e2 e4 e5 h65 v62 v64 v66 v67) h68 =
 brN3 v67 ((ldN 3 e5 h68).bind λv73=>
 o411_1 c l u H 3 (en411_6 e2 e4 e5 h65 v62 v64 v66 v67 v73) h68) (o411_1 c l u H 3 (en411_7 e2 e4 e5 h65 v62 v64 v66 v67) h68) (o411_1 c l u H 3 (List.set (en411_7 e2 e4 e5 h65 v62 v64 v66 v67) 46 v67) h68):=by
 unfold o411_1
 refine (oG 3).trans ?_
 generalize opsK2 _ _ _=X
 kernel_rfl
theorem g411_6:o411_1 c l u H 3 (en411_6 e2 e4 e5 h65 v62 v64 v66 v67 v73) h68=(ld1 (.ptr h65.length 0) h68).bind λv74=>
 liftR (c H.length H.length 443 [v73,v74] h68) (λv75 h76=>(iBin P .lss 3 v75 (.d (.int .i64 0))).bind λv77=>
 br3 v77 ((padd e5 2).bind λv78=>(ld1 v78 h76).bind λv79=>(ldN 2 (.ptr h65.length 0) h76).bind λv80=>(iBuildSlice P 32 1 [(0,v80)] h76).bind λr81=>(app 110 2 H.length v79 r81.1 r81.2).bind λr82=>(padd e5 2).bind λv83=>(st 1 H.length H.length v83 r82.1 r82.2).bind λh84=>
 some (.inl ((E411 e2 e4 e5),h84))) (some (.inl ((E411 e2 e4 e5),h76)))) (λp85 h86=>some (.inr (.pan p85,(E411 e2 e4 e5),h86))):=by
 unfold o411_1
 refine (oG 6).trans ?_
 generalize opsK2 _ _ _=X
 kernel_rfl
theorem g411_7:o411_1 c l u H 3 (en411_7 e2 e4 e5 h65 v62 v64 v66 v67) h68 =
 some (.inl ((E411 e2 e4 e5),h68)):=by
 unfold o411_1
 refine (oG 6).trans ?_
 generalize opsK2 _ _ _=X
 kernel_rfl
theorem K411_0x0:popK (C411 c l u H) [2,4,5] (k411 c l u H) [.bk 0,.sq (cd 411 [1,1,1,1,1,1,1])] (.exi 0) (E411 e2 e4 e5) G=(ldN 3 e5 G).bind λv87=>(st 3 H.length H.length e2 v87 G).bind λh88=>((ldN 3 e2 h88).bind λv89=>(some [.d (.int .i64 0)]:Option (List IV)).map λl90=>v89::l90).bind λl91=>fin .pure H H.length l91 h88:=by kernel_rfl
end
theorem R351 (a0:List UInt8):bodyK2 P tab c l u 351 [.d (.str a0)] H =
 liftR (c H.length H.length 401 [.d (.str a0)] H) (λv1 h2=>
 fin .pure H H.length [v1] h2) (λp3 h4=>finP .pure H H.length p3 h4):=by kernel_rfl
section
variable (a0:List UInt8)(e3 e8 e9:IV)(G:Hp)
abbrev C401 (c:Oracle)(l u:Nat)(H:Hp):Ctx:=⟨P,tab,c,H.length,H.length⟩
abbrev k401 (c:Oracle)(l u:Nat)(H:Hp):KR:=endK P (fnOf 401) .pure H H.length
def E401:Env:=[.un,.un,.un,e3,.un,.un,.un,.un,e8,e9,.un,.un,.un,.un,.un,.un,.un,.un,.un,.un,.un,.un,.un]
theorem R401:bodyK2 P tab c l u 401 [.d (.str a0)] H=(sbyt 5 (.d (.str a0)) H).bind λr1=>(lnV r1.1).bind λv2=>(loopW (stepL (C401 c l u H) [3,8,9] (cd 401 [1,1,0,1,0,0])) ((E401 r1.1 v2 (.d (.int .i64 0))),r1.2)).bind λr3=>popK (C401 c l u H) [3,8,9] (k401 c l u H) [.bk 0,.sq (cd 401 [1,1,1])] r3.1 r3.2.1 r3.2.2:=by kernel_rfl
theorem B401_0:stepL (C401 c l u H) [3,8,9] (cd 401 [1,1,0,1,0,0]) ((E401 e3 e8 e9),G)=(iBin P .lss 3 e9 e8).bind λv4=>
 br3 v4 ((ixA 1 e3 e9).bind λv5=>(ld1 v5 G).bind λv6=>
 liftR (c H.length H.length 377 [v6] G) (λv7 h8=>(ixA 1 e3 e9).bind λv9=>(st 1 H.length H.length v9 v7 h8).bind λh10=>(iBin P .add 3 e9 (.d (.int .i64 1))).bind λv11=>
 some (.inl ((E401 e3 e8 v11),h10))) (λp12 h13=>some (.inr (.pan p12,(E401 e3 e8 e9),h13)))) (some (.inr (.exi 0,(E401 e3 e8 e9),G))):=by kernel_rfl
theorem K401_0x0:popK (C401 c l u H) [3,8,9] (k401 c l u H) [.bk 0,.sq (cd 401 [1,1,1])] (.exi 0) (E401 e3 e8 e9) G=(bstr e3 G).bind λv14=>
 fin .pure H H.length [v14] G:=by kernel_rfl
end
theorem R382 (b0:Nat):bodyK2 P tab c l u 382 [.ptr b0 0] H =
 liftR (c H.length H.length 381 [.ptr b0 0] H) (λv1 h2=>(iBin P .eql 9 v1 (.d (.str []))).bind λv3=>
 fin .pure H H.length [v3] h2) (λp4 h5=>finP .pure H H.length p4 h5):=by kernel_rfl
end
end Go.Tg
