/- What the bodies of some functions come to, operation by operation. By program (gen.py). -/
import Derived.Test.YtnkobejhnphmhaaGreatDoorAh
import Derived.Test.YtnkobejhnphmhaaGreatDoorAg
import Derived.KernelRfl
import Derived.Test.YtnkobejhnphmhaaGreatDoorBj
set_option linter.all false
set_option linter.unusedVariables false
namespace Go.Tg
noncomputable section
variable [Globs] (c:Oracle)(l u:Nat)(H:Hp)
section
variable (a0 e1 e2 e3:IV)(G h13 h23 h42:Hp)(v3 v4 v5 v6 v7 v8 v9 v10 v11 v12 v14 v15 v18 v19 v20 v21 v22 v24 v25 v39 v40 v41 v43:IV)
abbrev C56 (c:Oracle)(l u:Nat)(H:Hp):Ctx:=⟨P,tab,c,H.length,H.length⟩
abbrev k56 (c:Oracle)(l u:Nat)(H:Hp):KR:=endK P (fnOf 56) .pure H H.length
def E56:Env:=[.un,e1,e2,e3,.un,.un,.un,.un,.un,.un,.un,.un,.un,.un,.un,.un,.un,.un,.un,.un,.un,.un,.un,.un,.un,.un,.un,.un,.un,.un,.un,.un,.un,.un,.un,.un,.un,.un,.un,.un,.un,.un,.un,.un,.un,.un,.un,.un,.un]
def en56_0:Env:=mkE 49 [(1,e1),(2,e2),(3,e3),(4,e3),(5,v3),(6,v4),(7,v5),(8,v6)]
def q56_0 (c:Oracle)(l u:Nat)(H:Hp):Ex→Env→Hp→OS:=popK (C56 c l u H) [1,2,3] (stepK [1,2,3]) [.sq (cd 56 [1,0,1,0,0,1,0,0,1]),.bk 1,.sq (cd 56 [1,0,1,0,0,1,1])]
def o56_0 (c:Oracle)(l u:Nat)(H:Hp) (n:Nat) (e:Env) (G:Hp):OS:=opsK2 (C56 c l u H) (some true) (rg 56 [1,0,1,0,0,1,0,0,0]) (dr 56 [1,0,1,0,0,1,0,0,0] n) e G (q56_0 c l u H)
def en56_1:Env:=upE (en56_0 e1 e2 e3 v3 v4 v5 v6) [(11,v7),(12,v8),(13,e3),(14,v9),(15,v10),(16,v11),(17,v12),(18,v14),(19,.d (.bool true)),(20,.no)]
def en56_2:Env:=upE (en56_1 e1 e2 e3 v3 v4 v5 v6 v7 v8 v9 v10 v11 v12 v14) [(19,.d (.bool false)),(20,v15)]
def en56_3:Env:=upE (en56_2 e1 e2 e3 v3 v4 v5 v6 v7 v8 v9 v10 v11 v12 v14 v15) [(21,v18),(22,e3),(23,v19),(24,v20),(25,v21),(26,v22),(27,v24),(28,v24),(29,.d (.bool true)),(30,.no)]
def en56_4:Env:=upE (en56_3 e1 e2 e3 v3 v4 v5 v6 v7 v8 v9 v10 v11 v12 v14 v15 v18 v19 v20 v21 v22 v24) [(29,.d (.bool false)),(30,v25)]
def en56_5:Env:=mkE 49 [(1,e1),(2,e2),(3,e3)]
def q56_1 (c:Oracle)(l u:Nat)(H:Hp):KR:=popK (C56 c l u H) [1,2,3] (k56 c l u H) [.sq (cd 56 [1,1,1])]
def o56_1 (c:Oracle)(l u:Nat)(H:Hp) (n:Nat) (e:Env) (G:Hp):Res:=opsK2 (C56 c l u H) none (rg 56 [1,1,0]) (dr 56 [1,1,0] n) e G (q56_1 c l u H)
def en56_6:Env:=mkE 49 [(1,e1),(2,e2),(3,e3),(41,v39),(42,v40),(43,v41),(44,.d (.bool true)),(45,v43)]
def en56_7:Env:=mkE 49 [(1,e1),(2,e2),(3,e3),(41,v39),(42,v40),(43,v41),(44,.d (.bool false)),(45,.no)]
theorem R56:bodyK2 P tab c l u 56 [a0] H=(iBox 34 a0 H).bind λr1=>(loopW (stepL (C56 c l u H) [1,2,3] (cd 56 [1,0,1,0,0])) ((E56 r1.1 (.d (.bool false)) (.d (.int .i64 0))),r1.2)).bind λr2=>popK (C56 c l u H) [1,2,3] (k56 c l u H) [.bk 0,.sq (cd 56 [1,1])] r2.1 r2.2.1 r2.2.2:=by kernel_rfl
theorem B56_0:stepL (C56 c l u H) [1,2,3] (cd 56 [1,0,1,0,0]) ((E56 e1 e2 e3),G)=(padd e1 2).bind λv3=>(ld1 v3 G).bind λv4=>(lnV v4).bind λv5=>(iBin P .lss 3 e3 v5).bind λv6=>
 br3 v6 (o56_0 c l u H 0 (en56_0 e1 e2 e3 v3 v4 v5 v6) G) (some (.inr (.exi 0,(E56 e1 e2 e3),G))):=by kernel_rfl
theorem g56_0 (G:Hp) (e1 e2 e3 v3 v4 v5 v6:IV):o56_0 c l u H 0 (en56_0 e1 e2 e3 v3 v4 v5 v6) G=(padd e1 2).bind λv7=>(ld1 v7 G).bind λv8=>(ixA 2 v8 e3).bind λv9=>(padd v9 0).bind λv10=>(ld1 v10 G).bind λv11=>
 liftR (c H.length H.length 81 [v11] G) (λv12 h13=>(iUn .not v12).bind λv14=>
 brN3 v14 (o56_0 c l u H 10 (en56_1 e1 e2 e3 v3 v4 v5 v6 v7 v8 v9 v10 v11 v12 v14) h13) ((padd e1 2).bind λv15=>
 o56_0 c l u H 10 (en56_2 e1 e2 e3 v3 v4 v5 v6 v7 v8 v9 v10 v11 v12 v14 v15) h13) (o56_0 c l u H 10 (List.set (en56_1 e1 e2 e3 v3 v4 v5 v6 v7 v8 v9 v10 v11 v12 v14) 19 v14) h13)) (λp16 h17=>none):=by
 unfold o56_0
 refine (oG 10).trans ?_
 generalize opsK2 _ _ _=X
 kernel_rfl
theorem g56_1:o56_0 c l u H 10 (en56_1 e1 e2 e3 v3 v4 v5 v6 v7 v8 v9 v10 v11 v12 v14) h13 =
 some (.inr (.ret,(E56 e1 (.d (.bool false)) e3),h13)):=by
 unfold o56_0
 refine (oG 21).trans ?_
 generalize opsK2 _ _ _=X
 kernel_rfl
theorem g56_2:o56_0 c l u H 10 (en56_2 e1 e2 e3 v3 v4 v5 v6 v7 v8 v9 v10 v11 v12 v14 v15) h13=(ld1 v15 h13).bind λv18=>(ixA 2 v18 e3).bind λv19=>(padd v19 1).bind λv20=>(ld1 v20 h13).bind λv21=>
 liftR (c H.length H.length 80 [v21] h13) (λv22 h23=>(iUn .not v22).bind λv24=>
 brN3 v24 (o56_0 c l u H 20 (en56_3 e1 e2 e3 v3 v4 v5 v6 v7 v8 v9 v10 v11 v12 v14 v15 v18 v19 v20 v21 v22 v24) h23) ((ldN 3 e1 h23).bind λv25=>
 o56_0 c l u H 20 (en56_4 e1 e2 e3 v3 v4 v5 v6 v7 v8 v9 v10 v11 v12 v14 v15 v18 v19 v20 v21 v22 v24 v25) h23) (o56_0 c l u H 20 (List.set (en56_3 e1 e2 e3 v3 v4 v5 v6 v7 v8 v9 v10 v11 v12 v14 v15 v18 v19 v20 v21 v22 v24) 29 v24) h23)) (λp26 h27=>none):=by
 unfold o56_0
 refine (oG 10).trans ?_
 generalize opsK2 _ _ _=X
 kernel_rfl
theorem g56_3:o56_0 c l u H 20 (en56_3 e1 e2 e3 v3 v4 v5 v6 v7 v8 v9 v10 v11 v12 v14 v15 v18 v19 v20 v21 v22 v24) h23 =
 some (.inr (.ret,(E56 e1 (.d (.bool false)) e3),h23)):=by
 unfold o56_0
 refine (oG 11).trans ?_
 generalize opsK2 _ _ _=X
 kernel_rfl
theorem g56_4:o56_0 c l u H 20 (en56_4 e1 e2 e3 v3 v4 v5 v6 v7 v8 v9 v10 v11 v12 v14 v15 v18 v19 v20 v21 v22 v24 v25) h23=(padd e1 2).bind λv28=>(ld1 v28 h23).bind λv29=>(ixA 2 v29 e3).bind λv30=>(padd v30 0).bind λv31=>(ld1 v31 h23).bind λv32=>
 liftR (c H.length H.length 55 [v25,v32] h23) (λv33 h34=>(iBin P .neq 3 v33 e3).bind λv35=>
 br3 v35 (some (.inr (.ret,(E56 e1 (.d (.bool false)) e3),h34))) ((iBin P .add 3 e3 (.d (.int .i64 1))).bind λv36=>
 some (.inl ((E56 e1 e2 v36),h34)))) (λp37 h38=>none):=by
 unfold o56_0
 refine (oG 11).trans ?_
 generalize opsK2 _ _ _=X
 kernel_rfl
theorem K56_0x0:popK (C56 c l u H) [1,2,3] (k56 c l u H) [.bk 0,.sq (cd 56 [1,1])] (.exi 0) (E56 e1 e2 e3) G =
 o56_1 c l u H 0 (en56_5 e1 e2 e3) G:=by kernel_rfl
theorem K56_0r:popK (C56 c l u H) [1,2,3] (k56 c l u H) [.bk 0,.sq (cd 56 [1,1])] (.ret) (E56 e1 e2 e3) G =
 fin .pure H H.length [e2] G:=by kernel_rfl
theorem g56_5 (G:Hp) (e1 e2 e3:IV):o56_1 c l u H 0 (en56_5 e1 e2 e3) G=(padd e1 0).bind λv39=>(ld1 v39 G).bind λv40=>
 liftR (c H.length H.length 81 [v40] G) (λv41 h42=>
 brN3 v41 ((padd e1 1).bind λv43=>
 o56_1 c l u H 5 (en56_6 e1 e2 e3 v39 v40 v41 v43) h42) (o56_1 c l u H 5 (en56_7 e1 e2 e3 v39 v40 v41) h42) (o56_1 c l u H 5 (List.set (en56_7 e1 e2 e3 v39 v40 v41) 44 v41) h42)) (λp44 h45=>finP .pure H H.length p44 h45):=by
 unfold o56_1
 refine (oG 5).trans ?_
 generalize opsK2 _ _ _=X
 kernel_rfl
theorem g56_6:o56_1 c l u H 5 (en56_6 e1 e2 e3 v39 v40 v41 v43) h42=(ld1 v43 h42).bind λv46=>
 liftR (c H.length H.length 81 [v46] h42) (λv47 h48=>
 fin .pure H H.length [v47] h48) (λp49 h50=>finP .pure H H.length p49 h50):=by
 unfold o56_1
 refine (oG 5).trans ?_
 generalize opsK2 _ _ _=X
 kernel_rfl
theorem g56_7:o56_1 c l u H 5 (en56_7 e1 e2 e3 v39 v40 v41) h42 =
 fin .pure H H.length [.d (.bool false)] h42:=by
 unfold o56_1
 refine (oG 5).trans ?_
 generalize opsK2 _ _ _=X
 kernel_rfl
end
section
variable (a0:IV)(a1:List UInt8)(a2:IV)(h5 h33:Hp)(r1 r2 r27 r30 r31 r32:IV×Hp)(v3 v4 v6 v7 v8 v9 v10 v11 v12 v13 v14 v15 v16 v17 v18 v19 v25 v28 v29 v46 v47 v48:IV)
abbrev C33 (c:Oracle)(l u:Nat)(H:Hp):Ctx:=⟨P,tab,c,H.length,H.length⟩
abbrev k33 (c:Oracle)(l u:Nat)(H:Hp):KR:=endK P (fnOf 33) .pure H H.length
def en33_0:Env:=mkE 59 [(0,a0),(1,.d (.str a1)),(2,a2),(3,r1.1),(5,r2.1),(6,.ptr r2.2.length 0),(7,.d (.str [])),(8,v4),(10,v3),(11,v4),(12,v6),(13,v7),(14,v8),(15,v9),(16,v10),(17,v11),(18,v12),(19,v13),(20,v14),(21,v15),(22,v16),(23,v17),(24,v18),(25,v4),(26,v19)]
def q33_0 (c:Oracle)(l u:Nat)(H:Hp):KR:=popK (C33 c l u H) [] (k33 c l u H) [.sq (cd 33 [1,1,0,1,0,1,1]),.sq (cd 33 [1,1,1])]
def en33_1 (a0:IV) (a1:List UInt8) (a2:IV) (r1 r2:IV×Hp) (v3 v4 v6 v7 v8 v9 v10 v11 v12 v13 v14 v15 v16 v17 v18 v19 z7 z28 z29 z30 z31 z32 z33 z34:IV):Env:=upE (en33_0 a0 a1 a2 r1 r2 v3 v4 v6 v7 v8 v9 v10 v11 v12 v13 v14 v15 v16 v17 v18 v19) [(7,z7),(28,z28),(29,z29),(30,z30),(31,z31),(32,z32),(33,z33),(34,z34)]
def en33_2:Env:=mkE 59 [(0,a0),(1,.d (.str a1)),(2,a2),(3,r1.1),(5,r2.1),(6,.ptr r2.2.length 0),(7,.d (.str [])),(8,v4),(9,.ptr h5.length 0),(10,v3),(11,v4),(12,v6),(13,v7),(14,v8),(15,v9),(16,v10),(17,v11),(18,v12),(19,v13),(20,v14),(21,v15),(22,v16),(23,v17),(24,v18),(35,v25),(36,r27.1),(37,v28),(38,v29),(39,r30.1),(40,.d (.str a1)),(41,.agg [.d (.str [99,104,97,114,115,101,116]),.d (.str a1)]),(42,r31.1),(43,r32.1),(44,.ptr h5.length 2)]
def q33_1 (c:Oracle)(l u:Nat)(H:Hp):KR:=popK (C33 c l u H) [] (k33 c l u H) [.sq (cd 33 [1,1,1,1,1,0,1]),.sq (cd 33 [1,1,1,1,1,1])]
def o33_0 (c:Oracle)(l u:Nat)(H:Hp) (n:Nat) (e:Env) (G:Hp):Res:=opsK2 (C33 c l u H) none (rg 33 [1,1,1,1,1,0,0]) (dr 33 [1,1,1,1,1,0,0] n) e G (q33_1 c l u H)
def en33_3:Env:=upE (en33_2 a0 a1 a2 h5 r1 r2 r27 r30 r31 r32 v3 v4 v6 v7 v8 v9 v10 v11 v12 v13 v14 v15 v16 v17 v18 v25 v28 v29) [(45,v4),(46,v46),(47,.d (.bool true)),(48,.d (.str a1))]
def en33_4:Env:=upE (en33_3 a0 a1 a2 h5 r1 r2 r27 r30 r31 r32 v3 v4 v6 v7 v8 v9 v10 v11 v12 v13 v14 v15 v16 v17 v18 v25 v28 v29 v46) [(47,.d (.bool false)),(48,.no)]
def en33_5:Env:=upE (en33_3 a0 a1 a2 h5 r1 r2 r27 r30 r31 r32 v3 v4 v6 v7 v8 v9 v10 v11 v12 v13 v14 v15 v16 v17 v18 v25 v28 v29 v46) [(49,v47),(50,v47),(51,.d (.bool true)),(52,v48)]
def en33_6:Env:=upE (en33_3 a0 a1 a2 h5 r1 r2 r27 r30 r31 r32 v3 v4 v6 v7 v8 v9 v10 v11 v12 v13 v14 v15 v16 v17 v18 v25 v28 v29 v46) [(49,v47),(50,v47),(51,.d (.bool false)),(52,.no)]
theorem R33:bodyK2 P tab c l u 33 [a0,.d (.str a1),a2] H=(iBox 34 a0 H).bind λr1=>(iBox 34 a2 r1.2).bind λr2=>(ldN 3 r2.1 (r2.2++[Blk.cells 69 [.d (.str []),.d (.str []),.vnil]])).bind λv3=>
 liftR (c H.length H.length 55 [v3,.d (.str [99,104,97,114,115,101,116])] (r2.2++[Blk.cells 69 [.d (.str []),.d (.str []),.vnil]])) (λv4 h5=>(padd r1.1 0).bind λv6=>(ld1 v6 h5).bind λv7=>(iBin P .add 9 v7 (.d (.str [47]))).bind λv8=>(padd r1.1 1).bind λv9=>(ld1 v9 h5).bind λv10=>(iBin P .add 9 v8 v10).bind λv11=>(padd r2.1 0).bind λv12=>(ld1 v12 h5).bind λv13=>(iBin P .add 9 v13 (.d (.str [47]))).bind λv14=>(padd r2.1 1).bind λv15=>(ld1 v15 h5).bind λv16=>(iBin P .add 9 v14 v16).bind λv17=>(iBin P .neq 9 v11 v17).bind λv18=>
 br3 v18 ((iBin P .lss 3 v4 (.d (.int .i64 0))).bind λv19=>
 br3 v19 ((ldN 3 r2.1 h5).bind λv20=>(st 3 H.length H.length (.ptr r2.2.length 0) v20 h5).bind λh21=>((ldN 3 (.ptr r2.2.length 0) h21).bind λv22=>(some [.d (.str [])]:Option (List IV)).map λl23=>v22::l23).bind λl24=>fin .pure H H.length l24 h21) (sqK (C33 c l u H) (rg 33 [1,1,0,1,0,1,0]) (en33_0 a0 a1 a2 r1 r2 v3 v4 v6 v7 v8 v9 v10 v11 v12 v13 v14 v15 v16 v17 v18 v19) h5 (q33_0 c l u H))) ((ldN 3 r2.1 h5).bind λv25=>(st 3 H.length H.length (.ptr h5.length 0) v25 (h5++[Blk.cells 69 [.d (.str []),.d (.str []),.vnil]])).bind λh26=>(iBuildSlice P 32 0 [] h26).bind λr27=>(padd r2.1 2).bind λv28=>(ld1 v28 r27.2).bind λv29=>(app 110 2 H.length r27.1 v29 r27.2).bind λr30=>(iBuildSlice P 32 1 [(0,.agg [.d (.str [99,104,97,114,115,101,116]),.d (.str a1)])] r30.2).bind λr31=>(app 110 2 H.length r30.1 r31.1 r31.2).bind λr32=>(st 1 H.length H.length (.ptr h5.length 2) r32.1 r32.2).bind λh33=>
 o33_0 c l u H 0 (en33_2 a0 a1 a2 h5 r1 r2 r27 r30 r31 r32 v3 v4 v6 v7 v8 v9 v10 v11 v12 v13 v14 v15 v16 v17 v18 v25 v28 v29) h33)) (λp34 h35=>finP .pure H H.length p34 h35):=by kernel_rfl
theorem S33_0 (G:Hp) (a0:IV) (a1:List UInt8) (a2:IV) (r1 r2:IV×Hp) (v3 v4 v6 v7 v8 v9 v10 v11 v12 v13 v14 v15 v16 v17 v18 v19 z7 z28 z29 z30 z31 z32 z33 z34:IV):(q33_0 c l u H) .nor (en33_1 a0 a1 a2 r1 r2 v3 v4 v6 v7 v8 v9 v10 v11 v12 v13 v14 v15 v16 v17 v18 v19 z7 z28 z29 z30 z31 z32 z33 z34) G=((ldN 3 (.ptr r2.2.length 0) G).bind λv36=>(some [z7]:Option (List IV)).map λl37=>v36::l37).bind λl38=>fin .pure H H.length l38 G:=by kernel_rfl
theorem F33_0 (a0:IV) (a1:List UInt8) (a2:IV) (r1 r2:IV×Hp) (v3 v4 v6 v7 v8 v9 v10 v11 v12 v13 v14 v15 v16 v17 v18 v19:IV) (σ:Nat→IV):(fullE (rg 33 [1,1,0,1,0,1,0]) (en33_0 a0 a1 a2 r1 r2 v3 v4 v6 v7 v8 v9 v10 v11 v12 v13 v14 v15 v16 v17 v18 v19) σ)=(en33_1 a0 a1 a2 r1 r2 v3 v4 v6 v7 v8 v9 v10 v11 v12 v13 v14 v15 v16 v17 v18 v19 (σ 8) (σ 0) (σ 1) (σ 2) (σ 3) (σ 4) (σ 5) (σ 6)):=by kernel_rfl
theorem O33_0_0 (G:Hp) (a0:IV) (a1:List UInt8) (a2:IV) (r1 r2:IV×Hp) (v3 v4 v6 v7 v8 v9 v10 v11 v12 v13 v14 v15 v16 v17 v18 v19:IV) (σ:Nat→IV):(((rg 33 [1,1,0,1,0,1,0])[0]?).bind λo=>val2 (C33 c l u H) o (fullE (rg 33 [1,1,0,1,0,1,0]) (en33_0 a0 a1 a2 r1 r2 v3 v4 v6 v7 v8 v9 v10 v11 v12 v13 v14 v15 v16 v17 v18 v19) σ) G)=(ldN 3 r2.1 G).bind λv39=>
 some ((v39:IV),G):=by kernel_rfl
theorem O33_0_1 (G:Hp) (a0:IV) (a1:List UInt8) (a2:IV) (r1 r2:IV×Hp) (v3 v4 v6 v7 v8 v9 v10 v11 v12 v13 v14 v15 v16 v17 v18 v19:IV) (σ:Nat→IV):(((rg 33 [1,1,0,1,0,1,0])[1]?).bind λo=>val2 (C33 c l u H) o (fullE (rg 33 [1,1,0,1,0,1,0]) (en33_0 a0 a1 a2 r1 r2 v3 v4 v6 v7 v8 v9 v10 v11 v12 v13 v14 v15 v16 v17 v18 v19) σ) G)=(padd r2.1 2).bind λv40=>
 some ((v40:IV),G):=by kernel_rfl
theorem O33_0_2 (G:Hp) (a0:IV) (a1:List UInt8) (a2:IV) (r1 r2:IV×Hp) (v3 v4 v6 v7 v8 v9 v10 v11 v12 v13 v14 v15 v16 v17 v18 v19:IV) (σ:Nat→IV):(((rg 33 [1,1,0,1,0,1,0])[2]?).bind λo=>val2 (C33 c l u H) o (fullE (rg 33 [1,1,0,1,0,1,0]) (en33_0 a0 a1 a2 r1 r2 v3 v4 v6 v7 v8 v9 v10 v11 v12 v13 v14 v15 v16 v17 v18 v19) σ) G)=(ld1 ((σ 1)) G).bind λv41=>
 some ((v41:IV),G):=by kernel_rfl
theorem O33_0_3 (G:Hp) (a0:IV) (a1:List UInt8) (a2:IV) (r1 r2:IV×Hp) (v3 v4 v6 v7 v8 v9 v10 v11 v12 v13 v14 v15 v16 v17 v18 v19:IV) (σ:Nat→IV):(((rg 33 [1,1,0,1,0,1,0])[3]?).bind λo=>val2 (C33 c l u H) o (fullE (rg 33 [1,1,0,1,0,1,0]) (en33_0 a0 a1 a2 r1 r2 v3 v4 v6 v7 v8 v9 v10 v11 v12 v13 v14 v15 v16 v17 v18 v19) σ) G) =
 some ((v4:IV),G):=by kernel_rfl
theorem O33_0_4 (G:Hp) (a0:IV) (a1:List UInt8) (a2:IV) (r1 r2:IV×Hp) (v3 v4 v6 v7 v8 v9 v10 v11 v12 v13 v14 v15 v16 v17 v18 v19:IV) (σ:Nat→IV):(((rg 33 [1,1,0,1,0,1,0])[4]?).bind λo=>val2 (C33 c l u H) o (fullE (rg 33 [1,1,0,1,0,1,0]) (en33_0 a0 a1 a2 r1 r2 v3 v4 v6 v7 v8 v9 v10 v11 v12 v13 v14 v15 v16 v17 v18 v19) σ) G)=(ixA 2 ((σ 2)) ((σ 3))).bind λv42=>
 some ((v42:IV),G):=by kernel_rfl
theorem O33_0_5 (G:Hp) (a0:IV) (a1:List UInt8) (a2:IV) (r1 r2:IV×Hp) (v3 v4 v6 v7 v8 v9 v10 v11 v12 v13 v14 v15 v16 v17 v18 v19:IV) (σ:Nat→IV):(((rg 33 [1,1,0,1,0,1,0])[5]?).bind λo=>val2 (C33 c l u H) o (fullE (rg 33 [1,1,0,1,0,1,0]) (en33_0 a0 a1 a2 r1 r2 v3 v4 v6 v7 v8 v9 v10 v11 v12 v13 v14 v15 v16 v17 v18 v19) σ) G)=(padd ((σ 4)) 1).bind λv43=>
 some ((v43:IV),G):=by kernel_rfl
theorem O33_0_6 (G:Hp) (a0:IV) (a1:List UInt8) (a2:IV) (r1 r2:IV×Hp) (v3 v4 v6 v7 v8 v9 v10 v11 v12 v13 v14 v15 v16 v17 v18 v19:IV) (σ:Nat→IV):(((rg 33 [1,1,0,1,0,1,0])[6]?).bind λo=>val2 (C33 c l u H) o (fullE (rg 33 [1,1,0,1,0,1,0]) (en33_0 a0 a1 a2 r1 r2 v3 v4 v6 v7 v8 v9 v10 v11 v12 v13 v14 v15 v16 v17 v18 v19) σ) G)=(ld1 ((σ 5)) G).bind λv44=>
 some ((v44:IV),G):=by kernel_rfl
theorem O33_0_7 (G:Hp) (a0:IV) (a1:List UInt8) (a2:IV) (r1 r2:IV×Hp) (v3 v4 v6 v7 v8 v9 v10 v11 v12 v13 v14 v15 v16 v17 v18 v19:IV) (σ:Nat→IV):(((rg 33 [1,1,0,1,0,1,0])[7]?).bind λo=>val2 (C33 c l u H) o (fullE (rg 33 [1,1,0,1,0,1,0]) (en33_0 a0 a1 a2 r1 r2 v3 v4 v6 v7 v8 v9 v10 v11 v12 v13 v14 v15 v16 v17 v18 v19) σ) G)=(st 3 H.length H.length (.ptr r2.2.length 0) ((σ 0)) G).bind λh45=>
 some ((.un:IV),h45):=by kernel_rfl
theorem O33_0_8 (G:Hp) (a0:IV) (a1:List UInt8) (a2:IV) (r1 r2:IV×Hp) (v3 v4 v6 v7 v8 v9 v10 v11 v12 v13 v14 v15 v16 v17 v18 v19:IV) (σ:Nat→IV):(((rg 33 [1,1,0,1,0,1,0])[8]?).bind λo=>val2 (C33 c l u H) o (fullE (rg 33 [1,1,0,1,0,1,0]) (en33_0 a0 a1 a2 r1 r2 v3 v4 v6 v7 v8 v9 v10 v11 v12 v13 v14 v15 v16 v17 v18 v19) σ) G) =
 some (((σ 6):IV),G):=by kernel_rfl
theorem g33_0:o33_0 c l u H 0 (en33_2 a0 a1 a2 h5 r1 r2 r27 r30 r31 r32 v3 v4 v6 v7 v8 v9 v10 v11 v12 v13 v14 v15 v16 v17 v18 v25 v28 v29) h33=(iBin P .lss 3 v4 (.d (.int .i64 0))).bind λv46=>
 brN3 v46 (o33_0 c l u H 4 (en33_3 a0 a1 a2 h5 r1 r2 r27 r30 r31 r32 v3 v4 v6 v7 v8 v9 v10 v11 v12 v13 v14 v15 v16 v17 v18 v25 v28 v29 v46) h33) (o33_0 c l u H 4 (en33_4 a0 a1 a2 h5 r1 r2 r27 r30 r31 r32 v3 v4 v6 v7 v8 v9 v10 v11 v12 v13 v14 v15 v16 v17 v18 v25 v28 v29 v46) h33) (o33_0 c l u H 4 (List.set (en33_4 a0 a1 a2 h5 r1 r2 r27 r30 r31 r32 v3 v4 v6 v7 v8 v9 v10 v11 v12 v13 v14 v15 v16 v17 v18 v25 v28 v29 v46) 47 v46) h33):=by
 unfold o33_0
 refine (oG 4).trans ?_
 generalize opsK2 _ _ _=X
 kernel_rfl
theorem g33_1:o33_0 c l u H 4 (en33_3 a0 a1 a2 h5 r1 r2 r27 r30 r31 r32 v3 v4 v6 v7 v8 v9 v10 v11 v12 v13 v14 v15 v16 v17 v18 v25 v28 v29 v46) h33=(iBin P .neq 9 (.d (.str a1)) (.d (.str []))).bind λv47=>
 brN3 v47 ((ldN 3 (.ptr h5.length 0) h33).bind λv48=>
 o33_0 c l u H 8 (en33_5 a0 a1 a2 h5 r1 r2 r27 r30 r31 r32 v3 v4 v6 v7 v8 v9 v10 v11 v12 v13 v14 v15 v16 v17 v18 v25 v28 v29 v46 v47 v48) h33) (o33_0 c l u H 8 (en33_6 a0 a1 a2 h5 r1 r2 r27 r30 r31 r32 v3 v4 v6 v7 v8 v9 v10 v11 v12 v13 v14 v15 v16 v17 v18 v25 v28 v29 v46 v47) h33) (o33_0 c l u H 8 (List.set (en33_6 a0 a1 a2 h5 r1 r2 r27 r30 r31 r32 v3 v4 v6 v7 v8 v9 v10 v11 v12 v13 v14 v15 v16 v17 v18 v25 v28 v29 v46 v47) 51 v47) h33):=by
 unfold o33_0
 refine (oG 4).trans ?_
 generalize opsK2 _ _ _=X
 kernel_rfl
theorem g33_2:o33_0 c l u H 4 (en33_4 a0 a1 a2 h5 r1 r2 r27 r30 r31 r32 v3 v4 v6 v7 v8 v9 v10 v11 v12 v13 v14 v15 v16 v17 v18 v25 v28 v29 v46) h33=(ldN 3 r2.1 h33).bind λv49=>(st 3 H.length H.length (.ptr r2.2.length 0) v49 h33).bind λh50=>((ldN 3 (.ptr r2.2.length 0) h50).bind λv51=>(some [.d (.str a1)]:Option (List IV)).map λl52=>v51::l52).bind λl53=>fin .pure H H.length l53 h50:=by
 unfold o33_0
 refine (oG 7).trans ?_
 generalize opsK2 _ _ _=X
 kernel_rfl
theorem g33_3:o33_0 c l u H 8 (en33_5 a0 a1 a2 h5 r1 r2 r27 r30 r31 r32 v3 v4 v6 v7 v8 v9 v10 v11 v12 v13 v14 v15 v16 v17 v18 v25 v28 v29 v46 v47 v48) h33 =
 liftR (c H.length H.length 56 (frzArgs H.length [(true,v48)] h33).1 (frzArgs H.length [(true,v48)] h33).2) (λv54 h55=>
 br3 v54 ((ldN 3 (.ptr h5.length 0) h55).bind λv56=>(st 3 H.length H.length (.ptr r2.2.length 0) v56 h55).bind λh57=>((ldN 3 (.ptr r2.2.length 0) h57).bind λv58=>(some [.d (.str a1)]:Option (List IV)).map λl59=>v58::l59).bind λl60=>fin .pure H H.length l60 h57) ((ldN 3 r2.1 h55).bind λv61=>(st 3 H.length H.length (.ptr r2.2.length 0) v61 h55).bind λh62=>((ldN 3 (.ptr r2.2.length 0) h62).bind λv63=>(some [.d (.str a1)]:Option (List IV)).map λl64=>v63::l64).bind λl65=>fin .pure H H.length l65 h62)) (λp66 h67=>finP .pure H H.length p66 h67):=by
 unfold o33_0
 refine (oG 3).trans ?_
 generalize opsK2 _ _ _=X
 kernel_rfl
theorem g33_4:o33_0 c l u H 8 (en33_6 a0 a1 a2 h5 r1 r2 r27 r30 r31 r32 v3 v4 v6 v7 v8 v9 v10 v11 v12 v13 v14 v15 v16 v17 v18 v25 v28 v29 v46 v47) h33=(ldN 3 r2.1 h33).bind λv68=>(st 3 H.length H.length (.ptr r2.2.length 0) v68 h33).bind λh69=>((ldN 3 (.ptr r2.2.length 0) h69).bind λv70=>(some [.d (.str a1)]:Option (List IV)).map λl71=>v70::l71).bind λl72=>fin .pure H H.length l72 h69:=by
 unfold o33_0
 refine (oG 3).trans ?_
 generalize opsK2 _ _ _=X
 kernel_rfl
end
section
variable (a0:List D)(e3 e4 e5:IV)(G h12 h15:Hp)(v7 v8 v9 v10 v11 v13 v14 v18 v19 v20:IV)
abbrev C32 (c:Oracle)(l u:Nat)(H:Hp):Ctx:=⟨P,tab,c,H.length,H.length⟩
abbrev k32 (c:Oracle)(l u:Nat)(H:Hp):KR:=endK P (fnOf 32) .pure H H.length
def E32:Env:=[.un,.un,.un,e3,e4,e5,.un,.un,.un,.un,.un,.un,.un,.un,.un,.un,.un,.un,.un,.un,.un,.un,.un,.un,.un,.un,.un,.un,.un,.un,.un,.un,.un,.un,.un,.un,.un,.un,.un,.un,.un,.un,.un]
def en32_0:Env:=mkE 43 [(3,e3),(4,e4),(5,e5),(6,.ptr h12.length 0),(7,v14),(11,e5),(12,e4),(13,v7),(14,v8),(17,v11),(18,e4),(19,e5),(20,v9),(21,v10),(22,v11),(23,v13),(24,v14)]
def q32_0 (c:Oracle)(l u:Nat)(H:Hp):Ex→Env→Hp→OS:=popK (C32 c l u H) [3,4,5] (stepK [3,4,5]) [.sq (cd 32 [1,1,0,1,0,0,1,0,0,1,1]),.bk 1,.sq (cd 32 [1,1,0,1,0,0,1,1])]
def o32_0 (c:Oracle)(l u:Nat)(H:Hp) (n:Nat) (e:Env) (G:Hp):OS:=opsK2 (C32 c l u H) none (rg 32 [1,1,0,1,0,0,1,0,0,1,0]) (dr 32 [1,1,0,1,0,0,1,0,0,1,0] n) e G (q32_0 c l u H)
def en32_1:Env:=upE (en32_0 e3 e4 e5 h12 v7 v8 v9 v10 v11 v13 v14) [(25,v14),(26,v18),(27,.d (.bool true)),(28,.ptr h12.length 0)]
def en32_2:Env:=upE (en32_1 e3 e4 e5 h12 v7 v8 v9 v10 v11 v13 v14 v18) [(27,.d (.bool false)),(28,.no)]
def en32_3:Env:=upE (en32_1 e3 e4 e5 h12 v7 v8 v9 v10 v11 v13 v14 v18) [(29,v19),(30,v20),(31,.d (.bool true)),(32,.ptr h12.length 1)]
def en32_4:Env:=upE (en32_3 e3 e4 e5 h12 v7 v8 v9 v10 v11 v13 v14 v18 v19 v20) [(31,.d (.bool false)),(32,.no)]
theorem R32:bodyK2 P tab c l u 32 [.d (.lst a0)] H=(iBuildSlice P 78 0 [] H).bind λr1=>
 liftR (c H.length H.length 53 [.d (.lst a0)] r1.2) (λv2 h3=>(loopW (stepL (C32 c l u H) [3,4,5] (cd 32 [1,1,0,1,0,0])) ((E32 r1.1 v2 (.d (.int .i64 0))),h3)).bind λr4=>popK (C32 c l u H) [3,4,5] (k32 c l u H) [.bk 0,.sq (cd 32 [1,1,1])] r4.1 r4.2.1 r4.2.2) (λp5 h6=>finP .pure H H.length p5 h6):=by kernel_rfl
theorem B32_0:stepL (C32 c l u H) [3,4,5] (cd 32 [1,1,0,1,0,0]) ((E32 e3 e4 e5),G)=(lnV e4).bind λv7=>(iBin P .lss 3 e5 v7).bind λv8=>
 br3 v8 ((ixA 1 e4 e5).bind λv9=>(ld1 v9 G).bind λv10=>
 liftR (c H.length H.length 54 [v10] G) (λv11 h12=>(iExtract v11 0).bind λv13=>(iExtract v11 1).bind λv14=>(st 3 H.length H.length (.ptr h12.length 0) v13 (h12++[Blk.cells 69 [.d (.str []),.d (.str []),.vnil]])).bind λh15=>
 o32_0 c l u H 0 (en32_0 e3 e4 e5 h12 v7 v8 v9 v10 v11 v13 v14) h15) (λp16 h17=>some (.inr (.pan p16,(E32 e3 e4 e5),h17)))) (some (.inr (.exi 0,(E32 e3 e4 e5),G))):=by kernel_rfl
theorem g32_0:o32_0 c l u H 0 (en32_0 e3 e4 e5 h12 v7 v8 v9 v10 v11 v13 v14) h15=(iBin P .eql 42 v14 (.d (.int .i64 0))).bind λv18=>
 brN3 v18 (o32_0 c l u H 4 (en32_1 e3 e4 e5 h12 v7 v8 v9 v10 v11 v13 v14 v18) h15) (o32_0 c l u H 4 (en32_2 e3 e4 e5 h12 v7 v8 v9 v10 v11 v13 v14 v18) h15) (o32_0 c l u H 4 (List.set (en32_2 e3 e4 e5 h12 v7 v8 v9 v10 v11 v13 v14 v18) 27 v18) h15):=by
 unfold o32_0
 refine (oG 4).trans ?_
 generalize opsK2 _ _ _=X
 kernel_rfl
theorem g32_1:o32_0 c l u H 4 (en32_1 e3 e4 e5 h12 v7 v8 v9 v10 v11 v13 v14 v18) h15=(ld1 (.ptr h12.length 0) h15).bind λv19=>(iBin P .eql 9 v19 (.d (.str [42]))).bind λv20=>
 brN3 v20 (o32_0 c l u H 8 (en32_3 e3 e4 e5 h12 v7 v8 v9 v10 v11 v13 v14 v18 v19 v20) h15) (o32_0 c l u H 8 (en32_4 e3 e4 e5 h12 v7 v8 v9 v10 v11 v13 v14 v18 v19 v20) h15) (o32_0 c l u H 8 (List.set (en32_4 e3 e4 e5 h12 v7 v8 v9 v10 v11 v13 v14 v18 v19 v20) 31 v20) h15):=by
 unfold o32_0
 refine (oG 4).trans ?_
 generalize opsK2 _ _ _=X
 kernel_rfl
theorem g32_2:o32_0 c l u H 4 (en32_2 e3 e4 e5 h12 v7 v8 v9 v10 v11 v13 v14 v18) h15=(iBin P .add 3 e5 (.d (.int .i64 1))).bind λv21=>
 some (.inl ((E32 e3 e4 v21),h15)):=by
 unfold o32_0
 refine (oG 10).trans ?_
 generalize opsK2 _ _ _=X
 kernel_rfl
theorem g32_3:o32_0 c l u H 8 (en32_3 e3 e4 e5 h12 v7 v8 v9 v10 v11 v13 v14 v18 v19 v20) h15=(ld1 (.ptr h12.length 1) h15).bind λv22=>(iBin P .eql 9 v22 (.d (.str [42]))).bind λv23=>(iUn .not v23).bind λv24=>
 br3 v24 ((ldN 3 (.ptr h12.length 0) h15).bind λv25=>(iBuildSlice P 78 1 [(0,v25)] h15).bind λr26=>(app 34 3 H.length e3 r26.1 r26.2).bind λr27=>(iBin P .add 3 e5 (.d (.int .i64 1))).bind λv28=>
 some (.inl ((E32 r27.1 e4 v28),r27.2))) ((iBin P .add 3 e5 (.d (.int .i64 1))).bind λv29=>
 some (.inl ((E32 e3 e4 v29),h15))):=by
 unfold o32_0
 refine (oG 6).trans ?_
 generalize opsK2 _ _ _=X
 kernel_rfl
theorem g32_4:o32_0 c l u H 8 (en32_4 e3 e4 e5 h12 v7 v8 v9 v10 v11 v13 v14 v18 v19 v20) h15=(ldN 3 (.ptr h12.length 0) h15).bind λv30=>(iBuildSlice P 78 1 [(0,v30)] h15).bind λr31=>(app 34 3 H.length e3 r31.1 r31.2).bind λr32=>(iBin P .add 3 e5 (.d (.int .i64 1))).bind λv33=>
 some (.inl ((E32 r32.1 e4 v33),r32.2)):=by
 unfold o32_0
 refine (oG 6).trans ?_
 generalize opsK2 _ _ _=X
 kernel_rfl
theorem K32_0x0:popK (C32 c l u H) [3,4,5] (k32 c l u H) [.bk 0,.sq (cd 32 [1,1,1])] (.exi 0) (E32 e3 e4 e5) G =
 fin .pure H H.length [e3] G:=by kernel_rfl
end
section
variable (a0:List D)(e2 e4 e5 e6 e7:IV)(G:Hp)
abbrev C13 (c:Oracle)(l u:Nat)(H:Hp):Ctx:=⟨P,tab,c,H.length,H.length⟩
abbrev k13 (c:Oracle)(l u:Nat)(H:Hp):KR:=endK P (fnOf 13) .pure H H.length
def E13:Env:=[.un,.un,e2,.un,e4,e5,e6,e7,.un,.un,.un,.un,.un,.un,.un,.un,.un,.un,.un,.un,.un,.un,.un,.un,.un,.un,.un,.un,.un,.un,.un,.un]
theorem R13:bodyK2 P tab c l u 13 [.d (.lst a0)] H =
 liftR (c H.length H.length 32 [.d (.lst a0)] (H++[Blk.cells 69 [.d (.str []),.d (.str []),.vnil]])) (λv1 h2=>(st 3 H.length H.length (.ptr h2.length 0) (.agg [.d (.str []),.d (.str []),.vnil]) (h2++[Blk.cells 69 [.d (.str []),.d (.str []),.vnil]])).bind λh3=>(loopW (stepL (C13 c l u H) [2,4,5,6,7] (cd 13 [1,1,0,1,0,0])) ((E13 (.ptr H.length 0) (.ptr h2.length 0) (.d (.str [])) v1 (.d (.int .i64 0))),h3)).bind λr4=>popK (C13 c l u H) [2,4,5,6,7] (k13 c l u H) [.bk 0,.sq (cd 13 [1,1,1])] r4.1 r4.2.1 r4.2.2) (λp5 h6=>finP .pure H H.length p5 h6):=by kernel_rfl
theorem B13_0:stepL (C13 c l u H) [2,4,5,6,7] (cd 13 [1,1,0,1,0,0]) ((E13 e2 e4 e5 e6 e7),G)=(lnV e6).bind λv7=>(iBin P .lss 3 e7 v7).bind λv8=>
 br3 v8 ((ldN 3 e4 G).bind λv9=>(ixA 3 e6 e7).bind λv10=>(ldN 3 v10 G).bind λv11=>
 fitsL false [(true,v9),(false,e5),(true,v11)] (
 liftR (c H.length H.length 33 (frzArgs H.length [(true,v9),(false,e5),(true,v11)] G).1 (frzArgs H.length [(true,v9),(false,e5),(true,v11)] G).2) (λv12 h13=>(iExtract v12 0).bind λv14=>(iExtract v12 1).bind λv15=>(st 3 H.length H.length e4 v14 h13).bind λh16=>(iBin P .add 3 e7 (.d (.int .i64 1))).bind λv17=>
 some (.inl ((E13 e2 e4 v15 e6 v17),h16))) (λp18 h19=>none))) (some (.inr (.exi 0,(E13 e2 e4 e5 e6 e7),G))):=by kernel_rfl
theorem K13_0x0:popK (C13 c l u H) [2,4,5,6,7] (k13 c l u H) [.bk 0,.sq (cd 13 [1,1,1])] (.exi 0) (E13 e2 e4 e5 e6 e7) G=(lnV e6).bind λv20=>(iBin P .eql 3 v20 (.d (.int .i64 0))).bind λv21=>
 br3 v21 ((st 3 H.length H.length e2 (.agg [.d (.str []),.d (.str []),.vnil]) G).bind λh22=>((ldN 3 e2 h22).bind λv23=>(some [.d (.int .i64 4)]:Option (List IV)).map λl24=>v23::l24).bind λl25=>fin .pure H H.length l25 h22) ((ldN 3 e4 G).bind λv26=>(st 3 H.length H.length e2 v26 G).bind λh27=>((ldN 3 e2 h27).bind λv28=>(some [.d (.int .i64 0)]:Option (List IV)).map λl29=>v28::l29).bind λl30=>fin .pure H H.length l30 h27):=by kernel_rfl
end
abbrev k4 (c:Oracle)(l u:Nat)(H:Hp):KR:=endK P (fnOf 4) .pure H H.length
theorem R4 (a0:List D):bodyK2 P tab c l u 4 [.d (.lst a0)] H =
 liftR (c H.length H.length 14 [.d (.str [99,111,110,116,101,110,116,45,116,121,112,101]),.d (.lst a0)] (H++[Blk.cells 73 [.d (.str []),.d (.str []),.vnil,.d (.bool false),.d (.bool false),.d (.bool false)]])) (λv1 h2=>
 liftR (c H.length H.length 13 (frzArgs H.length [(true,v1)] h2).1 (frzArgs H.length [(true,v1)] h2).2) (λv3 h4=>(iExtract v3 0).bind λv5=>(iExtract v3 1).bind λv6=>(st 3 H.length H.length (.ptr h4.length 0) v5 (h4++[Blk.cells 69 [.d (.str []),.d (.str []),.vnil]])).bind λh7=>
 liftR (c H.length H.length 15 [.d (.lst a0)] h7) (λv8 h9=>(iExtract v8 0).bind λv10=>(iExtract v8 1).bind λv11=>(ldN 3 (.ptr h4.length 0) h9).bind λv12=>(iBin P .eql 42 v6 (.d (.int .i64 0))).bind λv13=>
 liftR (c H.length H.length 16 [.d (.lst a0)] h9) (λv14 h15=>
 liftR (c H.length H.length 17 [v10] h15) (λv16 h17=>(iBuild P 36 [(0,v12),(1,v13),(2,v14),(3,v16)]).bind λv18=>(st 6 H.length H.length (.ptr H.length 0) v18 h17).bind λh19=>((ldN 6 (.ptr H.length 0) h19).bind λv20=>(some []:Option (List IV)).map λl21=>v20::l21).bind λl22=>fin .pure H H.length l22 h19) (λp23 h24=>none)) (λp25 h26=>none)) (λp27 h28=>finP .pure H H.length p27 h28)) (λp29 h30=>finP .pure H H.length p29 h30)) (λp31 h32=>finP .pure H H.length p31 h32):=by kernel_rfl
end
end Go.Tg
namespace Go.Tg
variable [Globs] {lim ro:Nat} {H:Hp}
theorem frzA_vec {b z o n:Nat} {els:List D} {G:Hp} (h:FrzTo ro G (.vec b z o n) els):∃ G',frzA ro (.vec b z o n) G=(.d (.lst els),G')∧G'.length=G.length∧∀ i,b≠i→G'[i]? = G[i]?:=by
 obtain⟨G',h1,h2,h3⟩:=h 4
 refine⟨G',?_,h2,λi hi=>h3 i (by simpa [ownB] using hi)⟩
 have h1':Tg.frz ro 6 (.vec b z o n) G=some (.lst els,G'):=h1
 show (match Tg.frz ro 6 (.vec b z o n) G with | some (x,H)=>(IV.d x,H) | none=>_)=_
 rw [h1']
theorem frzArgs_1 (v:IV) (G:Hp):frzArgs ro [(true,v)] G=([(frzA ro v G).1],(frzA ro v G).2):=rfl
theorem frzArgs_2 (x v:IV) (G:Hp):frzArgs ro [(false,x),(true,v)] G=([x,(frzA ro v G).1],(frzA ro v G).2):=rfl
theorem frzA_d (x:D) (G:Hp):frzA ro (.d x) G=(.d x,G):=rfl
theorem acc_strs (l:List (List UInt8)) (G:Hp) (hr:ro≤G.length):Acc 9 1 ro (G++[.cells 18 ((l.map D.str).map .d)]) (.vec G.length 1 0 (l.map D.str).length) (l.map .str):=by
 refine⟨λe he=>?_,.inr ⟨G.length,hr,rfl,?_⟩⟩
 ·obtain⟨s,_,rfl⟩:=List.mem_map.1 he;exact OkE.str s
 ·have:cellsOf (l.map D.str)=(l.map D.str).map .d:=by
   unfold cellsOf
   congr 1
   induction l with
   | nil=>rfl
   | cons a l ih=>simp only [List.map_cons,List.flatMap_cons,ih];rfl
  rw [this];simp
def scriptL:List (List UInt8):=[[97,112,112,108,105,99,97,116,105,111,110,47,101,99,109,97,115,99,114,105,112,116],[97,112,112,108,105,99,97,116,105,111,110,47,106,97,118,97,115,99,114,105,112,116],[97,112,112,108,105,99,97,116,105,111,110,47,120,45,101,99,109,97,115,99,114,105,112,116],[97,112,112,108,105,99,97,116,105,111,110,47,120,45,106,97,118,97,115,99,114,105,112,116],[116,101,120,116,47,101,99,109,97,115,99,114,105,112,116],[116,101,120,116,47,106,97,118,97,115,99,114,105,112,116],[116,101,120,116,47,106,97,118,97,115,99,114,105,112,116,49,46,48],[116,101,120,116,47,106,97,118,97,115,99,114,105,112,116,49,46,49],[116,101,120,116,47,106,97,118,97,115,99,114,105,112,116,49,46,50],[116,101,120,116,47,106,97,118,97,115,99,114,105,112,116,49,46,51],[116,101,120,116,47,106,97,118,97,115,99,114,105,112,116,49,46,52],[116,101,120,116,47,106,97,118,97,115,99,114,105,112,116,49,46,53],[116,101,120,116,47,106,115,99,114,105,112,116],[116,101,120,116,47,108,105,118,101,115,99,114,105,112,116],[116,101,120,116,47,120,45,101,99,109,97,115,99,114,105,112,116],[116,101,120,116,47,120,45,106,97,118,97,115,99,114,105,112,116]]
def safeL:List (List UInt8):=[[116,101,120,116,47,99,115,115],[105,109,97,103,101,47,115,118,103,43,120,109,108]]
theorem s17 (hS:SysOK sys) (s:List UInt8):∃ b,run sys lim ro 17 [.d (.str s)] H=some (.val (.d (.bool b)),H):=by
 have key:∃ b,bodyK2 P tab (run sys) 0 0 17 [.d (.str s)] []=some (.val (.d (.bool b)),[]):=by
  rw [R17]
  simp only [g17_0,g17_1,g17_2,g17_3,g17_4,g17_5,g17_6,iBin_seql,Option.bind_some,brN3_bool,fin_pure_d]
  split
  ·exact⟨_,rfl⟩
  ·split
   ·exact⟨_,rfl⟩
   ·split
    ·exact⟨_,rfl⟩
    ·exact⟨_,rfl⟩
 obtain⟨b,h⟩:=key
 exact⟨b,runP hS rfl (by kernel_rfl) rfl h⟩
theorem s18 (hS:SysOK sys) (t s:List UInt8) (ps:List D) (h:t.length+s.length<2 ^ 34):run sys lim ro 18 [.d (mimD t s ps)] H=some (.val (.d (.bool (scriptL.contains (t++[47]++s)))),H):=by
 refine runP hS rfl (by kernel_rfl) rfl ?_
 rw [R18]
 simp only [box_mim,Option.bind_some]
 have hl:=ldN_new ([]:Hp) 69 3 [.d (.str t),.d (.str s),.d (.lst ps)] rfl
 rw [hl]
 obtain⟨G1,e1,e2,_⟩:=frzA_mim (ro:=0) (t:=t) (s:=s) (FrzTo.data 0 ([]++[Blk.cells 69 [.d (.str t),.d (.str s),.d (.lst ps)]]) ps)
 have e1':frzArgs ([]:Hp).length [(true,.agg [.d (.str t),.d (.str s),.d (.lst ps)])] ([]++[Blk.cells 69 [.d (.str t),.d (.str s),.d (.lst ps)]])=([.d (mimD t s ps)],G1):=e1
 simp only [Option.bind_some,e1',s20 hS t s ps h,liftR_val]
 have hb:iBuildSlice P 31 16 (scriptL.zipIdx.map λx=>(x.2,IV.d (.str x.1))) G1=some (.vec G1.length 1 0 (scriptL.map D.str).length,G1++[.cells 18 ((scriptL.map D.str).map .d)]):=by
  have e:P.underlying 31=some (.slice 9):=by kernel_rfl
  have e2:sizeT P 9=some 1:=by kernel_rfl
  have e3:zeroT P 9=some (.d (.str [])):=by kernel_rfl
  unfold iBuildSlice;rw [e];simp only [e2,e3];rfl
 have hb':iBuildSlice P 31 16 _ G1=_:=hb
 obtain⟨G2,f1,f2,_⟩:=frzA_vec (acc_strs (ro:=0) scriptL G1 (Nat.zero_le _)).frzTo
 have f1':frzA ([]:Hp).length (.vec G1.length 1 0 (scriptL.map D.str).length) (G1++[.cells 18 ((scriptL.map D.str).map .d)])=(.d (.lst (scriptL.map .str)),G2):=f1
 have hc:=s19 (lim:=([]:Hp).length) (ro:=([]:Hp).length) (H:=G2) hS (t++[47]++s) scriptL (by decide)
 refine (congrArg (λx=>Option.bind x _) hb').trans ?_
 simp only [Option.bind_some,frzArgs_2,f1',hc,liftR_val,fin_pure_d]
theorem s5 (hS:SysOK sys) (t s:List UInt8) (ps:List D) (h:t.length+s.length<2 ^ 34):run sys lim ro 5 [.d (mimD t s ps)] H=some (.val (.d (.bool (scriptL.contains (t++[47]++s) || safeL.contains (t++[47]++s)))),H):=by
 refine runP hS rfl (by kernel_rfl) rfl ?_
 rw [R5]
 simp only [box_mim,Option.bind_some]
 have hl:=ldN_new ([]:Hp) 69 3 [.d (.str t),.d (.str s),.d (.lst ps)] rfl
 have fz:∀ G,frzA ([]:Hp).length (.agg [.d (.str t),.d (.str s),.d (.lst ps)]) G=(.d (mimD t s ps),G):=λG=>rfl
 have k0:=g5_0 (run sys) 0 0 [] (.d (mimD t s ps)) (.ptr ([]:Hp).length 0,[]++[.cells 69 [.d (.str t),.d (.str s),.d (.lst ps)]])
 simp only [k0,hl,Option.bind_some,frzArgs_1,fz,s18 hS t s ps h,liftR_val,brN3_bool,g5_1,g5_2,fin_pure_d,s20 hS t s ps h]
 have hb:iBuildSlice P 31 2 (safeL.zipIdx.map λx=>(x.2,IV.d (.str x.1))) ([]++[Blk.cells 69 [.d (.str t),.d (.str s),.d (.lst ps)]])=some (.vec 1 1 0 (safeL.map D.str).length,[Blk.cells 69 [.d (.str t),.d (.str s),.d (.lst ps)]]++[.cells 18 ((safeL.map D.str).map .d)]):=by
  have e:P.underlying 31=some (.slice 9):=by kernel_rfl
  have e2:sizeT P 9=some 1:=by kernel_rfl
  have e3:zeroT P 9=some (.d (.str [])):=by kernel_rfl
  unfold iBuildSlice;rw [e];simp only [e2,e3];rfl
 have hb':iBuildSlice P 31 2 _ _=_:=hb
 obtain⟨G2,f1,f2,_⟩:=frzA_vec (acc_strs (ro:=0) safeL [Blk.cells 69 [.d (.str t),.d (.str s),.d (.lst ps)]] (Nat.zero_le _)).frzTo
 have f1':frzA ([]:Hp).length (.vec 1 1 0 (safeL.map D.str).length) ([Blk.cells 69 [.d (.str t),.d (.str s),.d (.lst ps)]]++[.cells 18 ((safeL.map D.str).map .d)])=(.d (.lst (safeL.map .str)),G2):=f1
 have hc:=s19 (lim:=([]:Hp).length) (ro:=([]:Hp).length) (H:=G2) hS (t++[47]++s) safeL (by decide)
 cases scriptL.contains (t++[47]++s) with
 | true=>rfl
 | false=>
  rw [if_neg (by simp)]
  refine (congrArg (λx=>Option.bind x _) hb').trans ?_
  simp only [Option.bind_some,frzArgs_2,f1',hc,liftR_val,fin_pure_d,Bool.false_or]
def goodR (l d:Int):Bool:=decide (1445≤l) && (decide (l≤1048576) && (decide (0≤d) && decide (d≤200)))
theorem s6 (hS:SysOK sys) (b:Bool) (l d:Int):run sys lim ro 6 [.d (.agg [.bool b,.int .i64 l,.int .i64 d])] H=some (.val (.d (.bool (goodR l d))),H):=by
 refine runP hS rfl (by kernel_rfl) rfl ?_
 rw [R6]
 have hb:iBox 23 (.d (.agg [.bool b,.int .i64 l,.int .i64 d])) []=some (.ptr ([]:Hp).length 0,[]++[.cells 47 [.d (.bool b),.d (.int .i64 l),.d (.int .i64 d)]]):=rfl
 have k0:=g6_0 (run sys) 0 0 [] (.d (.agg [.bool b,.int .i64 l,.int .i64 d])) (.ptr ([]:Hp).length 0,[]++[.cells 47 [.d (.bool b),.d (.int .i64 l),.d (.int .i64 d)]])
 have k1:=g6_1 (run sys) 0 0 [] (.d (.agg [.bool b,.int .i64 l,.int .i64 d])) (.ptr ([]:Hp).length 0,[]++[.cells 47 [.d (.bool b),.d (.int .i64 l),.d (.int .i64 d)]])
 have k2:=g6_2 (run sys) 0 0 [] (.d (.agg [.bool b,.int .i64 l,.int .i64 d])) (.ptr ([]:Hp).length 0,[]++[.cells 47 [.d (.bool b),.d (.int .i64 l),.d (.int .i64 d)]])
 have k3:=g6_3 (run sys) 0 0 [] (.d (.agg [.bool b,.int .i64 l,.int .i64 d])) (.ptr ([]:Hp).length 0,[]++[.cells 47 [.d (.bool b),.d (.int .i64 l),.d (.int .i64 d)]])
 have k4:=g6_4 (run sys) 0 0 [] (.d (.agg [.bool b,.int .i64 l,.int .i64 d])) (.ptr ([]:Hp).length 0,[]++[.cells 47 [.d (.bool b),.d (.int .i64 l),.d (.int .i64 d)]])
 have k5:=g6_5 (run sys) 0 0 [] (.d (.agg [.bool b,.int .i64 l,.int .i64 d])) (.ptr ([]:Hp).length 0,[]++[.cells 47 [.d (.bool b),.d (.int .i64 l),.d (.int .i64 d)]])
 have k6:=g6_6 (run sys) 0 0 [] (.d (.agg [.bool b,.int .i64 l,.int .i64 d])) (.ptr ([]:Hp).length 0,[]++[.cells 47 [.d (.bool b),.d (.int .i64 l),.d (.int .i64 d)]])
 simp only [hb,Option.bind_some,k0,k1,k2,k3,k4,k5,k6,padd_ptr,ld1_new,Nat.zero_add,List.getElem?_cons_zero,List.getElem?_cons_succ,iBin_geq,iBin_leq,brN3_bool,fin_pure_d,goodR]
 cases decide ((1445:Int)≤l) <;> cases decide (l≤(1048576:Int)) <;> cases decide ((0:Int)≤d) <;> rfl
end Go.Tg
