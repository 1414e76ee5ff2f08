/- What the bodies of some functions come to, operation by operation. By program (gen.py). -/
import Derived.Test.YtnkobejhnphmhaaGreatDoorAh
import Derived.Test.YtnkobejhnphmhaaGreatDoorAg
import Derived.KernelRfl
set_option linter.all false
set_option linter.unusedVariables false
namespace Go.Tg
noncomputable section
variable [Globs] (c:Oracle)(l u:Nat)(H:Hp)
abbrev C414 (c:Oracle)(l u:Nat)(H:Hp):Ctx:=⟨P,tab,c,H.length,H.length⟩
abbrev k414 (c:Oracle)(l u:Nat)(H:Hp):KR:=endK P (fnOf 414) .pure H H.length
def en414_0 (a0:IV) (a1 a2:List UInt8) (r1:IV×Hp):Env:=mkE 41 [(0,a0),(1,.d (.str a1)),(2,.d (.str a2)),(3,r1.1),(6,.ptr r1.2.length 0),(7,.d (.int .i64 0))]
def q414_0 (c:Oracle)(l u:Nat)(H:Hp):KR:=popK (C414 c l u H) [] (k414 c l u H) [.sq (cd 414 [1,1])]
def en414_1 (a0:IV) (a1 a2:List UInt8) (r1:IV×Hp) (z8 z9 z10 z11 z12 z13 z14 z15 z16 z17 z18 z19 z20 z21:IV):Env:=upE (en414_0 a0 a1 a2 r1) [(8,z8),(9,z9),(10,z10),(11,z11),(12,z12),(13,z13),(14,z14),(15,z15),(16,z16),(17,z17),(18,z18),(19,z19),(20,z20),(21,z21)]
def en414_2 (a0:IV) (a1 a2:List UInt8) (r1:IV×Hp) (v2 v3 z8 z9 z10 z11 z12 z13 z14 z15 z16 z17 z18 z19 z20 z21:IV):Env:=upE (en414_1 a0 a1 a2 r1 z8 z9 z10 z11 z12 z13 z14 z15 z16 z17 z18 z19 z20 z21) [(22,v3),(23,v2),(24,v3)]
def q414_1 (c:Oracle)(l u:Nat)(H:Hp):KR:=popK (C414 c l u H) [] (k414 c l u H) [.sq (cd 414 [1,1,0,0,1,1,1]),.bk 0,.sq (cd 414 [1,1,1])]
def o414_0 (c:Oracle)(l u:Nat)(H:Hp) (n:Nat) (e:Env) (G:Hp):Res:=opsK2 (C414 c l u H) none (rg 414 [1,1,0,0,1,1,0]) (dr 414 [1,1,0,0,1,1,0] n) e G (q414_1 c l u H)
def en414_3 (a0:IV) (a1 a2:List UInt8) (r1:IV×Hp) (v2 v3 v27 v28 v30 z8 z9 z10 z11 z12 z13 z14 z15 z16 z17 z18 z19 z20 z21:IV):Env:=upE (en414_2 a0 a1 a2 r1 v2 v3 z8 z9 z10 z11 z12 z13 z14 z15 z16 z17 z18 z19 z20 z21) [(27,v27),(28,v28),(29,.d (.bool true)),(30,v30)]
def en414_4 (a0:IV) (a1 a2:List UInt8) (r1:IV×Hp) (v2 v3 v27 v28 z8 z9 z10 z11 z12 z13 z14 z15 z16 z17 z18 z19 z20 z21:IV):Env:=upE (en414_2 a0 a1 a2 r1 v2 v3 z8 z9 z10 z11 z12 z13 z14 z15 z16 z17 z18 z19 z20 z21) [(27,v27),(28,v28),(29,.d (.bool false)),(30,.no)]
def en414_5 (a0:IV) (a1 a2:List UInt8) (r1:IV×Hp) (v2 v3 v27 v28 v30 v33 v35 z8 z9 z10 z11 z12 z13 z14 z15 z16 z17 z18 z19 z20 z21:IV):Env:=upE (en414_3 a0 a1 a2 r1 v2 v3 v27 v28 v30 z8 z9 z10 z11 z12 z13 z14 z15 z16 z17 z18 z19 z20 z21) [(31,.d (.str a1)),(32,v33),(33,v35),(34,v35),(35,.d (.bool true)),(36,.d (.str a2))]
def en414_6 (a0:IV) (a1 a2:List UInt8) (r1:IV×Hp) (v2 v3 v27 v28 v30 v33 v35 z8 z9 z10 z11 z12 z13 z14 z15 z16 z17 z18 z19 z20 z21:IV):Env:=upE (en414_5 a0 a1 a2 r1 v2 v3 v27 v28 v30 v33 v35 z8 z9 z10 z11 z12 z13 z14 z15 z16 z17 z18 z19 z20 z21) [(35,.d (.bool false)),(36,.no)]
theorem R414 (a0:IV) (a1:List UInt8) (a2:List UInt8):bodyK2 P tab c l u 414 [a0,.d (.str a1),.d (.str a2)] H=(iBox 34 a0 H).bind λr1=>
 sqK (C414 c l u H) (rg 414 [1,0]) (en414_0 a0 a1 a2 r1) (r1.2++[Blk.cells 69 [.d (.str []),.d (.str []),.vnil]]) (q414_0 c l u H):=by kernel_rfl
theorem S414_0 (G:Hp) (a0:IV) (a1 a2:List UInt8) (r1:IV×Hp) (z8 z9 z10 z11 z12 z13 z14 z15 z16 z17 z18 z19 z20 z21:IV):(q414_0 c l u H) .nor (en414_1 a0 a1 a2 r1 z8 z9 z10 z11 z12 z13 z14 z15 z16 z17 z18 z19 z20 z21) G=(ldN 3 z8 G).bind λv2=>
 liftR (c H.length H.length 445 (frzArgs H.length [(true,v2)] G).1 (frzArgs H.length [(true,v2)] G).2) (λv3 h4=>
 br3 v3 ((ldN 3 z8 h4).bind λv5=>(st 3 H.length H.length (.ptr r1.2.length 0) v5 h4).bind λh6=>((ldN 3 (.ptr r1.2.length 0) h6).bind λv7=>(some [.d (.int .i64 0)]:Option (List IV)).map λl8=>v7::l8).bind λl9=>fin .pure H H.length l9 h6) (o414_0 c l u H 0 (en414_2 a0 a1 a2 r1 v2 v3 z8 z9 z10 z11 z12 z13 z14 z15 z16 z17 z18 z19 z20 z21) h4)) (λp10 h11=>finP .pure H H.length p10 h11):=by kernel_rfl
theorem F414_0 (a0:IV) (a1 a2:List UInt8) (r1:IV×Hp) (σ:Nat→IV):(fullE (rg 414 [1,0]) (en414_0 a0 a1 a2 r1) σ)=(en414_1 a0 a1 a2 r1 (σ 13) (σ 0) (σ 1) (σ 2) (σ 3) (σ 4) (σ 5) (σ 6) (σ 7) (σ 8) (σ 9) (σ 10) (σ 11) (σ 12)):=by kernel_rfl
theorem O414_0_0 (G:Hp) (a0:IV) (a1 a2:List UInt8) (r1:IV×Hp) (σ:Nat→IV):(((rg 414 [1,0])[0]?).bind λo=>val2 (C414 c l u H) o (fullE (rg 414 [1,0]) (en414_0 a0 a1 a2 r1) σ) G)=(padd r1.1 0).bind λv12=>
 some ((v12:IV),G):=by kernel_rfl
theorem O414_0_1 (G:Hp) (a0:IV) (a1 a2:List UInt8) (r1:IV×Hp) (σ:Nat→IV):(((rg 414 [1,0])[1]?).bind λo=>val2 (C414 c l u H) o (fullE (rg 414 [1,0]) (en414_0 a0 a1 a2 r1) σ) G)=(ld1 ((σ 0)) G).bind λv13=>
 some ((v13:IV),G):=by kernel_rfl
theorem O414_0_2 (G:Hp) (a0:IV) (a1 a2:List UInt8) (r1:IV×Hp) (σ:Nat→IV):(((rg 414 [1,0])[2]?).bind λo=>val2 (C414 c l u H) o (fullE (rg 414 [1,0]) (en414_0 a0 a1 a2 r1) σ) G)=(padd r1.1 1).bind λv14=>
 some ((v14:IV),G):=by kernel_rfl
theorem O414_0_3 (G:Hp) (a0:IV) (a1 a2:List UInt8) (r1:IV×Hp) (σ:Nat→IV):(((rg 414 [1,0])[3]?).bind λo=>val2 (C414 c l u H) o (fullE (rg 414 [1,0]) (en414_0 a0 a1 a2 r1) σ) G)=(ld1 ((σ 2)) G).bind λv15=>
 some ((v15:IV),G):=by kernel_rfl
theorem O414_0_4 (G:Hp) (a0:IV) (a1 a2:List UInt8) (r1:IV×Hp) (σ:Nat→IV):(((rg 414 [1,0])[4]?).bind λo=>val2 (C414 c l u H) o (fullE (rg 414 [1,0]) (en414_0 a0 a1 a2 r1) σ) G)=(padd r1.1 2).bind λv16=>
 some ((v16:IV),G):=by kernel_rfl
theorem O414_0_5 (G:Hp) (a0:IV) (a1 a2:List UInt8) (r1:IV×Hp) (σ:Nat→IV):(((rg 414 [1,0])[5]?).bind λo=>val2 (C414 c l u H) o (fullE (rg 414 [1,0]) (en414_0 a0 a1 a2 r1) σ) G)=(ld1 ((σ 4)) G).bind λv17=>
 some ((v17:IV),G):=by kernel_rfl
theorem O414_0_6 (G:Hp) (a0:IV) (a1 a2:List UInt8) (r1:IV×Hp) (σ:Nat→IV):(((rg 414 [1,0])[6]?).bind λo=>val2 (C414 c l u H) o (fullE (rg 414 [1,0]) (en414_0 a0 a1 a2 r1) σ) G) =
 liftR (c H.length H.length 444 [(σ 5)] G) (λv18 h19=>
 some ((v18:IV),h19)) (λp20 h21=>none):=by kernel_rfl
theorem O414_0_7 (G:Hp) (a0:IV) (a1 a2:List UInt8) (r1:IV×Hp) (σ:Nat→IV):(((rg 414 [1,0])[7]?).bind λo=>val2 (C414 c l u H) o (fullE (rg 414 [1,0]) (en414_0 a0 a1 a2 r1) σ) G) =
 some ((.d (.str a1):IV),G):=by kernel_rfl
theorem O414_0_8 (G:Hp) (a0:IV) (a1 a2:List UInt8) (r1:IV×Hp) (σ:Nat→IV):(((rg 414 [1,0])[8]?).bind λo=>val2 (C414 c l u H) o (fullE (rg 414 [1,0]) (en414_0 a0 a1 a2 r1) σ) G) =
 some ((.d (.str a2):IV),G):=by kernel_rfl
theorem O414_0_9 (G:Hp) (a0:IV) (a1 a2:List UInt8) (r1:IV×Hp) (σ:Nat→IV):(((rg 414 [1,0])[9]?).bind λo=>val2 (C414 c l u H) o (fullE (rg 414 [1,0]) (en414_0 a0 a1 a2 r1) σ) G)=(iBuild P 110 [(0,(σ 7)),(1,(σ 8))]).bind λv22=>
 some ((v22:IV),G):=by kernel_rfl
theorem O414_0_10 (G:Hp) (a0:IV) (a1 a2:List UInt8) (r1:IV×Hp) (σ:Nat→IV):(((rg 414 [1,0])[10]?).bind λo=>val2 (C414 c l u H) o (fullE (rg 414 [1,0]) (en414_0 a0 a1 a2 r1) σ) G)=(iBuildSlice P 32 1 [(0,(σ 9))] G).bind λr23=>
 some ((r23.1:IV),r23.2):=by kernel_rfl
theorem O414_0_11 (G:Hp) (a0:IV) (a1 a2:List UInt8) (r1:IV×Hp) (σ:Nat→IV):(((rg 414 [1,0])[11]?).bind λo=>val2 (C414 c l u H) o (fullE (rg 414 [1,0]) (en414_0 a0 a1 a2 r1) σ) G)=(app 110 2 H.length ((σ 6)) ((σ 10)) G).bind λr24=>
 some ((r24.1:IV),r24.2):=by kernel_rfl
theorem O414_0_12 (G:Hp) (a0:IV) (a1 a2:List UInt8) (r1:IV×Hp) (σ:Nat→IV):(((rg 414 [1,0])[12]?).bind λo=>val2 (C414 c l u H) o (fullE (rg 414 [1,0]) (en414_0 a0 a1 a2 r1) σ) G)=(iBuild P 34 [(0,(σ 1)),(1,(σ 3)),(2,(σ 11))]).bind λv25=>
 some ((v25:IV),G):=by kernel_rfl
theorem O414_0_13 (G:Hp) (a0:IV) (a1 a2:List UInt8) (r1:IV×Hp) (σ:Nat→IV):(((rg 414 [1,0])[13]?).bind λo=>val2 (C414 c l u H) o (fullE (rg 414 [1,0]) (en414_0 a0 a1 a2 r1) σ) G) =
 some ((.ptr (G).length 0:IV),((G)++[Blk.cells 69 [.d (.str []),.d (.str []),.vnil]])):=by kernel_rfl
theorem O414_0_14 (G:Hp) (a0:IV) (a1 a2:List UInt8) (r1:IV×Hp) (σ:Nat→IV):(((rg 414 [1,0])[14]?).bind λo=>val2 (C414 c l u H) o (fullE (rg 414 [1,0]) (en414_0 a0 a1 a2 r1) σ) G)=(st 3 H.length H.length ((σ 13)) ((σ 12)) G).bind λh26=>
 some ((.un:IV),h26):=by kernel_rfl
theorem g414_0 (a0:IV) (a1 a2:List UInt8) (h4:Hp) (r1:IV×Hp) (v2 v3 z8 z9 z10 z11 z12 z13 z14 z15 z16 z17 z18 z19 z20 z21:IV):o414_0 c l u H 0 (en414_2 a0 a1 a2 r1 v2 v3 z8 z9 z10 z11 z12 z13 z14 z15 z16 z17 z18 z19 z20 z21) h4=(ldN 3 r1.1 h4).bind λv27=>
 liftR (c H.length H.length 445 (frzArgs H.length [(true,v27)] h4).1 (frzArgs H.length [(true,v27)] h4).2) (λv28 h29=>
 brN3 v28 ((ldN 3 r1.1 h29).bind λv30=>
 o414_0 c l u H 4 (en414_3 a0 a1 a2 r1 v2 v3 v27 v28 v30 z8 z9 z10 z11 z12 z13 z14 z15 z16 z17 z18 z19 z20 z21) h29) (o414_0 c l u H 4 (en414_4 a0 a1 a2 r1 v2 v3 v27 v28 z8 z9 z10 z11 z12 z13 z14 z15 z16 z17 z18 z19 z20 z21) h29) (o414_0 c l u H 4 (List.set (en414_4 a0 a1 a2 r1 v2 v3 v27 v28 z8 z9 z10 z11 z12 z13 z14 z15 z16 z17 z18 z19 z20 z21) 29 v28) h29)) (λp31 h32=>finP .pure H H.length p31 h32):=by
 unfold o414_0
 refine (oG 4).trans ?_
 generalize opsK2 _ _ _=X
 kernel_rfl
theorem g414_1 (a0:IV) (a1 a2:List UInt8) (h29:Hp) (r1:IV×Hp) (v2 v3 v27 v28 v30 z8 z9 z10 z11 z12 z13 z14 z15 z16 z17 z18 z19 z20 z21:IV):o414_0 c l u H 4 (en414_3 a0 a1 a2 r1 v2 v3 v27 v28 v30 z8 z9 z10 z11 z12 z13 z14 z15 z16 z17 z18 z19 z20 z21) h29 =
 liftR (c H.length H.length 443 [v30,.d (.str a1)] h29) (λv33 h34=>(iBin P .geq 3 v33 (.d (.int .i64 0))).bind λv35=>
 brN3 v35 (o414_0 c l u H 10 (en414_5 a0 a1 a2 r1 v2 v3 v27 v28 v30 v33 v35 z8 z9 z10 z11 z12 z13 z14 z15 z16 z17 z18 z19 z20 z21) h34) (o414_0 c l u H 10 (en414_6 a0 a1 a2 r1 v2 v3 v27 v28 v30 v33 v35 z8 z9 z10 z11 z12 z13 z14 z15 z16 z17 z18 z19 z20 z21) h34) (o414_0 c l u H 10 (List.set (en414_6 a0 a1 a2 r1 v2 v3 v27 v28 v30 v33 v35 z8 z9 z10 z11 z12 z13 z14 z15 z16 z17 z18 z19 z20 z21) 35 v35) h34)) (λp36 h37=>finP .pure H H.length p36 h37):=by
 unfold o414_0
 refine (oG 6).trans ?_
 generalize opsK2 _ _ _=X
 kernel_rfl
theorem g414_2 (a0:IV) (a1 a2:List UInt8) (h29:Hp) (r1:IV×Hp) (v2 v3 v27 v28 z8 z9 z10 z11 z12 z13 z14 z15 z16 z17 z18 z19 z20 z21:IV):o414_0 c l u H 4 (en414_4 a0 a1 a2 r1 v2 v3 v27 v28 z8 z9 z10 z11 z12 z13 z14 z15 z16 z17 z18 z19 z20 z21) h29=(st 3 H.length H.length (.ptr r1.2.length 0) (.agg [.d (.str []),.d (.str []),.vnil]) h29).bind λh38=>((ldN 3 (.ptr r1.2.length 0) h38).bind λv39=>(some [.d (.int .i64 2)]:Option (List IV)).map λl40=>v39::l40).bind λl41=>fin .pure H H.length l41 h38:=by
 unfold o414_0
 refine (oG 10).trans ?_
 generalize opsK2 _ _ _=X
 kernel_rfl
theorem g414_3 (a0:IV) (a1 a2:List UInt8) (h34:Hp) (r1:IV×Hp) (v2 v3 v27 v28 v30 v33 v35 z8 z9 z10 z11 z12 z13 z14 z15 z16 z17 z18 z19 z20 z21:IV):o414_0 c l u H 10 (en414_5 a0 a1 a2 r1 v2 v3 v27 v28 v30 v33 v35 z8 z9 z10 z11 z12 z13 z14 z15 z16 z17 z18 z19 z20 z21) h34 =
 liftR (c H.length H.length 277 [.d (.str a2),.fn 446 [] []] h34) (λv42 h43=>
 br3 v42 ((st 3 H.length H.length (.ptr r1.2.length 0) (.agg [.d (.str []),.d (.str []),.vnil]) h43).bind λh44=>((ldN 3 (.ptr r1.2.length 0) h44).bind λv45=>(some [.d (.int .i64 7)]:Option (List IV)).map λl46=>v45::l46).bind λl47=>fin .pure H H.length l47 h44) ((st 3 H.length H.length (.ptr r1.2.length 0) (.agg [.d (.str []),.d (.str []),.vnil]) h43).bind λh48=>((ldN 3 (.ptr r1.2.length 0) h48).bind λv49=>(some [.d (.int .i64 2)]:Option (List IV)).map λl50=>v49::l50).bind λl51=>fin .pure H H.length l51 h48)) (λp52 h53=>finP .pure H H.length p52 h53):=by
 unfold o414_0
 refine (oG 4).trans ?_
 generalize opsK2 _ _ _=X
 kernel_rfl
theorem g414_4 (a0:IV) (a1 a2:List UInt8) (h34:Hp) (r1:IV×Hp) (v2 v3 v27 v28 v30 v33 v35 z8 z9 z10 z11 z12 z13 z14 z15 z16 z17 z18 z19 z20 z21:IV):o414_0 c l u H 10 (en414_6 a0 a1 a2 r1 v2 v3 v27 v28 v30 v33 v35 z8 z9 z10 z11 z12 z13 z14 z15 z16 z17 z18 z19 z20 z21) h34=(st 3 H.length H.length (.ptr r1.2.length 0) (.agg [.d (.str []),.d (.str []),.vnil]) h34).bind λh54=>((ldN 3 (.ptr r1.2.length 0) h54).bind λv55=>(some [.d (.int .i64 2)]:Option (List IV)).map λl56=>v55::l56).bind λl57=>fin .pure H H.length l57 h54:=by
 unfold o414_0
 refine (oG 4).trans ?_
 generalize opsK2 _ _ _=X
 kernel_rfl
section
variable (a0:IV)(a1:List UInt8)(a2:IV)(h13:Hp)(r1 r2:IV×Hp)(v3 v4 v6 v7 v8 v9 v11 v12 v14 v30:IV)
abbrev C370 (c:Oracle)(l u:Nat)(H:Hp):Ctx:=⟨P,tab,c,H.length,H.length⟩
abbrev k370 (c:Oracle)(l u:Nat)(H:Hp):KR:=endK P (fnOf 370) .pure H H.length
def en370_0:Env:=mkE 44 [(0,a0),(1,.d (.str a1)),(2,a2),(3,r1.1),(5,r2.1),(6,.ptr r2.2.length 0),(7,.d (.str [])),(8,v6),(9,v7),(12,v4),(13,v3),(14,v4),(15,v6),(16,v7),(17,v8),(18,v9),(19,v11),(20,v12),(21,v14)]
def q370_0 (c:Oracle)(l u:Nat)(H:Hp):KR:=popK (C370 c l u H) [] (k370 c l u H) [.sq (cd 370 [1,1,1,0,1]),.sq (cd 370 [1,1,1,1])]
def o370_0 (c:Oracle)(l u:Nat)(H:Hp) (n:Nat) (e:Env) (G:Hp):Res:=opsK2 (C370 c l u H) none (rg 370 [1,1,1,0,0]) (dr 370 [1,1,1,0,0] n) e G (q370_0 c l u H)
def en370_1:Env:=upE (en370_0 a0 a1 a2 r1 r2 v3 v4 v6 v7 v8 v9 v11 v12 v14) [(25,v7),(26,v30),(27,.d (.bool true)),(28,.d (.str a1))]
def en370_2:Env:=upE (en370_1 a0 a1 a2 r1 r2 v3 v4 v6 v7 v8 v9 v11 v12 v14 v30) [(27,.d (.bool false)),(28,.no)]
theorem R370:bodyK2 P tab c l u 370 [a0,.d (.str a1),a2] H=(iBox 34 a0 H).bind λr1=>(iBox 34 a2 r1.2).bind λr2=>(ldN 3 r2.1 (r2.2++[Blk.cells 69 [.d (.str []),.d (.str []),.vnil]])).bind λv3=>
 liftR (c H.length H.length 412 (frzArgs H.length [(true,v3),(false,.d (.str [99,104,97,114,115,101,116]))] (r2.2++[Blk.cells 69 [.d (.str []),.d (.str []),.vnil]])).1 (frzArgs H.length [(true,v3),(false,.d (.str [99,104,97,114,115,101,116]))] (r2.2++[Blk.cells 69 [.d (.str []),.d (.str []),.vnil]])).2) (λv4 h5=>(iExtract v4 0).bind λv6=>(iExtract v4 1).bind λv7=>(ldN 3 r1.1 h5).bind λv8=>
 fitsL false [(true,v8)] (
 liftR (c H.length H.length 195 (frzArgs H.length [(true,v8)] h5).1 (frzArgs H.length [(true,v8)] h5).2) (λv9 h10=>(ldN 3 r2.1 h10).bind λv11=>
 fitsL false [(true,v11)] (
 liftR (c H.length H.length 195 (frzArgs H.length [(true,v11)] h10).1 (frzArgs H.length [(true,v11)] h10).2) (λv12 h13=>(iBin P .neq 9 v9 v12).bind λv14=>
 br3 v14 ((ldN 3 r2.1 h13).bind λv15=>
 liftR (c H.length H.length 413 (frzArgs H.length [(true,v15)] h13).1 (frzArgs H.length [(true,v15)] h13).2) (λv16 h17=>(st 3 H.length H.length (.ptr r2.2.length 0) v16 h17).bind λh18=>((ldN 3 (.ptr r2.2.length 0) h18).bind λv19=>(some [v6]:Option (List IV)).map λl20=>v19::l20).bind λl21=>fin .pure H H.length l21 h18) (λp22 h23=>finP .pure H H.length p22 h23)) (o370_0 c l u H 0 (en370_0 a0 a1 a2 r1 r2 v3 v4 v6 v7 v8 v9 v11 v12 v14) h13)) (λp24 h25=>none))) (λp26 h27=>none))) (λp28 h29=>finP .pure H H.length p28 h29):=by kernel_rfl
theorem g370_0:o370_0 c l u H 0 (en370_0 a0 a1 a2 r1 r2 v3 v4 v6 v7 v8 v9 v11 v12 v14) h13=(iUn .not v7).bind λv30=>
 brN3 v30 (o370_0 c l u H 4 (en370_1 a0 a1 a2 r1 r2 v3 v4 v6 v7 v8 v9 v11 v12 v14 v30) h13) (o370_0 c l u H 4 (en370_2 a0 a1 a2 r1 r2 v3 v4 v6 v7 v8 v9 v11 v12 v14 v30) h13) (o370_0 c l u H 4 (List.set (en370_2 a0 a1 a2 r1 r2 v3 v4 v6 v7 v8 v9 v11 v12 v14 v30) 27 v30) h13):=by
 unfold o370_0
 refine (oG 4).trans ?_
 generalize opsK2 _ _ _=X
 kernel_rfl
theorem g370_1:o370_0 c l u H 4 (en370_1 a0 a1 a2 r1 r2 v3 v4 v6 v7 v8 v9 v11 v12 v14 v30) h13=(iBin P .neq 9 (.d (.str a1)) (.d (.str []))).bind λv31=>
 br3 v31 ((ldN 3 r2.1 h13).bind λv32=>
 liftR (c H.length H.length 414 (frzArgs H.length [(true,v32),(false,.d (.str [99,104,97,114,115,101,116])),(false,.d (.str a1))] h13).1 (frzArgs H.length [(true,v32),(false,.d (.str [99,104,97,114,115,101,116])),(false,.d (.str a1))] h13).2) (λv33 h34=>(iExtract v33 0).bind λv35=>(iExtract v33 1).bind λv36=>(st 3 H.length H.length (.ptr h34.length 0) v35 (h34++[Blk.cells 69 [.d (.str []),.d (.str []),.vnil]])).bind λh37=>(iBin P .eql 42 v36 (.d (.int .i64 0))).bind λv38=>
 br3 v38 ((ldN 3 (.ptr h34.length 0) h37).bind λv39=>(st 3 H.length H.length (.ptr r2.2.length 0) v39 h37).bind λh40=>((ldN 3 (.ptr r2.2.length 0) h40).bind λv41=>(some [.d (.str a1)]:Option (List IV)).map λl42=>v41::l42).bind λl43=>fin .pure H H.length l43 h40) ((ldN 3 r2.1 h37).bind λv44=>
 liftR (c H.length H.length 413 (frzArgs H.length [(true,v44)] h37).1 (frzArgs H.length [(true,v44)] h37).2) (λv45 h46=>(st 3 H.length H.length (.ptr r2.2.length 0) v45 h46).bind λh47=>((ldN 3 (.ptr r2.2.length 0) h47).bind λv48=>(some [.d (.str a1)]:Option (List IV)).map λl49=>v48::l49).bind λl50=>fin .pure H H.length l50 h47) (λp51 h52=>finP .pure H H.length p51 h52))) (λp53 h54=>finP .pure H H.length p53 h54)) ((ldN 3 r2.1 h13).bind λv55=>
 liftR (c H.length H.length 413 (frzArgs H.length [(true,v55)] h13).1 (frzArgs H.length [(true,v55)] h13).2) (λv56 h57=>(st 3 H.length H.length (.ptr r2.2.length 0) v56 h57).bind λh58=>((ldN 3 (.ptr r2.2.length 0) h58).bind λv59=>(some [.d (.str a1)]:Option (List IV)).map λl60=>v59::l60).bind λl61=>fin .pure H H.length l61 h58) (λp62 h63=>finP .pure H H.length p62 h63)):=by
 unfold o370_0
 refine (oG 3).trans ?_
 generalize opsK2 _ _ _=X
 kernel_rfl
theorem g370_2:o370_0 c l u H 4 (en370_2 a0 a1 a2 r1 r2 v3 v4 v6 v7 v8 v9 v11 v12 v14 v30) h13=(ldN 3 r2.1 h13).bind λv64=>
 liftR (c H.length H.length 413 (frzArgs H.length [(true,v64)] h13).1 (frzArgs H.length [(true,v64)] h13).2) (λv65 h66=>(st 3 H.length H.length (.ptr r2.2.length 0) v65 h66).bind λh67=>((ldN 3 (.ptr r2.2.length 0) h67).bind λv68=>(some [.d (.str a1)]:Option (List IV)).map λl69=>v68::l69).bind λl70=>fin .pure H H.length l70 h67) (λp71 h72=>finP .pure H H.length p71 h72):=by
 unfold o370_0
 refine (oG 3).trans ?_
 generalize opsK2 _ _ _=X
 kernel_rfl
end
end
end Go.Tg
set_option linter.unusedVariables false
namespace Go.Tg
noncomputable section
variable [Globs] (c:Oracle)(l u:Nat)(H:Hp)
section
variable (a0:List D)(e3 e9 e10 e11:IV)(G h11 h14:Hp)(v7 v8 v9 v10 v12 v13 v17 v18:IV)
abbrev C369 (c:Oracle)(l u:Nat)(H:Hp):Ctx:=⟨P,tab,c,H.length,H.length⟩
abbrev k369 (c:Oracle)(l u:Nat)(H:Hp):KR:=endK P (fnOf 369) .pure H H.length
def E369:Env:=[.un,.un,.un,e3,.un,.un,.un,.un,.un,e9,e10,e11,.un,.un,.un,.un,.un,.un,.un,.un,.un,.un,.un,.un,.un,.un,.un,.un,.un,.un,.un,.un,.un]
def en369_0:Env:=mkE 33 [(3,e3),(5,v9),(6,.ptr h11.length 0),(7,v13),(9,e9),(10,e10),(11,e11),(12,v7),(13,v8),(14,v9),(15,v10),(16,v9),(17,v10),(18,v12),(19,v13)]
def q369_0 (c:Oracle)(l u:Nat)(H:Hp):Ex→Env→Hp→OS:=popK (C369 c l u H) [3,9,10,11] (stepK [3,9,10,11]) [.sq (cd 369 [1,1,0,1,0,0,1,1,0,0,1,1,1]),.bk 1,.sq (cd 369 [1,1,0,1,0,0,1,1,1])]
def o369_0 (c:Oracle)(l u:Nat)(H:Hp) (n:Nat) (e:Env) (G:Hp):OS:=opsK2 (C369 c l u H) none (rg 369 [1,1,0,1,0,0,1,1,0,0,1,1,0]) (dr 369 [1,1,0,1,0,0,1,1,0,0,1,1,0] n) e G (q369_0 c l u H)
def en369_1:Env:=upE (en369_0 e3 e9 e10 e11 h11 v7 v8 v9 v10 v12 v13) [(20,v13),(21,v17),(22,.d (.bool true)),(23,v18)]
def en369_2:Env:=upE (en369_0 e3 e9 e10 e11 h11 v7 v8 v9 v10 v12 v13) [(20,v13),(21,v17),(22,.d (.bool false)),(23,.no)]
theorem R369:bodyK2 P tab c l u 369 [.d (.lst a0)] H =
 liftR (c H.length H.length 410 [.d (.lst a0)] H) (λv1 h2=>(lnV v1).bind λv3=>(loopW (stepL (C369 c l u H) [3,9,10,11] (cd 369 [1,1,0,1,0,0])) ((E369 .vnil v1 v3 (.d (.int .i64 0))),h2)).bind λr4=>popK (C369 c l u H) [3,9,10,11] (k369 c l u H) [.bk 0,.sq (cd 369 [1,1,1])] r4.1 r4.2.1 r4.2.2) (λp5 h6=>finP .pure H H.length p5 h6):=by kernel_rfl
theorem B369_0:stepL (C369 c l u H) [3,9,10,11] (cd 369 [1,1,0,1,0,0]) ((E369 e3 e9 e10 e11),G)=(iBin P .lss 3 e11 e10).bind λv7=>
 br3 v7 ((ixA 1 e9 e11).bind λv8=>(ld1 v8 G).bind λv9=>
 liftR (c H.length H.length 411 [v9] G) (λv10 h11=>(iExtract v10 0).bind λv12=>(iExtract v10 1).bind λv13=>(st 3 H.length H.length (.ptr h11.length 0) v12 (h11++[Blk.cells 69 [.d (.str []),.d (.str []),.vnil]])).bind λh14=>
 o369_0 c l u H 0 (en369_0 e3 e9 e10 e11 h11 v7 v8 v9 v10 v12 v13) h14) (λp15 h16=>some (.inr (.pan p15,(E369 e3 e9 e10 e11),h16)))) (some (.inr (.exi 0,(E369 e3 e9 e10 e11),G))):=by kernel_rfl
theorem g369_0:o369_0 c l u H 0 (en369_0 e3 e9 e10 e11 h11 v7 v8 v9 v10 v12 v13) h14=(iBin P .eql 42 v13 (.d (.int .i64 0))).bind λv17=>
 brN3 v17 ((ldN 3 (.ptr h11.length 0) h14).bind λv18=>
 o369_0 c l u H 4 (en369_1 e3 e9 e10 e11 h11 v7 v8 v9 v10 v12 v13 v17 v18) h14) (o369_0 c l u H 4 (en369_2 e3 e9 e10 e11 h11 v7 v8 v9 v10 v12 v13 v17) h14) (o369_0 c l u H 4 (List.set (en369_2 e3 e9 e10 e11 h11 v7 v8 v9 v10 v12 v13 v17) 22 v17) h14):=by
 unfold o369_0
 refine (oG 4).trans ?_
 generalize opsK2 _ _ _=X
 kernel_rfl
theorem g369_1:o369_0 c l u H 4 (en369_1 e3 e9 e10 e11 h11 v7 v8 v9 v10 v12 v13 v17 v18) h14 =
 liftR (c H.length H.length 195 (frzArgs H.length [(true,v18)] h14).1 (frzArgs H.length [(true,v18)] h14).2) (λv19 h20=>(iBin P .neq 9 v19 (.d (.str [42,47,42]))).bind λv21=>
 br3 v21 ((ldN 3 (.ptr h11.length 0) h20).bind λv22=>(iBuildSlice P 78 1 [(0,v22)] h20).bind λr23=>(app 34 3 H.length e3 r23.1 r23.2).bind λr24=>(iBin P .add 3 e11 (.d (.int .i64 1))).bind λv25=>
 some (.inl ((E369 r24.1 e9 e10 v25),r24.2))) ((iBin P .add 3 e11 (.d (.int .i64 1))).bind λv26=>
 some (.inl ((E369 e3 e9 e10 v26),h20)))) (λp27 h28=>some (.inr (.pan p27,(E369 e3 e9 e10 e11),h28))):=by
 unfold o369_0
 refine (oG 4).trans ?_
 generalize opsK2 _ _ _=X
 kernel_rfl
theorem g369_2:o369_0 c l u H 4 (en369_2 e3 e9 e10 e11 h11 v7 v8 v9 v10 v12 v13 v17) h14=(iBin P .add 3 e11 (.d (.int .i64 1))).bind λv29=>
 some (.inl ((E369 e3 e9 e10 v29),h14)):=by
 unfold o369_0
 refine (oG 4).trans ?_
 generalize opsK2 _ _ _=X
 kernel_rfl
theorem K369_0x0:popK (C369 c l u H) [3,9,10,11] (k369 c l u H) [.bk 0,.sq (cd 369 [1,1,1])] (.exi 0) (E369 e3 e9 e10 e11) G =
 fin .pure H H.length [e3] G:=by kernel_rfl
end
theorem R410 (a0:List D):bodyK2 P tab c l u 410 [.d (.lst a0)] H=(lnV (.d (.lst a0))).bind λv1=>(iBin P .eql 3 v1 (.d (.int .i64 0))).bind λv2=>
 br3 v2 (fin .pure H H.length [.vnil] H) (liftR (c H.length H.length 416 [.d (.lst a0)] H) (λv3 h4=>
 liftR (c H.length H.length 307 [v3] h4) (λv5 h6=>
 fin .pure H H.length [v5] h6) (λp7 h8=>finP .pure H H.length p7 h8)) (λp9 h10=>finP .pure H H.length p9 h10)):=by kernel_rfl
theorem R416 (a0:List D):bodyK2 P tab c l u 416 [.d (.lst a0)] H =
 liftR (c H.length H.length 356 [.d (.lst a0),.d (.str [44,32])] H) (λv1 h2=>
 fin .pure H H.length [v1] h2) (λp3 h4=>finP .pure H H.length p3 h4):=by kernel_rfl
theorem R372 (a0:List D):bodyK2 P tab c l u 372 [.d (.lst a0)] H =
 liftR (c H.length H.length 416 [.d (.lst a0)] H) (λv1 h2=>
 fin .pure H H.length [v1] h2) (λp3 h4=>finP .pure H H.length p3 h4):=by kernel_rfl
section
variable (a0:List D)(e2 e4 e5 e6 e11 e12 e13:IV)(G:Hp)
abbrev C304 (c:Oracle)(l u:Nat)(H:Hp):Ctx:=⟨P,tab,c,H.length,H.length⟩
abbrev k304 (c:Oracle)(l u:Nat)(H:Hp):KR:=endK P (fnOf 304) .pure H H.length
def E304:Env:=[.un,.un,e2,.un,e4,e5,e6,.un,.un,.un,.un,e11,e12,e13,.un,.un,.un,.un,.un,.un,.un,.un,.un,.un,.un,.un,.un,.un,.un,.un]
theorem R304:bodyK2 P tab c l u 304 [.d (.lst a0)] H =
 liftR (c H.length H.length 369 [.d (.lst a0)] (((H++[Blk.cells 69 [.d (.str []),.d (.str []),.vnil]]))++[Blk.cells 69 [.d (.str []),.d (.str []),.vnil]])) (λv1 h2=>(lnV v1).bind λv3=>(loopW (stepL (C304 c l u H) [2,4,5,6,11,12,13] (cd 304 [1,1,1,1,0,1,0,0])) ((E304 (.ptr H.length 0) (.ptr ((H++[Blk.cells 69 [.d (.str []),.d (.str []),.vnil]])).length 0) (.d (.str [])) v1 v1 v3 (.d (.int .i64 0))),h2)).bind λr4=>popK (C304 c l u H) [2,4,5,6,11,12,13] (k304 c l u H) [.bk 0,.sq (cd 304 [1,1,1,1,1])] r4.1 r4.2.1 r4.2.2) (λp5 h6=>finP .pure H H.length p5 h6):=by kernel_rfl
theorem B304_0:stepL (C304 c l u H) [2,4,5,6,11,12,13] (cd 304 [1,1,1,1,0,1,0,0]) ((E304 e2 e4 e5 e6 e11 e12 e13),G)=(iBin P .lss 3 e13 e12).bind λv7=>
 br3 v7 ((ixA 3 e11 e13).bind λv8=>(ldN 3 v8 G).bind λv9=>(st 3 H.length H.length (.ptr (G).length 0) v9 ((G)++[Blk.cells 69 [.d (.str []),.d (.str []),.vnil]])).bind λh10=>(ldN 3 e4 h10).bind λv11=>(ldN 3 (.ptr (G).length 0) h10).bind λv12=>
 liftR (c H.length H.length 370 (frzArgs H.length [(true,v11),(false,e5),(true,v12)] h10).1 (frzArgs H.length [(true,v11),(false,e5),(true,v12)] h10).2) (λv13 h14=>(iExtract v13 0).bind λv15=>(iExtract v13 1).bind λv16=>(st 3 H.length H.length e4 v15 h14).bind λh17=>(iBin P .add 3 e13 (.d (.int .i64 1))).bind λv18=>
 some (.inl ((E304 e2 e4 v16 e6 e11 e12 v18),h17))) (λp19 h20=>some (.inr (.pan p19,(E304 e2 e4 e5 e6 e11 e12 e13),h20)))) (some (.inr (.exi 0,(E304 e2 e4 e5 e6 e11 e12 e13),G))):=by kernel_rfl
theorem K304_0x0:popK (C304 c l u H) [2,4,5,6,11,12,13] (k304 c l u H) [.bk 0,.sq (cd 304 [1,1,1,1,1])] (.exi 0) (E304 e2 e4 e5 e6 e11 e12 e13) G=(lnV e6).bind λv21=>(iBin P .eql 3 v21 (.d (.int .i64 0))).bind λv22=>
 br3 v22 ((st 3 H.length H.length e2 (.agg [.d (.str []),.d (.str []),.vnil]) G).bind λh23=>((ldN 3 e2 h23).bind λv24=>(some [.d (.int .i64 4)]:Option (List IV)).map λl25=>v24::l25).bind λl26=>fin .pure H H.length l26 h23) ((ldN 3 e4 G).bind λv27=>(st 3 H.length H.length e2 v27 G).bind λh28=>((ldN 3 e2 h28).bind λv29=>(some [.d (.int .i64 0)]:Option (List IV)).map λl30=>v29::l30).bind λl31=>fin .pure H H.length l31 h28):=by kernel_rfl
end
theorem R238 (a0:List D):bodyK2 P tab c l u 238 [.d (.lst a0)] H =
 liftR (c H.length H.length 304 [.d (.lst a0)] (H++[Blk.cells 69 [.d (.str []),.d (.str []),.vnil]])) (λv1 h2=>(iExtract v1 0).bind λv3=>(iExtract v1 1).bind λv4=>(st 3 H.length H.length (.ptr H.length 0) v3 h2).bind λh5=>((ldN 3 (.ptr H.length 0) h5).bind λv6=>(some [v4]:Option (List IV)).map λl7=>v6::l7).bind λl8=>fin .pure H H.length l8 h5) (λp9 h10=>finP .pure H H.length p9 h10):=by kernel_rfl
theorem R371 (a0:List UInt8):bodyK2 P tab c l u 371 [.d (.str a0)] H =
 fin .keep H u [.fn 415 [] [.ptr H.length 0]] (H++[Blk.cells 19 [.d (.str a0)]]):=by kernel_rfl
theorem R415 (a0:IV) (c0:IV):bodyK2 P tab c l u 415 [a0,c0] H=(iBox 84 a0 H).bind λr1=>(padd r1.1 0).bind λv2=>(ld1 v2 r1.2).bind λv3=>(ld1 c0 r1.2).bind λv4=>
 liftR (c H.length H.length 241 [v3,v4] r1.2) (λv5 h6=>
 fin .pure H H.length [v5] h6) (λp7 h8=>finP .pure H H.length p7 h8):=by kernel_rfl
section
variable (a0:List UInt8)(a1:List D)(e5 e6 e11 e12 e13:IV)(G:Hp)
abbrev C305 (c:Oracle)(l u:Nat)(H:Hp):Ctx:=⟨P,tab,c,H.length,H.length⟩
abbrev k305 (c:Oracle)(l u:Nat)(H:Hp):KR:=endK P (fnOf 305) .pure H H.length
def E305:Env:=[.un,.un,.un,.un,.un,e5,e6,.un,.un,.un,.un,e11,e12,e13,.un,.un,.un,.un,.un,.un,.un,.un,.un,.un,.un,.un,.un]
theorem R305:bodyK2 P tab c l u 305 [.d (.str a0),.d (.lst a1)] H =
 liftR (c H.length H.length 371 [.d (.str a0)] H) (λv1 h2=>(lnV (.d (.lst a1))).bind λv3=>(loopW (stepL (C305 c l u H) [5,6,11,12,13] (cd 305 [1,1,1,0,1,0,0])) ((E305 .vnil v1 (.d (.lst a1)) v3 (.d (.int .i64 0))),h2)).bind λr4=>popK (C305 c l u H) [5,6,11,12,13] (k305 c l u H) [.bk 0,.sq (cd 305 [1,1,1,1])] r4.1 r4.2.1 r4.2.2) (λp5 h6=>finP .pure H H.length p5 h6):=by kernel_rfl
theorem B305_0:stepL (C305 c l u H) [5,6,11,12,13] (cd 305 [1,1,1,0,1,0,0]) ((E305 e5 e6 e11 e12 e13),G)=(iBin P .lss 3 e13 e12).bind λv7=>
 br3 v7 ((ixA 2 e11 e13).bind λv8=>(ldN 2 v8 G).bind λv9=>(st 2 H.length H.length (.ptr (G).length 0) v9 ((G)++[Blk.cells 169 [.d (.str []),.d (.str [])]])).bind λh10=>(ldN 2 (.ptr (G).length 0) h10).bind λv11=>
 goVal3 (C305 c l u H) e6 [v11] h10 (λv12 h13=>
 br3 v12 ((ld1 (.ptr (G).length 1) h13).bind λv14=>(iBuildSlice P 31 1 [(0,v14)] h13).bind λr15=>(app 9 1 H.length e5 r15.1 r15.2).bind λr16=>(iBin P .add 3 e13 (.d (.int .i64 1))).bind λv17=>
 some (.inl ((E305 r16.1 e6 e11 e12 v17),r16.2))) ((iBin P .add 3 e13 (.d (.int .i64 1))).bind λv18=>
 some (.inl ((E305 e5 e6 e11 e12 v18),h13)))) (λp19 h20=>some (.inr (.pan p19,(E305 e5 e6 e11 e12 e13),h20)))) (some (.inr (.exi 0,(E305 e5 e6 e11 e12 e13),G))):=by kernel_rfl
theorem K305_0x0:popK (C305 c l u H) [5,6,11,12,13] (k305 c l u H) [.bk 0,.sq (cd 305 [1,1,1,1])] (.exi 0) (E305 e5 e6 e11 e12 e13) G =
 fin .pure H H.length [e5] G:=by kernel_rfl
end
theorem R239 (a0:List UInt8) (a1:List D):bodyK2 P tab c l u 239 [.d (.str a0),.d (.lst a1)] H =
 liftR (c H.length H.length 305 [.d (.str a0),.d (.lst a1)] H) (λv1 h2=>
 fin .pure H H.length [v1] h2) (λp3 h4=>finP .pure H H.length p3 h4):=by kernel_rfl
theorem R306 (a0:List UInt8) (a1:List D):bodyK2 P tab c l u 306 [.d (.str a0),.d (.lst a1)] H =
 liftR (c H.length H.length 305 [.d (.str a0),.d (.lst a1)] H) (λv1 h2=>(lnV v1).bind λv3=>(iBin P .eql 3 v3 (.d (.int .i64 0))).bind λv4=>
 br3 v4 (fin .pure H H.length [.d (.str []),.d (.bool false)] h2) (liftR (c H.length H.length 372 (frzArgs H.length [(true,v1)] h2).1 (frzArgs H.length [(true,v1)] h2).2) (λv5 h6=>
 fin .pure H H.length [v5,.d (.bool true)] h6) (λp7 h8=>finP .pure H H.length p7 h8))) (λp9 h10=>finP .pure H H.length p9 h10):=by kernel_rfl
theorem R240 (a0:List D):bodyK2 P tab c l u 240 [.d (.lst a0)] H =
 liftR (c H.length H.length 306 [.d (.str [88,45,67,111,110,116,101,110,116,45,84,121,112,101,45,79,112,116,105,111,110,115]),.d (.lst a0)] H) (λv1 h2=>(iExtract v1 0).bind λv3=>(iExtract v1 1).bind λv4=>(iUn .not v4).bind λv5=>
 br3 v5 (fin .pure H H.length [.vnil] h2) (liftR (c H.length H.length 307 [v3] h2) (λv6 h7=>
 fin .pure H H.length [v6] h7) (λp8 h9=>finP .pure H H.length p8 h9))) (λp10 h11=>finP .pure H H.length p10 h11):=by kernel_rfl
section
variable (a0:List D)(h2:Hp)(v1 v5 v6:IV)
abbrev C185 (c:Oracle)(l u:Nat)(H:Hp):Ctx:=⟨P,tab,c,H.length,H.length⟩
abbrev k185 (c:Oracle)(l u:Nat)(H:Hp):KR:=endK P (fnOf 185) .pure H H.length
def en185_0:Env:=mkE 15 [(0,.d (.lst a0)),(2,.d (.bool false)),(3,v1),(4,.d (.lst a0)),(5,v1)]
def q185_0 (c:Oracle)(l u:Nat)(H:Hp):KR:=popK (C185 c l u H) [] (k185 c l u H) [.sq (cd 185 [1,1,1])]
def o185_0 (c:Oracle)(l u:Nat)(H:Hp) (n:Nat) (e:Env) (G:Hp):Res:=opsK2 (C185 c l u H) none (rg 185 [1,1,0]) (dr 185 [1,1,0] n) e G (q185_0 c l u H)
def en185_1:Env:=mkE 15 [(0,.d (.lst a0)),(2,.d (.bool false)),(3,v1),(4,.d (.lst a0)),(5,v1),(6,v1),(7,v5),(8,v6),(9,.d (.bool true)),(10,v1)]
def en185_2:Env:=mkE 15 [(0,.d (.lst a0)),(2,.d (.bool false)),(3,v1),(4,.d (.lst a0)),(5,v1),(6,v1),(7,v5),(8,v6),(9,.d (.bool false)),(10,.no)]
theorem R185:bodyK2 P tab c l u 185 [.d (.lst a0)] H =
 liftR (c H.length H.length 240 [.d (.lst a0)] H) (λv1 h2=>
 o185_0 c l u H 0 (en185_0 a0 v1) h2) (λp3 h4=>finP .pure H H.length p3 h4):=by kernel_rfl
theorem g185_0:o185_0 c l u H 0 (en185_0 a0 v1) h2=(lnV v1).bind λv5=>(iBin P .gtr 3 v5 (.d (.int .i64 0))).bind λv6=>
 brN3 v6 (o185_0 c l u H 5 (en185_1 a0 v1 v5 v6) h2) (o185_0 c l u H 5 (en185_2 a0 v1 v5 v6) h2) (o185_0 c l u H 5 (List.set (en185_2 a0 v1 v5 v6) 9 v6) h2):=by
 unfold o185_0
 refine (oG 5).trans ?_
 generalize opsK2 _ _ _=X
 kernel_rfl
theorem g185_1:o185_0 c l u H 5 (en185_1 a0 v1 v5 v6) h2=(ixA 1 v1 (.d (.int .i64 0))).bind λv7=>(ld1 v7 h2).bind λv8=>
 liftR (c H.length H.length 241 [v8,.d (.str [110,111,115,110,105,102,102])] h2) (λv9 h10=>
 fin .pure H H.length [v9] h10) (λp11 h12=>finP .pure H H.length p11 h12):=by
 unfold o185_0
 refine (oG 6).trans ?_
 generalize opsK2 _ _ _=X
 kernel_rfl
theorem g185_2:o185_0 c l u H 5 (en185_2 a0 v1 v5 v6) h2 =
 fin .pure H H.length [.d (.bool false)] h2:=by
 unfold o185_0
 refine (oG 6).trans ?_
 generalize opsK2 _ _ _=X
 kernel_rfl
end
theorem R183 (a0:List D):bodyK2 P tab c l u 183 [.d (.lst a0)] H =
 liftR (c H.length H.length 239 [.d (.str [67,111,110,116,101,110,116,45,84,121,112,101]),.d (.lst a0)] (H++[Blk.cells 69 [.d (.str []),.d (.str []),.vnil]])) (λv1 h2=>
 liftR (c H.length H.length 238 (frzArgs H.length [(true,v1)] h2).1 (frzArgs H.length [(true,v1)] h2).2) (λv3 h4=>(iExtract v3 0).bind λv5=>(iExtract v3 1).bind λv6=>(st 3 H.length H.length (.ptr h4.length 0) v5 (h4++[Blk.cells 69 [.d (.str []),.d (.str []),.vnil]])).bind λh7=>(ldN 3 (.ptr h4.length 0) h7).bind λv8=>(iBin P .eql 42 v6 (.d (.int .i64 0))).bind λv9=>(st 3 H.length H.length (.ptr H.length 0) v8 h7).bind λh10=>((ldN 3 (.ptr H.length 0) h10).bind λv11=>(some [v9]:Option (List IV)).map λl12=>v11::l12).bind λl13=>fin .pure H H.length l13 h10) (λp14 h15=>finP .pure H H.length p14 h15)) (λp16 h17=>finP .pure H H.length p16 h17):=by kernel_rfl
theorem R184 (a0:List D):bodyK2 P tab c l u 184 [.d (.lst a0)] H =
 liftR (c H.length H.length 239 [.d (.str [67,111,110,116,101,110,116,45,84,121,112,101]),.d (.lst a0)] H) (λv1 h2=>(lnV v1).bind λv3=>(iBin P .eql 3 v3 (.d (.int .i64 0))).bind λv4=>
 br3 v4 (fin .pure H H.length [.d (.str []),.d (.bool false)] h2) ((lnV v1).bind λv5=>(iBin P .sub 3 v5 (.d (.int .i64 1))).bind λv6=>(ixA 1 v1 v6).bind λv7=>(ld1 v7 h2).bind λv8=>
 fin .pure H H.length [v8,.d (.bool true)] h2)) (λp9 h10=>finP .pure H H.length p9 h10):=by kernel_rfl
section
variable (a0:List UInt8)(e0 e2 e7 e8 e9:IV)(G:Hp)
abbrev C186 (c:Oracle)(l u:Nat)(H:Hp):Ctx:=⟨P,tab,c,H.length,H.length⟩
abbrev k186 (c:Oracle)(l u:Nat)(H:Hp):KR:=endK P (fnOf 186) .pure H H.length
def E186:Env:=[e0,.un,e2,.un,.un,.un,.un,e7,e8,e9,.un,.un,.un,.un,.un,.un,.un,.un]
theorem R186:bodyK2 P tab c l u 186 [.d (.str a0)] H=(iBin P .eql 9 (.d (.str a0)) (.d (.str [116,101,120,116,47,112,108,97,105,110]))).bind λv1=>
 br3 v1 (fin .pure H H.length [.d (.bool true)] H) ((iBuildSlice P 31 3 [(0,.d (.str [73,83,79,45,56,56,53,57,45,49])),(1,.d (.str [105,115,111,45,56,56,53,57,45,49])),(2,.d (.str [85,84,70,45,56]))] H).bind λr2=>(lnV r2.1).bind λv3=>(loopW (stepL (C186 c l u H) [0,2,7,8,9] (cd 186 [1,1,0,1,0,0])) ((E186 (.d (.str a0)) (.d (.bool false)) r2.1 v3 (.d (.int .i64 0))),r2.2)).bind λr4=>popK (C186 c l u H) [0,2,7,8,9] (k186 c l u H) [.bk 0,.sq (cd 186 [1,1,1])] r4.1 r4.2.1 r4.2.2):=by kernel_rfl
theorem B186_0:stepL (C186 c l u H) [0,2,7,8,9] (cd 186 [1,1,0,1,0,0]) ((E186 e0 e2 e7 e8 e9),G)=(iBin P .lss 3 e9 e8).bind λv5=>
 br3 v5 ((ixA 1 e7 e9).bind λv6=>(ld1 v6 G).bind λv7=>(iBin P .add 9 (.d (.str [116,101,120,116,47,112,108,97,105,110,59,32,99,104,97,114,115,101,116,61])) v7).bind λv8=>(iBin P .eql 9 e0 v8).bind λv9=>
 br3 v9 (some (.inr (.ret,(E186 e0 (.d (.bool true)) e7 e8 e9),G))) ((iBin P .add 3 e9 (.d (.int .i64 1))).bind λv10=>
 some (.inl ((E186 e0 e2 e7 e8 v10),G)))) (some (.inr (.exi 0,(E186 e0 e2 e7 e8 e9),G))):=by kernel_rfl
theorem K186_0x0:popK (C186 c l u H) [0,2,7,8,9] (k186 c l u H) [.bk 0,.sq (cd 186 [1,1,1])] (.exi 0) (E186 e0 e2 e7 e8 e9) G =
 fin .pure H H.length [.d (.bool false)] G:=by kernel_rfl
theorem K186_0r:popK (C186 c l u H) [0,2,7,8,9] (k186 c l u H) [.bk 0,.sq (cd 186 [1,1,1])] (.ret) (E186 e0 e2 e7 e8 e9) G =
 fin .pure H H.length [e2] G:=by kernel_rfl
end
theorem R140 (a0:List D):bodyK2 P tab c l u 140 [.d (.lst a0)] H =
 liftR (c H.length H.length 183 [.d (.lst a0)] (H++[Blk.cells 73 [.d (.str []),.d (.str []),.vnil,.d (.bool false),.d (.bool false),.d (.bool false)]])) (λv1 h2=>(iExtract v1 0).bind λv3=>(iExtract v1 1).bind λv4=>(st 3 H.length H.length (.ptr h2.length 0) v3 (h2++[Blk.cells 69 [.d (.str []),.d (.str []),.vnil]])).bind λh5=>
 liftR (c H.length H.length 184 [.d (.lst a0)] h5) (λv6 h7=>(iExtract v6 0).bind λv8=>(iExtract v6 1).bind λv9=>(ldN 3 (.ptr h2.length 0) h7).bind λv10=>
 liftR (c H.length H.length 185 [.d (.lst a0)] h7) (λv11 h12=>
 liftR (c H.length H.length 186 [v8] h12) (λv13 h14=>(iBuild P 36 [(0,v10),(1,v4),(2,v11),(3,v13)]).bind λv15=>(st 6 H.length H.length (.ptr H.length 0) v15 h14).bind λh16=>((ldN 6 (.ptr H.length 0) h16).bind λv17=>(some []:Option (List IV)).map λl18=>v17::l18).bind λl19=>fin .pure H H.length l19 h16) (λp20 h21=>none)) (λp22 h23=>none)) (λp24 h25=>finP .pure H H.length p24 h25)) (λp26 h27=>finP .pure H H.length p26 h27):=by kernel_rfl
theorem R195 (a0:IV):bodyK2 P tab c l u 195 [a0] H=(iBox 34 a0 H).bind λr1=>(ldN 3 r1.1 r1.2).bind λv2=>
 liftR (c H.length H.length 245 (frzArgs H.length [(true,v2)] r1.2).1 (frzArgs H.length [(true,v2)] r1.2).2) (λv3 h4=>
 fin .pure H H.length [v3] h4) (λp5 h6=>finP .pure H H.length p5 h6):=by kernel_rfl
theorem R245 (a0:IV):bodyK2 P tab c l u 245 [a0] H=(iBox 34 a0 H).bind λr1=>(padd r1.1 0).bind λv2=>(ld1 v2 r1.2).bind λv3=>(iBin P .add 9 v3 (.d (.str [47]))).bind λv4=>(padd r1.1 1).bind λv5=>(ld1 v5 r1.2).bind λv6=>(iBin P .add 9 v4 v6).bind λv7=>
 fin .pure H H.length [v7] r1.2:=by kernel_rfl
end
end Go.Tg
