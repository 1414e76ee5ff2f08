/- What the bodies of some functions come to, operation by operation. By program (gen.py). -/
import Derived.Test.YtnkobejhnphmhaaGreatDoorAh
import Derived.Test.YtnkobejhnphmhaaGreatDoorAg
import Derived.KernelRfl
set_option linter.all false
set_option linter.unusedVariables false
namespace Go.Tg
noncomputable section
variable [Globs] (c:Oracle)(l u:Nat)(H:Hp)
section
variable (a0:List UInt8)(e0 e2 e5:IV)(G h4 h11 h102 h112 h123 h133 h147 h180:Hp)(v1 v3 v9 v10 v12 v73 v74 v81 v83 v84 v86 v87 v88 v89 v90 v91 v92 v93 v94 v95 v96 v98 v99 v100 v101 v103 v108 v110 v111 v113 v122 v131 v132 v134 v146 v179 v181:IV)
abbrev C54 (c:Oracle)(l u:Nat)(H:Hp):Ctx:=⟨P,tab,c,H.length,H.length⟩
abbrev k54 (c:Oracle)(l u:Nat)(H:Hp):KR:=endK P (fnOf 54) .pure H H.length
def E54:Env:=[e0,.un,e2,.un,.un,e5,.un,.un,.un,.un,.un,.un,.un,.un,.un,.un,.un,.un,.un,.un,.un,.un,.un,.un,.un,.un,.un,.un,.un,.un,.un,.un,.un,.un,.un,.un,.un,.un,.un,.un,.un,.un,.un,.un,.un,.un,.un,.un,.un,.un,.un,.un,.un,.un,.un,.un,.un,.un,.un,.un,.un,.un,.un,.un,.un,.un,.un,.un,.un,.un,.un,.un,.un,.un,.un,.un,.un,.un,.un,.un,.un,.un,.un,.un,.un,.un,.un,.un,.un,.un,.un,.un,.un,.un,.un,.un,.un,.un,.un,.un,.un,.un,.un,.un,.un,.un,.un,.un,.un,.un,.un,.un,.un,.un,.un,.un,.un,.un,.un,.un,.un,.un,.un,.un,.un,.un,.un,.un,.un,.un,.un,.un,.un,.un,.un,.un,.un,.un,.un,.un,.un,.un,.un]
def en54_0 (H:Hp) (a0:List UInt8) (v1 v3:IV):Env:=mkE 143 [(0,v1),(2,.ptr H.length 0),(3,.d (.int .i64 0)),(4,v3),(11,.d (.str a0)),(12,v1),(13,v1),(14,v3)]
def q54_0 (c:Oracle)(l u:Nat)(H:Hp):KR:=popK (C54 c l u H) [0,2,5] (k54 c l u H) [.sq (cd 54 [1,1,1,0,1]),.sq (cd 54 [1,1,1,1])]
def o54_0 (c:Oracle)(l u:Nat)(H:Hp) (n:Nat) (e:Env) (G:Hp):Res:=opsK2 (C54 c l u H) none (rg 54 [1,1,1,0,0]) (dr 54 [1,1,1,0,0] n) e G (q54_0 c l u H)
def en54_1 (H:Hp) (a0:List UInt8) (v1 v3 v9 v10 v12:IV):Env:=upE (en54_0 H a0 v1 v3) [(15,v1),(16,v3),(17,v9),(18,v10),(19,v12),(20,.d (.bool true)),(21,.no)]
def en54_2 (H:Hp) (a0:List UInt8) (v1 v3 v9 v10 v12:IV):Env:=upE (en54_1 H a0 v1 v3 v9 v10 v12) [(20,.d (.bool false)),(21,v3)]
def en54_3:Env:=mkE 143 [(0,e0),(2,e2),(5,e5)]
def q54_1 (c:Oracle)(l u:Nat)(H:Hp):Ex→Env→Hp→OS:=popK (C54 c l u H) [0,2,5] (stepK [0,2,5]) [.sq (cd 54 [1,1,1,1,1,1,1,1,1,0,0,0,1,0,1,0,0,0,0,1]),.sq (cd 54 [1,1,1,1,1,1,1,1,1,0,0,0,1,0,1,0,0,0,1])]
def o54_1 (c:Oracle)(l u:Nat)(H:Hp) (n:Nat) (e:Env) (G:Hp):OS:=opsK2 (C54 c l u H) none (rg 54 [1,1,1,1,1,1,1,1,1,0,0,0,1,0,1,0,0,0,0,0]) (dr 54 [1,1,1,1,1,1,1,1,1,0,0,0,1,0,1,0,0,0,0,0] n) e G (q54_1 c l u H)
def en54_4:Env:=mkE 143 [(0,e0),(2,e2),(5,e5),(59,e0),(60,v73),(61,v74),(62,.d (.bool true)),(63,e0)]
def en54_5:Env:=mkE 143 [(0,e0),(2,e2),(5,e5),(59,e0),(60,v73),(61,v74),(62,.d (.bool false)),(63,.no)]
def en54_6:Env:=upE (en54_3 e0 e2 e5) [(0,v103),(4,v81),(6,v84),(7,v98),(8,v95),(9,v98),(10,v99),(69,e0),(70,v81),(71,e0),(72,v81),(73,v83),(74,v84),(75,e0),(76,v81),(77,v86),(78,v86),(79,v87),(80,v88),(81,v86),(82,v89),(83,v90),(84,v86),(85,v91),(86,v91),(87,v92),(88,v93),(89,v91),(90,v94),(91,v95),(92,v95),(93,v96),(94,v91),(95,v96),(96,v98),(97,v99),(98,v98),(99,v91),(100,v99),(101,v100),(102,v100),(103,v100),(104,v101),(105,v103)]
def q54_2 (c:Oracle)(l u:Nat)(H:Hp):Ex→Env→Hp→OS:=popK (C54 c l u H) [0,2,5] (stepK [0,2,5]) [.sq (cd 54 [1,1,1,1,1,1,1,1,1,0,0,0,1,0,1,1,1,1,1,1,1,1,1,1,1,1]),.bk 1]
def o54_2 (c:Oracle)(l u:Nat)(H:Hp) (n:Nat) (e:Env) (G:Hp):OS:=opsK2 (C54 c l u H) none (rg 54 [1,1,1,1,1,1,1,1,1,0,0,0,1,0,1,1,1,1,1,1,1,1,1,1,1,0]) (dr 54 [1,1,1,1,1,1,1,1,1,0,0,0,1,0,1,1,1,1,1,1,1,1,1,1,1,0] n) e G (q54_2 c l u H)
def en54_7:Env:=upE (en54_3 e0 e2 e5) [(0,v113),(4,v108),(6,v84),(7,v111),(8,v95),(69,e0),(70,v81),(71,e0),(72,v81),(73,v83),(74,v84),(75,e0),(76,v81),(77,v86),(78,v86),(79,v87),(80,v88),(81,v86),(82,v89),(83,v90),(84,v86),(85,v91),(86,v91),(87,v92),(88,v93),(89,v91),(90,v94),(91,v95),(92,v95),(106,v91),(107,v108),(108,v91),(109,v108),(110,v110),(111,v111),(112,v91),(113,v108),(114,v113)]
def en54_8:Env:=upE (en54_6 e0 e2 e5 v81 v83 v84 v86 v87 v88 v89 v90 v91 v92 v93 v94 v95 v96 v98 v99 v100 v101 v103) [(115,v95),(116,.d (.bool true)),(117,.no)]
def en54_9:Env:=upE (en54_8 e0 e2 e5 v81 v83 v84 v86 v87 v88 v89 v90 v91 v92 v93 v94 v95 v96 v98 v99 v100 v101 v103) [(116,.d (.bool false)),(117,v98)]
def en54_10:Env:=upE (en54_7 e0 e2 e5 v81 v83 v84 v86 v87 v88 v89 v90 v91 v92 v93 v94 v95 v108 v110 v111 v113) [(115,v95),(116,.d (.bool true)),(117,.no)]
def en54_11:Env:=upE (en54_10 e0 e2 e5 v81 v83 v84 v86 v87 v88 v89 v90 v91 v92 v93 v94 v95 v108 v110 v111 v113) [(116,.d (.bool false)),(117,v111)]
def en54_12:Env:=upE (en54_8 e0 e2 e5 v81 v83 v84 v86 v87 v88 v89 v90 v91 v92 v93 v94 v95 v96 v98 v99 v100 v101 v103) [(118,.no),(119,.d (.bool true)),(120,.d (.bool true)),(121,v84),(122,v122),(123,v122),(124,.d (.bool true)),(125,v98)]
def en54_13:Env:=upE (en54_12 e0 e2 e5 v81 v83 v84 v86 v87 v88 v89 v90 v91 v92 v93 v94 v95 v96 v98 v99 v100 v101 v103 v122) [(124,.d (.bool false)),(125,.no)]
def en54_18:Env:=upE (en54_11 e0 e2 e5 v81 v83 v84 v86 v87 v88 v89 v90 v91 v92 v93 v94 v95 v108 v110 v111 v113) [(118,v131),(119,v131),(120,.d (.bool true)),(121,v84)]
def en54_19:Env:=upE (en54_18 e0 e2 e5 v81 v83 v84 v86 v87 v88 v89 v90 v91 v92 v93 v94 v95 v108 v110 v111 v113 v131) [(120,.d (.bool false)),(121,.no)]
def en54_20:Env:=upE (en54_12 e0 e2 e5 v81 v83 v84 v86 v87 v88 v89 v90 v91 v92 v93 v94 v95 v96 v98 v99 v100 v101 v103 v122) [(126,v132),(127,v132),(128,.d (.bool true)),(129,v134)]
def en54_21:Env:=upE (en54_12 e0 e2 e5 v81 v83 v84 v86 v87 v88 v89 v90 v91 v92 v93 v94 v95 v96 v98 v99 v100 v101 v103 v122) [(126,v132),(127,v132),(128,.d (.bool false)),(129,.no)]
def en54_26:Env:=upE (en54_18 e0 e2 e5 v81 v83 v84 v86 v87 v88 v89 v90 v91 v92 v93 v94 v95 v108 v110 v111 v113 v131) [(122,v146),(123,v146),(124,.d (.bool true)),(125,v111)]
def en54_27:Env:=upE (en54_26 e0 e2 e5 v81 v83 v84 v86 v87 v88 v89 v90 v91 v92 v93 v94 v95 v108 v110 v111 v113 v131 v146) [(124,.d (.bool false)),(125,.no)]
def en54_30:Env:=upE (en54_26 e0 e2 e5 v81 v83 v84 v86 v87 v88 v89 v90 v91 v92 v93 v94 v95 v108 v110 v111 v113 v131 v146) [(126,v179),(127,v179),(128,.d (.bool true)),(129,v181)]
def en54_31:Env:=upE (en54_26 e0 e2 e5 v81 v83 v84 v86 v87 v88 v89 v90 v91 v92 v93 v94 v95 v108 v110 v111 v113 v131 v146) [(126,v179),(127,v179),(128,.d (.bool false)),(129,.no)]
theorem R54:bodyK2 P tab c l u 54 [.d (.str a0)] H =
 liftR (c H.length H.length 74 [.d (.str a0)] (H++[Blk.cells 69 [.d (.str []),.d (.str []),.vnil]])) (λv1 h2=>
 liftR (c H.length H.length 75 [v1,.d (.str [47])] h2) (λv3 h4=>
 o54_0 c l u H 0 (en54_0 H a0 v1 v3) h4) (λp5 h6=>finP .pure H H.length p5 h6)) (λp7 h8=>finP .pure H H.length p7 h8):=by kernel_rfl
theorem g54_0:o54_0 c l u H 0 (en54_0 H a0 v1 v3) h4=(slS v1 none (some v3)).bind λv9=>
 liftR (c H.length H.length 76 [v9] h4) (λv10 h11=>(iUn .not v10).bind λv12=>
 brN3 v12 (o54_0 c l u H 7 (en54_1 H a0 v1 v3 v9 v10 v12) h11) (o54_0 c l u H 7 (en54_2 H a0 v1 v3 v9 v10 v12) h11) (o54_0 c l u H 7 (List.set (en54_1 H a0 v1 v3 v9 v10 v12) 20 v12) h11)) (λp13 h14=>finP .pure H H.length p13 h14):=by
 unfold o54_0
 refine (oG 7).trans ?_
 generalize opsK2 _ _ _=X
 kernel_rfl
theorem g54_1:o54_0 c l u H 7 (en54_1 H a0 v1 v3 v9 v10 v12) h11=(st 3 H.length H.length (.ptr H.length 0) (.agg [.d (.str []),.d (.str []),.vnil]) h11).bind λh15=>((ldN 3 (.ptr H.length 0) h15).bind λv16=>(some [.d (.int .i64 2)]:Option (List IV)).map λl17=>v16::l17).bind λl18=>fin .pure H H.length l18 h15:=by
 unfold o54_0
 refine (oG 5).trans ?_
 generalize opsK2 _ _ _=X
 kernel_rfl
theorem g54_2:o54_0 c l u H 7 (en54_2 H a0 v1 v3 v9 v10 v12) h11=(lnS v1).bind λv19=>(iBin P .eql 3 v3 v19).bind λv20=>
 br3 v20 ((st 3 H.length H.length (.ptr H.length 0) (.agg [.d (.str []),.d (.str []),.vnil]) h11).bind λh21=>((ldN 3 (.ptr H.length 0) h21).bind λv22=>(some [.d (.int .i64 2)]:Option (List IV)).map λl23=>v22::l23).bind λl24=>fin .pure H H.length l24 h21) ((slS v1 none (some v3)).bind λv25=>
 liftR (c H.length H.length 36 [v25] h11) (λv26 h27=>(iBuild P 34 [(0,v26)]).bind λv28=>(st 3 H.length H.length (.ptr h27.length 0) v28 (h27++[Blk.cells 69 [.d (.str []),.d (.str []),.vnil]])).bind λh29=>(iBin P .add 3 v3 (.d (.int .i64 1))).bind λv30=>(slS v1 (some v30) none).bind λv31=>
 liftR (c H.length H.length 75 [v31,.d (.str [59])] h29) (λv32 h33=>(slS v31 none (some v32)).bind λv34=>
 liftR (c H.length H.length 77 [v34] h33) (λv35 h36=>
 liftR (c H.length H.length 76 [v35] h36) (λv37 h38=>(iUn .not v37).bind λv39=>
 br3 v39 ((st 3 H.length H.length (.ptr H.length 0) (.agg [.d (.str []),.d (.str []),.vnil]) h38).bind λh40=>((ldN 3 (.ptr H.length 0) h40).bind λv41=>(some [.d (.int .i64 2)]:Option (List IV)).map λl42=>v41::l42).bind λl43=>fin .pure H H.length l43 h40) ((slS v31 none (some v32)).bind λv44=>
 liftR (c H.length H.length 77 [v44] h38) (λv45 h46=>
 liftR (c H.length H.length 36 [v45] h46) (λv47 h48=>(slS v31 (some v32) none).bind λv49=>(st 1 H.length H.length (.ptr h27.length 1) v47 h48).bind λh50=>(loopW (stepL (C54 c l u H) [0,2,5] (cd 54 [1,1,1,1,1,1,1,1,1,0,0,0])) ((E54 v49 (.ptr H.length 0) (.ptr h27.length 0)),h50)).bind λr51=>popK (C54 c l u H) [0,2,5] (k54 c l u H) [.bk 0,.sq (cd 54 [1,1,1,1,1,1,1,1,1,1])] r51.1 r51.2.1 r51.2.2) (λp52 h53=>none)) (λp54 h55=>none))) (λp56 h57=>finP .pure H H.length p56 h57)) (λp58 h59=>finP .pure H H.length p58 h59)) (λp60 h61=>finP .pure H H.length p60 h61)) (λp62 h63=>finP .pure H H.length p62 h63)):=by
 unfold o54_0
 refine (oG 5).trans ?_
 generalize opsK2 _ _ _=X
 kernel_rfl
theorem B54_0:stepL (C54 c l u H) [0,2,5] (cd 54 [1,1,1,1,1,1,1,1,1,0,0,0]) ((E54 e0 e2 e5),G)=(lnS e0).bind λv64=>(iBin P .gtr 3 v64 (.d (.int .i64 0))).bind λv65=>
 br3 v65 ((slS e0 (some (.d (.int .i64 1))) none).bind λv66=>(loopW (stepL (C54 c l u H) [0,2,5] (cd 54 [1,1,1,1,1,1,1,1,1,0,0,0,1,0,1,0,0,0])) ((E54 v66 e2 e5),G)).bind λr67=>popK (C54 c l u H) [0,2,5] (stepK [0,2,5]) [.bk 2,.sq (cd 54 [1,1,1,1,1,1,1,1,1,0,0,0,1,0,1,1]),.bk 1] r67.1 r67.2.1 r67.2.2) (some (.inr (.exi 0,(E54 e0 e2 e5),G))):=by kernel_rfl
theorem K54_0x0:popK (C54 c l u H) [0,2,5] (k54 c l u H) [.bk 0,.sq (cd 54 [1,1,1,1,1,1,1,1,1,1])] (.exi 0) (E54 e0 e2 e5) G=(ldN 3 e5 G).bind λv68=>(st 3 H.length H.length e2 v68 G).bind λh69=>((ldN 3 e2 h69).bind λv70=>(some [.d (.int .i64 0)]:Option (List IV)).map λl71=>v70::l71).bind λl72=>fin .pure H H.length l72 h69:=by kernel_rfl
theorem B54_1:stepL (C54 c l u H) [0,2,5] (cd 54 [1,1,1,1,1,1,1,1,1,0,0,0,1,0,1,0,0,0]) ((E54 e0 e2 e5),G) =
 o54_1 c l u H 0 (en54_3 e0 e2 e5) G:=by kernel_rfl
theorem g54_3 (G:Hp) (e0 e2 e5:IV):o54_1 c l u H 0 (en54_3 e0 e2 e5) G=(lnS e0).bind λv73=>(iBin P .gtr 3 v73 (.d (.int .i64 0))).bind λv74=>
 brN3 v74 (o54_1 c l u H 5 (en54_4 e0 e2 e5 v73 v74) G) (o54_1 c l u H 5 (en54_5 e0 e2 e5 v73 v74) G) (o54_1 c l u H 5 (List.set (en54_5 e0 e2 e5 v73 v74) 62 v74) G):=by
 unfold o54_1
 refine (oG 5).trans ?_
 generalize opsK2 _ _ _=X
 kernel_rfl
theorem g54_4 (G:Hp) (e0 e2 e5 v73 v74:IV):o54_1 c l u H 5 (en54_4 e0 e2 e5 v73 v74) G=(ixS e0 (.d (.int .i64 0))).bind λv75=>
 liftR (c H.length H.length 78 [v75] G) (λv76 h77=>
 br3 v76 ((slS e0 (some (.d (.int .i64 1))) none).bind λv78=>
 some (.inl ((E54 v78 e2 e5),h77))) (some (.inr (.exi 2,(E54 e0 e2 e5),h77)))) (λp79 h80=>some (.inr (.pan p79,(E54 e0 e2 e5),h80))):=by
 unfold o54_1
 refine (oG 4).trans ?_
 generalize opsK2 _ _ _=X
 kernel_rfl
theorem g54_5 (G:Hp) (e0 e2 e5 v73 v74:IV):o54_1 c l u H 5 (en54_5 e0 e2 e5 v73 v74) G =
 some (.inr (.exi 2,(E54 e0 e2 e5),G)):=by
 unfold o54_1
 refine (oG 4).trans ?_
 generalize opsK2 _ _ _=X
 kernel_rfl
theorem K54_1x2:popK (C54 c l u H) [0,2,5] (stepK [0,2,5]) [.bk 2,.sq (cd 54 [1,1,1,1,1,1,1,1,1,0,0,0,1,0,1,1]),.bk 1] (.exi 2) (E54 e0 e2 e5) G =
 liftR (c H.length H.length 75 [e0,.d (.str [59,61])] G) (λv81 h82=>(slS e0 none (some v81)).bind λv83=>
 liftR (c H.length H.length 36 [v83] h82) (λv84 h85=>(slS e0 (some v81) none).bind λv86=>(lnS v86).bind λv87=>(iBin P .eql 3 v87 (.d (.int .i64 0))).bind λv88=>
 br3 v88 (some (.inr (.exi 0,(E54 v86 e2 e5),h85))) ((ixS v86 (.d (.int .i64 0))).bind λv89=>(iBin P .eql 5 v89 (.d (.int .u8 59))).bind λv90=>
 br3 v90 (some (.inl ((E54 v86 e2 e5),h85))) ((slS v86 (some (.d (.int .i64 1))) none).bind λv91=>(lnS v91).bind λv92=>(iBin P .eql 3 v92 (.d (.int .i64 0))).bind λv93=>
 br3 v93 (some (.inr (.exi 0,(E54 v91 e2 e5),h85))) ((ixS v91 (.d (.int .i64 0))).bind λv94=>(iBin P .eql 5 v94 (.d (.int .u8 34))).bind λv95=>
 br3 v95 (liftR (c H.length H.length 79 [v91] h85) (λv96 h97=>(iExtract v96 0).bind λv98=>(iExtract v96 1).bind λv99=>(slS v91 (some v99) none).bind λv100=>
 liftR (c H.length H.length 75 [v100,.d (.str [59])] h97) (λv101 h102=>(slS v100 (some v101) none).bind λv103=>
 o54_2 c l u H 0 (en54_6 e0 e2 e5 v81 v83 v84 v86 v87 v88 v89 v90 v91 v92 v93 v94 v95 v96 v98 v99 v100 v101 v103) h102) (λp104 h105=>some (.inr (.pan p104,(E54 v100 e2 e5),h105)))) (λp106 h107=>some (.inr (.pan p106,(E54 v91 e2 e5),h107)))) (liftR (c H.length H.length 75 [v91,.d (.str [59])] h85) (λv108 h109=>(slS v91 none (some v108)).bind λv110=>
 liftR (c H.length H.length 77 [v110] h109) (λv111 h112=>(slS v91 (some v108) none).bind λv113=>
 o54_2 c l u H 0 (en54_7 e0 e2 e5 v81 v83 v84 v86 v87 v88 v89 v90 v91 v92 v93 v94 v95 v108 v110 v111 v113) h112) (λp114 h115=>none)) (λp116 h117=>some (.inr (.pan p116,(E54 v91 e2 e5),h117)))))))) (λp118 h119=>some (.inr (.pan p118,(E54 e0 e2 e5),h119)))) (λp120 h121=>some (.inr (.pan p120,(E54 e0 e2 e5),h121))):=by kernel_rfl
theorem g54_6:o54_2 c l u H 0 (en54_6 e0 e2 e5 v81 v83 v84 v86 v87 v88 v89 v90 v91 v92 v93 v94 v95 v96 v98 v99 v100 v101 v103) h102 =
 brN3 v95 (o54_2 c l u H 3 (en54_8 e0 e2 e5 v81 v83 v84 v86 v87 v88 v89 v90 v91 v92 v93 v94 v95 v96 v98 v99 v100 v101 v103) h102) (o54_2 c l u H 3 (en54_9 e0 e2 e5 v81 v83 v84 v86 v87 v88 v89 v90 v91 v92 v93 v94 v95 v96 v98 v99 v100 v101 v103) h102) (o54_2 c l u H 3 (List.set (en54_8 e0 e2 e5 v81 v83 v84 v86 v87 v88 v89 v90 v91 v92 v93 v94 v95 v96 v98 v99 v100 v101 v103) 116 v95) h102):=by
 unfold o54_2
 refine (oG 3).trans ?_
 generalize opsK2 _ _ _=X
 kernel_rfl
theorem g54_7:o54_2 c l u H 0 (en54_7 e0 e2 e5 v81 v83 v84 v86 v87 v88 v89 v90 v91 v92 v93 v94 v95 v108 v110 v111 v113) h112 =
 brN3 v95 (o54_2 c l u H 3 (en54_10 e0 e2 e5 v81 v83 v84 v86 v87 v88 v89 v90 v91 v92 v93 v94 v95 v108 v110 v111 v113) h112) (o54_2 c l u H 3 (en54_11 e0 e2 e5 v81 v83 v84 v86 v87 v88 v89 v90 v91 v92 v93 v94 v95 v108 v110 v111 v113) h112) (o54_2 c l u H 3 (List.set (en54_10 e0 e2 e5 v81 v83 v84 v86 v87 v88 v89 v90 v91 v92 v93 v94 v95 v108 v110 v111 v113) 116 v95) h112):=by
 unfold o54_2
 refine (oG 3).trans ?_
 generalize opsK2 _ _ _=X
 kernel_rfl
theorem g54_8:o54_2 c l u H 3 (en54_8 e0 e2 e5 v81 v83 v84 v86 v87 v88 v89 v90 v91 v92 v93 v94 v95 v96 v98 v99 v100 v101 v103) h102 =
 liftR (c H.length H.length 76 [v84] h102) (λv122 h123=>
 brN3 v122 (o54_2 c l u H 11 (en54_12 e0 e2 e5 v81 v83 v84 v86 v87 v88 v89 v90 v91 v92 v93 v94 v95 v96 v98 v99 v100 v101 v103 v122) h123) (o54_2 c l u H 11 (en54_13 e0 e2 e5 v81 v83 v84 v86 v87 v88 v89 v90 v91 v92 v93 v94 v95 v96 v98 v99 v100 v101 v103 v122) h123) (o54_2 c l u H 11 (List.set (en54_13 e0 e2 e5 v81 v83 v84 v86 v87 v88 v89 v90 v91 v92 v93 v94 v95 v96 v98 v99 v100 v101 v103 v122) 124 v122) h123)) (λp124 h125=>some (.inr (.pan p124,(E54 v103 e2 e5),h125))):=by
 unfold o54_2
 refine (oG 8).trans ?_
 generalize opsK2 _ _ _=X
 kernel_rfl
theorem g54_11:o54_2 c l u H 3 (en54_11 e0 e2 e5 v81 v83 v84 v86 v87 v88 v89 v90 v91 v92 v93 v94 v95 v108 v110 v111 v113) h112=(iBin P .neq 9 v111 (.d (.str []))).bind λv131=>
 brN3 v131 (o54_2 c l u H 7 (en54_18 e0 e2 e5 v81 v83 v84 v86 v87 v88 v89 v90 v91 v92 v93 v94 v95 v108 v110 v111 v113 v131) h112) (o54_2 c l u H 7 (en54_19 e0 e2 e5 v81 v83 v84 v86 v87 v88 v89 v90 v91 v92 v93 v94 v95 v108 v110 v111 v113 v131) h112) (o54_2 c l u H 7 (List.set (en54_19 e0 e2 e5 v81 v83 v84 v86 v87 v88 v89 v90 v91 v92 v93 v94 v95 v108 v110 v111 v113 v131) 120 v131) h112):=by
 unfold o54_2
 refine (oG 4).trans ?_
 generalize opsK2 _ _ _=X
 kernel_rfl
theorem g54_12:o54_2 c l u H 11 (en54_12 e0 e2 e5 v81 v83 v84 v86 v87 v88 v89 v90 v91 v92 v93 v94 v95 v96 v98 v99 v100 v101 v103 v122) h123 =
 liftR (c H.length H.length 80 [v98] h123) (λv132 h133=>
 brN3 v132 ((ldN 3 e5 h133).bind λv134=>
 o54_2 c l u H 15 (en54_20 e0 e2 e5 v81 v83 v84 v86 v87 v88 v89 v90 v91 v92 v93 v94 v95 v96 v98 v99 v100 v101 v103 v122 v132 v134) h133) (o54_2 c l u H 15 (en54_21 e0 e2 e5 v81 v83 v84 v86 v87 v88 v89 v90 v91 v92 v93 v94 v95 v96 v98 v99 v100 v101 v103 v122 v132) h133) (o54_2 c l u H 15 (List.set (en54_21 e0 e2 e5 v81 v83 v84 v86 v87 v88 v89 v90 v91 v92 v93 v94 v95 v96 v98 v99 v100 v101 v103 v122 v132) 128 v132) h133)) (λp135 h136=>some (.inr (.pan p135,(E54 v103 e2 e5),h136))):=by
 unfold o54_2
 refine (oG 4).trans ?_
 generalize opsK2 _ _ _=X
 kernel_rfl
theorem g54_13:o54_2 c l u H 11 (en54_13 e0 e2 e5 v81 v83 v84 v86 v87 v88 v89 v90 v91 v92 v93 v94 v95 v96 v98 v99 v100 v101 v103 v122) h123 =
 some (.inl ((E54 v103 e2 e5),h123)):=by
 unfold o54_2
 refine (oG 9).trans ?_
 generalize opsK2 _ _ _=X
 kernel_rfl
theorem g54_18:o54_2 c l u H 7 (en54_18 e0 e2 e5 v81 v83 v84 v86 v87 v88 v89 v90 v91 v92 v93 v94 v95 v108 v110 v111 v113 v131) h112 =
 liftR (c H.length H.length 76 [v84] h112) (λv146 h147=>
 brN3 v146 (o54_2 c l u H 11 (en54_26 e0 e2 e5 v81 v83 v84 v86 v87 v88 v89 v90 v91 v92 v93 v94 v95 v108 v110 v111 v113 v131 v146) h147) (o54_2 c l u H 11 (en54_27 e0 e2 e5 v81 v83 v84 v86 v87 v88 v89 v90 v91 v92 v93 v94 v95 v108 v110 v111 v113 v131 v146) h147) (o54_2 c l u H 11 (List.set (en54_27 e0 e2 e5 v81 v83 v84 v86 v87 v88 v89 v90 v91 v92 v93 v94 v95 v108 v110 v111 v113 v131 v146) 124 v146) h147)) (λp148 h149=>some (.inr (.pan p148,(E54 v113 e2 e5),h149))):=by
 unfold o54_2
 refine (oG 4).trans ?_
 generalize opsK2 _ _ _=X
 kernel_rfl
theorem g54_19:o54_2 c l u H 7 (en54_19 e0 e2 e5 v81 v83 v84 v86 v87 v88 v89 v90 v91 v92 v93 v94 v95 v108 v110 v111 v113 v131) h112 =
 some (.inl ((E54 v113 e2 e5),h112)):=by
 unfold o54_2
 refine (oG 13).trans ?_
 generalize opsK2 _ _ _=X
 kernel_rfl
theorem g54_20:o54_2 c l u H 15 (en54_20 e0 e2 e5 v81 v83 v84 v86 v87 v88 v89 v90 v91 v92 v93 v94 v95 v96 v98 v99 v100 v101 v103 v122 v132 v134) h133 =
 liftR (c H.length H.length 55 [v134,v84] h133) (λv150 h151=>(iBin P .lss 3 v150 (.d (.int .i64 0))).bind λv152=>
 br3 v152 ((padd e5 2).bind λv153=>(ld1 v153 h151).bind λv154=>(iBuild P 110 [(0,v84),(1,v98)]).bind λv155=>(iBuildSlice P 32 1 [(0,v155)] h151).bind λr156=>(app 110 2 H.length v154 r156.1 r156.2).bind λr157=>(padd e5 2).bind λv158=>(st 1 H.length H.length v158 r157.1 r157.2).bind λh159=>
 some (.inl ((E54 v103 e2 e5),h159))) (some (.inl ((E54 v103 e2 e5),h151)))) (λp160 h161=>some (.inr (.pan p160,(E54 v103 e2 e5),h161))):=by
 unfold o54_2
 refine (oG 5).trans ?_
 generalize opsK2 _ _ _=X
 kernel_rfl
theorem g54_21:o54_2 c l u H 15 (en54_21 e0 e2 e5 v81 v83 v84 v86 v87 v88 v89 v90 v91 v92 v93 v94 v95 v96 v98 v99 v100 v101 v103 v122 v132) h133 =
 some (.inl ((E54 v103 e2 e5),h133)):=by
 unfold o54_2
 refine (oG 5).trans ?_
 generalize opsK2 _ _ _=X
 kernel_rfl
theorem g54_26:o54_2 c l u H 11 (en54_26 e0 e2 e5 v81 v83 v84 v86 v87 v88 v89 v90 v91 v92 v93 v94 v95 v108 v110 v111 v113 v131 v146) h147 =
 liftR (c H.length H.length 80 [v111] h147) (λv179 h180=>
 brN3 v179 ((ldN 3 e5 h180).bind λv181=>
 o54_2 c l u H 15 (en54_30 e0 e2 e5 v81 v83 v84 v86 v87 v88 v89 v90 v91 v92 v93 v94 v95 v108 v110 v111 v113 v131 v146 v179 v181) h180) (o54_2 c l u H 15 (en54_31 e0 e2 e5 v81 v83 v84 v86 v87 v88 v89 v90 v91 v92 v93 v94 v95 v108 v110 v111 v113 v131 v146 v179) h180) (o54_2 c l u H 15 (List.set (en54_31 e0 e2 e5 v81 v83 v84 v86 v87 v88 v89 v90 v91 v92 v93 v94 v95 v108 v110 v111 v113 v131 v146 v179) 128 v179) h180)) (λp182 h183=>some (.inr (.pan p182,(E54 v113 e2 e5),h183))):=by
 unfold o54_2
 refine (oG 4).trans ?_
 generalize opsK2 _ _ _=X
 kernel_rfl
theorem g54_27:o54_2 c l u H 11 (en54_27 e0 e2 e5 v81 v83 v84 v86 v87 v88 v89 v90 v91 v92 v93 v94 v95 v108 v110 v111 v113 v131 v146) h147 =
 some (.inl ((E54 v113 e2 e5),h147)):=by
 unfold o54_2
 refine (oG 9).trans ?_
 generalize opsK2 _ _ _=X
 kernel_rfl
theorem g54_30:o54_2 c l u H 15 (en54_30 e0 e2 e5 v81 v83 v84 v86 v87 v88 v89 v90 v91 v92 v93 v94 v95 v108 v110 v111 v113 v131 v146 v179 v181) h180 =
 liftR (c H.length H.length 55 [v181,v84] h180) (λv196 h197=>(iBin P .lss 3 v196 (.d (.int .i64 0))).bind λv198=>
 br3 v198 ((padd e5 2).bind λv199=>(ld1 v199 h197).bind λv200=>(iBuild P 110 [(0,v84),(1,v111)]).bind λv201=>(iBuildSlice P 32 1 [(0,v201)] h197).bind λr202=>(app 110 2 H.length v200 r202.1 r202.2).bind λr203=>(padd e5 2).bind λv204=>(st 1 H.length H.length v204 r203.1 r203.2).bind λh205=>
 some (.inl ((E54 v113 e2 e5),h205))) (some (.inl ((E54 v113 e2 e5),h197)))) (λp206 h207=>some (.inr (.pan p206,(E54 v113 e2 e5),h207))):=by
 unfold o54_2
 refine (oG 5).trans ?_
 generalize opsK2 _ _ _=X
 kernel_rfl
theorem g54_31:o54_2 c l u H 15 (en54_31 e0 e2 e5 v81 v83 v84 v86 v87 v88 v89 v90 v91 v92 v93 v94 v95 v108 v110 v111 v113 v131 v146 v179) h180 =
 some (.inl ((E54 v113 e2 e5),h180)):=by
 unfold o54_2
 refine (oG 5).trans ?_
 generalize opsK2 _ _ _=X
 kernel_rfl
end
end
end Go.Tg
