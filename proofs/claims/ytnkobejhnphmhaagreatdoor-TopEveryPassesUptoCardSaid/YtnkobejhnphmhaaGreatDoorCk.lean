/- What the bodies of some functions come to, operation by operation. By program (gen.py). -/
import Derived.Test.YtnkobejhnphmhaaGreatDoorAh
import Derived.Test.YtnkobejhnphmhaaGreatDoorAg
import Derived.KernelRfl
set_option linter.all false
set_option linter.unusedVariables false
namespace Go.Tg
noncomputable section
variable [Globs] (c:Oracle)(l u:Nat)(H:Hp)
section
variable (a0:IV)(a1:List D)(e1 e4 e7 e11:IV)(G h6 h7 h22 h38 h46 h61 h68 h74 h83 h90 h107 h137 h147 h184 h209 h216 h260 h273:Hp)(r1:IV×Hp)(v2 v3 v4 v5 v10 v11 v12 v13 v14 v15 v16 v17 v18 v19 v20 v21 v23 v26 v27 v28 v33 v34 v35 v36 v37 v39 v40 v43 v44 v45 v47 v50 v51 v56 v57 v58 v59 v60 v62 v63 v66 v67 v71 v72 v73 v75 v78 v79 v80 v81 v82 v84 v87 v88 v89 v91 v102 v103 v104 v105 v106 v108 v109 v112 v117 v130 v131 v132 v133 v134 v135 v136 v138 v139 v142 v143 v144 v145 v146 v148 v149 v152 v153 v154 v155 v156 v157 v158 v159 v160 v161 v162 v163 v164 v165 v166 v167 v168 v169 v170 v172 v173 v174 v175 v176 v177 v178 v179 v180 v181 v182 v183 v185 v186 v190 v191 v192 v193 v194 v195 v196 v197 v198 v199 v200 v201 v202 v204 v205 v206 v207 v208 v210 v211 v214 v215 v217 v220 v221 v222 v223 v224 v225 v226 v227 v228 v229 v230 v231 v232 v237 v238 v239 v240 v259 v261 v262 v265 v266 v267 v268 v269 v270 v271 v272:IV)
abbrev C3 (c:Oracle)(l u:Nat)(H:Hp):Ctx:=⟨P,tab,c,H.length,H.length⟩
abbrev k3 (c:Oracle)(l u:Nat)(H:Hp):KR:=endK P (fnOf 3) .pure H H.length
def E3:Env:=[.un,e1,.un,.un,e4,.un,.un,e7,.un,.un,.un,e11,.un,.un,.un,.un,.un,.un,.un,.un,.un,.un,.un,.un,.un,.un,.un,.un,.un,.un,.un,.un,.un,.un,.un,.un,.un,.un,.un,.un,.un,.un,.un,.un,.un,.un,.un,.un,.un,.un,.un,.un,.un,.un,.un,.un,.un,.un,.un,.un,.un,.un,.un,.un,.un,.un,.un,.un,.un,.un,.un,.un,.un,.un,.un,.un,.un,.un,.un,.un,.un,.un,.un,.un,.un,.un,.un,.un,.un,.un,.un,.un,.un,.un,.un,.un,.un,.un,.un,.un,.un,.un,.un,.un,.un,.un,.un,.un,.un,.un,.un,.un,.un,.un,.un,.un,.un,.un,.un,.un,.un,.un,.un,.un,.un,.un,.un,.un,.un,.un,.un,.un,.un,.un,.un,.un,.un,.un,.un,.un,.un,.un,.un,.un,.un,.un,.un,.un,.un,.un,.un,.un,.un,.un,.un,.un,.un,.un,.un,.un,.un,.un,.un,.un,.un,.un,.un,.un,.un,.un,.un,.un,.un,.un,.un,.un,.un,.un,.un,.un,.un,.un,.un]
def en3_0:Env:=mkE 183 [(0,a0),(1,.d (.lst a1)),(2,r1.1),(4,.d (.bool false)),(5,.ptr h6.length 0),(16,v2),(17,v3),(18,v4),(19,v5)]
def q3_0 (c:Oracle)(l u:Nat)(H:Hp):KR:=popK (C3 c l u H) [1,4,7,11] (k3 c l u H) [.sq (cd 3 [1,1,1])]
def o3_0 (c:Oracle)(l u:Nat)(H:Hp) (n:Nat) (e:Env) (G:Hp):Res:=opsK2 (C3 c l u H) none (rg 3 [1,1,0]) (dr 3 [1,1,0] n) e G (q3_0 c l u H)
def en3_1:Env:=upE (en3_0 a0 a1 h6 r1 v2 v3 v4 v5) [(20,v10),(21,v11),(22,v12),(23,v13),(24,.d (.bool true)),(25,.no)]
def en3_2:Env:=upE (en3_1 a0 a1 h6 r1 v2 v3 v4 v5 v10 v11 v12 v13) [(24,.d (.bool false)),(25,v14)]
def en3_3:Env:=upE (en3_1 a0 a1 h6 r1 v2 v3 v4 v5 v10 v11 v12 v13) [(6,.d (.bool true)),(26,.no),(27,.no),(28,.no),(29,.d (.bool true)),(30,.d (.bool true)),(31,.no),(32,.no),(33,.no),(34,.no),(35,.no),(36,.no),(37,.no),(38,.no),(39,.no),(40,.no),(41,.no),(42,.no),(43,.no),(44,.d (.bool true))]
def q3_1 (c:Oracle)(l u:Nat)(H:Hp):KR:=popK (C3 c l u H) [1,4,7,11] (k3 c l u H) [.sq (cd 3 [1,1,1,0,1]),.sq (cd 3 [1,1,1,1])]
def o3_1 (c:Oracle)(l u:Nat)(H:Hp) (n:Nat) (e:Env) (G:Hp):Res:=opsK2 (C3 c l u H) none (rg 3 [1,1,1,0,0]) (dr 3 [1,1,1,0,0] n) e G (q3_1 c l u H)
def en3_4:Env:=upE (en3_2 a0 a1 h6 r1 v2 v3 v4 v5 v10 v11 v12 v13 v14) [(26,v15),(27,v16),(28,v17),(29,v17),(30,.d (.bool true)),(31,.no)]
def en3_5:Env:=upE (en3_4 a0 a1 h6 r1 v2 v3 v4 v5 v10 v11 v12 v13 v14 v15 v16 v17) [(30,.d (.bool false)),(31,v18)]
def en3_6:Env:=upE (en3_3 a0 a1 h6 r1 v2 v3 v4 v5 v10 v11 v12 v13) [(45,v19),(46,v20),(47,v21),(48,v23),(49,.d (.bool true)),(50,.no)]
def en3_7:Env:=upE (en3_6 a0 a1 h6 r1 v2 v3 v4 v5 v10 v11 v12 v13 v19 v20 v21 v23) [(49,.d (.bool false)),(50,.d (.bool true))]
def en3_8:Env:=upE (en3_3 a0 a1 h6 r1 v2 v3 v4 v5 v10 v11 v12 v13) [(24,.d (.bool false)),(25,v14),(26,v15),(27,v16),(28,v17),(29,v17)]
def en3_9:Env:=upE (en3_5 a0 a1 h6 r1 v2 v3 v4 v5 v10 v11 v12 v13 v14 v15 v16 v17 v18) [(32,v26),(33,v27),(34,v28),(35,.d (.bool true)),(36,.ptr h6.length 3)]
def en3_10:Env:=upE (en3_9 a0 a1 h6 r1 v2 v3 v4 v5 v10 v11 v12 v13 v14 v15 v16 v17 v18 v26 v27 v28) [(35,.d (.bool false)),(36,.no)]
def en3_11:Env:=upE (en3_7 a0 a1 h6 r1 v2 v3 v4 v5 v10 v11 v12 v13 v19 v20 v21 v23) [(7,v39),(8,v40),(51,.d (.bool false)),(52,.d (.bool false)),(54,v37),(55,v33),(56,v34),(57,v35),(58,v36),(59,v37),(60,v39),(61,v40)]
def q3_2 (c:Oracle)(l u:Nat)(H:Hp):KR:=popK (C3 c l u H) [1,4,7,11] (k3 c l u H) [.sq (cd 3 [1,1,1,1,1,0,1]),.sq (cd 3 [1,1,1,1,1,1])]
def o3_2 (c:Oracle)(l u:Nat)(H:Hp) (n:Nat) (e:Env) (G:Hp):Res:=opsK2 (C3 c l u H) none (rg 3 [1,1,1,1,1,0,0]) (dr 3 [1,1,1,1,1,0,0] n) e G (q3_2 c l u H)
def en3_12:Env:=upE (en3_8 a0 a1 h6 r1 v2 v3 v4 v5 v10 v11 v12 v13 v14 v15 v16 v17) [(45,v43),(46,v44),(47,v45),(48,v47),(49,.d (.bool true)),(50,.no)]
def en3_13:Env:=upE (en3_12 a0 a1 h6 r1 v2 v3 v4 v5 v10 v11 v12 v13 v14 v15 v16 v17 v43 v44 v45 v47) [(49,.d (.bool false)),(50,.d (.bool true))]
def en3_14:Env:=upE (en3_9 a0 a1 h6 r1 v2 v3 v4 v5 v10 v11 v12 v13 v14 v15 v16 v17 v18 v26 v27 v28) [(37,v50),(38,v50),(39,.d (.bool true)),(40,.ptr h6.length 0)]
def en3_15:Env:=upE (en3_14 a0 a1 h6 r1 v2 v3 v4 v5 v10 v11 v12 v13 v14 v15 v16 v17 v18 v26 v27 v28 v50) [(39,.d (.bool false)),(40,.no)]
def en3_16:Env:=upE (en3_10 a0 a1 h6 r1 v2 v3 v4 v5 v10 v11 v12 v13 v14 v15 v16 v17 v18 v26 v27 v28) [(6,.d (.bool false)),(37,.no),(38,.d (.bool false)),(39,.d (.bool false)),(40,.no),(41,.no),(42,.no),(43,.d (.bool false)),(44,.d (.bool false))]
def en3_17:Env:=upE (en3_11 a0 a1 h6 r1 v2 v3 v4 v5 v10 v11 v12 v13 v19 v20 v21 v23 v33 v34 v35 v36 v37 v39 v40) [(62,v39),(63,v51),(64,.d (.bool true)),(65,.no)]
def en3_18:Env:=upE (en3_17 a0 a1 h6 r1 v2 v3 v4 v5 v10 v11 v12 v13 v19 v20 v21 v23 v33 v34 v35 v36 v37 v39 v40 v51) [(64,.d (.bool false)),(65,v40)]
def en3_19:Env:=upE (en3_13 a0 a1 h6 r1 v2 v3 v4 v5 v10 v11 v12 v13 v14 v15 v16 v17 v43 v44 v45 v47) [(7,v62),(8,v63),(51,.d (.bool false)),(52,.d (.bool false)),(54,v60),(55,v56),(56,v57),(57,v58),(58,v59),(59,v60),(60,v62),(61,v63)]
def en3_20:Env:=upE (en3_14 a0 a1 h6 r1 v2 v3 v4 v5 v10 v11 v12 v13 v14 v15 v16 v17 v18 v26 v27 v28 v50) [(6,v67),(41,v66),(42,v67),(43,v67),(44,v67)]
def en3_21:Env:=upE (en3_16 a0 a1 h6 r1 v2 v3 v4 v5 v10 v11 v12 v13 v14 v15 v16 v17 v18 v26 v27 v28) [(35,.d (.bool true)),(36,.ptr h6.length 3),(37,v50),(38,v50)]
def en3_22:Env:=upE (en3_16 a0 a1 h6 r1 v2 v3 v4 v5 v10 v11 v12 v13 v14 v15 v16 v17 v18 v26 v27 v28) [(45,v71),(46,v72),(47,v73),(48,v75),(49,.d (.bool true)),(50,.no)]
def en3_23:Env:=upE (en3_22 a0 a1 h6 r1 v2 v3 v4 v5 v10 v11 v12 v13 v14 v15 v16 v17 v18 v26 v27 v28 v71 v72 v73 v75) [(49,.d (.bool false)),(50,.d (.bool false))]
def xe3 (c:Oracle)(l u:Nat)(H:Hp) (p:List Nat) (e:Env) (G:Hp) (k:KR):Res:=exK2 (C3 c l u H) [1,4,7,11] (cd 3 p) e G k
def en3_24:Env:=upE (en3_18 a0 a1 h6 r1 v2 v3 v4 v5 v10 v11 v12 v13 v19 v20 v21 v23 v33 v34 v35 v36 v37 v39 v40 v51) [(66,v78),(67,v78)]
def q3_3 (c:Oracle)(l u:Nat)(H:Hp):KR:=popK (C3 c l u H) [1,4,7,11] (k3 c l u H) []
def en3_25:Env:=upE (en3_19 a0 a1 h6 r1 v2 v3 v4 v5 v10 v11 v12 v13 v14 v15 v16 v17 v43 v44 v45 v47 v56 v57 v58 v59 v60 v62 v63) [(62,v62),(63,v79),(64,.d (.bool true)),(65,.no)]
def en3_26:Env:=upE (en3_25 a0 a1 h6 r1 v2 v3 v4 v5 v10 v11 v12 v13 v14 v15 v16 v17 v43 v44 v45 v47 v56 v57 v58 v59 v60 v62 v63 v79) [(64,.d (.bool false)),(65,v63)]
def en3_27:Env:=upE (en3_20 a0 a1 h6 r1 v2 v3 v4 v5 v10 v11 v12 v13 v14 v15 v16 v17 v18 v26 v27 v28 v50 v66 v67) [(45,v80),(46,v81),(47,v82),(48,v84),(49,.d (.bool true)),(50,.no)]
def en3_28:Env:=upE (en3_27 a0 a1 h6 r1 v2 v3 v4 v5 v10 v11 v12 v13 v14 v15 v16 v17 v18 v26 v27 v28 v50 v66 v67 v80 v81 v82 v84) [(49,.d (.bool false)),(50,v67)]
def en3_29:Env:=upE (en3_21 a0 a1 h6 r1 v2 v3 v4 v5 v10 v11 v12 v13 v14 v15 v16 v17 v18 v26 v27 v28 v50) [(45,v87),(46,v88),(47,v89),(48,v91),(49,.d (.bool true)),(50,.no)]
def en3_30:Env:=upE (en3_29 a0 a1 h6 r1 v2 v3 v4 v5 v10 v11 v12 v13 v14 v15 v16 v17 v18 v26 v27 v28 v50 v87 v88 v89 v91) [(49,.d (.bool false)),(50,.d (.bool false))]
def en3_31:Env:=upE (en3_24 a0 a1 h6 r1 v2 v3 v4 v5 v10 v11 v12 v13 v19 v20 v21 v23 v33 v34 v35 v36 v37 v39 v40 v51 v78) [(9,v108),(10,v109),(68,v106),(69,v39),(70,v102),(71,v103),(72,v104),(73,v105),(74,v106),(75,v108),(76,v109)]
def q3_4 (c:Oracle)(l u:Nat)(H:Hp):KR:=popK (C3 c l u H) [1,4,7,11] (k3 c l u H) [.sq (cd 3 [1,1,1,1,1,1,1,0,1]),.sq (cd 3 [1,1,1,1,1,1,1,1])]
def o3_3 (c:Oracle)(l u:Nat)(H:Hp) (n:Nat) (e:Env) (G:Hp):Res:=opsK2 (C3 c l u H) (some true) (rg 3 [1,1,1,1,1,1,1,0,0]) (dr 3 [1,1,1,1,1,1,1,0,0] n) e G (q3_4 c l u H)
def en3_32:Env:=upE (en3_26 a0 a1 h6 r1 v2 v3 v4 v5 v10 v11 v12 v13 v14 v15 v16 v17 v43 v44 v45 v47 v56 v57 v58 v59 v60 v62 v63 v79) [(66,v112),(67,v112)]
def en3_33:Env:=upE (en3_28 a0 a1 h6 r1 v2 v3 v4 v5 v10 v11 v12 v13 v14 v15 v16 v17 v18 v26 v27 v28 v50 v66 v67 v80 v81 v82 v84) [(51,v117),(52,v117)]
def en3_34:Env:=upE (en3_31 a0 a1 h6 r1 v2 v3 v4 v5 v10 v11 v12 v13 v19 v20 v21 v23 v33 v34 v35 v36 v37 v39 v40 v51 v78 v102 v103 v104 v105 v106 v108 v109) [(77,v108),(78,v130),(79,v131),(80,.d (.bool true)),(81,.no)]
def en3_35:Env:=upE (en3_34 a0 a1 h6 r1 v2 v3 v4 v5 v10 v11 v12 v13 v19 v20 v21 v23 v33 v34 v35 v36 v37 v39 v40 v51 v78 v102 v103 v104 v105 v106 v108 v109 v130 v131) [(80,.d (.bool false)),(81,v108)]
def en3_36:Env:=upE (en3_32 a0 a1 h6 r1 v2 v3 v4 v5 v10 v11 v12 v13 v14 v15 v16 v17 v43 v44 v45 v47 v56 v57 v58 v59 v60 v62 v63 v79 v112) [(9,v138),(10,v139),(68,v136),(69,v62),(70,v132),(71,v133),(72,v134),(73,v135),(74,v136),(75,v138),(76,v139)]
def en3_37:Env:=upE (en3_33 a0 a1 h6 r1 v2 v3 v4 v5 v10 v11 v12 v13 v14 v15 v16 v17 v18 v26 v27 v28 v50 v66 v67 v80 v81 v82 v84 v117) [(7,v148),(8,v149),(54,v146),(55,v142),(56,v143),(57,v144),(58,v145),(59,v146),(60,v148),(61,v149)]
def en3_38:Env:=upE (en3_35 a0 a1 h6 r1 v2 v3 v4 v5 v10 v11 v12 v13 v19 v20 v21 v23 v33 v34 v35 v36 v37 v39 v40 v51 v78 v102 v103 v104 v105 v106 v108 v109 v130 v131) [(82,v152),(83,v153),(84,v154),(85,v155),(86,v155),(87,.d (.bool true)),(88,.no)]
def en3_39:Env:=upE (en3_38 a0 a1 h6 r1 v2 v3 v4 v5 v10 v11 v12 v13 v19 v20 v21 v23 v33 v34 v35 v36 v37 v39 v40 v51 v78 v102 v103 v104 v105 v106 v108 v109 v130 v131 v152 v153 v154 v155) [(87,.d (.bool false)),(88,v108)]
def en3_40:Env:=upE (en3_36 a0 a1 h6 r1 v2 v3 v4 v5 v10 v11 v12 v13 v14 v15 v16 v17 v43 v44 v45 v47 v56 v57 v58 v59 v60 v62 v63 v79 v112 v132 v133 v134 v135 v136 v138 v139) [(77,v138),(78,v156),(79,v157),(80,.d (.bool true)),(81,.no)]
def en3_41:Env:=upE (en3_40 a0 a1 h6 r1 v2 v3 v4 v5 v10 v11 v12 v13 v14 v15 v16 v17 v43 v44 v45 v47 v56 v57 v58 v59 v60 v62 v63 v79 v112 v132 v133 v134 v135 v136 v138 v139 v156 v157) [(80,.d (.bool false)),(81,v138)]
def en3_42:Env:=upE (en3_37 a0 a1 h6 r1 v2 v3 v4 v5 v10 v11 v12 v13 v14 v15 v16 v17 v18 v26 v27 v28 v50 v66 v67 v80 v81 v82 v84 v117 v142 v143 v144 v145 v146 v148 v149) [(62,v148),(63,v158),(64,.d (.bool true)),(65,.no)]
def en3_43:Env:=upE (en3_42 a0 a1 h6 r1 v2 v3 v4 v5 v10 v11 v12 v13 v14 v15 v16 v17 v18 v26 v27 v28 v50 v66 v67 v80 v81 v82 v84 v117 v142 v143 v144 v145 v146 v148 v149 v158) [(64,.d (.bool false)),(65,v149)]
def en3_44:Env:=upE (en3_39 a0 a1 h6 r1 v2 v3 v4 v5 v10 v11 v12 v13 v19 v20 v21 v23 v33 v34 v35 v36 v37 v39 v40 v51 v78 v102 v103 v104 v105 v106 v108 v109 v130 v131 v152 v153 v154 v155) [(89,v159),(90,v160),(91,v161),(92,v162),(93,v163),(94,v164),(95,v165),(96,v165)]
def en3_45:Env:=upE (en3_41 a0 a1 h6 r1 v2 v3 v4 v5 v10 v11 v12 v13 v14 v15 v16 v17 v43 v44 v45 v47 v56 v57 v58 v59 v60 v62 v63 v79 v112 v132 v133 v134 v135 v136 v138 v139 v156 v157) [(82,v166),(83,v167),(84,v168),(85,v169),(86,v169),(87,.d (.bool true)),(88,.no)]
def en3_46:Env:=upE (en3_45 a0 a1 h6 r1 v2 v3 v4 v5 v10 v11 v12 v13 v14 v15 v16 v17 v43 v44 v45 v47 v56 v57 v58 v59 v60 v62 v63 v79 v112 v132 v133 v134 v135 v136 v138 v139 v156 v157 v166 v167 v168 v169) [(87,.d (.bool false)),(88,v138)]
def en3_47:Env:=upE (en3_43 a0 a1 h6 r1 v2 v3 v4 v5 v10 v11 v12 v13 v14 v15 v16 v17 v18 v26 v27 v28 v50 v66 v67 v80 v81 v82 v84 v117 v142 v143 v144 v145 v146 v148 v149 v158) [(66,v170),(67,v170)]
def en3_48:Env:=upE (en3_46 a0 a1 h6 r1 v2 v3 v4 v5 v10 v11 v12 v13 v14 v15 v16 v17 v43 v44 v45 v47 v56 v57 v58 v59 v60 v62 v63 v79 v112 v132 v133 v134 v135 v136 v138 v139 v156 v157 v166 v167 v168 v169) [(89,v172),(90,v173),(91,v174),(92,v175),(93,v176),(94,v177),(95,v178),(96,v178)]
def en3_49:Env:=upE (en3_47 a0 a1 h6 r1 v2 v3 v4 v5 v10 v11 v12 v13 v14 v15 v16 v17 v18 v26 v27 v28 v50 v66 v67 v80 v81 v82 v84 v117 v142 v143 v144 v145 v146 v148 v149 v158 v170) [(9,v185),(10,v186),(68,v183),(69,v148),(70,v179),(71,v180),(72,v181),(73,v182),(74,v183),(75,v185),(76,v186)]
def en3_50:Env:=upE (en3_49 a0 a1 h6 r1 v2 v3 v4 v5 v10 v11 v12 v13 v14 v15 v16 v17 v18 v26 v27 v28 v50 v66 v67 v80 v81 v82 v84 v117 v142 v143 v144 v145 v146 v148 v149 v158 v170 v179 v180 v181 v182 v183 v185 v186) [(77,v185),(78,v190),(79,v191),(80,.d (.bool true)),(81,.no)]
def en3_51:Env:=upE (en3_50 a0 a1 h6 r1 v2 v3 v4 v5 v10 v11 v12 v13 v14 v15 v16 v17 v18 v26 v27 v28 v50 v66 v67 v80 v81 v82 v84 v117 v142 v143 v144 v145 v146 v148 v149 v158 v170 v179 v180 v181 v182 v183 v185 v186 v190 v191) [(80,.d (.bool false)),(81,v185)]
def en3_52:Env:=upE (en3_51 a0 a1 h6 r1 v2 v3 v4 v5 v10 v11 v12 v13 v14 v15 v16 v17 v18 v26 v27 v28 v50 v66 v67 v80 v81 v82 v84 v117 v142 v143 v144 v145 v146 v148 v149 v158 v170 v179 v180 v181 v182 v183 v185 v186 v190 v191) [(82,v192),(83,v193),(84,v194),(85,v195),(86,v195),(87,.d (.bool true)),(88,.no)]
def en3_53:Env:=upE (en3_52 a0 a1 h6 r1 v2 v3 v4 v5 v10 v11 v12 v13 v14 v15 v16 v17 v18 v26 v27 v28 v50 v66 v67 v80 v81 v82 v84 v117 v142 v143 v144 v145 v146 v148 v149 v158 v170 v179 v180 v181 v182 v183 v185 v186 v190 v191 v192 v193 v194 v195) [(87,.d (.bool false)),(88,v185)]
def en3_54:Env:=upE (en3_53 a0 a1 h6 r1 v2 v3 v4 v5 v10 v11 v12 v13 v14 v15 v16 v17 v18 v26 v27 v28 v50 v66 v67 v80 v81 v82 v84 v117 v142 v143 v144 v145 v146 v148 v149 v158 v170 v179 v180 v181 v182 v183 v185 v186 v190 v191 v192 v193 v194 v195) [(89,v196),(90,v197),(91,v198),(92,v199),(93,v200),(94,v201),(95,v202),(96,v202)]
def xs3 (c:Oracle)(l u:Nat)(H:Hp) (p:List Nat) (e:Env) (G:Hp) (k:Ex→Env→Hp→OS):OS:=exK2 (C3 c l u H) [1,4,7,11] (cd 3 p) e G k
def en3_55:Env:=mkE 183 [(1,e1),(4,e4),(7,e7),(11,e11),(97,e11),(98,e1),(99,v204),(100,v205)]
def q3_5 (c:Oracle)(l u:Nat)(H:Hp):Ex→Env→Hp→OS:=popK (C3 c l u H) [1,4,7,11] (stepK [1,4,7,11]) []
def en3_56:Env:=upE (en3_55 e1 e4 e7 e11 v204 v205) [(12,v210),(13,v211),(103,v208),(104,e7),(105,e1),(106,e11),(107,v206),(108,v207),(109,v208),(110,v210),(111,v211)]
def q3_6 (c:Oracle)(l u:Nat)(H:Hp):Ex→Env→Hp→OS:=popK (C3 c l u H) [1,4,7,11] (stepK [1,4,7,11]) [.sq (cd 3 [1,1,1,1,1,1,1,1,0,1,0,0,1,0,0,1,1]),.bk 1,.sq (cd 3 [1,1,1,1,1,1,1,1,0,1,0,0,1,1])]
def o3_4 (c:Oracle)(l u:Nat)(H:Hp) (n:Nat) (e:Env) (G:Hp):OS:=opsK2 (C3 c l u H) (some true) (rg 3 [1,1,1,1,1,1,1,1,0,1,0,0,1,0,0,1,0]) (dr 3 [1,1,1,1,1,1,1,1,0,1,0,0,1,0,0,1,0] n) e G (q3_6 c l u H)
def en3_57:Env:=upE (en3_56 e1 e4 e7 e11 v204 v205 v206 v207 v208 v210 v211) [(112,v211),(113,v214),(114,.d (.bool true)),(115,.no)]
def en3_58:Env:=upE (en3_57 e1 e4 e7 e11 v204 v205 v206 v207 v208 v210 v211 v214) [(114,.d (.bool false)),(115,e7)]
def en3_59:Env:=upE (en3_58 e1 e4 e7 e11 v204 v205 v206 v207 v208 v210 v211 v214) [(116,v215),(117,v217),(118,v217),(119,.d (.bool true)),(120,.no)]
def en3_60:Env:=upE (en3_59 e1 e4 e7 e11 v204 v205 v206 v207 v208 v210 v211 v214 v215 v217) [(119,.d (.bool false)),(120,e1)]
def en3_61:Env:=upE (en3_60 e1 e4 e7 e11 v204 v205 v206 v207 v208 v210 v211 v214 v215 v217) [(121,e11),(122,v220),(123,v221),(124,v222),(125,.d (.bool true)),(126,v210)]
def en3_62:Env:=upE (en3_61 e1 e4 e7 e11 v204 v205 v206 v207 v208 v210 v211 v214 v215 v217 v220 v221 v222) [(125,.d (.bool false)),(126,.no)]
def en3_63:Env:=upE (en3_61 e1 e4 e7 e11 v204 v205 v206 v207 v208 v210 v211 v214 v215 v217 v220 v221 v222) [(127,v223),(128,v224),(129,v224),(130,v224),(131,.d (.bool true)),(132,.no)]
def en3_64:Env:=upE (en3_63 e1 e4 e7 e11 v204 v205 v206 v207 v208 v210 v211 v214 v215 v217 v220 v221 v222 v223 v224) [(131,.d (.bool false)),(132,e1)]
def en3_65:Env:=upE (en3_62 e1 e4 e7 e11 v204 v205 v206 v207 v208 v210 v211 v214 v215 v217 v220 v221 v222) [(127,.no),(128,.no),(129,.d (.bool false)),(130,.d (.bool false)),(131,.d (.bool false)),(132,e1),(133,e11),(134,v225),(135,v226),(136,v227),(137,.d (.bool true)),(138,v210)]
def en3_66:Env:=upE (en3_65 e1 e4 e7 e11 v204 v205 v206 v207 v208 v210 v211 v214 v215 v217 v220 v221 v222 v225 v226 v227) [(137,.d (.bool false)),(138,.no)]
def en3_67:Env:=upE (en3_64 e1 e4 e7 e11 v204 v205 v206 v207 v208 v210 v211 v214 v215 v217 v220 v221 v222 v223 v224) [(133,e11),(134,v228),(135,v229),(136,v230),(137,.d (.bool true)),(138,v210)]
def en3_68:Env:=upE (en3_67 e1 e4 e7 e11 v204 v205 v206 v207 v208 v210 v211 v214 v215 v217 v220 v221 v222 v223 v224 v228 v229 v230) [(137,.d (.bool false)),(138,.no)]
def en3_69:Env:=upE (en3_65 e1 e4 e7 e11 v204 v205 v206 v207 v208 v210 v211 v214 v215 v217 v220 v221 v222 v225 v226 v227) [(139,v231),(140,v232),(141,.d (.bool true)),(142,.no)]
def en3_70:Env:=upE (en3_69 e1 e4 e7 e11 v204 v205 v206 v207 v208 v210 v211 v214 v215 v217 v220 v221 v222 v225 v226 v227 v231 v232) [(141,.d (.bool false)),(142,v210)]
def en3_73:Env:=upE (en3_70 e1 e4 e7 e11 v204 v205 v206 v207 v208 v210 v211 v214 v215 v217 v220 v221 v222 v225 v226 v227 v231 v232) [(143,v237),(144,v238),(145,v239),(146,v240),(147,v240),(148,.d (.bool true)),(149,.no)]
def en3_74:Env:=upE (en3_73 e1 e4 e7 e11 v204 v205 v206 v207 v208 v210 v211 v214 v215 v217 v220 v221 v222 v225 v226 v227 v231 v232 v237 v238 v239 v240) [(148,.d (.bool false)),(149,v210)]
def en3_77:Env:=mkE 183 [(1,e1),(4,e4),(7,e7),(11,e11),(14,v261),(15,v262),(161,v259),(162,e7),(163,v259),(164,v261),(165,v262)]
def q3_7 (c:Oracle)(l u:Nat)(H:Hp):KR:=popK (C3 c l u H) [1,4,7,11] (k3 c l u H) [.sq (cd 3 [1,1,1,1,1,1,1,1,1,1,1])]
def o3_5 (c:Oracle)(l u:Nat)(H:Hp) (n:Nat) (e:Env) (G:Hp):Res:=opsK2 (C3 c l u H) none (rg 3 [1,1,1,1,1,1,1,1,1,1,0]) (dr 3 [1,1,1,1,1,1,1,1,1,1,0] n) e G (q3_7 c l u H)
def en3_78:Env:=mkE 183 [(1,e1),(4,e4),(7,e7),(11,e11),(14,v261),(15,v262),(161,v259),(162,e7),(163,v259),(164,v261),(165,v262),(166,v262),(167,v265),(168,.d (.bool true)),(169,v261)]
def en3_79:Env:=mkE 183 [(1,e1),(4,e4),(7,e7),(11,e11),(14,v261),(15,v262),(161,v259),(162,e7),(163,v259),(164,v261),(165,v262),(166,v262),(167,v265),(168,.d (.bool false)),(169,.no)]
def en3_80:Env:=upE (en3_78 e1 e4 e7 e11 v259 v261 v262 v265) [(170,v266),(171,v267),(172,v267),(173,.d (.bool true)),(174,v261)]
def en3_81:Env:=upE (en3_80 e1 e4 e7 e11 v259 v261 v262 v265 v266 v267) [(173,.d (.bool false)),(174,.no)]
def en3_82:Env:=upE (en3_80 e1 e4 e7 e11 v259 v261 v262 v265 v266 v267) [(175,v268),(176,v269),(177,v270),(178,v271),(179,v271),(180,.d (.bool true)),(181,v272)]
def en3_83:Env:=upE (en3_80 e1 e4 e7 e11 v259 v261 v262 v265 v266 v267) [(175,v268),(176,v269),(177,v270),(178,v271),(179,v271),(180,.d (.bool false)),(181,.no)]
theorem R3:bodyK2 P tab c l u 3 [a0,.d (.lst a1)] H=(iBox 30 a0 H).bind λr1=>(padd r1.1 7).bind λv2=>(padd v2 1).bind λv3=>(ld1 v3 r1.2).bind λv4=>
 liftR (c H.length H.length 4 (frzArgs H.length [(true,v4)] r1.2).1 (frzArgs H.length [(true,v4)] r1.2).2) (λv5 h6=>(st 6 H.length H.length (.ptr h6.length 0) v5 (h6++[Blk.cells 73 [.d (.str []),.d (.str []),.vnil,.d (.bool false),.d (.bool false),.d (.bool false)]])).bind λh7=>
 o3_0 c l u H 0 (en3_0 a0 a1 h6 r1 v2 v3 v4 v5) h7) (λp8 h9=>finP .pure H H.length p8 h9):=by kernel_rfl
theorem g3_0:o3_0 c l u H 0 (en3_0 a0 a1 h6 r1 v2 v3 v4 v5) h7=(padd r1.1 3).bind λv10=>(padd v10 1).bind λv11=>(ld1 v11 h7).bind λv12=>(iUn .not v12).bind λv13=>
 brN3 v13 (o3_0 c l u H 6 (en3_1 a0 a1 h6 r1 v2 v3 v4 v5 v10 v11 v12 v13) h7) ((padd r1.1 3).bind λv14=>
 o3_0 c l u H 6 (en3_2 a0 a1 h6 r1 v2 v3 v4 v5 v10 v11 v12 v13 v14) h7) (o3_0 c l u H 6 (List.set (en3_1 a0 a1 h6 r1 v2 v3 v4 v5 v10 v11 v12 v13) 24 v13) h7):=by
 unfold o3_0
 refine (oG 6).trans ?_
 generalize opsK2 _ _ _=X
 kernel_rfl
theorem g3_1:o3_0 c l u H 6 (en3_1 a0 a1 h6 r1 v2 v3 v4 v5 v10 v11 v12 v13) h7 =
 o3_1 c l u H 0 (en3_3 a0 a1 h6 r1 v2 v3 v4 v5 v10 v11 v12 v13) h7:=by
 unfold o3_0 o3_1
 refine (oG 21).trans ?_
 generalize opsK2 _ _ _=X
 kernel_rfl
theorem g3_2:o3_0 c l u H 6 (en3_2 a0 a1 h6 r1 v2 v3 v4 v5 v10 v11 v12 v13 v14) h7=(padd v14 2).bind λv15=>(ld1 v15 h7).bind λv16=>(iUn .not v16).bind λv17=>
 brN3 v17 (o3_0 c l u H 12 (en3_4 a0 a1 h6 r1 v2 v3 v4 v5 v10 v11 v12 v13 v14 v15 v16 v17) h7) ((padd r1.1 0).bind λv18=>
 o3_0 c l u H 12 (en3_5 a0 a1 h6 r1 v2 v3 v4 v5 v10 v11 v12 v13 v14 v15 v16 v17 v18) h7) (o3_0 c l u H 12 (List.set (en3_4 a0 a1 h6 r1 v2 v3 v4 v5 v10 v11 v12 v13 v14 v15 v16 v17) 30 v17) h7):=by
 unfold o3_0
 refine (oG 6).trans ?_
 generalize opsK2 _ _ _=X
 kernel_rfl
theorem g3_3:o3_1 c l u H 0 (en3_3 a0 a1 h6 r1 v2 v3 v4 v5 v10 v11 v12 v13) h7=(padd r1.1 0).bind λv19=>(ldN 3 v19 h7).bind λv20=>
 liftR (c H.length H.length 6 [v20] h7) (λv21 h22=>(iUn .not v21).bind λv23=>
 brN3 v23 (o3_1 c l u H 6 (en3_6 a0 a1 h6 r1 v2 v3 v4 v5 v10 v11 v12 v13 v19 v20 v21 v23) h22) (o3_1 c l u H 6 (en3_7 a0 a1 h6 r1 v2 v3 v4 v5 v10 v11 v12 v13 v19 v20 v21 v23) h22) (o3_1 c l u H 6 (List.set (en3_6 a0 a1 h6 r1 v2 v3 v4 v5 v10 v11 v12 v13 v19 v20 v21 v23) 49 v23) h22)) (λp24 h25=>finP .pure H H.length p24 h25):=by
 unfold o3_1
 refine (oG 6).trans ?_
 generalize opsK2 _ _ _=X
 kernel_rfl
theorem g3_4:o3_0 c l u H 12 (en3_4 a0 a1 h6 r1 v2 v3 v4 v5 v10 v11 v12 v13 v14 v15 v16 v17) h7 =
 o3_1 c l u H 0 (en3_8 a0 a1 h6 r1 v2 v3 v4 v5 v10 v11 v12 v13 v14 v15 v16 v17) h7:=by
 unfold o3_0 o3_1
 refine (oG 15).trans ?_
 generalize opsK2 _ _ _=X
 kernel_rfl
theorem g3_5:o3_0 c l u H 12 (en3_5 a0 a1 h6 r1 v2 v3 v4 v5 v10 v11 v12 v13 v14 v15 v16 v17 v18) h7=(padd v18 0).bind λv26=>(ld1 v26 h7).bind λv27=>(iUn .not v27).bind λv28=>
 brN3 v28 (o3_0 c l u H 17 (en3_9 a0 a1 h6 r1 v2 v3 v4 v5 v10 v11 v12 v13 v14 v15 v16 v17 v18 v26 v27 v28) h7) (o3_0 c l u H 17 (en3_10 a0 a1 h6 r1 v2 v3 v4 v5 v10 v11 v12 v13 v14 v15 v16 v17 v18 v26 v27 v28) h7) (o3_0 c l u H 17 (List.set (en3_10 a0 a1 h6 r1 v2 v3 v4 v5 v10 v11 v12 v13 v14 v15 v16 v17 v18 v26 v27 v28) 35 v28) h7):=by
 unfold o3_0
 refine (oG 5).trans ?_
 generalize opsK2 _ _ _=X
 kernel_rfl
theorem g3_6:o3_1 c l u H 6 (en3_6 a0 a1 h6 r1 v2 v3 v4 v5 v10 v11 v12 v13 v19 v20 v21 v23) h22 =
 liftR (c H.length H.length 7 [] h22) (λv29 h30=>
 fin .pure H H.length [v29] h30) (λp31 h32=>finP .pure H H.length p31 h32):=by
 unfold o3_1
 refine (oG 3).trans ?_
 generalize opsK2 _ _ _=X
 kernel_rfl
theorem g3_7:o3_1 c l u H 6 (en3_7 a0 a1 h6 r1 v2 v3 v4 v5 v10 v11 v12 v13 v19 v20 v21 v23) h22=(padd r1.1 0).bind λv33=>(ldN 3 v33 h22).bind λv34=>(padd r1.1 3).bind λv35=>(ldN 4 v35 h22).bind λv36=>
 liftR (c H.length H.length 8 [v34,v36] h22) (λv37 h38=>(iExtract v37 0).bind λv39=>(iExtract v37 1).bind λv40=>
 o3_2 c l u H 0 (en3_11 a0 a1 h6 r1 v2 v3 v4 v5 v10 v11 v12 v13 v19 v20 v21 v23 v33 v34 v35 v36 v37 v39 v40) h38) (λp41 h42=>finP .pure H H.length p41 h42):=by
 unfold o3_1 o3_2
 refine (oG 3).trans ?_
 generalize opsK2 _ _ _=X
 kernel_rfl
theorem g3_8:o3_1 c l u H 0 (en3_8 a0 a1 h6 r1 v2 v3 v4 v5 v10 v11 v12 v13 v14 v15 v16 v17) h7=(padd r1.1 0).bind λv43=>(ldN 3 v43 h7).bind λv44=>
 liftR (c H.length H.length 6 [v44] h7) (λv45 h46=>(iUn .not v45).bind λv47=>
 brN3 v47 (o3_1 c l u H 6 (en3_12 a0 a1 h6 r1 v2 v3 v4 v5 v10 v11 v12 v13 v14 v15 v16 v17 v43 v44 v45 v47) h46) (o3_1 c l u H 6 (en3_13 a0 a1 h6 r1 v2 v3 v4 v5 v10 v11 v12 v13 v14 v15 v16 v17 v43 v44 v45 v47) h46) (o3_1 c l u H 6 (List.set (en3_12 a0 a1 h6 r1 v2 v3 v4 v5 v10 v11 v12 v13 v14 v15 v16 v17 v43 v44 v45 v47) 49 v47) h46)) (λp48 h49=>finP .pure H H.length p48 h49):=by
 unfold o3_1
 refine (oG 6).trans ?_
 generalize opsK2 _ _ _=X
 kernel_rfl
theorem g3_9:o3_0 c l u H 17 (en3_9 a0 a1 h6 r1 v2 v3 v4 v5 v10 v11 v12 v13 v14 v15 v16 v17 v18 v26 v27 v28) h7=(ld1 (.ptr h6.length 3) h7).bind λv50=>
 brN3 v50 (o3_0 c l u H 21 (en3_14 a0 a1 h6 r1 v2 v3 v4 v5 v10 v11 v12 v13 v14 v15 v16 v17 v18 v26 v27 v28 v50) h7) (o3_0 c l u H 21 (en3_15 a0 a1 h6 r1 v2 v3 v4 v5 v10 v11 v12 v13 v14 v15 v16 v17 v18 v26 v27 v28 v50) h7) (o3_0 c l u H 21 (List.set (en3_15 a0 a1 h6 r1 v2 v3 v4 v5 v10 v11 v12 v13 v14 v15 v16 v17 v18 v26 v27 v28 v50) 39 v50) h7):=by
 unfold o3_0
 refine (oG 4).trans ?_
 generalize opsK2 _ _ _=X
 kernel_rfl
theorem g3_10:o3_0 c l u H 17 (en3_10 a0 a1 h6 r1 v2 v3 v4 v5 v10 v11 v12 v13 v14 v15 v16 v17 v18 v26 v27 v28) h7 =
 o3_1 c l u H 0 (en3_16 a0 a1 h6 r1 v2 v3 v4 v5 v10 v11 v12 v13 v14 v15 v16 v17 v18 v26 v27 v28) h7:=by
 unfold o3_0 o3_1
 refine (oG 10).trans ?_
 generalize opsK2 _ _ _=X
 kernel_rfl
theorem g3_11:o3_2 c l u H 0 (en3_11 a0 a1 h6 r1 v2 v3 v4 v5 v10 v11 v12 v13 v19 v20 v21 v23 v33 v34 v35 v36 v37 v39 v40) h38=(iBin P .eql 41 v39 .nul).bind λv51=>
 brN3 v51 (o3_2 c l u H 4 (en3_17 a0 a1 h6 r1 v2 v3 v4 v5 v10 v11 v12 v13 v19 v20 v21 v23 v33 v34 v35 v36 v37 v39 v40 v51) h38) (o3_2 c l u H 4 (en3_18 a0 a1 h6 r1 v2 v3 v4 v5 v10 v11 v12 v13 v19 v20 v21 v23 v33 v34 v35 v36 v37 v39 v40 v51) h38) (o3_2 c l u H 4 (List.set (en3_17 a0 a1 h6 r1 v2 v3 v4 v5 v10 v11 v12 v13 v19 v20 v21 v23 v33 v34 v35 v36 v37 v39 v40 v51) 64 v51) h38):=by
 unfold o3_2
 refine (oG 4).trans ?_
 generalize opsK2 _ _ _=X
 kernel_rfl
theorem g3_12:o3_1 c l u H 6 (en3_12 a0 a1 h6 r1 v2 v3 v4 v5 v10 v11 v12 v13 v14 v15 v16 v17 v43 v44 v45 v47) h46 =
 liftR (c H.length H.length 7 [] h46) (λv52 h53=>
 fin .pure H H.length [v52] h53) (λp54 h55=>finP .pure H H.length p54 h55):=by
 unfold o3_1
 refine (oG 3).trans ?_
 generalize opsK2 _ _ _=X
 kernel_rfl
theorem g3_13:o3_1 c l u H 6 (en3_13 a0 a1 h6 r1 v2 v3 v4 v5 v10 v11 v12 v13 v14 v15 v16 v17 v43 v44 v45 v47) h46=(padd r1.1 0).bind λv56=>(ldN 3 v56 h46).bind λv57=>(padd r1.1 3).bind λv58=>(ldN 4 v58 h46).bind λv59=>
 liftR (c H.length H.length 8 [v57,v59] h46) (λv60 h61=>(iExtract v60 0).bind λv62=>(iExtract v60 1).bind λv63=>
 o3_2 c l u H 0 (en3_19 a0 a1 h6 r1 v2 v3 v4 v5 v10 v11 v12 v13 v14 v15 v16 v17 v43 v44 v45 v47 v56 v57 v58 v59 v60 v62 v63) h61) (λp64 h65=>finP .pure H H.length p64 h65):=by
 unfold o3_1 o3_2
 refine (oG 3).trans ?_
 generalize opsK2 _ _ _=X
 kernel_rfl
theorem g3_14:o3_0 c l u H 21 (en3_14 a0 a1 h6 r1 v2 v3 v4 v5 v10 v11 v12 v13 v14 v15 v16 v17 v18 v26 v27 v28 v50) h7=(ldN 3 (.ptr h6.length 0) h7).bind λv66=>
 liftR (c H.length H.length 5 (frzArgs H.length [(true,v66)] h7).1 (frzArgs H.length [(true,v66)] h7).2) (λv67 h68=>
 o3_1 c l u H 0 (en3_20 a0 a1 h6 r1 v2 v3 v4 v5 v10 v11 v12 v13 v14 v15 v16 v17 v18 v26 v27 v28 v50 v66 v67) h68) (λp69 h70=>finP .pure H H.length p69 h70):=by
 unfold o3_0 o3_1
 refine (oG 6).trans ?_
 generalize opsK2 _ _ _=X
 kernel_rfl
theorem g3_15:o3_0 c l u H 21 (en3_15 a0 a1 h6 r1 v2 v3 v4 v5 v10 v11 v12 v13 v14 v15 v16 v17 v18 v26 v27 v28 v50) h7 =
 o3_1 c l u H 0 (en3_21 a0 a1 h6 r1 v2 v3 v4 v5 v10 v11 v12 v13 v14 v15 v16 v17 v18 v26 v27 v28 v50) h7:=by
 unfold o3_0 o3_1
 refine (oG 6).trans ?_
 generalize opsK2 _ _ _=X
 kernel_rfl
theorem g3_16:o3_1 c l u H 0 (en3_16 a0 a1 h6 r1 v2 v3 v4 v5 v10 v11 v12 v13 v14 v15 v16 v17 v18 v26 v27 v28) h7=(padd r1.1 0).bind λv71=>(ldN 3 v71 h7).bind λv72=>
 liftR (c H.length H.length 6 [v72] h7) (λv73 h74=>(iUn .not v73).bind λv75=>
 brN3 v75 (o3_1 c l u H 6 (en3_22 a0 a1 h6 r1 v2 v3 v4 v5 v10 v11 v12 v13 v14 v15 v16 v17 v18 v26 v27 v28 v71 v72 v73 v75) h74) (o3_1 c l u H 6 (en3_23 a0 a1 h6 r1 v2 v3 v4 v5 v10 v11 v12 v13 v14 v15 v16 v17 v18 v26 v27 v28 v71 v72 v73 v75) h74) (o3_1 c l u H 6 (List.set (en3_22 a0 a1 h6 r1 v2 v3 v4 v5 v10 v11 v12 v13 v14 v15 v16 v17 v18 v26 v27 v28 v71 v72 v73 v75) 49 v75) h74)) (λp76 h77=>finP .pure H H.length p76 h77):=by
 unfold o3_1
 refine (oG 6).trans ?_
 generalize opsK2 _ _ _=X
 kernel_rfl
theorem g3_18:o3_2 c l u H 4 (en3_18 a0 a1 h6 r1 v2 v3 v4 v5 v10 v11 v12 v13 v19 v20 v21 v23 v33 v34 v35 v36 v37 v39 v40 v51) h38=(iBin P .neq 42 v40 (.d (.int .i64 0))).bind λv78=>
 br3 v78 (fin .pure H H.length [.d (.bool false)] h38) (xe3 c l u H [1,1,1,1,1,1] (en3_24 a0 a1 h6 r1 v2 v3 v4 v5 v10 v11 v12 v13 v19 v20 v21 v23 v33 v34 v35 v36 v37 v39 v40 v51 v78) h38 (q3_3 c l u H)):=by
 unfold o3_2
 refine (oG 3).trans ?_
 generalize opsK2 _ _ _=X
 kernel_rfl
theorem g3_19:o3_2 c l u H 0 (en3_19 a0 a1 h6 r1 v2 v3 v4 v5 v10 v11 v12 v13 v14 v15 v16 v17 v43 v44 v45 v47 v56 v57 v58 v59 v60 v62 v63) h61=(iBin P .eql 41 v62 .nul).bind λv79=>
 brN3 v79 (o3_2 c l u H 4 (en3_25 a0 a1 h6 r1 v2 v3 v4 v5 v10 v11 v12 v13 v14 v15 v16 v17 v43 v44 v45 v47 v56 v57 v58 v59 v60 v62 v63 v79) h61) (o3_2 c l u H 4 (en3_26 a0 a1 h6 r1 v2 v3 v4 v5 v10 v11 v12 v13 v14 v15 v16 v17 v43 v44 v45 v47 v56 v57 v58 v59 v60 v62 v63 v79) h61) (o3_2 c l u H 4 (List.set (en3_25 a0 a1 h6 r1 v2 v3 v4 v5 v10 v11 v12 v13 v14 v15 v16 v17 v43 v44 v45 v47 v56 v57 v58 v59 v60 v62 v63 v79) 64 v79) h61):=by
 unfold o3_2
 refine (oG 4).trans ?_
 generalize opsK2 _ _ _=X
 kernel_rfl
theorem g3_20:o3_1 c l u H 0 (en3_20 a0 a1 h6 r1 v2 v3 v4 v5 v10 v11 v12 v13 v14 v15 v16 v17 v18 v26 v27 v28 v50 v66 v67) h68=(padd r1.1 0).bind λv80=>(ldN 3 v80 h68).bind λv81=>
 liftR (c H.length H.length 6 [v81] h68) (λv82 h83=>(iUn .not v82).bind λv84=>
 brN3 v84 (o3_1 c l u H 6 (en3_27 a0 a1 h6 r1 v2 v3 v4 v5 v10 v11 v12 v13 v14 v15 v16 v17 v18 v26 v27 v28 v50 v66 v67 v80 v81 v82 v84) h83) (o3_1 c l u H 6 (en3_28 a0 a1 h6 r1 v2 v3 v4 v5 v10 v11 v12 v13 v14 v15 v16 v17 v18 v26 v27 v28 v50 v66 v67 v80 v81 v82 v84) h83) (o3_1 c l u H 6 (List.set (en3_27 a0 a1 h6 r1 v2 v3 v4 v5 v10 v11 v12 v13 v14 v15 v16 v17 v18 v26 v27 v28 v50 v66 v67 v80 v81 v82 v84) 49 v84) h83)) (λp85 h86=>finP .pure H H.length p85 h86):=by
 unfold o3_1
 refine (oG 6).trans ?_
 generalize opsK2 _ _ _=X
 kernel_rfl
theorem g3_21:o3_1 c l u H 0 (en3_21 a0 a1 h6 r1 v2 v3 v4 v5 v10 v11 v12 v13 v14 v15 v16 v17 v18 v26 v27 v28 v50) h7=(padd r1.1 0).bind λv87=>(ldN 3 v87 h7).bind λv88=>
 liftR (c H.length H.length 6 [v88] h7) (λv89 h90=>(iUn .not v89).bind λv91=>
 brN3 v91 (o3_1 c l u H 6 (en3_29 a0 a1 h6 r1 v2 v3 v4 v5 v10 v11 v12 v13 v14 v15 v16 v17 v18 v26 v27 v28 v50 v87 v88 v89 v91) h90) (o3_1 c l u H 6 (en3_30 a0 a1 h6 r1 v2 v3 v4 v5 v10 v11 v12 v13 v14 v15 v16 v17 v18 v26 v27 v28 v50 v87 v88 v89 v91) h90) (o3_1 c l u H 6 (List.set (en3_29 a0 a1 h6 r1 v2 v3 v4 v5 v10 v11 v12 v13 v14 v15 v16 v17 v18 v26 v27 v28 v50 v87 v88 v89 v91) 49 v91) h90)) (λp92 h93=>finP .pure H H.length p92 h93):=by
 unfold o3_1
 refine (oG 6).trans ?_
 generalize opsK2 _ _ _=X
 kernel_rfl
theorem g3_22:o3_1 c l u H 6 (en3_22 a0 a1 h6 r1 v2 v3 v4 v5 v10 v11 v12 v13 v14 v15 v16 v17 v18 v26 v27 v28 v71 v72 v73 v75) h74 =
 liftR (c H.length H.length 7 [] h74) (λv94 h95=>
 fin .pure H H.length [v94] h95) (λp96 h97=>finP .pure H H.length p96 h97):=by
 unfold o3_1
 refine (oG 3).trans ?_
 generalize opsK2 _ _ _=X
 kernel_rfl
theorem g3_23:o3_1 c l u H 6 (en3_23 a0 a1 h6 r1 v2 v3 v4 v5 v10 v11 v12 v13 v14 v15 v16 v17 v18 v26 v27 v28 v71 v72 v73 v75) h74 =
 liftR (c H.length H.length 7 [] h74) (λv98 h99=>
 fin .pure H H.length [v98] h99) (λp100 h101=>finP .pure H H.length p100 h101):=by
 unfold o3_1
 refine (oG 3).trans ?_
 generalize opsK2 _ _ _=X
 kernel_rfl
theorem g3_24:xe3 c l u H [1,1,1,1,1,1] (en3_24 a0 a1 h6 r1 v2 v3 v4 v5 v10 v11 v12 v13 v19 v20 v21 v23 v33 v34 v35 v36 v37 v39 v40 v51 v78) h38 (q3_3 c l u H)=(padd r1.1 7).bind λv102=>(ldN 2 v102 h38).bind λv103=>(padd r1.1 9).bind λv104=>(ld1 v104 h38).bind λv105=>
 liftR (c H.length H.length 9 [v39,v103,v105] h38) (λv106 h107=>(iExtract v106 0).bind λv108=>(iExtract v106 1).bind λv109=>
 o3_3 c l u H 0 (en3_31 a0 a1 h6 r1 v2 v3 v4 v5 v10 v11 v12 v13 v19 v20 v21 v23 v33 v34 v35 v36 v37 v39 v40 v51 v78 v102 v103 v104 v105 v106 v108 v109) h107) (λp110 h111=>finP .pure H H.length p110 h111):=by kernel_rfl
theorem g3_26:o3_2 c l u H 4 (en3_26 a0 a1 h6 r1 v2 v3 v4 v5 v10 v11 v12 v13 v14 v15 v16 v17 v43 v44 v45 v47 v56 v57 v58 v59 v60 v62 v63 v79) h61=(iBin P .neq 42 v63 (.d (.int .i64 0))).bind λv112=>
 br3 v112 (fin .pure H H.length [.d (.bool false)] h61) (xe3 c l u H [1,1,1,1,1,1] (en3_32 a0 a1 h6 r1 v2 v3 v4 v5 v10 v11 v12 v13 v14 v15 v16 v17 v43 v44 v45 v47 v56 v57 v58 v59 v60 v62 v63 v79 v112) h61 (q3_3 c l u H)):=by
 unfold o3_2
 refine (oG 3).trans ?_
 generalize opsK2 _ _ _=X
 kernel_rfl
theorem g3_27:o3_1 c l u H 6 (en3_27 a0 a1 h6 r1 v2 v3 v4 v5 v10 v11 v12 v13 v14 v15 v16 v17 v18 v26 v27 v28 v50 v66 v67 v80 v81 v82 v84) h83 =
 liftR (c H.length H.length 7 [] h83) (λv113 h114=>
 fin .pure H H.length [v113] h114) (λp115 h116=>finP .pure H H.length p115 h116):=by
 unfold o3_1
 refine (oG 3).trans ?_
 generalize opsK2 _ _ _=X
 kernel_rfl
theorem g3_28:o3_1 c l u H 6 (en3_28 a0 a1 h6 r1 v2 v3 v4 v5 v10 v11 v12 v13 v14 v15 v16 v17 v18 v26 v27 v28 v50 v66 v67 v80 v81 v82 v84) h83=(iUn .not v67).bind λv117=>
 br3 v117 (liftR (c H.length H.length 7 [] h83) (λv118 h119=>
 fin .pure H H.length [v118] h119) (λp120 h121=>finP .pure H H.length p120 h121)) (xe3 c l u H [1,1,1,1] (en3_33 a0 a1 h6 r1 v2 v3 v4 v5 v10 v11 v12 v13 v14 v15 v16 v17 v18 v26 v27 v28 v50 v66 v67 v80 v81 v82 v84 v117) h83 (q3_3 c l u H)):=by
 unfold o3_1
 refine (oG 3).trans ?_
 generalize opsK2 _ _ _=X
 kernel_rfl
theorem g3_29:o3_1 c l u H 6 (en3_29 a0 a1 h6 r1 v2 v3 v4 v5 v10 v11 v12 v13 v14 v15 v16 v17 v18 v26 v27 v28 v50 v87 v88 v89 v91) h90 =
 liftR (c H.length H.length 7 [] h90) (λv122 h123=>
 fin .pure H H.length [v122] h123) (λp124 h125=>finP .pure H H.length p124 h125):=by
 unfold o3_1
 refine (oG 3).trans ?_
 generalize opsK2 _ _ _=X
 kernel_rfl
theorem g3_30:o3_1 c l u H 6 (en3_30 a0 a1 h6 r1 v2 v3 v4 v5 v10 v11 v12 v13 v14 v15 v16 v17 v18 v26 v27 v28 v50 v87 v88 v89 v91) h90 =
 liftR (c H.length H.length 7 [] h90) (λv126 h127=>
 fin .pure H H.length [v126] h127) (λp128 h129=>finP .pure H H.length p128 h129):=by
 unfold o3_1
 refine (oG 3).trans ?_
 generalize opsK2 _ _ _=X
 kernel_rfl
theorem g3_31:o3_3 c l u H 0 (en3_31 a0 a1 h6 r1 v2 v3 v4 v5 v10 v11 v12 v13 v19 v20 v21 v23 v33 v34 v35 v36 v37 v39 v40 v51 v78 v102 v103 v104 v105 v106 v108 v109) h107=(lnV v108).bind λv130=>(iBin P .neq 3 v130 (.d (.int .i64 1))).bind λv131=>
 brN3 v131 (o3_3 c l u H 5 (en3_34 a0 a1 h6 r1 v2 v3 v4 v5 v10 v11 v12 v13 v19 v20 v21 v23 v33 v34 v35 v36 v37 v39 v40 v51 v78 v102 v103 v104 v105 v106 v108 v109 v130 v131) h107) (o3_3 c l u H 5 (en3_35 a0 a1 h6 r1 v2 v3 v4 v5 v10 v11 v12 v13 v19 v20 v21 v23 v33 v34 v35 v36 v37 v39 v40 v51 v78 v102 v103 v104 v105 v106 v108 v109 v130 v131) h107) (o3_3 c l u H 5 (List.set (en3_34 a0 a1 h6 r1 v2 v3 v4 v5 v10 v11 v12 v13 v19 v20 v21 v23 v33 v34 v35 v36 v37 v39 v40 v51 v78 v102 v103 v104 v105 v106 v108 v109 v130 v131) 80 v131) h107):=by
 unfold o3_3
 refine (oG 5).trans ?_
 generalize opsK2 _ _ _=X
 kernel_rfl
theorem g3_32:xe3 c l u H [1,1,1,1,1,1] (en3_32 a0 a1 h6 r1 v2 v3 v4 v5 v10 v11 v12 v13 v14 v15 v16 v17 v43 v44 v45 v47 v56 v57 v58 v59 v60 v62 v63 v79 v112) h61 (q3_3 c l u H)=(padd r1.1 7).bind λv132=>(ldN 2 v132 h61).bind λv133=>(padd r1.1 9).bind λv134=>(ld1 v134 h61).bind λv135=>
 liftR (c H.length H.length 9 [v62,v133,v135] h61) (λv136 h137=>(iExtract v136 0).bind λv138=>(iExtract v136 1).bind λv139=>
 o3_3 c l u H 0 (en3_36 a0 a1 h6 r1 v2 v3 v4 v5 v10 v11 v12 v13 v14 v15 v16 v17 v43 v44 v45 v47 v56 v57 v58 v59 v60 v62 v63 v79 v112 v132 v133 v134 v135 v136 v138 v139) h137) (λp140 h141=>finP .pure H H.length p140 h141):=by kernel_rfl
theorem g3_33:xe3 c l u H [1,1,1,1] (en3_33 a0 a1 h6 r1 v2 v3 v4 v5 v10 v11 v12 v13 v14 v15 v16 v17 v18 v26 v27 v28 v50 v66 v67 v80 v81 v82 v84 v117) h83 (q3_3 c l u H)=(padd r1.1 0).bind λv142=>(ldN 3 v142 h83).bind λv143=>(padd r1.1 3).bind λv144=>(ldN 4 v144 h83).bind λv145=>
 liftR (c H.length H.length 8 [v143,v145] h83) (λv146 h147=>(iExtract v146 0).bind λv148=>(iExtract v146 1).bind λv149=>
 o3_2 c l u H 0 (en3_37 a0 a1 h6 r1 v2 v3 v4 v5 v10 v11 v12 v13 v14 v15 v16 v17 v18 v26 v27 v28 v50 v66 v67 v80 v81 v82 v84 v117 v142 v143 v144 v145 v146 v148 v149) h147) (λp150 h151=>finP .pure H H.length p150 h151):=by kernel_rfl
theorem g3_35:o3_3 c l u H 5 (en3_35 a0 a1 h6 r1 v2 v3 v4 v5 v10 v11 v12 v13 v19 v20 v21 v23 v33 v34 v35 v36 v37 v39 v40 v51 v78 v102 v103 v104 v105 v106 v108 v109 v130 v131) h107=(ixA 6 v108 (.d (.int .i64 0))).bind λv152=>(padd v152 0).bind λv153=>(ld1 v153 h107).bind λv154=>(iBin P .neq 3 v154 (.d (.int .i64 1))).bind λv155=>
 brN3 v155 (o3_3 c l u H 12 (en3_38 a0 a1 h6 r1 v2 v3 v4 v5 v10 v11 v12 v13 v19 v20 v21 v23 v33 v34 v35 v36 v37 v39 v40 v51 v78 v102 v103 v104 v105 v106 v108 v109 v130 v131 v152 v153 v154 v155) h107) (o3_3 c l u H 12 (en3_39 a0 a1 h6 r1 v2 v3 v4 v5 v10 v11 v12 v13 v19 v20 v21 v23 v33 v34 v35 v36 v37 v39 v40 v51 v78 v102 v103 v104 v105 v106 v108 v109 v130 v131 v152 v153 v154 v155) h107) (o3_3 c l u H 12 (List.set (en3_38 a0 a1 h6 r1 v2 v3 v4 v5 v10 v11 v12 v13 v19 v20 v21 v23 v33 v34 v35 v36 v37 v39 v40 v51 v78 v102 v103 v104 v105 v106 v108 v109 v130 v131 v152 v153 v154 v155) 87 v155) h107):=by
 unfold o3_3
 refine (oG 7).trans ?_
 generalize opsK2 _ _ _=X
 kernel_rfl
theorem g3_36:o3_3 c l u H 0 (en3_36 a0 a1 h6 r1 v2 v3 v4 v5 v10 v11 v12 v13 v14 v15 v16 v17 v43 v44 v45 v47 v56 v57 v58 v59 v60 v62 v63 v79 v112 v132 v133 v134 v135 v136 v138 v139) h137=(lnV v138).bind λv156=>(iBin P .neq 3 v156 (.d (.int .i64 1))).bind λv157=>
 brN3 v157 (o3_3 c l u H 5 (en3_40 a0 a1 h6 r1 v2 v3 v4 v5 v10 v11 v12 v13 v14 v15 v16 v17 v43 v44 v45 v47 v56 v57 v58 v59 v60 v62 v63 v79 v112 v132 v133 v134 v135 v136 v138 v139 v156 v157) h137) (o3_3 c l u H 5 (en3_41 a0 a1 h6 r1 v2 v3 v4 v5 v10 v11 v12 v13 v14 v15 v16 v17 v43 v44 v45 v47 v56 v57 v58 v59 v60 v62 v63 v79 v112 v132 v133 v134 v135 v136 v138 v139 v156 v157) h137) (o3_3 c l u H 5 (List.set (en3_40 a0 a1 h6 r1 v2 v3 v4 v5 v10 v11 v12 v13 v14 v15 v16 v17 v43 v44 v45 v47 v56 v57 v58 v59 v60 v62 v63 v79 v112 v132 v133 v134 v135 v136 v138 v139 v156 v157) 80 v157) h137):=by
 unfold o3_3
 refine (oG 5).trans ?_
 generalize opsK2 _ _ _=X
 kernel_rfl
theorem g3_37:o3_2 c l u H 0 (en3_37 a0 a1 h6 r1 v2 v3 v4 v5 v10 v11 v12 v13 v14 v15 v16 v17 v18 v26 v27 v28 v50 v66 v67 v80 v81 v82 v84 v117 v142 v143 v144 v145 v146 v148 v149) h147=(iBin P .eql 41 v148 .nul).bind λv158=>
 brN3 v158 (o3_2 c l u H 4 (en3_42 a0 a1 h6 r1 v2 v3 v4 v5 v10 v11 v12 v13 v14 v15 v16 v17 v18 v26 v27 v28 v50 v66 v67 v80 v81 v82 v84 v117 v142 v143 v144 v145 v146 v148 v149 v158) h147) (o3_2 c l u H 4 (en3_43 a0 a1 h6 r1 v2 v3 v4 v5 v10 v11 v12 v13 v14 v15 v16 v17 v18 v26 v27 v28 v50 v66 v67 v80 v81 v82 v84 v117 v142 v143 v144 v145 v146 v148 v149 v158) h147) (o3_2 c l u H 4 (List.set (en3_42 a0 a1 h6 r1 v2 v3 v4 v5 v10 v11 v12 v13 v14 v15 v16 v17 v18 v26 v27 v28 v50 v66 v67 v80 v81 v82 v84 v117 v142 v143 v144 v145 v146 v148 v149 v158) 64 v158) h147):=by
 unfold o3_2
 refine (oG 4).trans ?_
 generalize opsK2 _ _ _=X
 kernel_rfl
theorem g3_39:o3_3 c l u H 12 (en3_39 a0 a1 h6 r1 v2 v3 v4 v5 v10 v11 v12 v13 v19 v20 v21 v23 v33 v34 v35 v36 v37 v39 v40 v51 v78 v102 v103 v104 v105 v106 v108 v109 v130 v131 v152 v153 v154 v155) h107=(ixA 6 v108 (.d (.int .i64 0))).bind λv159=>(padd v159 2).bind λv160=>(ld1 v160 h107).bind λv161=>(padd r1.1 7).bind λv162=>(padd v162 0).bind λv163=>(ld1 v163 h107).bind λv164=>(iBin P .neq 3 v161 v164).bind λv165=>
 br3 v165 (fin .pure H H.length [.d (.bool false)] h107) (xe3 c l u H [1,1,1,1,1,1,1,1] (en3_44 a0 a1 h6 r1 v2 v3 v4 v5 v10 v11 v12 v13 v19 v20 v21 v23 v33 v34 v35 v36 v37 v39 v40 v51 v78 v102 v103 v104 v105 v106 v108 v109 v130 v131 v152 v153 v154 v155 v159 v160 v161 v162 v163 v164 v165) h107 (q3_3 c l u H)):=by
 unfold o3_3
 refine (oG 9).trans ?_
 generalize opsK2 _ _ _=X
 kernel_rfl
theorem g3_41:o3_3 c l u H 5 (en3_41 a0 a1 h6 r1 v2 v3 v4 v5 v10 v11 v12 v13 v14 v15 v16 v17 v43 v44 v45 v47 v56 v57 v58 v59 v60 v62 v63 v79 v112 v132 v133 v134 v135 v136 v138 v139 v156 v157) h137=(ixA 6 v138 (.d (.int .i64 0))).bind λv166=>(padd v166 0).bind λv167=>(ld1 v167 h137).bind λv168=>(iBin P .neq 3 v168 (.d (.int .i64 1))).bind λv169=>
 brN3 v169 (o3_3 c l u H 12 (en3_45 a0 a1 h6 r1 v2 v3 v4 v5 v10 v11 v12 v13 v14 v15 v16 v17 v43 v44 v45 v47 v56 v57 v58 v59 v60 v62 v63 v79 v112 v132 v133 v134 v135 v136 v138 v139 v156 v157 v166 v167 v168 v169) h137) (o3_3 c l u H 12 (en3_46 a0 a1 h6 r1 v2 v3 v4 v5 v10 v11 v12 v13 v14 v15 v16 v17 v43 v44 v45 v47 v56 v57 v58 v59 v60 v62 v63 v79 v112 v132 v133 v134 v135 v136 v138 v139 v156 v157 v166 v167 v168 v169) h137) (o3_3 c l u H 12 (List.set (en3_45 a0 a1 h6 r1 v2 v3 v4 v5 v10 v11 v12 v13 v14 v15 v16 v17 v43 v44 v45 v47 v56 v57 v58 v59 v60 v62 v63 v79 v112 v132 v133 v134 v135 v136 v138 v139 v156 v157 v166 v167 v168 v169) 87 v169) h137):=by
 unfold o3_3
 refine (oG 7).trans ?_
 generalize opsK2 _ _ _=X
 kernel_rfl
theorem g3_43:o3_2 c l u H 4 (en3_43 a0 a1 h6 r1 v2 v3 v4 v5 v10 v11 v12 v13 v14 v15 v16 v17 v18 v26 v27 v28 v50 v66 v67 v80 v81 v82 v84 v117 v142 v143 v144 v145 v146 v148 v149 v158) h147=(iBin P .neq 42 v149 (.d (.int .i64 0))).bind λv170=>
 br3 v170 (fin .pure H H.length [.d (.bool false)] h147) (xe3 c l u H [1,1,1,1,1,1] (en3_47 a0 a1 h6 r1 v2 v3 v4 v5 v10 v11 v12 v13 v14 v15 v16 v17 v18 v26 v27 v28 v50 v66 v67 v80 v81 v82 v84 v117 v142 v143 v144 v145 v146 v148 v149 v158 v170) h147 (q3_3 c l u H)):=by
 unfold o3_2
 refine (oG 3).trans ?_
 generalize opsK2 _ _ _=X
 kernel_rfl
theorem g3_44:xe3 c l u H [1,1,1,1,1,1,1,1] (en3_44 a0 a1 h6 r1 v2 v3 v4 v5 v10 v11 v12 v13 v19 v20 v21 v23 v33 v34 v35 v36 v37 v39 v40 v51 v78 v102 v103 v104 v105 v106 v108 v109 v130 v131 v152 v153 v154 v155 v159 v160 v161 v162 v163 v164 v165) h107 (q3_3 c l u H)=(loopW (stepL (C3 c l u H) [1,4,7,11] (cd 3 [1,1,1,1,1,1,1,1,0,1,0,0])) ((E3 (.d (.lst a1)) (.d (.bool false)) v39 (.d (.int .i64 0))),h107)).bind λr171=>popK (C3 c l u H) [1,4,7,11] (k3 c l u H) [.bk 0,.sq (cd 3 [1,1,1,1,1,1,1,1,1])] r171.1 r171.2.1 r171.2.2:=by kernel_rfl
theorem g3_46:o3_3 c l u H 12 (en3_46 a0 a1 h6 r1 v2 v3 v4 v5 v10 v11 v12 v13 v14 v15 v16 v17 v43 v44 v45 v47 v56 v57 v58 v59 v60 v62 v63 v79 v112 v132 v133 v134 v135 v136 v138 v139 v156 v157 v166 v167 v168 v169) h137=(ixA 6 v138 (.d (.int .i64 0))).bind λv172=>(padd v172 2).bind λv173=>(ld1 v173 h137).bind λv174=>(padd r1.1 7).bind λv175=>(padd v175 0).bind λv176=>(ld1 v176 h137).bind λv177=>(iBin P .neq 3 v174 v177).bind λv178=>
 br3 v178 (fin .pure H H.length [.d (.bool false)] h137) (xe3 c l u H [1,1,1,1,1,1,1,1] (en3_48 a0 a1 h6 r1 v2 v3 v4 v5 v10 v11 v12 v13 v14 v15 v16 v17 v43 v44 v45 v47 v56 v57 v58 v59 v60 v62 v63 v79 v112 v132 v133 v134 v135 v136 v138 v139 v156 v157 v166 v167 v168 v169 v172 v173 v174 v175 v176 v177 v178) h137 (q3_3 c l u H)):=by
 unfold o3_3
 refine (oG 9).trans ?_
 generalize opsK2 _ _ _=X
 kernel_rfl
theorem g3_47:xe3 c l u H [1,1,1,1,1,1] (en3_47 a0 a1 h6 r1 v2 v3 v4 v5 v10 v11 v12 v13 v14 v15 v16 v17 v18 v26 v27 v28 v50 v66 v67 v80 v81 v82 v84 v117 v142 v143 v144 v145 v146 v148 v149 v158 v170) h147 (q3_3 c l u H)=(padd r1.1 7).bind λv179=>(ldN 2 v179 h147).bind λv180=>(padd r1.1 9).bind λv181=>(ld1 v181 h147).bind λv182=>
 liftR (c H.length H.length 9 [v148,v180,v182] h147) (λv183 h184=>(iExtract v183 0).bind λv185=>(iExtract v183 1).bind λv186=>
 o3_3 c l u H 0 (en3_49 a0 a1 h6 r1 v2 v3 v4 v5 v10 v11 v12 v13 v14 v15 v16 v17 v18 v26 v27 v28 v50 v66 v67 v80 v81 v82 v84 v117 v142 v143 v144 v145 v146 v148 v149 v158 v170 v179 v180 v181 v182 v183 v185 v186) h184) (λp187 h188=>finP .pure H H.length p187 h188):=by kernel_rfl
theorem g3_48:xe3 c l u H [1,1,1,1,1,1,1,1] (en3_48 a0 a1 h6 r1 v2 v3 v4 v5 v10 v11 v12 v13 v14 v15 v16 v17 v43 v44 v45 v47 v56 v57 v58 v59 v60 v62 v63 v79 v112 v132 v133 v134 v135 v136 v138 v139 v156 v157 v166 v167 v168 v169 v172 v173 v174 v175 v176 v177 v178) h137 (q3_3 c l u H)=(loopW (stepL (C3 c l u H) [1,4,7,11] (cd 3 [1,1,1,1,1,1,1,1,0,1,0,0])) ((E3 (.d (.lst a1)) (.d (.bool false)) v62 (.d (.int .i64 0))),h137)).bind λr189=>popK (C3 c l u H) [1,4,7,11] (k3 c l u H) [.bk 0,.sq (cd 3 [1,1,1,1,1,1,1,1,1])] r189.1 r189.2.1 r189.2.2:=by kernel_rfl
theorem g3_49:o3_3 c l u H 0 (en3_49 a0 a1 h6 r1 v2 v3 v4 v5 v10 v11 v12 v13 v14 v15 v16 v17 v18 v26 v27 v28 v50 v66 v67 v80 v81 v82 v84 v117 v142 v143 v144 v145 v146 v148 v149 v158 v170 v179 v180 v181 v182 v183 v185 v186) h184=(lnV v185).bind λv190=>(iBin P .neq 3 v190 (.d (.int .i64 1))).bind λv191=>
 brN3 v191 (o3_3 c l u H 5 (en3_50 a0 a1 h6 r1 v2 v3 v4 v5 v10 v11 v12 v13 v14 v15 v16 v17 v18 v26 v27 v28 v50 v66 v67 v80 v81 v82 v84 v117 v142 v143 v144 v145 v146 v148 v149 v158 v170 v179 v180 v181 v182 v183 v185 v186 v190 v191) h184) (o3_3 c l u H 5 (en3_51 a0 a1 h6 r1 v2 v3 v4 v5 v10 v11 v12 v13 v14 v15 v16 v17 v18 v26 v27 v28 v50 v66 v67 v80 v81 v82 v84 v117 v142 v143 v144 v145 v146 v148 v149 v158 v170 v179 v180 v181 v182 v183 v185 v186 v190 v191) h184) (o3_3 c l u H 5 (List.set (en3_50 a0 a1 h6 r1 v2 v3 v4 v5 v10 v11 v12 v13 v14 v15 v16 v17 v18 v26 v27 v28 v50 v66 v67 v80 v81 v82 v84 v117 v142 v143 v144 v145 v146 v148 v149 v158 v170 v179 v180 v181 v182 v183 v185 v186 v190 v191) 80 v191) h184):=by
 unfold o3_3
 refine (oG 5).trans ?_
 generalize opsK2 _ _ _=X
 kernel_rfl
theorem g3_51:o3_3 c l u H 5 (en3_51 a0 a1 h6 r1 v2 v3 v4 v5 v10 v11 v12 v13 v14 v15 v16 v17 v18 v26 v27 v28 v50 v66 v67 v80 v81 v82 v84 v117 v142 v143 v144 v145 v146 v148 v149 v158 v170 v179 v180 v181 v182 v183 v185 v186 v190 v191) h184=(ixA 6 v185 (.d (.int .i64 0))).bind λv192=>(padd v192 0).bind λv193=>(ld1 v193 h184).bind λv194=>(iBin P .neq 3 v194 (.d (.int .i64 1))).bind λv195=>
 brN3 v195 (o3_3 c l u H 12 (en3_52 a0 a1 h6 r1 v2 v3 v4 v5 v10 v11 v12 v13 v14 v15 v16 v17 v18 v26 v27 v28 v50 v66 v67 v80 v81 v82 v84 v117 v142 v143 v144 v145 v146 v148 v149 v158 v170 v179 v180 v181 v182 v183 v185 v186 v190 v191 v192 v193 v194 v195) h184) (o3_3 c l u H 12 (en3_53 a0 a1 h6 r1 v2 v3 v4 v5 v10 v11 v12 v13 v14 v15 v16 v17 v18 v26 v27 v28 v50 v66 v67 v80 v81 v82 v84 v117 v142 v143 v144 v145 v146 v148 v149 v158 v170 v179 v180 v181 v182 v183 v185 v186 v190 v191 v192 v193 v194 v195) h184) (o3_3 c l u H 12 (List.set (en3_52 a0 a1 h6 r1 v2 v3 v4 v5 v10 v11 v12 v13 v14 v15 v16 v17 v18 v26 v27 v28 v50 v66 v67 v80 v81 v82 v84 v117 v142 v143 v144 v145 v146 v148 v149 v158 v170 v179 v180 v181 v182 v183 v185 v186 v190 v191 v192 v193 v194 v195) 87 v195) h184):=by
 unfold o3_3
 refine (oG 7).trans ?_
 generalize opsK2 _ _ _=X
 kernel_rfl
theorem g3_53:o3_3 c l u H 12 (en3_53 a0 a1 h6 r1 v2 v3 v4 v5 v10 v11 v12 v13 v14 v15 v16 v17 v18 v26 v27 v28 v50 v66 v67 v80 v81 v82 v84 v117 v142 v143 v144 v145 v146 v148 v149 v158 v170 v179 v180 v181 v182 v183 v185 v186 v190 v191 v192 v193 v194 v195) h184=(ixA 6 v185 (.d (.int .i64 0))).bind λv196=>(padd v196 2).bind λv197=>(ld1 v197 h184).bind λv198=>(padd r1.1 7).bind λv199=>(padd v199 0).bind λv200=>(ld1 v200 h184).bind λv201=>(iBin P .neq 3 v198 v201).bind λv202=>
 br3 v202 (fin .pure H H.length [.d (.bool false)] h184) (xe3 c l u H [1,1,1,1,1,1,1,1] (en3_54 a0 a1 h6 r1 v2 v3 v4 v5 v10 v11 v12 v13 v14 v15 v16 v17 v18 v26 v27 v28 v50 v66 v67 v80 v81 v82 v84 v117 v142 v143 v144 v145 v146 v148 v149 v158 v170 v179 v180 v181 v182 v183 v185 v186 v190 v191 v192 v193 v194 v195 v196 v197 v198 v199 v200 v201 v202) h184 (q3_3 c l u H)):=by
 unfold o3_3
 refine (oG 9).trans ?_
 generalize opsK2 _ _ _=X
 kernel_rfl
theorem g3_54:xe3 c l u H [1,1,1,1,1,1,1,1] (en3_54 a0 a1 h6 r1 v2 v3 v4 v5 v10 v11 v12 v13 v14 v15 v16 v17 v18 v26 v27 v28 v50 v66 v67 v80 v81 v82 v84 v117 v142 v143 v144 v145 v146 v148 v149 v158 v170 v179 v180 v181 v182 v183 v185 v186 v190 v191 v192 v193 v194 v195 v196 v197 v198 v199 v200 v201 v202) h184 (q3_3 c l u H)=(loopW (stepL (C3 c l u H) [1,4,7,11] (cd 3 [1,1,1,1,1,1,1,1,0,1,0,0])) ((E3 (.d (.lst a1)) (.d (.bool false)) v148 (.d (.int .i64 0))),h184)).bind λr203=>popK (C3 c l u H) [1,4,7,11] (k3 c l u H) [.bk 0,.sq (cd 3 [1,1,1,1,1,1,1,1,1])] r203.1 r203.2.1 r203.2.2:=by kernel_rfl
theorem B3_0:stepL (C3 c l u H) [1,4,7,11] (cd 3 [1,1,1,1,1,1,1,1,0,1,0,0]) ((E3 e1 e4 e7 e11),G)=(lnV e1).bind λv204=>(iBin P .lss 3 e11 v204).bind λv205=>
 br3 v205 (xs3 c l u H [1,1,1,1,1,1,1,1,0,1,0,0,1] (en3_55 e1 e4 e7 e11 v204 v205) G (q3_5 c l u H)) (some (.inr (.exi 0,(E3 e1 e4 e7 e11),G))):=by kernel_rfl
theorem g3_55 (G:Hp) (e1 e4 e7 e11 v204 v205:IV):xs3 c l u H [1,1,1,1,1,1,1,1,0,1,0,0,1] (en3_55 e1 e4 e7 e11 v204 v205) G (q3_5 c l u H)=(ixA 1 e1 e11).bind λv206=>(ld1 v206 G).bind λv207=>
 liftR (c H.length H.length 10 [e7,v207] G) (λv208 h209=>(iExtract v208 0).bind λv210=>(iExtract v208 1).bind λv211=>
 o3_4 c l u H 0 (en3_56 e1 e4 e7 e11 v204 v205 v206 v207 v208 v210 v211) h209) (λp212 h213=>some (.inr (.pan p212,(E3 e1 e4 e7 e11),h213))):=by kernel_rfl
theorem g3_56:o3_4 c l u H 0 (en3_56 e1 e4 e7 e11 v204 v205 v206 v207 v208 v210 v211) h209=(iBin P .neq 42 v211 (.d (.int .i64 0))).bind λv214=>
 brN3 v214 (o3_4 c l u H 4 (en3_57 e1 e4 e7 e11 v204 v205 v206 v207 v208 v210 v211 v214) h209) (o3_4 c l u H 4 (en3_58 e1 e4 e7 e11 v204 v205 v206 v207 v208 v210 v211 v214) h209) (o3_4 c l u H 4 (List.set (en3_57 e1 e4 e7 e11 v204 v205 v206 v207 v208 v210 v211 v214) 114 v214) h209):=by
 unfold o3_4
 refine (oG 4).trans ?_
 generalize opsK2 _ _ _=X
 kernel_rfl
theorem g3_58:o3_4 c l u H 4 (en3_58 e1 e4 e7 e11 v204 v205 v206 v207 v208 v210 v211 v214) h209 =
 liftR (c H.length H.length 11 [e7] h209) (λv215 h216=>(iBin P .neq 3 v215 (.d (.int .i64 0))).bind λv217=>
 brN3 v217 (o3_4 c l u H 9 (en3_59 e1 e4 e7 e11 v204 v205 v206 v207 v208 v210 v211 v214 v215 v217) h216) (o3_4 c l u H 9 (en3_60 e1 e4 e7 e11 v204 v205 v206 v207 v208 v210 v211 v214 v215 v217) h216) (o3_4 c l u H 9 (List.set (en3_59 e1 e4 e7 e11 v204 v205 v206 v207 v208 v210 v211 v214 v215 v217) 119 v217) h216)) (λp218 h219=>none):=by
 unfold o3_4
 refine (oG 5).trans ?_
 generalize opsK2 _ _ _=X
 kernel_rfl
theorem g3_60:o3_4 c l u H 9 (en3_60 e1 e4 e7 e11 v204 v205 v206 v207 v208 v210 v211 v214 v215 v217) h216=(ixA 1 e1 e11).bind λv220=>(ld1 v220 h216).bind λv221=>(iBin P .eql 9 v221 (.d (.str []))).bind λv222=>
 brN3 v222 (o3_4 c l u H 15 (en3_61 e1 e4 e7 e11 v204 v205 v206 v207 v208 v210 v211 v214 v215 v217 v220 v221 v222) h216) (o3_4 c l u H 15 (en3_62 e1 e4 e7 e11 v204 v205 v206 v207 v208 v210 v211 v214 v215 v217 v220 v221 v222) h216) (o3_4 c l u H 15 (List.set (en3_62 e1 e4 e7 e11 v204 v205 v206 v207 v208 v210 v211 v214 v215 v217 v220 v221 v222) 125 v222) h216):=by
 unfold o3_4
 refine (oG 6).trans ?_
 generalize opsK2 _ _ _=X
 kernel_rfl
theorem g3_61:o3_4 c l u H 15 (en3_61 e1 e4 e7 e11 v204 v205 v206 v207 v208 v210 v211 v214 v215 v217 v220 v221 v222) h216=(lnV v210).bind λv223=>(iBin P .neq 3 v223 (.d (.int .i64 0))).bind λv224=>
 brN3 v224 (o3_4 c l u H 21 (en3_63 e1 e4 e7 e11 v204 v205 v206 v207 v208 v210 v211 v214 v215 v217 v220 v221 v222 v223 v224) h216) (o3_4 c l u H 21 (en3_64 e1 e4 e7 e11 v204 v205 v206 v207 v208 v210 v211 v214 v215 v217 v220 v221 v222 v223 v224) h216) (o3_4 c l u H 21 (List.set (en3_63 e1 e4 e7 e11 v204 v205 v206 v207 v208 v210 v211 v214 v215 v217 v220 v221 v222 v223 v224) 131 v224) h216):=by
 unfold o3_4
 refine (oG 6).trans ?_
 generalize opsK2 _ _ _=X
 kernel_rfl
theorem g3_62:o3_4 c l u H 15 (en3_62 e1 e4 e7 e11 v204 v205 v206 v207 v208 v210 v211 v214 v215 v217 v220 v221 v222) h216=(ixA 1 e1 e11).bind λv225=>(ld1 v225 h216).bind λv226=>(iBin P .neq 9 v226 (.d (.str []))).bind λv227=>
 brN3 v227 (o3_4 c l u H 27 (en3_65 e1 e4 e7 e11 v204 v205 v206 v207 v208 v210 v211 v214 v215 v217 v220 v221 v222 v225 v226 v227) h216) (o3_4 c l u H 27 (en3_66 e1 e4 e7 e11 v204 v205 v206 v207 v208 v210 v211 v214 v215 v217 v220 v221 v222 v225 v226 v227) h216) (o3_4 c l u H 27 (List.set (en3_66 e1 e4 e7 e11 v204 v205 v206 v207 v208 v210 v211 v214 v215 v217 v220 v221 v222 v225 v226 v227) 137 v227) h216):=by
 unfold o3_4
 refine (oG 12).trans ?_
 generalize opsK2 _ _ _=X
 kernel_rfl
theorem g3_64:o3_4 c l u H 21 (en3_64 e1 e4 e7 e11 v204 v205 v206 v207 v208 v210 v211 v214 v215 v217 v220 v221 v222 v223 v224) h216=(ixA 1 e1 e11).bind λv228=>(ld1 v228 h216).bind λv229=>(iBin P .neq 9 v229 (.d (.str []))).bind λv230=>
 brN3 v230 (o3_4 c l u H 27 (en3_67 e1 e4 e7 e11 v204 v205 v206 v207 v208 v210 v211 v214 v215 v217 v220 v221 v222 v223 v224 v228 v229 v230) h216) (o3_4 c l u H 27 (en3_68 e1 e4 e7 e11 v204 v205 v206 v207 v208 v210 v211 v214 v215 v217 v220 v221 v222 v223 v224 v228 v229 v230) h216) (o3_4 c l u H 27 (List.set (en3_68 e1 e4 e7 e11 v204 v205 v206 v207 v208 v210 v211 v214 v215 v217 v220 v221 v222 v223 v224 v228 v229 v230) 137 v230) h216):=by
 unfold o3_4
 refine (oG 6).trans ?_
 generalize opsK2 _ _ _=X
 kernel_rfl
theorem g3_65:o3_4 c l u H 27 (en3_65 e1 e4 e7 e11 v204 v205 v206 v207 v208 v210 v211 v214 v215 v217 v220 v221 v222 v225 v226 v227) h216=(lnV v210).bind λv231=>(iBin P .neq 3 v231 (.d (.int .i64 1))).bind λv232=>
 brN3 v232 (o3_4 c l u H 31 (en3_69 e1 e4 e7 e11 v204 v205 v206 v207 v208 v210 v211 v214 v215 v217 v220 v221 v222 v225 v226 v227 v231 v232) h216) (o3_4 c l u H 31 (en3_70 e1 e4 e7 e11 v204 v205 v206 v207 v208 v210 v211 v214 v215 v217 v220 v221 v222 v225 v226 v227 v231 v232) h216) (o3_4 c l u H 31 (List.set (en3_69 e1 e4 e7 e11 v204 v205 v206 v207 v208 v210 v211 v214 v215 v217 v220 v221 v222 v225 v226 v227 v231 v232) 141 v232) h216):=by
 unfold o3_4
 refine (oG 4).trans ?_
 generalize opsK2 _ _ _=X
 kernel_rfl
theorem g3_68:o3_4 c l u H 27 (en3_68 e1 e4 e7 e11 v204 v205 v206 v207 v208 v210 v211 v214 v215 v217 v220 v221 v222 v223 v224 v228 v229 v230) h216=(iBin P .add 3 e11 (.d (.int .i64 1))).bind λv236=>
 some (.inl ((E3 e1 e4 e7 v236),h216)):=by
 unfold o3_4
 refine (oG 23).trans ?_
 generalize opsK2 _ _ _=X
 kernel_rfl
theorem g3_70:o3_4 c l u H 31 (en3_70 e1 e4 e7 e11 v204 v205 v206 v207 v208 v210 v211 v214 v215 v217 v220 v221 v222 v225 v226 v227 v231 v232) h216=(ixA 6 v210 (.d (.int .i64 0))).bind λv237=>(padd v237 0).bind λv238=>(ld1 v238 h216).bind λv239=>(iBin P .neq 3 v239 (.d (.int .i64 2))).bind λv240=>
 brN3 v240 (o3_4 c l u H 38 (en3_73 e1 e4 e7 e11 v204 v205 v206 v207 v208 v210 v211 v214 v215 v217 v220 v221 v222 v225 v226 v227 v231 v232 v237 v238 v239 v240) h216) (o3_4 c l u H 38 (en3_74 e1 e4 e7 e11 v204 v205 v206 v207 v208 v210 v211 v214 v215 v217 v220 v221 v222 v225 v226 v227 v231 v232 v237 v238 v239 v240) h216) (o3_4 c l u H 38 (List.set (en3_73 e1 e4 e7 e11 v204 v205 v206 v207 v208 v210 v211 v214 v215 v217 v220 v221 v222 v225 v226 v227 v231 v232 v237 v238 v239 v240) 148 v240) h216):=by
 unfold o3_4
 refine (oG 7).trans ?_
 generalize opsK2 _ _ _=X
 kernel_rfl
theorem g3_74:o3_4 c l u H 38 (en3_74 e1 e4 e7 e11 v204 v205 v206 v207 v208 v210 v211 v214 v215 v217 v220 v221 v222 v225 v226 v227 v231 v232 v237 v238 v239 v240) h216=(ixA 6 v210 (.d (.int .i64 0))).bind λv245=>(padd v245 4).bind λv246=>(ld1 v246 h216).bind λv247=>(ixA 1 e1 e11).bind λv248=>(ld1 v248 h216).bind λv249=>(iBin P .neq 9 v247 v249).bind λv250=>
 br3 v250 (some (.inr (.ret,(E3 e1 (.d (.bool false)) e7 e11),h216))) ((iBin P .add 3 e11 (.d (.int .i64 1))).bind λv251=>
 some (.inl ((E3 e1 e4 e7 v251),h216))):=by
 unfold o3_4
 refine (oG 12).trans ?_
 generalize opsK2 _ _ _=X
 kernel_rfl
theorem K3_0x0:popK (C3 c l u H) [1,4,7,11] (k3 c l u H) [.bk 0,.sq (cd 3 [1,1,1,1,1,1,1,1,1])] (.exi 0) (E3 e1 e4 e7 e11) G =
 liftR (c H.length H.length 12 [e7] G) (λv259 h260=>(iExtract v259 0).bind λv261=>(iExtract v259 1).bind λv262=>
 o3_5 c l u H 0 (en3_77 e1 e4 e7 e11 v259 v261 v262) h260) (λp263 h264=>finP .pure H H.length p263 h264):=by kernel_rfl
theorem g3_77:o3_5 c l u H 0 (en3_77 e1 e4 e7 e11 v259 v261 v262) h260=(iBin P .eql 42 v262 (.d (.int .i64 0))).bind λv265=>
 brN3 v265 (o3_5 c l u H 4 (en3_78 e1 e4 e7 e11 v259 v261 v262 v265) h260) (o3_5 c l u H 4 (en3_79 e1 e4 e7 e11 v259 v261 v262 v265) h260) (o3_5 c l u H 4 (List.set (en3_79 e1 e4 e7 e11 v259 v261 v262 v265) 168 v265) h260):=by
 unfold o3_5
 refine (oG 4).trans ?_
 generalize opsK2 _ _ _=X
 kernel_rfl
theorem g3_78:o3_5 c l u H 4 (en3_78 e1 e4 e7 e11 v259 v261 v262 v265) h260=(lnV v261).bind λv266=>(iBin P .eql 3 v266 (.d (.int .i64 1))).bind λv267=>
 brN3 v267 (o3_5 c l u H 9 (en3_80 e1 e4 e7 e11 v259 v261 v262 v265 v266 v267) h260) (o3_5 c l u H 9 (en3_81 e1 e4 e7 e11 v259 v261 v262 v265 v266 v267) h260) (o3_5 c l u H 9 (List.set (en3_81 e1 e4 e7 e11 v259 v261 v262 v265 v266 v267) 173 v267) h260):=by
 unfold o3_5
 refine (oG 5).trans ?_
 generalize opsK2 _ _ _=X
 kernel_rfl
theorem g3_80:o3_5 c l u H 9 (en3_80 e1 e4 e7 e11 v259 v261 v262 v265 v266 v267) h260=(ixA 6 v261 (.d (.int .i64 0))).bind λv268=>(padd v268 0).bind λv269=>(ld1 v269 h260).bind λv270=>(iBin P .eql 3 v270 (.d (.int .i64 3))).bind λv271=>
 brN3 v271 (liftR (c H.length H.length 7 [] h260) (λv272 h273=>
 o3_5 c l u H 16 (en3_82 e1 e4 e7 e11 v259 v261 v262 v265 v266 v267 v268 v269 v270 v271 v272) h273) (λp274 h275=>finP .pure H H.length p274 h275)) (o3_5 c l u H 16 (en3_83 e1 e4 e7 e11 v259 v261 v262 v265 v266 v267 v268 v269 v270 v271) h260) (o3_5 c l u H 16 (List.set (en3_83 e1 e4 e7 e11 v259 v261 v262 v265 v266 v267 v268 v269 v270 v271) 180 v271) h260):=by
 unfold o3_5
 refine (oG 7).trans ?_
 generalize opsK2 _ _ _=X
 kernel_rfl
theorem g3_82:o3_5 c l u H 16 (en3_82 e1 e4 e7 e11 v259 v261 v262 v265 v266 v267 v268 v269 v270 v271 v272) h273 =
 fin .pure H H.length [v272] h273:=by
 unfold o3_5
 refine (oG 3).trans ?_
 generalize opsK2 _ _ _=X
 kernel_rfl
end
end
end Go.Tg
