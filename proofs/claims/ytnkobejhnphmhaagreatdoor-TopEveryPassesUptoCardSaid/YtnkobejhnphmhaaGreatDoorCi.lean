/- What the bodies of some functions come to, operation by operation. By program (gen.py). -/
import Derived.Test.YtnkobejhnphmhaaGreatDoorAh
import Derived.Test.YtnkobejhnphmhaaGreatDoorAg
import Derived.KernelRfl
set_option linter.all false
set_option linter.unusedVariables false
namespace Go.Tg
noncomputable section
variable [Globs] (c:Oracle)(l u:Nat)(H:Hp)
section
variable (a0:IV)(r1:IV×Hp)(v2 v3 v4 v5 v6 v7 v8 v9 v10 v11:IV)
abbrev C22 (c:Oracle)(l u:Nat)(H:Hp):Ctx:=⟨P,tab,c,H.length,H.length⟩
abbrev k22 (c:Oracle)(l u:Nat)(H:Hp):KR:=endK P (fnOf 22) .pure H H.length
def en22_0:Env:=mkE 21 [(0,a0),(1,r1.1),(2,.d (.bool false))]
def q22_0 (c:Oracle)(l u:Nat)(H:Hp):KR:=popK (C22 c l u H) [] (k22 c l u H) [.sq (cd 22 [1,1])]
def o22_0 (c:Oracle)(l u:Nat)(H:Hp) (n:Nat) (e:Env) (G:Hp):Res:=opsK2 (C22 c l u H) none (rg 22 [1,0]) (dr 22 [1,0] n) e G (q22_0 c l u H)
def en22_1:Env:=mkE 21 [(0,a0),(1,r1.1),(2,.d (.bool false)),(3,v2),(4,v3),(5,v4),(6,.d (.bool true)),(7,v5)]
def en22_2:Env:=mkE 21 [(0,a0),(1,r1.1),(2,.d (.bool false)),(3,v2),(4,v3),(5,v4),(6,.d (.bool false)),(7,.no)]
def en22_3:Env:=mkE 21 [(0,a0),(1,r1.1),(2,.d (.bool false)),(3,v2),(4,v3),(5,v4),(6,.d (.bool true)),(7,v5),(8,v6),(9,v7),(10,v7),(11,.d (.bool true)),(12,v8)]
def en22_4:Env:=mkE 21 [(0,a0),(1,r1.1),(2,.d (.bool false)),(3,v2),(4,v3),(5,v4),(6,.d (.bool true)),(7,v5),(8,v6),(9,v7),(10,v7),(11,.d (.bool false)),(12,.no)]
def en22_5:Env:=upE (en22_3 a0 r1 v2 v3 v4 v5 v6 v7 v8) [(13,v9),(14,v10),(15,v10),(16,.d (.bool true)),(17,v11)]
def en22_6:Env:=upE (en22_3 a0 r1 v2 v3 v4 v5 v6 v7 v8) [(13,v9),(14,v10),(15,v10),(16,.d (.bool false)),(17,.no)]
theorem R22:bodyK2 P tab c l u 22 [a0] H=(iBox 23 a0 H).bind λr1=>
 o22_0 c l u H 0 (en22_0 a0 r1) r1.2:=by kernel_rfl
theorem g22_0:o22_0 c l u H 0 (en22_0 a0 r1) r1.2=(padd r1.1 1).bind λv2=>(ld1 v2 r1.2).bind λv3=>(iBin P .geq 3 v3 (.d (.int .i64 1445))).bind λv4=>
 brN3 v4 ((padd r1.1 1).bind λv5=>
 o22_0 c l u H 5 (en22_1 a0 r1 v2 v3 v4 v5) r1.2) (o22_0 c l u H 5 (en22_2 a0 r1 v2 v3 v4) r1.2) (o22_0 c l u H 5 (List.set (en22_2 a0 r1 v2 v3 v4) 6 v4) r1.2):=by
 unfold o22_0
 refine (oG 5).trans ?_
 generalize opsK2 _ _ _=X
 kernel_rfl
theorem g22_1:o22_0 c l u H 5 (en22_1 a0 r1 v2 v3 v4 v5) r1.2=(ld1 v5 r1.2).bind λv6=>(iBin P .leq 3 v6 (.d (.int .i64 1048576))).bind λv7=>
 brN3 v7 ((padd r1.1 2).bind λv8=>
 o22_0 c l u H 10 (en22_3 a0 r1 v2 v3 v4 v5 v6 v7 v8) r1.2) (o22_0 c l u H 10 (en22_4 a0 r1 v2 v3 v4 v5 v6 v7) r1.2) (o22_0 c l u H 10 (List.set (en22_4 a0 r1 v2 v3 v4 v5 v6 v7) 11 v7) r1.2):=by
 unfold o22_0
 refine (oG 5).trans ?_
 generalize opsK2 _ _ _=X
 kernel_rfl
theorem g22_2:o22_0 c l u H 5 (en22_2 a0 r1 v2 v3 v4) r1.2 =
 fin .pure H H.length [.d (.bool false)] r1.2:=by
 unfold o22_0
 refine (oG 15).trans ?_
 generalize opsK2 _ _ _=X
 kernel_rfl
theorem g22_3:o22_0 c l u H 10 (en22_3 a0 r1 v2 v3 v4 v5 v6 v7 v8) r1.2=(ld1 v8 r1.2).bind λv9=>(iBin P .geq 3 v9 (.d (.int .i64 0))).bind λv10=>
 brN3 v10 ((padd r1.1 2).bind λv11=>
 o22_0 c l u H 15 (en22_5 a0 r1 v2 v3 v4 v5 v6 v7 v8 v9 v10 v11) r1.2) (o22_0 c l u H 15 (en22_6 a0 r1 v2 v3 v4 v5 v6 v7 v8 v9 v10) r1.2) (o22_0 c l u H 15 (List.set (en22_6 a0 r1 v2 v3 v4 v5 v6 v7 v8 v9 v10) 16 v10) r1.2):=by
 unfold o22_0
 refine (oG 5).trans ?_
 generalize opsK2 _ _ _=X
 kernel_rfl
theorem g22_4:o22_0 c l u H 10 (en22_4 a0 r1 v2 v3 v4 v5 v6 v7) r1.2 =
 fin .pure H H.length [.d (.bool false)] r1.2:=by
 unfold o22_0
 refine (oG 10).trans ?_
 generalize opsK2 _ _ _=X
 kernel_rfl
theorem g22_5:o22_0 c l u H 15 (en22_5 a0 r1 v2 v3 v4 v5 v6 v7 v8 v9 v10 v11) r1.2=(ld1 v11 r1.2).bind λv12=>(iBin P .leq 3 v12 (.d (.int .i64 200))).bind λv13=>
 fin .pure H H.length [v13] r1.2:=by
 unfold o22_0
 refine (oG 5).trans ?_
 generalize opsK2 _ _ _=X
 kernel_rfl
theorem g22_6:o22_0 c l u H 15 (en22_6 a0 r1 v2 v3 v4 v5 v6 v7 v8 v9 v10) r1.2 =
 fin .pure H H.length [.d (.bool false)] r1.2:=by
 unfold o22_0
 refine (oG 5).trans ?_
 generalize opsK2 _ _ _=X
 kernel_rfl
end
theorem R24 (a0:IV):bodyK2 P tab c l u 24 [a0] H=(iBox 23 a0 H).bind λr1=>(ldN 3 r1.1 r1.2).bind λv2=>
 liftR (c H.length H.length 43 [v2] r1.2) (λv3 h4=>
 fin .pure H H.length [v3] h4) (λp5 h6=>finP .pure H H.length p5 h6):=by kernel_rfl
theorem R43 (a0:IV):bodyK2 P tab c l u 43 [a0] H=(iBox 23 a0 H).bind λr1=>(padd r1.1 1).bind λv2=>(ld1 v2 r1.2).bind λv3=>(iMax v3 (.d (.int .i64 1445))).bind λv4=>(iMin v4 (.d (.int .i64 1048576))).bind λv5=>
 fin .pure H H.length [v5] r1.2:=by kernel_rfl
section
variable (a0:Int)(v1:IV)
abbrev C42 (c:Oracle)(l u:Nat)(H:Hp):Ctx:=⟨P,tab,c,l,u⟩
abbrev k42 (c:Oracle)(l u:Nat)(H:Hp):KR:=endK P (fnOf 42) .keep H u
def en42_0:Env:=mkE 13 [(0,.d (.int .i64 a0)),(2,.nul),(3,.d (.int .i64 0))]
def q42_0 (c:Oracle)(l u:Nat)(H:Hp):KR:=popK (C42 c l u H) [] (k42 c l u H) [.sq (cd 42 [1,0,1]),.sq (cd 42 [1,1])]
def o42_0 (c:Oracle)(l u:Nat)(H:Hp) (n:Nat) (e:Env) (G:Hp):Res:=opsK2 (C42 c l u H) none (rg 42 [1,0,0]) (dr 42 [1,0,0] n) e G (q42_0 c l u H)
def en42_1:Env:=mkE 13 [(0,.d (.int .i64 a0)),(2,.nul),(3,.d (.int .i64 0)),(4,.d (.int .i64 a0)),(5,v1),(6,.d (.bool true)),(7,.no)]
def en42_2:Env:=mkE 13 [(0,.d (.int .i64 a0)),(2,.nul),(3,.d (.int .i64 0)),(4,.d (.int .i64 a0)),(5,v1),(6,.d (.bool false)),(7,.d (.int .i64 a0))]
theorem R42:bodyK2 P tab c l u 42 [.d (.int .i64 a0)] H =
 o42_0 c l u H 0 (en42_0 a0) H:=by kernel_rfl
theorem g42_0:o42_0 c l u H 0 (en42_0 a0) H=(iBin P .lss 3 (.d (.int .i64 a0)) (.d (.int .i64 0))).bind λv1=>
 brN3 v1 (o42_0 c l u H 4 (en42_1 a0 v1) H) (o42_0 c l u H 4 (en42_2 a0 v1) H) (o42_0 c l u H 4 (List.set (en42_1 a0 v1) 6 v1) H):=by
 unfold o42_0
 refine (oG 4).trans ?_
 generalize opsK2 _ _ _=X
 kernel_rfl
theorem g42_2:o42_0 c l u H 4 (en42_2 a0 v1) H=(iBin P .gtr 3 (.d (.int .i64 a0)) (.d (.int .i64 1048576))).bind λv2=>
 br3 v2 (fin .keep H u [.nul,.d (.int .i64 1)] H) (fin .keep H u [.ptr H.length 0,.d (.int .i64 0)] (H++[Blk.cells 247 [.vnil,.d (.int .i64 0),.d (.int .i64 0),.d (.int .i64 a0),.d (.int .i64 0)]])):=by
 unfold o42_0
 refine (oG 3).trans ?_
 generalize opsK2 _ _ _=X
 kernel_rfl
end
theorem R23 (a0:Int):bodyK2 P tab c l u 23 [.d (.int .i64 a0)] H =
 liftR (c l u 42 [.d (.int .i64 a0)] H) (λv1 h2=>(iExtract v1 0).bind λv3=>(iExtract v1 1).bind λv4=>(iBin P .neq 42 v4 (.d (.int .i64 0))).bind λv5=>
 br3 v5 (fin .keep H u [.nul,v4] h2) ((iBuild P 101 [(0,v3)]).bind λv6=>(iBox 101 v6 h2).bind λr7=>
 fin .keep H u [r7.1,.d (.int .i64 0)] r7.2)) (λp8 h9=>finP .keep H u p8 h9):=by kernel_rfl
section
variable (a0:Int)(v1:IV)
abbrev C63 (c:Oracle)(l u:Nat)(H:Hp):Ctx:=⟨P,tab,c,l,u⟩
abbrev k63 (c:Oracle)(l u:Nat)(H:Hp):KR:=endK P (fnOf 63) .keep H u
def en63_0:Env:=mkE 13 [(0,.d (.int .i64 a0)),(2,.nul),(3,.d (.int .i64 0))]
def q63_0 (c:Oracle)(l u:Nat)(H:Hp):KR:=popK (C63 c l u H) [] (k63 c l u H) [.sq (cd 63 [1,0,1]),.sq (cd 63 [1,1])]
def o63_0 (c:Oracle)(l u:Nat)(H:Hp) (n:Nat) (e:Env) (G:Hp):Res:=opsK2 (C63 c l u H) none (rg 63 [1,0,0]) (dr 63 [1,0,0] n) e G (q63_0 c l u H)
def en63_1:Env:=mkE 13 [(0,.d (.int .i64 a0)),(2,.nul),(3,.d (.int .i64 0)),(4,.d (.int .i64 a0)),(5,v1),(6,.d (.bool true)),(7,.no)]
def en63_2:Env:=mkE 13 [(0,.d (.int .i64 a0)),(2,.nul),(3,.d (.int .i64 0)),(4,.d (.int .i64 a0)),(5,v1),(6,.d (.bool false)),(7,.d (.int .i64 a0))]
theorem R63:bodyK2 P tab c l u 63 [.d (.int .i64 a0)] H =
 o63_0 c l u H 0 (en63_0 a0) H:=by kernel_rfl
theorem g63_0:o63_0 c l u H 0 (en63_0 a0) H=(iBin P .lss 3 (.d (.int .i64 a0)) (.d (.int .i64 0))).bind λv1=>
 brN3 v1 (o63_0 c l u H 4 (en63_1 a0 v1) H) (o63_0 c l u H 4 (en63_2 a0 v1) H) (o63_0 c l u H 4 (List.set (en63_1 a0 v1) 6 v1) H):=by
 unfold o63_0
 refine (oG 4).trans ?_
 generalize opsK2 _ _ _=X
 kernel_rfl
theorem g63_2:o63_0 c l u H 4 (en63_2 a0 v1) H=(iBin P .gtr 3 (.d (.int .i64 a0)) (.d (.int .i64 200))).bind λv2=>
 br3 v2 (fin .keep H u [.nul,.d (.int .i64 1)] H) (fin .keep H u [.ptr H.length 0,.d (.int .i64 0)] (H++[Blk.cells 301 [.d (.int .i64 a0),.vnil,.d (.int .i64 0),.d (.bool false),.d (.str []),.d (.int .i64 0),.d (.bool false),.d (.int .i64 1),.d (.int .i64 (-1)),.d (.int .i64 0)]])):=by
 unfold o63_0
 refine (oG 3).trans ?_
 generalize opsK2 _ _ _=X
 kernel_rfl
end
section
variable (a0:Int)(v1:IV)
abbrev C64 (c:Oracle)(l u:Nat)(H:Hp):Ctx:=⟨P,tab,c,l,u⟩
abbrev k64 (c:Oracle)(l u:Nat)(H:Hp):KR:=endK P (fnOf 64) .keep H u
def en64_0:Env:=mkE 13 [(0,.d (.int .i64 a0)),(2,.nul),(3,.d (.int .i64 0))]
def q64_0 (c:Oracle)(l u:Nat)(H:Hp):KR:=popK (C64 c l u H) [] (k64 c l u H) [.sq (cd 64 [1,0,1]),.sq (cd 64 [1,1])]
def o64_0 (c:Oracle)(l u:Nat)(H:Hp) (n:Nat) (e:Env) (G:Hp):Res:=opsK2 (C64 c l u H) none (rg 64 [1,0,0]) (dr 64 [1,0,0] n) e G (q64_0 c l u H)
def en64_1:Env:=mkE 13 [(0,.d (.int .i64 a0)),(2,.nul),(3,.d (.int .i64 0)),(4,.d (.int .i64 a0)),(5,v1),(6,.d (.bool true)),(7,.no)]
def en64_2:Env:=mkE 13 [(0,.d (.int .i64 a0)),(2,.nul),(3,.d (.int .i64 0)),(4,.d (.int .i64 a0)),(5,v1),(6,.d (.bool false)),(7,.d (.int .i64 a0))]
theorem R64:bodyK2 P tab c l u 64 [.d (.int .i64 a0)] H =
 o64_0 c l u H 0 (en64_0 a0) H:=by kernel_rfl
theorem g64_0:o64_0 c l u H 0 (en64_0 a0) H=(iBin P .lss 3 (.d (.int .i64 a0)) (.d (.int .i64 0))).bind λv1=>
 brN3 v1 (o64_0 c l u H 4 (en64_1 a0 v1) H) (o64_0 c l u H 4 (en64_2 a0 v1) H) (o64_0 c l u H 4 (List.set (en64_1 a0 v1) 6 v1) H):=by
 unfold o64_0
 refine (oG 4).trans ?_
 generalize opsK2 _ _ _=X
 kernel_rfl
theorem g64_2:o64_0 c l u H 4 (en64_2 a0 v1) H=(iBin P .gtr 3 (.d (.int .i64 a0)) (.d (.int .i64 200))).bind λv2=>
 br3 v2 (fin .keep H u [.nul,.d (.int .i64 1)] H) (fin .keep H u [.ptr H.length 0,.d (.int .i64 0)] (H++[Blk.cells 305 [.d (.int .i64 a0),.vnil,.d (.int .i64 0),.d (.int .u8 0),.d (.bool false),.d (.str []),.d (.int .i64 0),.d (.bool false),.d (.bool false),.d (.int .i64 (-1)),.d (.int .i64 0),.d (.int .i64 0),.d (.int .i64 0)]])):=by
 unfold o64_0
 refine (oG 3).trans ?_
 generalize opsK2 _ _ _=X
 kernel_rfl
end
theorem R44 (a0:Int):bodyK2 P tab c l u 44 [.d (.int .i64 a0)] H =
 liftR (c l u 63 [.d (.int .i64 a0)] H) (λv1 h2=>(iExtract v1 0).bind λv3=>(iExtract v1 1).bind λv4=>(iBin P .neq 42 v4 (.d (.int .i64 0))).bind λv5=>
 br3 v5 (fin .keep H u [.nul,v4] h2) (liftR (c l u 64 [.d (.int .i64 a0)] h2) (λv6 h7=>(iExtract v6 0).bind λv8=>(iExtract v6 1).bind λv9=>(iBin P .neq 42 v9 (.d (.int .i64 0))).bind λv10=>
 br3 v10 (fin .keep H u [.nul,v9] h7) ((iBuild P 131 [(0,v3),(1,v8),(4,.d (.int .i64 (-1)))]).bind λv11=>(iBox 131 v11 h7).bind λr12=>
 fin .keep H u [r12.1,.d (.int .i64 0)] r12.2)) (λp13 h14=>finP .keep H u p13 h14))) (λp15 h16=>finP .keep H u p15 h16):=by kernel_rfl
theorem R25 (a0:Int):bodyK2 P tab c l u 25 [.d (.int .i64 a0)] H =
 liftR (c l u 44 [.d (.int .i64 a0)] H) (λv1 h2=>(iExtract v1 0).bind λv3=>(iExtract v1 1).bind λv4=>
 fin .keep H u [v3,v4] h2) (λp5 h6=>finP .keep H u p5 h6):=by kernel_rfl
theorem R8 (a0:IV) (a1:IV):bodyK2 P tab c l u 8 [a0,a1] H=(iBox 23 a0 H).bind λr1=>(iBox 25 a1 r1.2).bind λr2=>(ldN 3 r1.1 r2.2).bind λv3=>
 liftR (c l u 22 [v3] r2.2) (λv4 h5=>(iUn .not v4).bind λv6=>
 br3 v6 (fin .keep H u [.nul,.d (.int .i64 1)] h5) ((ldN 3 r1.1 h5).bind λv7=>
 liftR (c l u 24 [v7] h5) (λv8 h9=>
 liftR (c l u 23 [v8] h9) (λv10 h11=>(iExtract v10 0).bind λv12=>(iExtract v10 1).bind λv13=>(padd r1.1 2).bind λv14=>(ld1 v14 h11).bind λv15=>
 liftR (c l u 25 [v15] h11) (λv16 h17=>(iExtract v16 0).bind λv18=>(iExtract v16 1).bind λv19=>(ldN 3 r1.1 h17).bind λv20=>(ldN 4 r2.1 h17).bind λv21=>(iBuild P 30 [(0,v20),(1,v21)]).bind λv22=>(iBuild P 74 [(0,v22),(2,v12),(3,v18)]).bind λv23=>(iBox 74 v23 h17).bind λr24=>
 fin .keep H u [r24.1,.d (.int .i64 0)] r24.2) (λp25 h26=>finP .keep H u p25 h26)) (λp27 h28=>finP .keep H u p27 h28)) (λp29 h30=>finP .keep H u p29 h30))) (λp31 h32=>finP .keep H u p31 h32):=by kernel_rfl
theorem R26 (a0:IV):bodyK2 P tab c l u 26 [a0] H=(iBox 28 a0 H).bind λr1=>(padd r1.1 1).bind λv2=>(ld1 v2 (r1.2++[Blk.cells 57 [.d (.int .i64 0),.vnil]])).bind λv3=>
 liftR (c H.length H.length 45 (frzArgs H.length [(true,v3)] (r1.2++[Blk.cells 57 [.d (.int .i64 0),.vnil]])).1 (frzArgs H.length [(true,v3)] (r1.2++[Blk.cells 57 [.d (.int .i64 0),.vnil]])).2) (λv4 h5=>(padd r1.1 1).bind λv6=>(st 1 H.length H.length v6 v4 h5).bind λh7=>(ldN 2 r1.1 h7).bind λv8=>(st 2 H.length H.length (.ptr r1.2.length 0) v8 h7).bind λh9=>((ldN 2 (.ptr r1.2.length 0) h9).bind λv10=>(some []:Option (List IV)).map λl11=>v10::l11).bind λl12=>fin .pure H H.length l12 h9) (λp13 h14=>finP .pure H H.length p13 h14):=by kernel_rfl
theorem R30 (b0:Nat):bodyK2 P tab c l u 30 [.ptr b0 0] H=(iBin P .eql 64 (.ptr b0 0) .nul).bind λv1=>
 br3 v1 (fin .pure H H.length [.d (.int .i64 0)] H) ((ld1 (.ptr b0 0) H).bind λv2=>
 liftR (c H.length H.length 52 [v2] H) (λv3 h4=>
 fin .pure H H.length [v3] h4) (λp5 h6=>finP .pure H H.length p5 h6)):=by kernel_rfl
theorem R52 (b0:Nat):bodyK2 P tab c l u 52 [.ptr b0 0] H=(iBin P .eql 97 (.ptr b0 0) .nul).bind λv1=>
 br3 v1 (fin .pure H H.length [.d (.int .i64 0)] H) ((ld1 (.ptr b0 2) H).bind λv2=>
 fin .pure H H.length [v2] H):=by kernel_rfl
theorem R48 (a0:IV) (a1:List UInt8):bodyK2 P tab c l u 48 [a0,.d (.str a1)] H=(iBin P .eql 9 (.d (.str a1)) (.d (.str []))).bind λv1=>
 br3 v1 (fin .keep H u [a0] H) ((iBuildSlice P 45 1 [(0,.agg [.d (.int .i64 2),.d (.int .i64 0),.d (.int .i64 0),.vnil,.d (.str a1),.d (.str [])])] H).bind λr2=>(app 49 6 u a0 r2.1 r2.2).bind λr3=>
 fin .keep H u [r3.1] r3.2):=by kernel_rfl
theorem R49 (b0:Nat):bodyK2 P tab c l u 49 [.ptr b0 0] H=(ld1 (.ptr b0 7) (H++[Blk.cells 99 [.d (.int .i64 0),.d (.int .i64 0),.d (.int .i64 0),.vnil,.d (.str []),.d (.str [])]])).bind λv1=>(ldN 2 (.ptr b0 7) (H++[Blk.cells 99 [.d (.int .i64 0),.d (.int .i64 0),.d (.int .i64 0),.vnil,.d (.str []),.d (.str [])]])).bind λv2=>
 fitsL false [(true,v2)] (
 liftR (c H.length H.length 26 (frzArgs H.length [(true,v2)] (H++[Blk.cells 99 [.d (.int .i64 0),.d (.int .i64 0),.d (.int .i64 0),.vnil,.d (.str []),.d (.str [])]])).1 (frzArgs H.length [(true,v2)] (H++[Blk.cells 99 [.d (.int .i64 0),.d (.int .i64 0),.d (.int .i64 0),.vnil,.d (.str []),.d (.str [])]])).2) (λv3 h4=>(fld1 1 v3).bind λv5=>(iBuild P 49 [(0,.d (.int .i64 1)),(2,v1),(3,v5)]).bind λv6=>(st 6 H.length H.length (.ptr H.length 0) v6 h4).bind λh7=>((ldN 6 (.ptr H.length 0) h7).bind λv8=>(some []:Option (List IV)).map λl9=>v8::l9).bind λl10=>fin .pure H H.length l10 h7) (λp11 h12=>none)):=by kernel_rfl
abbrev C50 (c:Oracle)(l u:Nat)(H:Hp):Ctx:=⟨P,tab,c,l,u⟩
abbrev k50 (c:Oracle)(l u:Nat)(H:Hp):KR:=endK P (fnOf 50) .keep H u
def en50_0 (b0:Nat):Env:=mkE 22 [(0,.ptr b0 0),(2,.d (.str []))]
def q50_0 (c:Oracle)(l u:Nat)(H:Hp):KR:=popK (C50 c l u H) [] (k50 c l u H) [.sq (cd 50 [1,0,1]),.sq (cd 50 [1,1])]
def o50_0 (c:Oracle)(l u:Nat)(H:Hp) (n:Nat) (e:Env) (G:Hp):Res:=opsK2 (C50 c l u H) none (rg 50 [1,0,0]) (dr 50 [1,0,0] n) e G (q50_0 c l u H)
def en50_1 (b0:Nat) (v1:IV):Env:=mkE 22 [(0,.ptr b0 0),(2,.d (.str [])),(3,.ptr b0 0),(4,v1),(5,.d (.bool true)),(6,.no)]
def en50_2 (b0:Nat) (v1:IV):Env:=mkE 22 [(0,.ptr b0 0),(2,.d (.str [])),(3,.ptr b0 0),(4,v1),(5,.d (.bool false)),(6,.ptr b0 0)]
theorem R50 (b0:Nat):bodyK2 P tab c l u 50 [.ptr b0 0] H =
 o50_0 c l u H 0 (en50_0 b0) H:=by kernel_rfl
theorem g50_0 (b0:Nat):o50_0 c l u H 0 (en50_0 b0) H=(iBin P .eql 64 (.ptr b0 0) .nul).bind λv1=>
 brN3 v1 (o50_0 c l u H 4 (en50_1 b0 v1) H) (o50_0 c l u H 4 (en50_2 b0 v1) H) (o50_0 c l u H 4 (List.set (en50_1 b0 v1) 5 v1) H):=by
 unfold o50_0
 refine (oG 4).trans ?_
 generalize opsK2 _ _ _=X
 kernel_rfl
theorem g50_2 (b0:Nat) (v1:IV):o50_0 c l u H 4 (en50_2 b0 v1) H=(ld1 (.ptr b0 1) H).bind λv2=>(iBin P .neq 3 v2 (.d (.int .i64 0))).bind λv3=>
 br3 v3 (fin .keep H u [.d (.str [])] H) ((st 1 l u (.ptr b0 1) (.d (.int .i64 1)) H).bind λh4=>(ld1 (.ptr b0 0) h4).bind λv5=>
 liftR (c l u 70 [v5] h4) (λv6 h7=>
 liftR (c l u 71 [.ptr b0 0,v6] h7) (λv8 h9=>
 fin .keep H u [v8] h9) (λp10 h11=>finP .keep H u p10 h11)) (λp12 h13=>finP .keep H u p12 h13)):=by
 unfold o50_0
 refine (oG 6).trans ?_
 generalize opsK2 _ _ _=X
 kernel_rfl
theorem R70 (b0:Nat):bodyK2 P tab c l u 70 [.ptr b0 0] H =
 liftR (c l u 52 [.ptr b0 0] H) (λv1 h2=>
 liftR (c l u 96 [.ptr b0 0,v1] h2) (λv3 h4=>
 fin .keep H u [v3] h4) (λp5 h6=>finP .keep H u p5 h6)) (λp7 h8=>finP .keep H u p7 h8):=by kernel_rfl
theorem R96 (b0:Nat) (a1:Int):bodyK2 P tab c l u 96 [.ptr b0 0,.d (.int .i64 a1)] H =
 liftR (c l u 119 [.ptr b0 0,.d (.int .i64 a1)] H) (λv1 h2=>(iBin P .gtr 3 (.d (.int .i64 a1)) (.d (.int .i64 0))).bind λv3=>
 br3 v3 (liftR (c l u 122 [.ptr b0 0,.d (.int .i64 a1)] h2) (λv4 h5=>
 fin .keep H u [v1] h5) (λp6 h7=>finP .keep H u p6 h7)) (fin .keep H u [v1] h2)) (λp8 h9=>finP .keep H u p8 h9):=by kernel_rfl
section
variable (e0 e1 e5 e6 e7:IV)(G:Hp)
abbrev C119 (c:Oracle)(l u:Nat)(H:Hp):Ctx:=⟨P,tab,c,H.length,H.length⟩
abbrev k119 (c:Oracle)(l u:Nat)(H:Hp):KR:=endK P (fnOf 119) .pure H H.length
def E119:Env:=[e0,e1,.un,.un,.un,e5,e6,e7,.un,.un,.un,.un,.un,.un,.un,.un,.un,.un,.un,.un,.un,.un,.un,.un,.un,.un,.un,.un,.un,.un,.un,.un,.un,.un,.un,.un,.un,.un,.un,.un,.un,.un,.un,.un,.un]
theorem R119 (b0:Nat) (a1:Int):bodyK2 P tab c l u 119 [.ptr b0 0,.d (.int .i64 a1)] H=(iMakeSlice P 113 (.d (.int .i64 0)) (.d (.int .i64 a1)) H).bind λr1=>(iBin P .neq 97 (.ptr b0 0) .nul).bind λv2=>
 br3 v2 ((ld1 (.ptr b0 1) r1.2).bind λv3=>(loopW (stepL (C119 c l u H) [0,1,5,6,7] (cd 119 [1,1,1,1,0,1,0,0])) ((E119 (.ptr b0 0) (.d (.int .i64 a1)) r1.1 v3 (.d (.int .i64 0))),r1.2)).bind λr4=>popK (C119 c l u H) [0,1,5,6,7] (k119 c l u H) [.bk 0,.sq (cd 119 [1,1,1,1,1])] r4.1 r4.2.1 r4.2.2) ((loopW (stepL (C119 c l u H) [0,1,5,6,7] (cd 119 [1,1,1,1,0,1,0,0])) ((E119 (.ptr b0 0) (.d (.int .i64 a1)) r1.1 (.d (.int .i64 0)) (.d (.int .i64 0))),r1.2)).bind λr5=>popK (C119 c l u H) [0,1,5,6,7] (k119 c l u H) [.bk 0,.sq (cd 119 [1,1,1,1,1])] r5.1 r5.2.1 r5.2.2):=by kernel_rfl
theorem B119_0:stepL (C119 c l u H) [0,1,5,6,7] (cd 119 [1,1,1,1,0,1,0,0]) ((E119 e0 e1 e5 e6 e7),G)=(lnV e5).bind λv6=>(iBin P .lss 3 v6 e1).bind λv7=>
 br3 v7 ((iNil e0).bind λv8=>(padd v8 0).bind λv9=>(ld1 v9 G).bind λv10=>(ixA 1 v10 e7).bind λv11=>(ld1 v11 G).bind λv12=>(slS v12 (some e6) none).bind λv13=>(lnS v13).bind λv14=>(lnV e5).bind λv15=>(iBin P .sub 3 e1 v15).bind λv16=>(iMin v14 v16).bind λv17=>(slS v13 none (some v17)).bind λv18=>(app 5 1 H.length e5 v18 G).bind λr19=>(iBin P .add 3 e7 (.d (.int .i64 1))).bind λv20=>
 some (.inl ((E119 e0 e1 r19.1 (.d (.int .i64 0)) v20),r19.2))) (some (.inr (.exi 0,(E119 e0 e1 e5 e6 e7),G))):=by kernel_rfl
theorem K119_0x0:popK (C119 c l u H) [0,1,5,6,7] (k119 c l u H) [.bk 0,.sq (cd 119 [1,1,1,1,1])] (.exi 0) (E119 e0 e1 e5 e6 e7) G=(bstr e5 G).bind λv21=>
 fin .pure H H.length [v21] G:=by kernel_rfl
end
theorem R71 (b0:Nat) (a1:List UInt8):bodyK2 P tab c l u 71 [.ptr b0 0,.d (.str a1)] H=(ld1 (.ptr b0 3) H).bind λv1=>(lnS (.d (.str a1))).bind λv2=>(iBin P .add 3 v1 v2).bind λv3=>(st 1 H.length u (.ptr b0 3) v3 H).bind λh4=>
 fin .mut H u [.d (.str a1)] h4:=by kernel_rfl
abbrev C27 (c:Oracle)(l u:Nat)(H:Hp):Ctx:=⟨P,tab,c,l,u⟩
abbrev k27 (c:Oracle)(l u:Nat)(H:Hp):KR:=endK P (fnOf 27) .keep H u
def en27_0 (a1:Bool) (b0:Nat) (h2:Hp) (v1 v4 v5 v14 v17 v18:IV):Env:=mkE 58 [(0,.ptr b0 0),(1,.d (.bool a1)),(4,.vnil),(5,.ptr h2.length 0),(6,.ptr b0 0),(7,.d (.bool a1)),(8,v1),(9,.ptr h2.length 0),(10,v4),(11,v5),(24,.ptr b0 0),(25,.ptr b0 0),(26,v14),(27,.ptr b0 0),(28,.ptr b0 13),(29,.ptr b0 0),(30,.ptr b0 17),(31,.ptr h2.length 0),(32,v17),(33,v18),(46,.ptr b0 0),(47,.ptr b0 0),(48,.ptr b0 10)]
def q27_0 (c:Oracle)(l u:Nat)(H:Hp):KR:=popK (C27 c l u H) [] (k27 c l u H) [.sq (cd 27 [1,1,1,1,1,1,1])]
def en27_1 (a1:Bool) (b0:Nat) (h2:Hp) (v1 v4 v5 v14 v17 v18 z4 z49 z50 z51 z52 z53 z54 z55 z56 z57:IV):Env:=upE (en27_0 a1 b0 h2 v1 v4 v5 v14 v17 v18) [(4,z4),(49,z49),(50,z50),(51,z51),(52,z52),(53,z53),(54,z54),(55,z55),(56,z56),(57,z57)]
theorem R27 (b0:Nat) (a1:Bool):bodyK2 P tab c l u 27 [.ptr b0 0,.d (.bool a1)] H =
 liftR (c l u 46 [.ptr b0 0,.d (.bool a1)] H) (λv1 h2=>(st 4 l u (.ptr h2.length 0) v1 (h2++[Blk.cells 145 [.d (.int .i64 0),.d (.str []),.d (.int .i64 0),.d (.bool false)]])).bind λh3=>(ld1 (.ptr h2.length 0) h3).bind λv4=>(iBin P .eql 3 v4 (.d (.int .i64 0))).bind λv5=>
 br3 v5 ((st 1 l u (.ptr b0 10) (.d (.int .i64 1)) h3).bind λh6=>(ld1 (.ptr b0 11) h6).bind λv7=>
 liftR (c l u 30 [v7] h6) (λv8 h9=>(iBin P .geq 3 v8 (.d (.int .i64 1445))).bind λv10=>
 br3 v10 ((st 1 l u (.ptr b0 10) (.d (.int .i64 2)) h9).bind λh11=>
 fin .keep H u [.vnil] h11) (fin .keep H u [.vnil] h9)) (λp12 h13=>finP .keep H u p12 h13)) ((ldN 4 (.ptr h2.length 0) h3).bind λv14=>(st 4 l u (.ptr b0 13) v14 h3).bind λh15=>(st 1 l u (.ptr b0 17) (.d (.bool true)) h15).bind λh16=>(ld1 (.ptr h2.length 0) h16).bind λv17=>(iBin P .eql 3 v17 (.d (.int .i64 2))).bind λv18=>
 br3 v18 ((st 1 l u (.ptr b0 10) (.d (.int .i64 4)) h16).bind λh19=>(ld1 (.ptr b0 11) h19).bind λv20=>
 liftR (c l u 47 [v20] h19) (λv21 h22=>(ld1 (.ptr h2.length 1) h22).bind λv23=>(iBuild P 49 [(0,.d (.int .i64 4)),(5,v23)]).bind λv24=>(iBuildSlice P 45 1 [(0,v24)] h22).bind λr25=>
 fin .keep H u [r25.1] r25.2) (λp26 h27=>finP .keep H u p26 h27)) ((st 1 l u (.ptr b0 10) (.d (.int .i64 3)) h16).bind λh28=>
 sqK (C27 c l u H) (rg 27 [1,1,1,1,1,1,0]) (en27_0 a1 b0 h2 v1 v4 v5 v14 v17 v18) h28 (q27_0 c l u H)))) (λp29 h30=>finP .keep H u p29 h30):=by kernel_rfl
theorem S27_0 (G:Hp) (a1:Bool) (b0:Nat) (h2:Hp) (v1 v4 v5 v14 v17 v18 z4 z49 z50 z51 z52 z53 z54 z55 z56 z57:IV):(q27_0 c l u H) .nor (en27_1 a1 b0 h2 v1 v4 v5 v14 v17 v18 z4 z49 z50 z51 z52 z53 z54 z55 z56 z57) G =
 fin .keep H u [z4] G:=by kernel_rfl
theorem F27_0 (a1:Bool) (b0:Nat) (h2:Hp) (v1 v4 v5 v14 v17 v18:IV) (σ:Nat→IV):(fullE (rg 27 [1,1,1,1,1,1,0]) (en27_0 a1 b0 h2 v1 v4 v5 v14 v17 v18) σ)=(en27_1 a1 b0 h2 v1 v4 v5 v14 v17 v18 (σ 9) (σ 0) (σ 1) (σ 2) (σ 3) (σ 4) (σ 5) (σ 6) (σ 7) (σ 8)):=by kernel_rfl
theorem O27_0_0 (G:Hp) (a1:Bool) (b0:Nat) (h2:Hp) (v1 v4 v5 v14 v17 v18:IV) (σ:Nat→IV):(((rg 27 [1,1,1,1,1,1,0])[0]?).bind λo=>val2 (C27 c l u H) o (fullE (rg 27 [1,1,1,1,1,1,0]) (en27_0 a1 b0 h2 v1 v4 v5 v14 v17 v18) σ) G) =
 some ((.ptr b0 0:IV),G):=by kernel_rfl
theorem O27_0_1 (G:Hp) (a1:Bool) (b0:Nat) (h2:Hp) (v1 v4 v5 v14 v17 v18:IV) (σ:Nat→IV):(((rg 27 [1,1,1,1,1,1,0])[1]?).bind λo=>val2 (C27 c l u H) o (fullE (rg 27 [1,1,1,1,1,1,0]) (en27_0 a1 b0 h2 v1 v4 v5 v14 v17 v18) σ) G) =
 liftR (c l u 49 [(σ 0)] G) (λv31 h32=>
 some ((v31:IV),h32)) (λp33 h34=>none):=by kernel_rfl
theorem O27_0_2 (G:Hp) (a1:Bool) (b0:Nat) (h2:Hp) (v1 v4 v5 v14 v17 v18:IV) (σ:Nat→IV):(((rg 27 [1,1,1,1,1,1,0])[2]?).bind λo=>val2 (C27 c l u H) o (fullE (rg 27 [1,1,1,1,1,1,0]) (en27_0 a1 b0 h2 v1 v4 v5 v14 v17 v18) σ) G)=(iBuildSlice P 45 1 [(0,(σ 1))] G).bind λr35=>
 some ((r35.1:IV),r35.2):=by kernel_rfl
theorem O27_0_3 (G:Hp) (a1:Bool) (b0:Nat) (h2:Hp) (v1 v4 v5 v14 v17 v18:IV) (σ:Nat→IV):(((rg 27 [1,1,1,1,1,1,0])[3]?).bind λo=>val2 (C27 c l u H) o (fullE (rg 27 [1,1,1,1,1,1,0]) (en27_0 a1 b0 h2 v1 v4 v5 v14 v17 v18) σ) G) =
 some ((.ptr b0 0:IV),G):=by kernel_rfl
theorem O27_0_4 (G:Hp) (a1:Bool) (b0:Nat) (h2:Hp) (v1 v4 v5 v14 v17 v18:IV) (σ:Nat→IV):(((rg 27 [1,1,1,1,1,1,0])[4]?).bind λo=>val2 (C27 c l u H) o (fullE (rg 27 [1,1,1,1,1,1,0]) (en27_0 a1 b0 h2 v1 v4 v5 v14 v17 v18) σ) G)=(iNil ((σ 3))).bind λv36=>
 some ((v36:IV),G):=by kernel_rfl
theorem O27_0_5 (G:Hp) (a1:Bool) (b0:Nat) (h2:Hp) (v1 v4 v5 v14 v17 v18:IV) (σ:Nat→IV):(((rg 27 [1,1,1,1,1,1,0])[5]?).bind λo=>val2 (C27 c l u H) o (fullE (rg 27 [1,1,1,1,1,1,0]) (en27_0 a1 b0 h2 v1 v4 v5 v14 v17 v18) σ) G)=(padd ((σ 4)) 11).bind λv37=>
 some ((v37:IV),G):=by kernel_rfl
theorem O27_0_6 (G:Hp) (a1:Bool) (b0:Nat) (h2:Hp) (v1 v4 v5 v14 v17 v18:IV) (σ:Nat→IV):(((rg 27 [1,1,1,1,1,1,0])[6]?).bind λo=>val2 (C27 c l u H) o (fullE (rg 27 [1,1,1,1,1,1,0]) (en27_0 a1 b0 h2 v1 v4 v5 v14 v17 v18) σ) G)=(ld1 ((σ 5)) G).bind λv38=>
 some ((v38:IV),G):=by kernel_rfl
theorem O27_0_7 (G:Hp) (a1:Bool) (b0:Nat) (h2:Hp) (v1 v4 v5 v14 v17 v18:IV) (σ:Nat→IV):(((rg 27 [1,1,1,1,1,1,0])[7]?).bind λo=>val2 (C27 c l u H) o (fullE (rg 27 [1,1,1,1,1,1,0]) (en27_0 a1 b0 h2 v1 v4 v5 v14 v17 v18) σ) G) =
 liftR (c l u 50 [(σ 6)] G) (λv39 h40=>
 some ((v39:IV),h40)) (λp41 h42=>none):=by kernel_rfl
theorem O27_0_8 (G:Hp) (a1:Bool) (b0:Nat) (h2:Hp) (v1 v4 v5 v14 v17 v18:IV) (σ:Nat→IV):(((rg 27 [1,1,1,1,1,1,0])[8]?).bind λo=>val2 (C27 c l u H) o (fullE (rg 27 [1,1,1,1,1,1,0]) (en27_0 a1 b0 h2 v1 v4 v5 v14 v17 v18) σ) G) =
 liftR (c l u 48 [(σ 2),(σ 7)] G) (λv43 h44=>
 some ((v43:IV),h44)) (λp45 h46=>none):=by kernel_rfl
theorem O27_0_9 (G:Hp) (a1:Bool) (b0:Nat) (h2:Hp) (v1 v4 v5 v14 v17 v18:IV) (σ:Nat→IV):(((rg 27 [1,1,1,1,1,1,0])[9]?).bind λo=>val2 (C27 c l u H) o (fullE (rg 27 [1,1,1,1,1,1,0]) (en27_0 a1 b0 h2 v1 v4 v5 v14 v17 v18) σ) G) =
 some (((σ 8):IV),G):=by kernel_rfl
theorem R9 (b0:Nat) (a1:IV) (a2:Bool):bodyK2 P tab c l u 9 [.ptr b0 0,a1,.d (.bool a2)] H=(iBox 28 a1 H).bind λr1=>(iBin P .eql 41 (.ptr b0 0) .nul).bind λv2=>
 br3 v2 (fin .keep H u [.vnil,.d (.int .i64 1)] r1.2) ((ld1 (.ptr b0 10) r1.2).bind λv3=>(iBin P .neq 3 v3 (.d (.int .i64 0))).bind λv4=>
 br3 v4 (fin .keep H u [.vnil,.d (.int .i64 5)] r1.2) ((ldN 2 r1.1 r1.2).bind λv5=>
 liftR (c l u 26 (frzArgs u [(true,v5)] r1.2).1 (frzArgs u [(true,v5)] r1.2).2) (λv6 h7=>(st 2 l u (.ptr b0 7) v6 h7).bind λh8=>(st 1 l u (.ptr b0 9) (.d (.bool a2)) h8).bind λh9=>
 liftR (c l u 27 [.ptr b0 0,.d (.bool false)] h9) (λv10 h11=>
 fin .keep H u [v10,.d (.int .i64 0)] h11) (λp12 h13=>finP .keep H u p12 h13)) (λp14 h15=>finP .keep H u p14 h15))):=by kernel_rfl
abbrev C28 (c:Oracle)(l u:Nat)(H:Hp):Ctx:=⟨P,tab,c,H.length,H.length⟩
abbrev k28 (c:Oracle)(l u:Nat)(H:Hp):KR:=endK P (fnOf 28) .pure H H.length
def en28_0 (b0:Nat):Env:=mkE 15 [(0,.ptr b0 0),(2,.d (.bool false))]
def q28_0 (c:Oracle)(l u:Nat)(H:Hp):KR:=popK (C28 c l u H) [] (k28 c l u H) [.sq (cd 28 [1,1])]
def o28_0 (c:Oracle)(l u:Nat)(H:Hp) (n:Nat) (e:Env) (G:Hp):Res:=opsK2 (C28 c l u H) none (rg 28 [1,0]) (dr 28 [1,0] n) e G (q28_0 c l u H)
def en28_1 (b0:Nat) (v1 v2:IV):Env:=mkE 15 [(0,.ptr b0 0),(2,.d (.bool false)),(3,.ptr b0 0),(4,.ptr b0 0),(5,.ptr b0 10),(6,v1),(7,v2),(8,.d (.bool true)),(9,.ptr b0 0)]
def en28_2 (b0:Nat) (v1 v2:IV):Env:=mkE 15 [(0,.ptr b0 0),(2,.d (.bool false)),(3,.ptr b0 0),(4,.ptr b0 0),(5,.ptr b0 10),(6,v1),(7,v2),(8,.d (.bool false)),(9,.no)]
theorem R28 (b0:Nat):bodyK2 P tab c l u 28 [.ptr b0 0] H =
 o28_0 c l u H 0 (en28_0 b0) H:=by kernel_rfl
theorem g28_0 (b0:Nat):o28_0 c l u H 0 (en28_0 b0) H=(ld1 (.ptr b0 10) H).bind λv1=>(iBin P .geq 3 v1 (.d (.int .i64 1))).bind λv2=>
 brN3 v2 (o28_0 c l u H 7 (en28_1 b0 v1 v2) H) (o28_0 c l u H 7 (en28_2 b0 v1 v2) H) (o28_0 c l u H 7 (List.set (en28_2 b0 v1 v2) 8 v2) H):=by
 unfold o28_0
 refine (oG 7).trans ?_
 generalize opsK2 _ _ _=X
 kernel_rfl
theorem g28_1 (b0:Nat) (v1 v2:IV):o28_0 c l u H 7 (en28_1 b0 v1 v2) H=(ld1 (.ptr b0 10) H).bind λv3=>(iBin P .leq 3 v3 (.d (.int .i64 4))).bind λv4=>
 fin .pure H H.length [v4] H:=by
 unfold o28_0
 refine (oG 7).trans ?_
 generalize opsK2 _ _ _=X
 kernel_rfl
abbrev C31 (c:Oracle)(l u:Nat)(H:Hp):Ctx:=⟨P,tab,c,H.length,H.length⟩
abbrev k31 (c:Oracle)(l u:Nat)(H:Hp):KR:=endK P (fnOf 31) .pure H H.length
def en31_0 (b0:Nat):Env:=mkE 15 [(0,.ptr b0 0),(2,.d (.bool false))]
def q31_0 (c:Oracle)(l u:Nat)(H:Hp):KR:=popK (C31 c l u H) [] (k31 c l u H) [.sq (cd 31 [1,1])]
def o31_0 (c:Oracle)(l u:Nat)(H:Hp) (n:Nat) (e:Env) (G:Hp):Res:=opsK2 (C31 c l u H) none (rg 31 [1,0]) (dr 31 [1,0] n) e G (q31_0 c l u H)
def en31_1 (b0:Nat) (v1 v2:IV):Env:=mkE 15 [(0,.ptr b0 0),(2,.d (.bool false)),(3,.ptr b0 0),(4,.ptr b0 0),(5,.ptr b0 10),(6,v1),(7,v2),(8,.d (.bool true)),(9,.no)]
def en31_2 (b0:Nat) (v1 v2:IV):Env:=mkE 15 [(0,.ptr b0 0),(2,.d (.bool false)),(3,.ptr b0 0),(4,.ptr b0 0),(5,.ptr b0 10),(6,v1),(7,v2),(8,.d (.bool false)),(9,.ptr b0 0)]
theorem R31 (b0:Nat):bodyK2 P tab c l u 31 [.ptr b0 0] H =
 o31_0 c l u H 0 (en31_0 b0) H:=by kernel_rfl
theorem g31_0 (b0:Nat):o31_0 c l u H 0 (en31_0 b0) H=(ld1 (.ptr b0 10) H).bind λv1=>(iBin P .eql 3 v1 (.d (.int .i64 1))).bind λv2=>
 brN3 v2 (o31_0 c l u H 7 (en31_1 b0 v1 v2) H) (o31_0 c l u H 7 (en31_2 b0 v1 v2) H) (o31_0 c l u H 7 (List.set (en31_1 b0 v1 v2) 8 v2) H):=by
 unfold o31_0
 refine (oG 7).trans ?_
 generalize opsK2 _ _ _=X
 kernel_rfl
theorem g31_2 (b0:Nat) (v1 v2:IV):o31_0 c l u H 7 (en31_2 b0 v1 v2) H=(ld1 (.ptr b0 10) H).bind λv3=>(iBin P .eql 3 v3 (.d (.int .i64 2))).bind λv4=>
 fin .pure H H.length [v4] H:=by
 unfold o31_0
 refine (oG 7).trans ?_
 generalize opsK2 _ _ _=X
 kernel_rfl
theorem R29 (b0:Nat) (a1:List UInt8):bodyK2 P tab c l u 29 [.ptr b0 0,.d (.str a1)] H=(ld1 (.ptr b0 18) H).bind λv1=>(lnS (.d (.str a1))).bind λv2=>(iBin P .add 3 v1 v2).bind λv3=>(st 1 l u (.ptr b0 18) v3 H).bind λh4=>(ld1 (.ptr b0 19) h4).bind λv5=>(lnS (.d (.str a1))).bind λv6=>(iBin P .add 3 v5 v6).bind λv7=>(st 1 l u (.ptr b0 19) v7 h4).bind λh8=>
 liftR (c l u 31 [.ptr b0 0] h8) (λv9 h10=>
 br3 v9 (liftR (c l u 51 [.ptr b0 0,.d (.str a1)] h10) (λv11 h12=>
 liftR (c l u 27 [.ptr b0 0,.d (.bool false)] h12) (λv13 h14=>(ld1 (.ptr b0 10) h14).bind λv15=>(iBin P .eql 3 v15 (.d (.int .i64 3))).bind λv16=>
 br3 v16 (liftR (c l u 48 [v13,v11] h14) (λv17 h18=>
 fin .keep H u [v17] h18) (λp19 h20=>finP .keep H u p19 h20)) (fin .keep H u [v13] h14)) (λp21 h22=>finP .keep H u p21 h22)) (λp23 h24=>finP .keep H u p23 h24)) ((ld1 (.ptr b0 10) h10).bind λv25=>(iBin P .eql 3 v25 (.d (.int .i64 3))).bind λv26=>
 br3 v26 (liftR (c l u 48 [.vnil,.d (.str a1)] h10) (λv27 h28=>
 fin .keep H u [v27] h28) (λp29 h30=>finP .keep H u p29 h30)) (fin .keep H u [.vnil] h10))) (λp31 h32=>finP .keep H u p31 h32):=by kernel_rfl
theorem R10 (b0:Nat) (a1:List UInt8):bodyK2 P tab c l u 10 [.ptr b0 0,.d (.str a1)] H=(iBin P .eql 41 (.ptr b0 0) .nul).bind λv1=>
 br3 v1 (fin .keep H u [.vnil,.d (.int .i64 1)] H) (liftR (c l u 28 [.ptr b0 0] H) (λv2 h3=>(iUn .not v2).bind λv4=>
 br3 v4 (fin .keep H u [.vnil,.d (.int .i64 5)] h3) (liftR (c l u 29 [.ptr b0 0,.d (.str a1)] h3) (λv5 h6=>
 fin .keep H u [v5,.d (.int .i64 0)] h6) (λp7 h8=>finP .keep H u p7 h8))) (λp9 h10=>finP .keep H u p9 h10)):=by kernel_rfl
theorem R11 (b0:Nat):bodyK2 P tab c l u 11 [.ptr b0 0] H=(iBin P .eql 41 (.ptr b0 0) .nul).bind λv1=>
 br3 v1 (fin .pure H H.length [.d (.int .i64 0)] H) ((ld1 (.ptr b0 11) H).bind λv2=>
 liftR (c H.length H.length 30 [v2] H) (λv3 h4=>
 fin .pure H H.length [v3] h4) (λp5 h6=>finP .pure H H.length p5 h6)):=by kernel_rfl
theorem R12 (b0:Nat):bodyK2 P tab c l u 12 [.ptr b0 0] H=(iBin P .eql 41 (.ptr b0 0) .nul).bind λv1=>
 br3 v1 (fin .keep H u [.vnil,.d (.int .i64 1)] H) (liftR (c l u 28 [.ptr b0 0] H) (λv2 h3=>(iUn .not v2).bind λv4=>
 br3 v4 (fin .keep H u [.vnil,.d (.int .i64 5)] h3) (liftR (c l u 31 [.ptr b0 0] h3) (λv5 h6=>
 br3 v5 (liftR (c l u 27 [.ptr b0 0,.d (.bool true)] h6) (λv7 h8=>(ld1 (.ptr b0 10) h8).bind λv9=>(iBin P .eql 3 v9 (.d (.int .i64 3))).bind λv10=>
 br3 v10 ((iBuildSlice P 45 1 [(0,.agg [.d (.int .i64 3),.d (.int .i64 0),.d (.int .i64 0),.vnil,.d (.str []),.d (.str [])])] h8).bind λr11=>(app 49 6 u v7 r11.1 r11.2).bind λr12=>(st 1 l u (.ptr b0 10) (.d (.int .i64 5)) r12.2).bind λh13=>
 fin .keep H u [r12.1,.d (.int .i64 0)] h13) ((st 1 l u (.ptr b0 10) (.d (.int .i64 5)) h8).bind λh14=>
 fin .keep H u [v7,.d (.int .i64 0)] h14)) (λp15 h16=>finP .keep H u p15 h16)) ((ld1 (.ptr b0 10) h6).bind λv17=>(iBin P .eql 3 v17 (.d (.int .i64 3))).bind λv18=>
 br3 v18 ((iBuildSlice P 45 1 [(0,.agg [.d (.int .i64 3),.d (.int .i64 0),.d (.int .i64 0),.vnil,.d (.str []),.d (.str [])])] h6).bind λr19=>(app 49 6 u .vnil r19.1 r19.2).bind λr20=>(st 1 l u (.ptr b0 10) (.d (.int .i64 5)) r20.2).bind λh21=>
 fin .keep H u [r20.1,.d (.int .i64 0)] h21) ((st 1 l u (.ptr b0 10) (.d (.int .i64 5)) h6).bind λh22=>
 fin .keep H u [.vnil,.d (.int .i64 0)] h22))) (λp23 h24=>finP .keep H u p23 h24))) (λp25 h26=>finP .keep H u p25 h26)):=by kernel_rfl
end
end Go.Tg
set_option linter.unusedVariables false
namespace Go.Tg
noncomputable section
variable [Globs] (c:Oracle)(l u:Nat)(H:Hp)
abbrev C46 (c:Oracle)(l u:Nat)(H:Hp):Ctx:=⟨P,tab,c,l,u⟩
abbrev k46 (c:Oracle)(l u:Nat)(H:Hp):KR:=endK P (fnOf 46) .keep H u
def en46_0 (H:Hp) (a1:Bool) (b0:Nat) (v1 v2 v4 v5:IV):Env:=mkE 60 [(0,.ptr b0 0),(1,.d (.bool a1)),(4,.ptr H.length 0),(5,v2),(7,.ptr b0 0),(8,.ptr b0 0),(9,.ptr b0 11),(10,v1),(11,v2),(12,.ptr b0 0),(13,.ptr b0 0),(14,.ptr b0 10),(15,v4),(16,v5)]
def q46_0 (c:Oracle)(l u:Nat)(H:Hp):KR:=popK (C46 c l u H) [] (k46 c l u H) [.sq (cd 46 [1,1,1,0,1]),.sq (cd 46 [1,1,1,1])]
def o46_0 (c:Oracle)(l u:Nat)(H:Hp) (n:Nat) (e:Env) (G:Hp):Res:=opsK2 (C46 c l u H) none (rg 46 [1,1,1,0,0]) (dr 46 [1,1,1,0,0] n) e G (q46_0 c l u H)
theorem R46 (b0:Nat) (a1:Bool):bodyK2 P tab c l u 46 [.ptr b0 0,.d (.bool a1)] H=(ld1 (.ptr b0 11) (H++[Blk.cells 145 [.d (.int .i64 0),.d (.str []),.d (.int .i64 0),.d (.bool false)]])).bind λv1=>
 liftR (c l u 30 [v1] (H++[Blk.cells 145 [.d (.int .i64 0),.d (.str []),.d (.int .i64 0),.d (.bool false)]])) (λv2 h3=>(ld1 (.ptr b0 10) h3).bind λv4=>(iBin P .eql 3 v4 (.d (.int .i64 0))).bind λv5=>
 br3 v5 ((ldN 10 (.ptr b0 0) h3).bind λv6=>
 liftR (c l u 65 (frzArgs u [(true,v6)] h3).1 (frzArgs u [(true,v6)] h3).2) (λv7 h8=>(st 4 l u (.ptr H.length 0) v7 h8).bind λh9=>((ldN 4 (.ptr H.length 0) h9).bind λv10=>(some []:Option (List IV)).map λl11=>v10::l11).bind λl12=>fin .keep H u l12 h9) (λp13 h14=>finP .keep H u p13 h14)) (o46_0 c l u H 0 (en46_0 H a1 b0 v1 v2 v4 v5) h3)) (λp15 h16=>finP .keep H u p15 h16):=by kernel_rfl
end
end Go.Tg
