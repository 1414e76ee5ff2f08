/- What the bodies of some functions come to, operation by operation. By program (gen.py). -/
import Derived.Test.YtnkobejhnphmhaaGreatDoorAh
import Derived.KernelRfl
set_option linter.all false
namespace Go.Tg
noncomputable section
variable [Globs] (c:Oracle)(l u:Nat)(H:Hp)
section
variable (a0:Int)(v1:IV)
abbrev C339 (c:Oracle)(l u:Nat)(H:Hp):Ctx:=⟨P,tab,c,H.length,H.length⟩
abbrev k339 (c:Oracle)(l u:Nat)(H:Hp):KR:=endK P (fnOf 339) .pure H H.length
def en339_0:Env:=mkE 9 [(0,.d (.int .u8 a0)),(2,.d (.bool false))]
def q339_0 (c:Oracle)(l u:Nat)(H:Hp):KR:=popK (C339 c l u H) [] (k339 c l u H) [.sq (cd 339 [1,1])]
def o339_0 (c:Oracle)(l u:Nat)(H:Hp) (n:Nat) (e:Env) (G:Hp):Res:=opsK2 (C339 c l u H) none (rg 339 [1,0]) (dr 339 [1,0] n) e G (q339_0 c l u H)
def en339_1:Env:=mkE 9 [(0,.d (.int .u8 a0)),(2,.d (.bool false)),(3,.d (.int .u8 a0)),(4,v1),(5,.d (.bool true)),(6,.d (.int .u8 a0))]
def en339_2:Env:=mkE 9 [(0,.d (.int .u8 a0)),(2,.d (.bool false)),(3,.d (.int .u8 a0)),(4,v1),(5,.d (.bool false)),(6,.no)]
theorem R339:bodyK2 P tab c l u 339 [.d (.int .u8 a0)] H =
 o339_0 c l u H 0 (en339_0 a0) H:=by kernel_rfl
theorem g339_0:o339_0 c l u H 0 (en339_0 a0) H=(iBin P .geq 5 (.d (.int .u8 a0)) (.d (.int .u8 48))).bind λv1=>
 brN3 v1 (o339_0 c l u H 4 (en339_1 a0 v1) H) (o339_0 c l u H 4 (en339_2 a0 v1) H) (o339_0 c l u H 4 (List.set (en339_2 a0 v1) 5 v1) H):=by
 unfold o339_0
 refine (oG 4).trans ?_
 generalize opsK2 _ _ _=X
 kernel_rfl
theorem g339_1:o339_0 c l u H 4 (en339_1 a0 v1) H=(iBin P .leq 5 (.d (.int .u8 a0)) (.d (.int .u8 57))).bind λv2=>
 fin .pure H H.length [v2] H:=by
 unfold o339_0
 refine (oG 4).trans ?_
 generalize opsK2 _ _ _=X
 kernel_rfl
theorem g339_2:o339_0 c l u H 4 (en339_2 a0 v1) H =
 fin .pure H H.length [.d (.bool false)] H:=by
 unfold o339_0
 refine (oG 4).trans ?_
 generalize opsK2 _ _ _=X
 kernel_rfl
end
section
variable (a0:Int)(v1:IV)
abbrev C394 (c:Oracle)(l u:Nat)(H:Hp):Ctx:=⟨P,tab,c,H.length,H.length⟩
abbrev k394 (c:Oracle)(l u:Nat)(H:Hp):KR:=endK P (fnOf 394) .pure H H.length
def en394_0:Env:=mkE 9 [(0,.d (.int .u8 a0)),(2,.d (.bool false))]
def q394_0 (c:Oracle)(l u:Nat)(H:Hp):KR:=popK (C394 c l u H) [] (k394 c l u H) [.sq (cd 394 [1,1])]
def o394_0 (c:Oracle)(l u:Nat)(H:Hp) (n:Nat) (e:Env) (G:Hp):Res:=opsK2 (C394 c l u H) none (rg 394 [1,0]) (dr 394 [1,0] n) e G (q394_0 c l u H)
def en394_1:Env:=mkE 9 [(0,.d (.int .u8 a0)),(2,.d (.bool false)),(3,.d (.int .u8 a0)),(4,v1),(5,.d (.bool true)),(6,.d (.int .u8 a0))]
def en394_2:Env:=mkE 9 [(0,.d (.int .u8 a0)),(2,.d (.bool false)),(3,.d (.int .u8 a0)),(4,v1),(5,.d (.bool false)),(6,.no)]
theorem R394:bodyK2 P tab c l u 394 [.d (.int .u8 a0)] H =
 o394_0 c l u H 0 (en394_0 a0) H:=by kernel_rfl
theorem g394_0:o394_0 c l u H 0 (en394_0 a0) H=(iBin P .geq 5 (.d (.int .u8 a0)) (.d (.int .u8 97))).bind λv1=>
 brN3 v1 (o394_0 c l u H 4 (en394_1 a0 v1) H) (o394_0 c l u H 4 (en394_2 a0 v1) H) (o394_0 c l u H 4 (List.set (en394_2 a0 v1) 5 v1) H):=by
 unfold o394_0
 refine (oG 4).trans ?_
 generalize opsK2 _ _ _=X
 kernel_rfl
theorem g394_1:o394_0 c l u H 4 (en394_1 a0 v1) H=(iBin P .leq 5 (.d (.int .u8 a0)) (.d (.int .u8 122))).bind λv2=>
 fin .pure H H.length [v2] H:=by
 unfold o394_0
 refine (oG 4).trans ?_
 generalize opsK2 _ _ _=X
 kernel_rfl
theorem g394_2:o394_0 c l u H 4 (en394_2 a0 v1) H =
 fin .pure H H.length [.d (.bool false)] H:=by
 unfold o394_0
 refine (oG 4).trans ?_
 generalize opsK2 _ _ _=X
 kernel_rfl
end
section
variable (a0:Int)(v1:IV)
abbrev C395 (c:Oracle)(l u:Nat)(H:Hp):Ctx:=⟨P,tab,c,H.length,H.length⟩
abbrev k395 (c:Oracle)(l u:Nat)(H:Hp):KR:=endK P (fnOf 395) .pure H H.length
def en395_0:Env:=mkE 9 [(0,.d (.int .u8 a0)),(2,.d (.bool false))]
def q395_0 (c:Oracle)(l u:Nat)(H:Hp):KR:=popK (C395 c l u H) [] (k395 c l u H) [.sq (cd 395 [1,1])]
def o395_0 (c:Oracle)(l u:Nat)(H:Hp) (n:Nat) (e:Env) (G:Hp):Res:=opsK2 (C395 c l u H) none (rg 395 [1,0]) (dr 395 [1,0] n) e G (q395_0 c l u H)
def en395_1:Env:=mkE 9 [(0,.d (.int .u8 a0)),(2,.d (.bool false)),(3,.d (.int .u8 a0)),(4,v1),(5,.d (.bool true)),(6,.d (.int .u8 a0))]
def en395_2:Env:=mkE 9 [(0,.d (.int .u8 a0)),(2,.d (.bool false)),(3,.d (.int .u8 a0)),(4,v1),(5,.d (.bool false)),(6,.no)]
theorem R395:bodyK2 P tab c l u 395 [.d (.int .u8 a0)] H =
 o395_0 c l u H 0 (en395_0 a0) H:=by kernel_rfl
theorem g395_0:o395_0 c l u H 0 (en395_0 a0) H=(iBin P .geq 5 (.d (.int .u8 a0)) (.d (.int .u8 65))).bind λv1=>
 brN3 v1 (o395_0 c l u H 4 (en395_1 a0 v1) H) (o395_0 c l u H 4 (en395_2 a0 v1) H) (o395_0 c l u H 4 (List.set (en395_2 a0 v1) 5 v1) H):=by
 unfold o395_0
 refine (oG 4).trans ?_
 generalize opsK2 _ _ _=X
 kernel_rfl
theorem g395_1:o395_0 c l u H 4 (en395_1 a0 v1) H=(iBin P .leq 5 (.d (.int .u8 a0)) (.d (.int .u8 90))).bind λv2=>
 fin .pure H H.length [v2] H:=by
 unfold o395_0
 refine (oG 4).trans ?_
 generalize opsK2 _ _ _=X
 kernel_rfl
theorem g395_2:o395_0 c l u H 4 (en395_2 a0 v1) H =
 fin .pure H H.length [.d (.bool false)] H:=by
 unfold o395_0
 refine (oG 4).trans ?_
 generalize opsK2 _ _ _=X
 kernel_rfl
end
section
variable (a0:Int)(h2:Hp)(v1:IV)
abbrev C345 (c:Oracle)(l u:Nat)(H:Hp):Ctx:=⟨P,tab,c,H.length,H.length⟩
abbrev k345 (c:Oracle)(l u:Nat)(H:Hp):KR:=endK P (fnOf 345) .pure H H.length
def en345_0:Env:=mkE 9 [(0,.d (.int .u8 a0)),(2,.d (.bool false))]
def q345_0 (c:Oracle)(l u:Nat)(H:Hp):KR:=popK (C345 c l u H) [] (k345 c l u H) [.sq (cd 345 [1,1])]
def o345_0 (c:Oracle)(l u:Nat)(H:Hp) (n:Nat) (e:Env) (G:Hp):Res:=opsK2 (C345 c l u H) none (rg 345 [1,0]) (dr 345 [1,0] n) e G (q345_0 c l u H)
def en345_1:Env:=mkE 9 [(0,.d (.int .u8 a0)),(2,.d (.bool false)),(3,.d (.int .u8 a0)),(4,v1),(5,.d (.bool true)),(6,.no)]
def en345_2:Env:=mkE 9 [(0,.d (.int .u8 a0)),(2,.d (.bool false)),(3,.d (.int .u8 a0)),(4,v1),(5,.d (.bool false)),(6,.d (.int .u8 a0))]
theorem R345:bodyK2 P tab c l u 345 [.d (.int .u8 a0)] H =
 o345_0 c l u H 0 (en345_0 a0) H:=by kernel_rfl
theorem g345_0:o345_0 c l u H 0 (en345_0 a0) H =
 liftR (c H.length H.length 394 [.d (.int .u8 a0)] H) (λv1 h2=>
 brN3 v1 (o345_0 c l u H 4 (en345_1 a0 v1) h2) (o345_0 c l u H 4 (en345_2 a0 v1) h2) (o345_0 c l u H 4 (List.set (en345_1 a0 v1) 5 v1) h2)) (λp3 h4=>finP .pure H H.length p3 h4):=by
 unfold o345_0
 refine (oG 4).trans ?_
 generalize opsK2 _ _ _=X
 kernel_rfl
theorem g345_1:o345_0 c l u H 4 (en345_1 a0 v1) h2 =
 fin .pure H H.length [.d (.bool true)] h2:=by
 unfold o345_0
 refine (oG 4).trans ?_
 generalize opsK2 _ _ _=X
 kernel_rfl
theorem g345_2:o345_0 c l u H 4 (en345_2 a0 v1) h2 =
 liftR (c H.length H.length 395 [.d (.int .u8 a0)] h2) (λv5 h6=>
 fin .pure H H.length [v5] h6) (λp7 h8=>finP .pure H H.length p7 h8):=by
 unfold o345_0
 refine (oG 4).trans ?_
 generalize opsK2 _ _ _=X
 kernel_rfl
end
theorem R377 (a0:Int):bodyK2 P tab c l u 377 [.d (.int .u8 a0)] H =
 liftR (c H.length H.length 395 [.d (.int .u8 a0)] H) (λv1 h2=>
 br3 v1 ((iBin P .add 5 (.d (.int .u8 a0)) (.d (.int .u8 32))).bind λv3=>
 fin .pure H H.length [v3] h2) (fin .pure H H.length [.d (.int .u8 a0)] h2)) (λp4 h5=>finP .pure H H.length p4 h5):=by kernel_rfl
section
variable (a0:Int)(v1 v2 v3:IV)
abbrev C347 (c:Oracle)(l u:Nat)(H:Hp):Ctx:=⟨P,tab,c,H.length,H.length⟩
abbrev k347 (c:Oracle)(l u:Nat)(H:Hp):KR:=endK P (fnOf 347) .pure H H.length
def en347_0:Env:=mkE 17 [(0,.d (.int .u8 a0)),(2,.d (.bool false))]
def q347_0 (c:Oracle)(l u:Nat)(H:Hp):KR:=popK (C347 c l u H) [] (k347 c l u H) [.sq (cd 347 [1,1])]
def o347_0 (c:Oracle)(l u:Nat)(H:Hp) (n:Nat) (e:Env) (G:Hp):Res:=opsK2 (C347 c l u H) none (rg 347 [1,0]) (dr 347 [1,0] n) e G (q347_0 c l u H)
def en347_1:Env:=mkE 17 [(0,.d (.int .u8 a0)),(2,.d (.bool false)),(3,.d (.int .u8 a0)),(4,v1),(5,.d (.bool true)),(6,.no)]
def en347_2:Env:=mkE 17 [(0,.d (.int .u8 a0)),(2,.d (.bool false)),(3,.d (.int .u8 a0)),(4,v1),(5,.d (.bool false)),(6,.d (.int .u8 a0))]
def en347_3:Env:=mkE 17 [(0,.d (.int .u8 a0)),(2,.d (.bool false)),(3,.d (.int .u8 a0)),(4,v1),(5,.d (.bool false)),(6,.d (.int .u8 a0)),(7,v2),(8,v2),(9,.d (.bool true)),(10,.no)]
def en347_4:Env:=mkE 17 [(0,.d (.int .u8 a0)),(2,.d (.bool false)),(3,.d (.int .u8 a0)),(4,v1),(5,.d (.bool false)),(6,.d (.int .u8 a0)),(7,v2),(8,v2),(9,.d (.bool false)),(10,.d (.int .u8 a0))]
def en347_5:Env:=upE (en347_4 a0 v1 v2) [(11,v3),(12,v3),(13,.d (.bool true)),(14,.no)]
def en347_6:Env:=upE (en347_5 a0 v1 v2 v3) [(13,.d (.bool false)),(14,.d (.int .u8 a0))]
theorem R347:bodyK2 P tab c l u 347 [.d (.int .u8 a0)] H =
 o347_0 c l u H 0 (en347_0 a0) H:=by kernel_rfl
theorem g347_0:o347_0 c l u H 0 (en347_0 a0) H=(iBin P .eql 5 (.d (.int .u8 a0)) (.d (.int .u8 9))).bind λv1=>
 brN3 v1 (o347_0 c l u H 4 (en347_1 a0 v1) H) (o347_0 c l u H 4 (en347_2 a0 v1) H) (o347_0 c l u H 4 (List.set (en347_1 a0 v1) 5 v1) H):=by
 unfold o347_0
 refine (oG 4).trans ?_
 generalize opsK2 _ _ _=X
 kernel_rfl
theorem g347_1:o347_0 c l u H 4 (en347_1 a0 v1) H =
 fin .pure H H.length [.d (.bool true)] H:=by
 unfold o347_0
 refine (oG 12).trans ?_
 generalize opsK2 _ _ _=X
 kernel_rfl
theorem g347_2:o347_0 c l u H 4 (en347_2 a0 v1) H=(iBin P .eql 5 (.d (.int .u8 a0)) (.d (.int .u8 10))).bind λv2=>
 brN3 v2 (o347_0 c l u H 8 (en347_3 a0 v1 v2) H) (o347_0 c l u H 8 (en347_4 a0 v1 v2) H) (o347_0 c l u H 8 (List.set (en347_3 a0 v1 v2) 9 v2) H):=by
 unfold o347_0
 refine (oG 4).trans ?_
 generalize opsK2 _ _ _=X
 kernel_rfl
theorem g347_3:o347_0 c l u H 8 (en347_3 a0 v1 v2) H =
 fin .pure H H.length [.d (.bool true)] H:=by
 unfold o347_0
 refine (oG 8).trans ?_
 generalize opsK2 _ _ _=X
 kernel_rfl
theorem g347_4:o347_0 c l u H 8 (en347_4 a0 v1 v2) H=(iBin P .eql 5 (.d (.int .u8 a0)) (.d (.int .u8 13))).bind λv3=>
 brN3 v3 (o347_0 c l u H 12 (en347_5 a0 v1 v2 v3) H) (o347_0 c l u H 12 (en347_6 a0 v1 v2 v3) H) (o347_0 c l u H 12 (List.set (en347_5 a0 v1 v2 v3) 13 v3) H):=by
 unfold o347_0
 refine (oG 4).trans ?_
 generalize opsK2 _ _ _=X
 kernel_rfl
theorem g347_5:o347_0 c l u H 12 (en347_5 a0 v1 v2 v3) H =
 fin .pure H H.length [.d (.bool true)] H:=by
 unfold o347_0
 refine (oG 4).trans ?_
 generalize opsK2 _ _ _=X
 kernel_rfl
theorem g347_6:o347_0 c l u H 12 (en347_6 a0 v1 v2 v3) H=(iBin P .eql 5 (.d (.int .u8 a0)) (.d (.int .u8 32))).bind λv4=>
 fin .pure H H.length [v4] H:=by
 unfold o347_0
 refine (oG 4).trans ?_
 generalize opsK2 _ _ _=X
 kernel_rfl
end
section
variable (a0:Int)(v1:IV)
abbrev C421 (c:Oracle)(l u:Nat)(H:Hp):Ctx:=⟨P,tab,c,H.length,H.length⟩
abbrev k421 (c:Oracle)(l u:Nat)(H:Hp):KR:=endK P (fnOf 421) .pure H H.length
def en421_0:Env:=mkE 9 [(0,.d (.int .u8 a0)),(2,.d (.bool false))]
def q421_0 (c:Oracle)(l u:Nat)(H:Hp):KR:=popK (C421 c l u H) [] (k421 c l u H) [.sq (cd 421 [1,1])]
def o421_0 (c:Oracle)(l u:Nat)(H:Hp) (n:Nat) (e:Env) (G:Hp):Res:=opsK2 (C421 c l u H) none (rg 421 [1,0]) (dr 421 [1,0] n) e G (q421_0 c l u H)
def en421_1:Env:=mkE 9 [(0,.d (.int .u8 a0)),(2,.d (.bool false)),(3,.d (.int .u8 a0)),(4,v1),(5,.d (.bool true)),(6,.no)]
def en421_2:Env:=mkE 9 [(0,.d (.int .u8 a0)),(2,.d (.bool false)),(3,.d (.int .u8 a0)),(4,v1),(5,.d (.bool false)),(6,.d (.int .u8 a0))]
theorem R421:bodyK2 P tab c l u 421 [.d (.int .u8 a0)] H =
 o421_0 c l u H 0 (en421_0 a0) H:=by kernel_rfl
theorem g421_0:o421_0 c l u H 0 (en421_0 a0) H=(iBin P .eql 5 (.d (.int .u8 a0)) (.d (.int .u8 9))).bind λv1=>
 brN3 v1 (o421_0 c l u H 4 (en421_1 a0 v1) H) (o421_0 c l u H 4 (en421_2 a0 v1) H) (o421_0 c l u H 4 (List.set (en421_1 a0 v1) 5 v1) H):=by
 unfold o421_0
 refine (oG 4).trans ?_
 generalize opsK2 _ _ _=X
 kernel_rfl
theorem g421_1:o421_0 c l u H 4 (en421_1 a0 v1) H =
 fin .pure H H.length [.d (.bool true)] H:=by
 unfold o421_0
 refine (oG 4).trans ?_
 generalize opsK2 _ _ _=X
 kernel_rfl
theorem g421_2:o421_0 c l u H 4 (en421_2 a0 v1) H=(iBin P .eql 5 (.d (.int .u8 a0)) (.d (.int .u8 32))).bind λv2=>
 fin .pure H H.length [v2] H:=by
 unfold o421_0
 refine (oG 4).trans ?_
 generalize opsK2 _ _ _=X
 kernel_rfl
end
theorem R332 (a0:Int):bodyK2 P tab c l u 332 [.d (.int .u8 a0)] H =
 liftR (c H.length H.length 347 [.d (.int .u8 a0)] H) (λv1 h2=>
 fin .pure H H.length [v1] h2) (λp3 h4=>finP .pure H H.length p3 h4):=by kernel_rfl
theorem R380 (a0:Int):bodyK2 P tab c l u 380 [.d (.int .u8 a0)] H =
 liftR (c H.length H.length 421 [.d (.int .u8 a0)] H) (λv1 h2=>
 fin .pure H H.length [v1] h2) (λp3 h4=>finP .pure H H.length p3 h4):=by kernel_rfl
section
variable (a0:Int)(h2 h6:Hp)(v1 v5:IV)
abbrev C278 (c:Oracle)(l u:Nat)(H:Hp):Ctx:=⟨P,tab,c,H.length,H.length⟩
abbrev k278 (c:Oracle)(l u:Nat)(H:Hp):KR:=endK P (fnOf 278) .pure H H.length
def en278_0:Env:=mkE 14 [(0,.d (.int .u8 a0)),(2,.d (.bool false))]
def q278_0 (c:Oracle)(l u:Nat)(H:Hp):KR:=popK (C278 c l u H) [] (k278 c l u H) [.sq (cd 278 [1,1])]
def o278_0 (c:Oracle)(l u:Nat)(H:Hp) (n:Nat) (e:Env) (G:Hp):Res:=opsK2 (C278 c l u H) none (rg 278 [1,0]) (dr 278 [1,0] n) e G (q278_0 c l u H)
def en278_1:Env:=mkE 14 [(0,.d (.int .u8 a0)),(2,.d (.bool false)),(3,.d (.int .u8 a0)),(4,v1),(5,.d (.bool true)),(6,.no)]
def en278_2:Env:=mkE 14 [(0,.d (.int .u8 a0)),(2,.d (.bool false)),(3,.d (.int .u8 a0)),(4,v1),(5,.d (.bool false)),(6,.d (.int .u8 a0))]
def en278_3:Env:=mkE 14 [(0,.d (.int .u8 a0)),(2,.d (.bool false)),(3,.d (.int .u8 a0)),(4,v1),(5,.d (.bool false)),(6,.d (.int .u8 a0)),(7,v5),(8,v5),(9,.d (.bool true)),(10,.no)]
def en278_4:Env:=mkE 14 [(0,.d (.int .u8 a0)),(2,.d (.bool false)),(3,.d (.int .u8 a0)),(4,v1),(5,.d (.bool false)),(6,.d (.int .u8 a0)),(7,v5),(8,v5),(9,.d (.bool false)),(10,.d (.int .u8 a0))]
theorem R278:bodyK2 P tab c l u 278 [.d (.int .u8 a0)] H =
 o278_0 c l u H 0 (en278_0 a0) H:=by kernel_rfl
theorem g278_0:o278_0 c l u H 0 (en278_0 a0) H =
 liftR (c H.length H.length 345 [.d (.int .u8 a0)] H) (λv1 h2=>
 brN3 v1 (o278_0 c l u H 4 (en278_1 a0 v1) h2) (o278_0 c l u H 4 (en278_2 a0 v1) h2) (o278_0 c l u H 4 (List.set (en278_1 a0 v1) 5 v1) h2)) (λp3 h4=>finP .pure H H.length p3 h4):=by
 unfold o278_0
 refine (oG 4).trans ?_
 generalize opsK2 _ _ _=X
 kernel_rfl
theorem g278_1:o278_0 c l u H 4 (en278_1 a0 v1) h2 =
 fin .pure H H.length [.d (.bool true)] h2:=by
 unfold o278_0
 refine (oG 9).trans ?_
 generalize opsK2 _ _ _=X
 kernel_rfl
theorem g278_2:o278_0 c l u H 4 (en278_2 a0 v1) h2 =
 liftR (c H.length H.length 339 [.d (.int .u8 a0)] h2) (λv5 h6=>
 brN3 v5 (o278_0 c l u H 8 (en278_3 a0 v1 v5) h6) (o278_0 c l u H 8 (en278_4 a0 v1 v5) h6) (o278_0 c l u H 8 (List.set (en278_3 a0 v1 v5) 9 v5) h6)) (λp7 h8=>finP .pure H H.length p7 h8):=by
 unfold o278_0
 refine (oG 4).trans ?_
 generalize opsK2 _ _ _=X
 kernel_rfl
theorem g278_3:o278_0 c l u H 8 (en278_3 a0 v1 v5) h6 =
 fin .pure H H.length [.d (.bool true)] h6:=by
 unfold o278_0
 refine (oG 5).trans ?_
 generalize opsK2 _ _ _=X
 kernel_rfl
theorem g278_4:o278_0 c l u H 8 (en278_4 a0 v1 v5) h6 =
 liftR (c H.length H.length 264 [.d (.str [33,35,36,37,38,39,42,43,45,46,94,95,124,126,96]),.d (.int .u8 a0)] h6) (λv9 h10=>(iBin P .geq 3 v9 (.d (.int .i64 0))).bind λv11=>
 fin .pure H H.length [v11] h10) (λp12 h13=>finP .pure H H.length p12 h13):=by
 unfold o278_0
 refine (oG 5).trans ?_
 generalize opsK2 _ _ _=X
 kernel_rfl
end
section
variable (a0:Int)(v1 v2 v3:IV)
abbrev C446 (c:Oracle)(l u:Nat)(H:Hp):Ctx:=⟨P,tab,c,H.length,H.length⟩
abbrev k446 (c:Oracle)(l u:Nat)(H:Hp):KR:=endK P (fnOf 446) .pure H H.length
def en446_0:Env:=mkE 17 [(0,.d (.int .u8 a0)),(2,.d (.bool false))]
def q446_0 (c:Oracle)(l u:Nat)(H:Hp):KR:=popK (C446 c l u H) [] (k446 c l u H) [.sq (cd 446 [1,1])]
def o446_0 (c:Oracle)(l u:Nat)(H:Hp) (n:Nat) (e:Env) (G:Hp):Res:=opsK2 (C446 c l u H) none (rg 446 [1,0]) (dr 446 [1,0] n) e G (q446_0 c l u H)
def en446_1:Env:=mkE 17 [(0,.d (.int .u8 a0)),(2,.d (.bool false)),(3,.d (.int .u8 a0)),(4,v1),(5,.d (.bool true)),(6,.no)]
def en446_2:Env:=mkE 17 [(0,.d (.int .u8 a0)),(2,.d (.bool false)),(3,.d (.int .u8 a0)),(4,v1),(5,.d (.bool false)),(6,.d (.int .u8 a0))]
def en446_3:Env:=mkE 17 [(0,.d (.int .u8 a0)),(2,.d (.bool false)),(3,.d (.int .u8 a0)),(4,v1),(5,.d (.bool false)),(6,.d (.int .u8 a0)),(7,v2),(8,.d (.bool true)),(9,.d (.int .u8 a0))]
def en446_4:Env:=mkE 17 [(0,.d (.int .u8 a0)),(2,.d (.bool false)),(3,.d (.int .u8 a0)),(4,v1),(5,.d (.bool false)),(6,.d (.int .u8 a0)),(7,v2),(8,.d (.bool false)),(9,.no)]
def en446_5:Env:=upE (en446_3 a0 v1 v2) [(10,v3),(11,v3),(12,v3),(13,.d (.bool true)),(14,.no)]
def en446_6:Env:=upE (en446_5 a0 v1 v2 v3) [(13,.d (.bool false)),(14,.d (.int .u8 a0))]
theorem R446:bodyK2 P tab c l u 446 [.d (.int .u8 a0)] H =
 o446_0 c l u H 0 (en446_0 a0) H:=by kernel_rfl
theorem g446_0:o446_0 c l u H 0 (en446_0 a0) H=(iBin P .eql 5 (.d (.int .u8 a0)) (.d (.int .u8 9))).bind λv1=>
 brN3 v1 (o446_0 c l u H 4 (en446_1 a0 v1) H) (o446_0 c l u H 4 (en446_2 a0 v1) H) (o446_0 c l u H 4 (List.set (en446_1 a0 v1) 5 v1) H):=by
 unfold o446_0
 refine (oG 4).trans ?_
 generalize opsK2 _ _ _=X
 kernel_rfl
theorem g446_1:o446_0 c l u H 4 (en446_1 a0 v1) H =
 fin .pure H H.length [.d (.bool true)] H:=by
 unfold o446_0
 refine (oG 12).trans ?_
 generalize opsK2 _ _ _=X
 kernel_rfl
theorem g446_2:o446_0 c l u H 4 (en446_2 a0 v1) H=(iBin P .geq 5 (.d (.int .u8 a0)) (.d (.int .u8 32))).bind λv2=>
 brN3 v2 (o446_0 c l u H 7 (en446_3 a0 v1 v2) H) (o446_0 c l u H 7 (en446_4 a0 v1 v2) H) (o446_0 c l u H 7 (List.set (en446_4 a0 v1 v2) 8 v2) H):=by
 unfold o446_0
 refine (oG 3).trans ?_
 generalize opsK2 _ _ _=X
 kernel_rfl
theorem g446_3:o446_0 c l u H 7 (en446_3 a0 v1 v2) H=(iBin P .leq 5 (.d (.int .u8 a0)) (.d (.int .u8 126))).bind λv3=>
 brN3 v3 (o446_0 c l u H 12 (en446_5 a0 v1 v2 v3) H) (o446_0 c l u H 12 (en446_6 a0 v1 v2 v3) H) (o446_0 c l u H 12 (List.set (en446_5 a0 v1 v2 v3) 13 v3) H):=by
 unfold o446_0
 refine (oG 5).trans ?_
 generalize opsK2 _ _ _=X
 kernel_rfl
theorem g446_4:o446_0 c l u H 7 (en446_4 a0 v1 v2) H=(iBin P .geq 5 (.d (.int .u8 a0)) (.d (.int .u8 128))).bind λv4=>
 fin .pure H H.length [v4] H:=by
 unfold o446_0
 refine (oG 9).trans ?_
 generalize opsK2 _ _ _=X
 kernel_rfl
theorem g446_5:o446_0 c l u H 12 (en446_5 a0 v1 v2 v3) H =
 fin .pure H H.length [.d (.bool true)] H:=by
 unfold o446_0
 refine (oG 4).trans ?_
 generalize opsK2 _ _ _=X
 kernel_rfl
theorem g446_6:o446_0 c l u H 12 (en446_6 a0 v1 v2 v3) H=(iBin P .geq 5 (.d (.int .u8 a0)) (.d (.int .u8 128))).bind λv5=>
 fin .pure H H.length [v5] H:=by
 unfold o446_0
 refine (oG 4).trans ?_
 generalize opsK2 _ _ _=X
 kernel_rfl
end
theorem R340 (a0:List UInt8) (a1:Int):bodyK2 P tab c l u 340 [.d (.str a0),.d (.int .u8 a1)] H =
 liftR (c H.length H.length 392 [.d (.str a0),.d (.int .u8 a1)] H) (λv1 h2=>
 fin .pure H H.length [v1] h2) (λp3 h4=>finP .pure H H.length p3 h4):=by kernel_rfl
theorem R264 (a0:List UInt8) (a1:Int):bodyK2 P tab c l u 264 [.d (.str a0),.d (.int .u8 a1)] H =
 liftR (c H.length H.length 340 [.d (.str a0),.d (.int .u8 a1)] H) (λv1 h2=>
 fin .pure H H.length [v1] h2) (λp3 h4=>finP .pure H H.length p3 h4):=by kernel_rfl
section
variable (a0 a1:List UInt8)(e0 e1 e4 e12 e13:IV)(G:Hp)
abbrev C308 (c:Oracle)(l u:Nat)(H:Hp):Ctx:=⟨P,tab,c,H.length,H.length⟩
abbrev k308 (c:Oracle)(l u:Nat)(H:Hp):KR:=endK P (fnOf 308) .pure H H.length
def E308:Env:=[e0,e1,.un,.un,e4,.un,.un,.un,.un,.un,.un,.un,e12,e13,.un,.un,.un,.un,.un,.un,.un,.un,.un,.un,.un,.un]
theorem R308:bodyK2 P tab c l u 308 [.d (.str a0),.d (.str a1)] H=(lnS (.d (.str a0))).bind λv1=>(lnS (.d (.str a1))).bind λv2=>(iBin P .neq 3 v1 v2).bind λv3=>
 br3 v3 (fin .pure H H.length [.d (.bool false)] H) ((lnS (.d (.str a0))).bind λv4=>(loopW (stepL (C308 c l u H) [0,1,4,12,13] (cd 308 [1,1,0,1,0,0])) ((E308 (.d (.str a0)) (.d (.str a1)) (.d (.bool false)) v4 (.d (.int .i64 0))),H)).bind λr5=>popK (C308 c l u H) [0,1,4,12,13] (k308 c l u H) [.bk 0,.sq (cd 308 [1,1,1])] r5.1 r5.2.1 r5.2.2):=by kernel_rfl
theorem B308_0:stepL (C308 c l u H) [0,1,4,12,13] (cd 308 [1,1,0,1,0,0]) ((E308 e0 e1 e4 e12 e13),G)=(iBin P .lss 3 e13 e12).bind λv6=>
 br3 v6 ((ixS e0 e13).bind λv7=>
 liftR (c H.length H.length 377 [v7] G) (λv8 h9=>(ixS e1 e13).bind λv10=>
 liftR (c H.length H.length 377 [v10] h9) (λv11 h12=>(iBin P .neq 5 v8 v11).bind λv13=>
 br3 v13 (some (.inr (.ret,(E308 e0 e1 (.d (.bool false)) e12 e13),h12))) ((iBin P .add 3 e13 (.d (.int .i64 1))).bind λv14=>
 some (.inl ((E308 e0 e1 e4 e12 v14),h12)))) (λp15 h16=>none)) (λp17 h18=>none)) (some (.inr (.exi 0,(E308 e0 e1 e4 e12 e13),G))):=by kernel_rfl
theorem K308_0x0:popK (C308 c l u H) [0,1,4,12,13] (k308 c l u H) [.bk 0,.sq (cd 308 [1,1,1])] (.exi 0) (E308 e0 e1 e4 e12 e13) G =
 fin .pure H H.length [.d (.bool true)] G:=by kernel_rfl
theorem K308_0r:popK (C308 c l u H) [0,1,4,12,13] (k308 c l u H) [.bk 0,.sq (cd 308 [1,1,1])] (.ret) (E308 e0 e1 e4 e12 e13) G =
 fin .pure H H.length [e4] G:=by kernel_rfl
end
theorem R241 (a0:List UInt8) (a1:List UInt8):bodyK2 P tab c l u 241 [.d (.str a0),.d (.str a1)] H =
 liftR (c H.length H.length 308 [.d (.str a0),.d (.str a1)] H) (λv1 h2=>
 fin .pure H H.length [v1] h2) (λp3 h4=>finP .pure H H.length p3 h4):=by kernel_rfl
section
variable (a0:List UInt8)(a1 e0 e1 e5:IV)(G:Hp)(v3:IV)
abbrev C346 (c:Oracle)(l u:Nat)(H:Hp):Ctx:=⟨P,tab,c,H.length,H.length⟩
abbrev k346 (c:Oracle)(l u:Nat)(H:Hp):KR:=endK P (fnOf 346) .pure H H.length
def E346:Env:=[e0,e1,.un,.un,.un,e5,.un,.un,.un,.un,.un,.un,.un,.un,.un,.un,.un,.un,.un,.un,.un]
def en346_0:Env:=mkE 21 [(0,e0),(1,e1),(5,e5)]
def q346_0 (c:Oracle)(l u:Nat)(H:Hp):Ex→Env→Hp→OS:=popK (C346 c l u H) [0,1,5] (stepK [0,1,5]) [.sq (cd 346 [1,1,0,0,0,0,1]),.sq (cd 346 [1,1,0,0,0,1])]
def o346_0 (c:Oracle)(l u:Nat)(H:Hp) (n:Nat) (e:Env) (G:Hp):OS:=opsK2 (C346 c l u H) none (rg 346 [1,1,0,0,0,0,0]) (dr 346 [1,1,0,0,0,0,0] n) e G (q346_0 c l u H)
def en346_1:Env:=mkE 21 [(0,e0),(1,e1),(5,e5),(8,e5),(9,v3),(10,.d (.bool true)),(11,e1)]
def en346_2:Env:=mkE 21 [(0,e0),(1,e1),(5,e5),(8,e5),(9,v3),(10,.d (.bool false)),(11,.no)]
theorem R346:bodyK2 P tab c l u 346 [.d (.str a0),a1] H=(lnS (.d (.str a0))).bind λv1=>(loopW (stepL (C346 c l u H) [0,1,5] (cd 346 [1,1,0,0,0])) ((E346 (.d (.str a0)) a1 v1),H)).bind λr2=>popK (C346 c l u H) [0,1,5] (k346 c l u H) [.bk 0,.sq (cd 346 [1,1,1])] r2.1 r2.2.1 r2.2.2:=by kernel_rfl
theorem B346_0:stepL (C346 c l u H) [0,1,5] (cd 346 [1,1,0,0,0]) ((E346 e0 e1 e5),G) =
 o346_0 c l u H 0 (en346_0 e0 e1 e5) G:=by kernel_rfl
theorem g346_0 (G:Hp) (e0 e1 e5:IV):o346_0 c l u H 0 (en346_0 e0 e1 e5) G=(iBin P .gtr 3 e5 (.d (.int .i64 0))).bind λv3=>
 brN3 v3 (o346_0 c l u H 4 (en346_1 e0 e1 e5 v3) G) (o346_0 c l u H 4 (en346_2 e0 e1 e5 v3) G) (o346_0 c l u H 4 (List.set (en346_2 e0 e1 e5 v3) 10 v3) G):=by
 unfold o346_0
 refine (oG 4).trans ?_
 generalize opsK2 _ _ _=X
 kernel_rfl
theorem g346_1 (G:Hp) (e0 e1 e5 v3:IV):o346_0 c l u H 4 (en346_1 e0 e1 e5 v3) G=(iBin P .sub 3 e5 (.d (.int .i64 1))).bind λv4=>(ixS e0 v4).bind λv5=>
 goVal3 (C346 c l u H) e1 [v5] G (λv6 h7=>
 br3 v6 ((iBin P .sub 3 e5 (.d (.int .i64 1))).bind λv8=>
 some (.inl ((E346 e0 e1 v8),h7))) (some (.inr (.exi 0,(E346 e0 e1 e5),h7)))) (λp9 h10=>some (.inr (.pan p9,(E346 e0 e1 e5),h10))):=by
 unfold o346_0
 refine (oG 7).trans ?_
 generalize opsK2 _ _ _=X
 kernel_rfl
theorem g346_2 (G:Hp) (e0 e1 e5 v3:IV):o346_0 c l u H 4 (en346_2 e0 e1 e5 v3) G =
 some (.inr (.exi 0,(E346 e0 e1 e5),G)):=by
 unfold o346_0
 refine (oG 7).trans ?_
 generalize opsK2 _ _ _=X
 kernel_rfl
theorem K346_0x0:popK (C346 c l u H) [0,1,5] (k346 c l u H) [.bk 0,.sq (cd 346 [1,1,1])] (.exi 0) (E346 e0 e1 e5) G =
 fin .pure H H.length [e5] G:=by kernel_rfl
end
section
variable (a0:List UInt8)(e0 e3:IV)(G:Hp)(v7 v8:IV)
abbrev C279 (c:Oracle)(l u:Nat)(H:Hp):Ctx:=⟨P,tab,c,H.length,H.length⟩
abbrev k279 (c:Oracle)(l u:Nat)(H:Hp):KR:=endK P (fnOf 279) .pure H H.length
def E279:Env:=[e0,.un,.un,e3,.un,.un,.un,.un,.un,.un,.un,.un,.un,.un,.un,.un,.un,.un,.un,.un,.un,.un,.un]
def en279_0:Env:=mkE 23 [(0,e0),(3,e3)]
def q279_0 (c:Oracle)(l u:Nat)(H:Hp):Ex→Env→Hp→OS:=popK (C279 c l u H) [0,3] (stepK [0,3]) [.sq (cd 279 [1,1,1,0,0,0,0,1]),.sq (cd 279 [1,1,1,0,0,0,1])]
def o279_0 (c:Oracle)(l u:Nat)(H:Hp) (n:Nat) (e:Env) (G:Hp):OS:=opsK2 (C279 c l u H) none (rg 279 [1,1,1,0,0,0,0,0]) (dr 279 [1,1,1,0,0,0,0,0] n) e G (q279_0 c l u H)
def en279_1:Env:=mkE 23 [(0,e0),(3,e3),(8,e3),(9,e0),(10,v7),(11,v8),(12,.d (.bool true)),(13,e0)]
def en279_2:Env:=mkE 23 [(0,e0),(3,e3),(8,e3),(9,e0),(10,v7),(11,v8),(12,.d (.bool false)),(13,.no)]
theorem R279:bodyK2 P tab c l u 279 [.d (.str a0)] H =
 liftR (c H.length H.length 346 [.d (.str a0),.fn 347 [] []] H) (λv1 h2=>(slS (.d (.str a0)) none (some v1)).bind λv3=>(loopW (stepL (C279 c l u H) [0,3] (cd 279 [1,1,1,0,0,0])) ((E279 v3 (.d (.int .i64 0))),h2)).bind λr4=>popK (C279 c l u H) [0,3] (k279 c l u H) [.bk 0,.sq (cd 279 [1,1,1,1])] r4.1 r4.2.1 r4.2.2) (λp5 h6=>finP .pure H H.length p5 h6):=by kernel_rfl
theorem B279_0:stepL (C279 c l u H) [0,3] (cd 279 [1,1,1,0,0,0]) ((E279 e0 e3),G) =
 o279_0 c l u H 0 (en279_0 e0 e3) G:=by kernel_rfl
theorem g279_0 (G:Hp) (e0 e3:IV):o279_0 c l u H 0 (en279_0 e0 e3) G=(lnS e0).bind λv7=>(iBin P .lss 3 e3 v7).bind λv8=>
 brN3 v8 (o279_0 c l u H 6 (en279_1 e0 e3 v7 v8) G) (o279_0 c l u H 6 (en279_2 e0 e3 v7 v8) G) (o279_0 c l u H 6 (List.set (en279_2 e0 e3 v7 v8) 12 v8) G):=by
 unfold o279_0
 refine (oG 6).trans ?_
 generalize opsK2 _ _ _=X
 kernel_rfl
theorem g279_1 (G:Hp) (e0 e3 v7 v8:IV):o279_0 c l u H 6 (en279_1 e0 e3 v7 v8) G=(ixS e0 e3).bind λv9=>
 liftR (c H.length H.length 347 [v9] G) (λv10 h11=>
 br3 v10 ((iBin P .add 3 e3 (.d (.int .i64 1))).bind λv12=>
 some (.inl ((E279 e0 v12),h11))) (some (.inr (.exi 0,(E279 e0 e3),h11)))) (λp13 h14=>some (.inr (.pan p13,(E279 e0 e3),h14))):=by
 unfold o279_0
 refine (oG 5).trans ?_
 generalize opsK2 _ _ _=X
 kernel_rfl
theorem g279_2 (G:Hp) (e0 e3 v7 v8:IV):o279_0 c l u H 6 (en279_2 e0 e3 v7 v8) G =
 some (.inr (.exi 0,(E279 e0 e3),G)):=by
 unfold o279_0
 refine (oG 5).trans ?_
 generalize opsK2 _ _ _=X
 kernel_rfl
theorem K279_0x0:popK (C279 c l u H) [0,3] (k279 c l u H) [.bk 0,.sq (cd 279 [1,1,1,1])] (.exi 0) (E279 e0 e3) G=(slS e0 (some e3) none).bind λv15=>
 fin .pure H H.length [v15] G:=by kernel_rfl
end
theorem R417 (a0:List UInt8):bodyK2 P tab c l u 417 [.d (.str a0)] H =
 liftR (c H.length H.length 346 [.d (.str a0),.fn 421 [] []] H) (λv1 h2=>(slS (.d (.str a0)) none (some v1)).bind λv3=>
 fin .pure H H.length [v3] h2) (λp4 h5=>finP .pure H H.length p4 h5):=by kernel_rfl
section
variable (a0:List UInt8)(a1 e0 e1 e5 e6:IV)(G:Hp)(v2:IV)
abbrev C344 (c:Oracle)(l u:Nat)(H:Hp):Ctx:=⟨P,tab,c,H.length,H.length⟩
abbrev k344 (c:Oracle)(l u:Nat)(H:Hp):KR:=endK P (fnOf 344) .pure H H.length
def E344:Env:=[e0,e1,.un,.un,.un,e5,e6,.un,.un,.un,.un,.un,.un,.un,.un,.un,.un,.un,.un,.un,.un,.un,.un,.un,.un]
def en344_0:Env:=mkE 25 [(0,e0),(1,e1),(5,e5),(6,e6)]
def q344_0 (c:Oracle)(l u:Nat)(H:Hp):Ex→Env→Hp→OS:=popK (C344 c l u H) [0,1,5,6] (stepK [0,1,5,6]) [.sq (cd 344 [1,1,0,1,0,0,0,1]),.sq (cd 344 [1,1,0,1,0,0,1])]
def o344_0 (c:Oracle)(l u:Nat)(H:Hp) (n:Nat) (e:Env) (G:Hp):OS:=opsK2 (C344 c l u H) none (rg 344 [1,1,0,1,0,0,0,0]) (dr 344 [1,1,0,1,0,0,0,0] n) e G (q344_0 c l u H)
def en344_1:Env:=mkE 25 [(0,e0),(1,e1),(5,e5),(6,e6),(7,e1),(8,v2),(9,.d (.bool true)),(10,e6)]
def en344_2:Env:=mkE 25 [(0,e0),(1,e1),(5,e5),(6,e6),(7,e1),(8,v2),(9,.d (.bool false)),(10,.no)]
theorem R344:bodyK2 P tab c l u 344 [.d (.str a0),a1] H=(loopW (stepL (C344 c l u H) [0,1,5,6] (cd 344 [1,1,0,1,0,0])) ((E344 (.d (.str a0)) a1 (.d (.int .i64 0)) (.d (.int .i64 0))),H)).bind λr1=>popK (C344 c l u H) [0,1,5,6] (k344 c l u H) [.bk 0,.sq (cd 344 [1,1,1])] r1.1 r1.2.1 r1.2.2:=by kernel_rfl
theorem B344_0:stepL (C344 c l u H) [0,1,5,6] (cd 344 [1,1,0,1,0,0]) ((E344 e0 e1 e5 e6),G) =
 o344_0 c l u H 0 (en344_0 e0 e1 e5 e6) G:=by kernel_rfl
theorem g344_0 (G:Hp) (e0 e1 e5 e6:IV):o344_0 c l u H 0 (en344_0 e0 e1 e5 e6) G=(iBin P .neq 140 e1 .nofn).bind λv2=>
 brN3 v2 (o344_0 c l u H 4 (en344_1 e0 e1 e5 e6 v2) G) (o344_0 c l u H 4 (en344_2 e0 e1 e5 e6 v2) G) (o344_0 c l u H 4 (List.set (en344_2 e0 e1 e5 e6 v2) 9 v2) G):=by
 unfold o344_0
 refine (oG 4).trans ?_
 generalize opsK2 _ _ _=X
 kernel_rfl
theorem g344_1 (G:Hp) (e0 e1 e5 e6 v2:IV):o344_0 c l u H 4 (en344_1 e0 e1 e5 e6 v2) G=(lnS e0).bind λv3=>(iBin P .lss 3 e6 v3).bind λv4=>
 br3 v4 ((ixS e0 e6).bind λv5=>
 goVal3 (C344 c l u H) e1 [v5] G (λv6 h7=>
 br3 v6 ((iBin P .add 3 e5 (.d (.int .i64 1))).bind λv8=>(iBin P .add 3 e6 (.d (.int .i64 1))).bind λv9=>
 some (.inl ((E344 e0 e1 v8 v9),h7))) ((iBin P .add 3 e6 (.d (.int .i64 1))).bind λv10=>
 some (.inl ((E344 e0 e1 e5 v10),h7)))) (λp11 h12=>some (.inr (.pan p11,(E344 e0 e1 e5 e6),h12)))) (some (.inr (.exi 0,(E344 e0 e1 e5 e6),G))):=by
 unfold o344_0
 refine (oG 5).trans ?_
 generalize opsK2 _ _ _=X
 kernel_rfl
theorem K344_0x0:popK (C344 c l u H) [0,1,5,6] (k344 c l u H) [.bk 0,.sq (cd 344 [1,1,1])] (.exi 0) (E344 e0 e1 e5 e6) G =
 fin .pure H H.length [e5] G:=by kernel_rfl
end
theorem R277 (a0:List UInt8) (a1:IV):bodyK2 P tab c l u 277 [.d (.str a0),a1] H =
 liftR (c H.length H.length 344 [.d (.str a0),a1] H) (λv1 h2=>(lnS (.d (.str a0))).bind λv3=>(iBin P .eql 3 v1 v3).bind λv4=>
 fin .pure H H.length [v4] h2) (λp5 h6=>finP .pure H H.length p5 h6):=by kernel_rfl
end
end Go.Tg
