/- TopEveryPasses itself: its loop and its end. -/
import Derived.Test.YtnkobejhnphmhaaGreatDoorCj
import Derived.Test.YtnkobejhnphmhaaGreatDoorCk
set_option linter.all false
namespace Go.Tg
variable [Globs] {lim ro:Nat} {H:Hp}
attribute [local congr] bindC liftRC br3C brN3C
theorem s6m (hS:SysOK sys) (b:Bool) (l d:Int):run sys lim ro 6 [.agg [.d (.bool b),I64 l,I64 d]] H=some (.val (.d (.bool (goodR l d))),H):=by
 refine runP hS rfl (by kernel_rfl) rfl ?_
 rw [R6]
 have hb:iBox 23 (.agg [.d (.bool b),I64 l,I64 d]) []=some (.ptr ([]:Hp).length 0,[]++[.cells 47 [.d (.bool b),.d (.int .i64 l),.d (.int .i64 d)]]):=rfl
 have k0:=g6_0 (run sys) 0 0 [] (.agg [.d (.bool b),I64 l,I64 d]) (.ptr ([]:Hp).length 0,[]++[.cells 47 [.d (.bool b),.d (.int .i64 l),.d (.int .i64 d)]])
 have k1:=g6_1 (run sys) 0 0 [] (.agg [.d (.bool b),I64 l,I64 d]) (.ptr ([]:Hp).length 0,[]++[.cells 47 [.d (.bool b),.d (.int .i64 l),.d (.int .i64 d)]])
 have k2:=g6_2 (run sys) 0 0 [] (.agg [.d (.bool b),I64 l,I64 d]) (.ptr ([]:Hp).length 0,[]++[.cells 47 [.d (.bool b),.d (.int .i64 l),.d (.int .i64 d)]])
 have k3:=g6_3 (run sys) 0 0 [] (.agg [.d (.bool b),I64 l,I64 d]) (.ptr ([]:Hp).length 0,[]++[.cells 47 [.d (.bool b),.d (.int .i64 l),.d (.int .i64 d)]])
 have k4:=g6_4 (run sys) 0 0 [] (.agg [.d (.bool b),I64 l,I64 d]) (.ptr ([]:Hp).length 0,[]++[.cells 47 [.d (.bool b),.d (.int .i64 l),.d (.int .i64 d)]])
 have k5:=g6_5 (run sys) 0 0 [] (.agg [.d (.bool b),I64 l,I64 d]) (.ptr ([]:Hp).length 0,[]++[.cells 47 [.d (.bool b),.d (.int .i64 l),.d (.int .i64 d)]])
 have k6:=g6_6 (run sys) 0 0 [] (.agg [.d (.bool b),I64 l,I64 d]) (.ptr ([]:Hp).length 0,[]++[.cells 47 [.d (.bool b),.d (.int .i64 l),.d (.int .i64 d)]])
 simp only [hb,bsome,k0,k1,k2,k3,k4,k5,k6,padd_ptr,ld1_new,Nat.zero_add,List.getElem?_cons_zero,List.getElem?_cons_succ,iBin_geq,iBin_leq,brN3_bool,fin_pure_d,goodR]
 cases decide ((1445:Int)≤l) <;> cases decide (l≤(1048576:Int)) <;> cases decide ((0:Int)≤d) <;> rfl
theorem iBin_errne (a b:Int):iBin P .neq 42 (.d (.int .i64 a)) (.d (.int .i64 b))=some (.d (.bool (decide (a≠b)))):=iBin_ineq 42 .i64 a b
theorem ix6 (n:Nat):ixA 6 (.vec n 6 0 1) (.d (.int .i64 0))=some (.ptr n 0):=rfl
section
variable {lg:Bool} {lk dp:Int} {url:List UInt8} {cr nc:Bool} {md stt:Int} {hs:List Hd} {kn:Bool}
variable {sb hb q:Nat} {x j0 j1 j2 j3 is sn qx:IV} {c a m o:Int}
theorem loop3 (hS:SysOK sys) (strs:List (List UInt8)) (hl:strs.length<2 ^ 34):∀ (k i:Nat) (G:Hp) (came work:Int),i+k=strs.length→G[sb]? = some (SB lg lk dp url cr nc md stt hs kn 3 hb x j0 j1 j2 j3 is came work sn)→G[hb]? = some (holdB q 1 c 0)→G[q]? = some (queB qx a m o) →
  ∃ G' came' work',loopW (stepL (C3 (run sys) 0 0 []) [1,4,7,11] (cd 3 [1,1,1,1,1,1,1,1,0,1,0,0])) (E3 (.d (.lst (strs.map .str))) (.d (.bool false)) (.ptr sb 0) (.d (.int .i64 (i:Nat))),G) =
   some (.exi 0,E3 (.d (.lst (strs.map .str))) (.d (.bool false)) (.ptr sb 0) (.d (.int .i64 (strs.length:Nat))),G')∧G'[sb]? = some (SB lg lk dp url cr nc md stt hs kn 3 hb x j0 j1 j2 j3 is came' work' sn):=by
 intro k
 induction k with
 | zero=>
  intro i G came work hi h1 _ _
  have hi':i=strs.length:=by omega
  subst hi'
  refine⟨G,came,work,loopW_done ?_,h1⟩
  have e1:decide ((strs.length:Int)<((strs.map D.str).length:Int))=false:=by simp
  rw [B3_0]
  simp only [lnV_lst,iBin_lss,bsome,br3_bool,e1,Bool.false_eq_true,if_false]
 | succ k ih=>
  intro i G came work hi h1 h2 h3
  have hlt:i<strs.length:=by omega
  have nb:sb≠hb:=by intro e;subst e;rw [h1] at h2;cases h2
  have nq:sb≠q:=by intro e;subst e;rw [h1] at h3;cases h3
  have e1:decide ((i:Int)<((strs.map D.str).length:Int))=true:=by simpa using hlt
  have e2:IntKind.i64.wrap ((i:Int)+1)=((i+1:Nat):Int):=by rw [wrap64 (by omega) (by omega)];simp
  obtain⟨out,G2,came',work',r1,o1,o2,g1,gl,gk⟩:=s10 hS strs[i] h1
  have g2:G2[hb]? = some (holdB q 1 c 0):=by rw [gk hb (get_lt h2) (Ne.symm nb)];exact h2
  have g3:G2[q]? = some (queB qx a m o):=by rw [gk q (get_lt h3) (Ne.symm nq)];exact h3
  have r2:=s11 (lim:=0) (ro:=0) hS g1 g2 g3
  obtain⟨L,hL⟩:∃ L,L=stepL (C3 (run sys) 0 0 []) [1,4,7,11] (cd 3 [1,1,1,1,1,1,1,1,0,1,0,0]) (E3 (.d (.lst (strs.map .str))) (.d (.bool false)) (.ptr sb 0) (.d (.int .i64 (i:Nat))),G):=⟨_,rfl⟩
  have hB:=hL.trans (B3_0 (run sys) 0 0 [] (.d (.lst (strs.map .str))) (.d (.bool false)) (.ptr sb 0) (.d (.int .i64 (i:Nat))) G)
  simp only [lnV_lst,iBin_lss,bsome,br3_bool,e1,if_true,g3_55,ixA_strs hlt,ld_lptr,List.getElem?_cons_zero,Option.map_some,List.length_nil,r1,lval,extup,List.getElem?_cons_succ,g3_56,iBin_errne,show decide ((0:Int)≠0)=false from rfl,brN3_bool,Bool.false_eq_true,if_false,g3_58,r2,iBin_ineq,g3_60,iBin_seql] at hB
  obtain⟨G',c2,w2,hloop,hg⟩:=ih (i+1) G2 came' work' (by omega) g1 g2 g3
  refine⟨G',c2,w2,loopW_next (hL.symm.trans (hB.trans ?_)) hloop,hg⟩
  by_cases hs0:strs[i]=[]
  ·simp only [hs0,decide_true,if_true,o1 hs0,g3_61,lnV_vnil,bsome,iBin_ineq,show decide ((((0:Nat):Int))≠0)=false from rfl,brN3_bool,Bool.false_eq_true,if_false,g3_64,ixA_strs hlt,ld_lptr,List.getElem?_cons_zero,Option.map_some,iBin_sneq,show decide (([]:List UInt8)≠[])=false from rfl,g3_68,iBin_add,e2]
  ·obtain⟨n,rfl,hn⟩:=o2 hs0
   have l0:ld1 (.ptr n 0) G2=some (I64 2):=by rw [ld1_cells hn];rfl
   have l4:ld1 (.ptr n 4) G2=some (.d (.str strs[i])):=by rw [ld1_cells hn];rfl
   have e3:decide (strs[i]=[])=false:=by simpa using hs0
   have e4:decide (strs[i]≠[])=true:=by simpa using hs0
   have e5:decide (strs[i]≠strs[i])=false:=by simp
   simp only [e3,Bool.false_eq_true,if_false,g3_62,ixA_strs hlt,ld_lptr,List.getElem?_cons_zero,Option.map_some,bsome,iBin_sneq,e4,brN3_bool,if_true,g3_65,lnV_vec,iBin_ineq,show decide ((((1:Nat):Int))≠1)=false from rfl,g3_70,ix6,padd_ptr,Nat.zero_add,l0,show decide ((2:Int)≠2)=false from rfl,g3_74,l4,e5,br3_bool,iBin_add,e2]
theorem tail3 (hS:SysOK sys) (hlv:∀ lim ro H,run sys lim ro 7 [] H=some (.val (.d (.bool true)),H)) (strs:List (List UInt8)) (hl:strs.length<2 ^ 34) {G:Hp} {came work:Int} (h1:G[sb]? = some (SB lg lk dp url cr nc md stt hs kn 3 hb x j0 j1 j2 j3 is came work sn)) (h2:G[hb]? = some (holdB q 1 c 0)) (h3:G[q]? = some (queB qx a m o)) :
  ((loopW (stepL (C3 (run sys) 0 0 []) [1,4,7,11] (cd 3 [1,1,1,1,1,1,1,1,0,1,0,0])) ((E3 (.d (.lst (strs.map .str))) (.d (.bool false)) (.ptr sb 0) (.d (.int .i64 0))),G)).bind λr171=>popK (C3 (run sys) 0 0 []) [1,4,7,11] (k3 (run sys) 0 0 []) [.bk 0,.sq (cd 3 [1,1,1,1,1,1,1,1,1])] r171.1 r171.2.1 r171.2.2)=some (.val (.d (.bool true)),[]):=by
 obtain⟨G',c2,w2,hloop,hg⟩:=loop3 hS strs hl strs.length 0 G came work (by omega) h1 h2 h3
 have hloop':loopW (stepL (C3 (run sys) 0 0 []) [1,4,7,11] (cd 3 [1,1,1,1,1,1,1,1,0,1,0,0])) (E3 (.d (.lst (strs.map .str))) (.d (.bool false)) (.ptr sb 0) (.d (.int .i64 0)),G)=_:=hloop
 obtain⟨n,G2,r1,hn⟩:=s12 hS hg
 have l0:ld1 (.ptr n 0) G2=some (I64 3):=by rw [ld1_cells hn];rfl
 rw [hloop']
 simp only [bsome,K3_0x0,List.length_nil,r1,lval,extup,List.getElem?_cons_zero,List.getElem?_cons_succ,g3_77,iBin_errno,decide_true,brN3_bool,if_true,g3_78,lnV_vec,iBin_eql,show decide ((((1:Nat):Int))=1)=true from rfl,g3_80,ix6,padd_ptr,Nat.zero_add,l0,hlv,g3_82,fin_pure_d]
end
end Go.Tg
namespace Go.Tg
variable [Globs] {lim ro:Nat} {H:Hp}
attribute [local congr] bindC liftRC br3C brN3C
section
variable {lg:Bool} {lk dp:Int} {url:List UInt8} {cr nc:Bool} {md stt:Int} {hs:List Hd} {kn:Bool}
theorem s3 (hS:SysOK sys) (hG:GAsp) (hlv:∀ lim ro H,run sys lim ro 7 [] H=some (.val (.d (.bool true)),H)) (h:Small hs) (strs:List (List UInt8)) (hl:strs.length<2 ^ 34) (a0:IV)
  (h0:∀ G,iBox 30 a0 G=some (.ptr G.length 0,G++[.cells 61 (caseC lg lk dp url cr nc md stt (.d (.lst (hs.map hdD))) kn)])) (hc:closedVs [a0,.d (.lst (strs.map .str))]=true) :
  run sys lim ro 3 [a0,.d (.lst (strs.map .str))] H=some (.val (.d (.bool true)),H):=by
 refine runP hS rfl (by kernel_rfl) hc ?_
 obtain⟨L,hL⟩:∃ L,L=bodyK2 P tab (run sys) 0 0 3 [a0,.d (.lst (strs.map .str))] []:=⟨_,rfl⟩
 rw [← hL]
 have hB:=hL.trans (R3 (run sys) 0 0 [] a0 (strs.map .str))
 clear hL
 obtain⟨ps,ns,bug,hps,hpl,r4⟩:=s4 (lim:=0) (ro:=0) (H:=[.cells 61 (caseC lg lk dp url cr nc md stt (.d (.lst (hs.map hdD))) kn)]) hS hs h
 have h0':iBox 30 a0 []=some (.ptr 0 0,[.cells 61 (caseC lg lk dp url cr nc md stt (.d (.lst (hs.map hdD))) kn)]):=h0 []
 have l8:ld1 (.ptr 0 8) [.cells 61 (caseC lg lk dp url cr nc md stt (.d (.lst (hs.map hdD))) kn)]=some (.d (.lst (hs.map hdD))):=rfl
 have main:∀ (t s:List UInt8) (ps:List D) (has:Bool),run sys 0 0 4 [.d (.lst (hs.map hdD))] [.cells 61 (caseC lg lk dp url cr nc md stt (.d (.lst (hs.map hdD))) kn)]=some (.val (.d (saidD t s ps has ns bug)),[.cells 61 (caseC lg lk dp url cr nc md stt (.d (.lst (hs.map hdD))) kn)])→t.length+s.length<2 ^ 34 →
   (has=true→(scriptL.contains (t++[47]++s) || safeL.contains (t++[47]++s))=true→∃ r,typeOf hs=some r∧safeP r.1 r.2=true)→L=some (.val (.d (.bool true)),[]):=by
  intro t s ps has r4 hlen hsafe
  have st1:st 6 0 0 (.ptr 1 0) (.d (saidD t s ps has ns bug)) ([.cells 61 (caseC lg lk dp url cr nc md stt (.d (.lst (hs.map hdD))) kn)]++[Blk.cells 73 [.d (.str []),.d (.str []),.vnil,.d (.bool false),.d (.bool false),.d (.bool false)]]) =
    some [.cells 61 (caseC lg lk dp url cr nc md stt (.d (.lst (hs.map hdD))) kn),.cells 73 [.d (.str t),.d (.str s),.d (.lst ps),.d (.bool has),.d (.bool ns),.d (.bool bug)]]:=rfl
  have b1:[Blk.cells 61 (caseC lg lk dp url cr nc md stt (.d (.lst (hs.map hdD))) kn)].length=1:=rfl
  have b2:∀ x:Blk,[x].length=1:=λ_=>rfl
  generalize hX:([.cells 61 (caseC lg lk dp url cr nc md stt (.d (.lst (hs.map hdD))) kn),.cells 73 [.d (.str t),.d (.str s),.d (.lst ps),.d (.bool has),.d (.bool ns),.d (.bool bug)]]:Hp)=X at st1
  have hXl:X.length=2:=by rw [← hX];rfl
  have x0:X[0]? = some (.cells 61 (caseC lg lk dp url cr nc md stt (.d (.lst (hs.map hdD))) kn)):=by rw [← hX];rfl
  have lcr:ld1 (.ptr 0 4) X=some (.d (.bool cr)):=by rw [ld1_cells x0];rfl
  have lnc:ld1 (.ptr 0 5) X=some (.d (.bool nc)):=by rw [ld1_cells x0];rfl
  have llg:ld1 (.ptr 0 0) X=some (.d (.bool lg)):=by rw [ld1_cells x0];rfl
  have lru:ldN 3 (.ptr 0 0) X=some (.agg [.d (.bool lg),I64 lk,I64 dp]):=by rw [ldN_cells x0 (by simp)];rfl
  have las:ldN 4 (.ptr 0 3) X=some (askV url cr nc md):=by rw [ldN_cells x0 (by simp)];rfl
  have lhas:ld1 (.ptr 1 3) X=some (.d (.bool has)):=by rw [← hX];rfl
  have lm:ldN 3 (.ptr 1 0) X=some (.agg [.d (.str t),.d (.str s),.d (.lst ps)]):=by rw [← hX];rfl
  have fm:frzArgs 0 [(true,.agg [.d (.str t),.d (.str s),.d (.lst ps)])] X=([.d (mimD t s ps)],X):=rfl
  have r6:=s6m (lim:=0) (ro:=0) (H:=X) hS lg lk dp
  have r5:=s5 (lim:=0) (ro:=0) (H:=X) hS t s ps hlen
  simp only [h0',bsome,padd_ptr,Nat.zero_add,Nat.reduceAdd,l8,List.length_nil,frzArgs_1,frzA_d,r4,lval,st1,b1,g3_0,lcr,iUn_not,brN3_bool] at hB
  cases hg:goodR lk dp with
  | false=>
   rw [hg] at r6
   cases cr with
   | false=>
    simp only [Bool.not_false,if_true,g3_1,g3_3,padd_ptr,Nat.zero_add,bsome,lru,List.length_nil,r6,lval,iUn_not,brN3_bool,g3_6,hlv,fin_pure_d] at hB
    exact hB
   | true=>
    simp only [Bool.not_true,Bool.false_eq_true,if_false,g3_2,padd_ptr,Nat.zero_add,Nat.reduceAdd,bsome,lnc,iUn_not,brN3_bool] at hB
    cases nc with
    | false=>
     simp only [Bool.not_false,if_true,g3_4,g3_8,padd_ptr,Nat.zero_add,bsome,lru,List.length_nil,r6,lval,iUn_not,brN3_bool,g3_12,hlv,fin_pure_d] at hB
     exact hB
    | true=>
     simp only [Bool.not_true,Bool.false_eq_true,if_false,g3_5,padd_ptr,Nat.zero_add,bsome,llg,iUn_not,brN3_bool] at hB
     cases lg with
     | true=>
      simp only [Bool.not_true,Bool.false_eq_true,if_false,g3_10,g3_16,padd_ptr,Nat.zero_add,bsome,lru,List.length_nil,r6,lval,iUn_not,brN3_bool,Bool.not_false,if_true,g3_22,hlv,fin_pure_d] at hB
      exact hB
     | false=>
      simp only [Bool.not_false,if_true,g3_9,b2,lhas,bsome,brN3_bool] at hB
      cases has with
      | false=>
       simp only [Bool.false_eq_true,if_false,g3_15,g3_21,padd_ptr,Nat.zero_add,bsome,lru,List.length_nil,r6,lval,iUn_not,brN3_bool,Bool.not_false,if_true,g3_29,hlv,fin_pure_d] at hB
       exact hB
      | true=>
       simp only [if_true,g3_14,b2,lm,bsome,List.length_nil,fm,r5,lval,g3_20,padd_ptr,Nat.zero_add,lru,r6,iUn_not,brN3_bool,Bool.not_false,g3_27,hlv,fin_pure_d] at hB
       exact hB
  | true=>
   rw [hg] at r6
   have go:∀ (hf:Free lg cr nc hs),∃ (G8 G9:Hp) (sb hb q n:Nat) (x y0 y1 y2 y3 is sn qx:IV) (c a m o came work:Int),run sys 0 0 8 [.agg [.d (.bool lg),I64 lk,I64 dp],askV url cr nc md] X=some (.val (.tup [.ptr sb 0,I64 0]),G8) ∧
     ldN 2 (.ptr 0 7) G8=some (.agg [I64 stt,.d (.lst (hs.map hdD))])∧ld1 (.ptr 0 9) G8=some (.d (.bool kn)) ∧
     run sys 0 0 9 [.ptr sb 0,.agg [I64 stt,.d (.lst (hs.map hdD))],.d (.bool kn)] G8=some (.val (.tup [.vec n 6 0 1,I64 0]),G9)∧ld1 (.ptr n 0) G9=some (I64 1)∧ld1 (.ptr n 2) G9=some (I64 stt)∧ld1 (.ptr 0 7) G9=some (I64 stt) ∧
     G9[sb]? = some (SB lg lk dp url cr nc md stt hs kn 3 hb x y0 y1 y2 y3 is came work sn)∧G9[hb]? = some (holdB q 1 c 0)∧G9[q]? = some (queB qx a m o):=by
    intro hf
    obtain⟨G8,sb,hb,q,lx,r8,g1,g2,g3,gl,gk,gsb,ghb⟩:=s8 (H:=X) hS (.agg [.d (.bool lg),I64 lk,I64 dp]) (askV url cr nc md) (λG=>rfl) (λG=>rfl) hg
    have g0:G8[0]? = some (.cells 61 (caseC lg lk dp url cr nc md stt (.d (.lst (hs.map hdD))) kn)):=by rw [gk 0 (by omega)];exact x0
    obtain⟨G9,n,y0,y1,y2,y3,r9,hn,hnl,k1,k2,k3,kl,kk⟩:=s9 (H:=G8) (kn:=kn) (stt:=stt) hS hG h hf (.agg [I64 stt,.d (.lst (hs.map hdD))]) (λG=>rfl) g1 g2 g3
    have k0:G9[0]? = some (.cells 61 (caseC lg lk dp url cr nc md stt (.d (.lst (hs.map hdD))) kn)):=by rw [kk 0 (by omega) (by omega) (by omega)];exact g0
    exact⟨G8,G9,sb,hb,q,n,_,y0,y1,y2,y3,_,_,_,_,_,_,_,_,_,r8,by rw [ldN_cells g0 (by simp)];rfl,by rw [ld1_cells g0];rfl,r9,by rw [ld1_cells hn];rfl,by rw [ld1_cells hn];rfl,by rw [ld1_cells k0];rfl,k1,k2,k3⟩
   cases hcr:cr with
   | false=>
    obtain⟨G8,G9,sb,hb,q,n,x,y0,y1,y2,y3,is,sn,qx,c,a,m,o,came,work,r8,e1,e2,r9,e3,e4,e5,k1,k2,k3⟩:=go (.inl (by rw [hcr];rfl))
    simp only [hcr,Bool.not_false,if_true,g3_1,g3_3,padd_ptr,Nat.zero_add,bsome,lru,List.length_nil,r6,lval,iUn_not,brN3_bool,Bool.not_true,Bool.false_eq_true,if_false,g3_7,las] at hB
    rw [← hcr] at hB
    simp only [r8,lval,extup,List.getElem?_cons_zero,List.getElem?_cons_succ,bsome,g3_11,q_eql41,brN3_bool,Bool.false_eq_true,if_false,g3_18,iBin_errne,show decide ((0:Int)≠0)=false from rfl,br3_bool,g3_24,padd_ptr,Nat.zero_add,e1,e2,List.length_nil,r9,g3_31,lnV_vec,iBin_ineq,show decide ((((1:Nat):Int))≠1)=false from rfl,g3_35,ix6,e3,show decide ((1:Int)≠1)=false from rfl,g3_39,e4,e5,show decide (stt≠stt)=false by simp,g3_44] at hB
    exact hB.trans (tail3 hS hlv strs hl k1 k2 k3)
   | true=>
    simp only [hcr,Bool.not_true,Bool.false_eq_true,if_false,g3_2,padd_ptr,Nat.zero_add,Nat.reduceAdd,bsome,lnc,iUn_not,brN3_bool] at hB
    cases hnc:nc with
    | false=>
     obtain⟨G8,G9,sb,hb,q,n,x,y0,y1,y2,y3,is,sn,qx,c,a,m,o,came,work,r8,e1,e2,r9,e3,e4,e5,k1,k2,k3⟩:=go (.inl (by rw [hcr,hnc];rfl))
     simp only [hnc,Bool.not_false,if_true,g3_4,g3_8,padd_ptr,Nat.zero_add,bsome,lru,List.length_nil,r6,lval,iUn_not,brN3_bool,Bool.not_true,Bool.false_eq_true,if_false,g3_13,las] at hB
     rw [← hcr,← hnc] at hB
     simp only [r8,lval,extup,List.getElem?_cons_zero,List.getElem?_cons_succ,bsome,g3_19,q_eql41,brN3_bool,Bool.false_eq_true,if_false,g3_26,iBin_errne,show decide ((0:Int)≠0)=false from rfl,br3_bool,g3_32,padd_ptr,Nat.zero_add,e1,e2,List.length_nil,r9,g3_36,lnV_vec,iBin_ineq,show decide ((((1:Nat):Int))≠1)=false from rfl,g3_41,ix6,e3,show decide ((1:Int)≠1)=false from rfl,g3_46,e4,e5,show decide (stt≠stt)=false by simp,g3_48] at hB
     exact hB.trans (tail3 hS hlv strs hl k1 k2 k3)
    | true=>
     simp only [hnc,Bool.not_true,Bool.false_eq_true,if_false,g3_5,padd_ptr,Nat.zero_add,bsome,llg,iUn_not,brN3_bool] at hB
     cases hlg:lg with
     | true=>
      simp only [hlg,Bool.not_true,Bool.false_eq_true,if_false,g3_10,g3_16,padd_ptr,Nat.zero_add,bsome,lru,List.length_nil,r6,lval,iUn_not,brN3_bool,g3_23,hlv,fin_pure_d] at hB
      rw [hlg] at r6
      simp only [r6,lval,iUn_not,bsome,brN3_bool,Bool.not_true,Bool.false_eq_true,if_false,g3_23,hlv,fin_pure_d] at hB
      exact hB
     | false=>
      simp only [hlg,Bool.not_false,if_true,g3_9,b2,lhas,bsome,brN3_bool] at hB
      cases hhas:has with
      | false=>
       simp only [hhas,Bool.false_eq_true,if_false,g3_15,g3_21,padd_ptr,Nat.zero_add,bsome,lru,List.length_nil,r6,lval,iUn_not,brN3_bool,Bool.not_true,g3_30,hlv,fin_pure_d] at hB
       exact hB
      | true=>
       cases hsf:(scriptL.contains (t++[47]++s) || safeL.contains (t++[47]++s)) with
       | false=>
        rw [hsf] at r5
        simp only [hhas,if_true,g3_14,b2,lm,bsome,List.length_nil,fm,r5,lval,g3_20,padd_ptr,Nat.zero_add,lru,r6,iUn_not,brN3_bool,Bool.not_true,Bool.false_eq_true,if_false,g3_28,Bool.not_false,br3_bool,hlv,fin_pure_d] at hB
        exact hB
       | true=>
        rw [hsf] at r5
        obtain⟨G8,G9,sb,hb,q,n,x,y0,y1,y2,y3,is,sn,qx,c,a,m,o,came,work,r8,e1,e2,r9,e3,e4,e5,k1,k2,k3⟩:=go (.inr ⟨hlg,hsafe hhas hsf⟩)
        simp only [hhas,if_true,g3_14,b2,lm,bsome,List.length_nil,fm,r5,lval,g3_20,padd_ptr,Nat.zero_add,lru,r6,iUn_not,brN3_bool,Bool.not_true,Bool.false_eq_true,if_false,g3_28,br3_bool,g3_33,las,r8,extup,List.getElem?_cons_zero,List.getElem?_cons_succ,g3_37,q_eql41,g3_43,iBin_errne,show decide ((0:Int)≠0)=false from rfl,g3_47,e1,e2,r9,g3_49,lnV_vec,iBin_ineq,show decide ((((1:Nat):Int))≠1)=false from rfl,g3_51,ix6,e3,show decide ((1:Int)≠1)=false from rfl,g3_53,e4,e5,show decide (stt≠stt)=false by simp,g3_54] at hB
        exact hB.trans (tail3 hS hlv strs hl k1 k2 k3)
 cases ht:typeOf hs with
 | some r=>
  rw [ht] at r4
  have hl:=typeOf_len h ht
  refine main r.1 r.2 ps true r4 (by omega) (λ_ hs'=>⟨r,ht,?_⟩)
  rw [← safe_same hl.2];exact hs'
 | none=>
  rw [ht] at r4
  exact main [] [] [] false r4 (by decide) (λhh=>by cases hh)
end
end Go.Tg
