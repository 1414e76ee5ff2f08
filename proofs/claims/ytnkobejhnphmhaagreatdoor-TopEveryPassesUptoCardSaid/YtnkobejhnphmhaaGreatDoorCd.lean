/- ref10.Parse. -/
import Derived.Test.YtnkobejhnphmhaaGreatDoorCb
import Derived.Test.YtnkobejhnphmhaaGreatDoorCc
set_option linter.all false
namespace Go.Tg
variable [Globs] {lim ro:Nat} {H:Hp}
attribute [local congr] bindC liftRC br3C brN3C
theorem ib_par2 (n w:List UInt8):iBuild P 110 [(0,.d (.str n)),(1,.d (.str w))]=some (.agg [.d (.str n),.d (.str w)]):=by kernel_rfl
structure QI (G:Hp) (t q:List UInt8) (v:IV) (ps:List D):Prop where
 zero:∃ cs,G[0]? = some (.cells 69 cs)∧cs.length=3
 mim:G[1]? = some (.cells 69 [.d (.str t),.d (.str q),v])
 acc:Acc 110 2 0 G v ps
 own:∀ j,ownB v=some j→2≤j
 par:ParL ps
section
variable {t q:List UInt8} {G:Hp} {v:IV} {ps:List D}
theorem QI.lv (h:QI G t q v ps):ld1 (.ptr 1 2) G=some v:=by rw [ld1_cells h.mim];rfl
theorem QI.lm (h:QI G t q v ps):ldN 3 (.ptr 1 0) G=some (.agg [.d (.str t),.d (.str q),v]):=by rw [ldN_cells h.mim (by simp)];rfl
theorem QI.slp (h:QI G t q v ps) (hl:ps.length<2 ^ 34):SlP G v ps:=⟨h.par,hl,.inr ⟨110,0,h.acc⟩⟩
theorem QI.push (h:QI G t q v ps) (hl:ps.length<2 ^ 34) {n w:List UInt8} (hn:n.length<2 ^ 34) (hw:w.length<2 ^ 34) :
  ∃ v1 G3 G4,app 110 2 0 v (.vec G.length 2 0 1) (G++[.cells 220 [.d (.str n),.d (.str w)]])=some (v1,G3)∧st 1 0 0 (.ptr 1 2) v1 G3=some G4∧QI G4 t q v1 (ps++[.agg [.str n,.str w]]):=by
 obtain⟨⟨z,hz,hzl⟩,hm,hA,ho,hp⟩:=h
 have hlen:2≤G.length:=by have:=get_lt hm;omega
 obtain⟨v1,G3,hpush,hA1,hle,hkeep,b',hb',hb1,hb2⟩:=hA.push (e:=.agg [.str n,.str w]) (OkE.agg rfl (by decide)) (Nat.zero_le _) (by omega)
 have v1one:=hA1.vone
 have g1:G3[1]? = some (.cells 69 [.d (.str t),.d (.str q),v]):=by rw [hkeep 1 (by omega) (λe=>by have:=ho 1 e;omega)];exact hm
 have hst:st 1 0 0 (.ptr 1 2) v1 G3=some (G3.set 1 (.cells 69 [.d (.str t),.d (.str q),v1])):=by
  rw [st_cells (n:=1) (off:=2) g1 (by rw [v1one.2];rfl) (by simp) (by rw [v1one.2];simp [v1one.1]) (Nat.zero_le _) (.inl (Nat.zero_le _)),v1one.2]
  rfl
 refine⟨v1,G3,_,hpush,hst,⟨z,?_,hzl⟩,set_get g1,hA1.keep (λb hb=>List.getElem?_set_ne (by rw [hb'] at hb;cases hb;omega)),λj hj=>by rw [hb'] at hj;cases hj;omega,hp.snoc hn hw⟩
 rw [List.getElem?_set_ne (by decide),hkeep 0 (by omega) (λe=>by have:=ho 0 e;omega)];exact hz
theorem end54 (hS:SysOK sys) (h:QI G t q v ps) (hl:ps.length<2 ^ 34) {n w:List UInt8} (hn:n.length<2 ^ 34) (hw:w.length<2 ^ 34) (E:Env) (K:IV→Hp→Option ((Env×Hp) ⊕ (Ex×Env×Hp))) :
  ∃ G' v' ps',liftR (run sys ([]:Hp).length ([]:Hp).length 55 [.agg [.d (.str t),.d (.str q),v],.d (.str n)] G)
 (λv150 h151=>
 (iBin P .lss 3 v150 (.d (.int .i64 0))).bind λv152=>
 br3 v152
 ((padd (.ptr 1 0) 2).bind λv153=>
 (ld1 v153 h151).bind λv154=>
 (iBuild P 110 [(0,.d (.str n)),(1,.d (.str w))]).bind λv155=>
 (iBuildSlice P 32 1 [(0,v155)] h151).bind λr156=>
 (app 110 2 ([]:Hp).length v154 r156.1 r156.2).bind λr157=>
 (padd (.ptr 1 0) 2).bind λv158=>
 (st 1 ([]:Hp).length ([]:Hp).length v158 r157.1 r157.2).bind λh159=>
 some (.inl (E,h159)))
 (some (.inl (E,h151)))) K=some (.inl (E,G'))∧QI G' t q v' ps'∧ps'.length≤ps.length+1:=by
 obtain⟨k,r,_⟩:=s55 (lim:=([]:Hp).length) (ro:=([]:Hp).length) (H:=G) (m:=.agg [.d (.str t),.d (.str q),v]) (nm:=n) hS rfl h.acc.vone.1 (h.slp hl)
 rw [r]
 cases hk:decide (k<0) with
 | false=>exact⟨G,v,ps,by simp only [lval,iBin_lss,bsome,br3_bool,hk,Bool.false_eq_true,if_false],h,by omega⟩
 | true=>
  obtain⟨v1,G3,G4,e1,e2,hI⟩:=h.push hl hn hw
  have e1':app 110 2 ([]:Hp).length v (.vec G.length 2 0 1) (G++[.cells 220 [.d (.str n),.d (.str w)]])=some (v1,G3):=e1
  have e2':st 1 ([]:Hp).length ([]:Hp).length (.ptr 1 2) v1 G3=some G4:=e2
  refine⟨G4,v1,_,?_,hI,by simp⟩
  simp only [lval,iBin_lss,bsome,br3_bool,hk,if_true,padd_ptr,Nat.zero_add,h.lv,ib_par2,bs_par,e1',e2']
end
theorem loop54i (hS:SysOK sys) (e2 e5:IV) (G:Hp):∀ (s:List UInt8),s.length<2 ^ 34→loopW (stepL (C54 (run sys) 0 0 []) [0,2,5] (cd 54 [1,1,1,1,1,1,1,1,1,0,0,0,1,0,1,0,0,0])) (E54 (.d (.str s)) e2 e5,G)=some (.exi 2,E54 (.d (.str (s.dropWhile bWhite))) e2 e5,G):=by
 intro s
 induction s with
 | nil=>
  intro _
  refine loopW_done ?_
  rw [B54_1,g54_3]
  simp only [lnS_str,iBin_gtr,bsome,brN3_bool,List.length_nil,show decide ((0:Int)<((0:Nat):Int))=false from rfl,Bool.false_eq_true,if_false,g54_5,List.dropWhile_nil]
 | cons c r ih=>
  intro hs
  have e1:decide ((0:Int)<((c::r).length:Nat))=true:=by simp
  have hx:ixS (.d (.str (c::r))) (.d (.int .i64 0))=some (.d (.int .u8 (c.toNat))):=ixS_nat (n:=0) (k:=.i64) (by simp)
  have hd:slS (.d (.str (c::r))) (some (.d (.int .i64 1))) none=some (.d (.str r)):=slS_drop (s:=c::r) (n:=1) (k:=.i64) (by simp)
  rw [List.dropWhile_cons]
  cases hw:bWhite c with
  | true=>
   refine loopW_next (s':=(E54 (.d (.str r)) e2 e5,G)) ?_ (ih (by simp at hs;omega))
   rw [B54_1,g54_3]
   simp only [lnS_str,iBin_gtr,bsome,brN3_bool,e1,if_true,g54_4,hx,s78 hS,hw,lval,br3_bool,hd]
  | false=>
   refine loopW_done ?_
   rw [B54_1,g54_3]
   simp only [lnS_str,iBin_gtr,bsome,brN3_bool,e1,if_true,g54_4,hx,s78 hS,hw,lval,br3_bool,Bool.false_eq_true,if_false]
theorem round54 (hS:SysOK sys) {t q s:List UInt8} {G:Hp} {v:IV} {ps:List D} (hI:QI G t q v ps) (hs:ps.length+s.length<2 ^ 33) (hne:s≠[]) :
  ∃ s' G' v' ps',(stepL (C54 (run sys) 0 0 []) [0,2,5] (cd 54 [1,1,1,1,1,1,1,1,1,0,0,0]) (E54 (.d (.str s)) (.ptr 0 0) (.ptr 1 0),G)=some (.inl (E54 (.d (.str s')) (.ptr 0 0) (.ptr 1 0),G')) ∨
   stepL (C54 (run sys) 0 0 []) [0,2,5] (cd 54 [1,1,1,1,1,1,1,1,1,0,0,0]) (E54 (.d (.str s)) (.ptr 0 0) (.ptr 1 0),G)=some (.inr (.exi 0,E54 (.d (.str s')) (.ptr 0 0) (.ptr 1 0),G')))∧s'.length<s.length∧QI G' t q v' ps'∧ps'.length≤ps.length+1:=by
 obtain⟨c0,s0,rfl⟩:=List.exists_cons_of_ne_nil hne
 obtain⟨L,hL⟩:∃ L,L=stepL (C54 (run sys) 0 0 []) [0,2,5] (cd 54 [1,1,1,1,1,1,1,1,1,0,0,0]) (E54 (.d (.str (c0::s0))) (.ptr 0 0) (.ptr 1 0),G):=⟨_,rfl⟩
 rw [← hL]
 have hB:=hL.trans (B54_0 (run sys) 0 0 [] (.d (.str (c0::s0))) (.ptr 0 0) (.ptr 1 0) G)
 clear hL
 simp only [List.length_cons] at hs ⊢
 have e1:decide ((0:Int)<((c0::s0).length:Nat))=true:=by simp
 have hd:slS (.d (.str (c0::s0))) (some (.d (.int .i64 1))) none=some (.d (.str s0)):=slS_drop (s:=c0::s0) (n:=1) (k:=.i64) (by simp)
 have hi:=loop54i hS (.ptr 0 0) (.ptr 1 0) G s0 (by omega)
 have hl1:(s0.dropWhile bWhite).length≤s0.length:=(List.dropWhile_sublist _).length_le
 generalize s0.dropWhile bWhite=s1 at hi hl1
 simp only [lnS_str,iBin_gtr,bsome,br3_bool,e1,if_true,hd,hi,K54_1x2] at hB
 have r1:=s75 (lim:=([]:Hp).length) (ro:=([]:Hp).length) (H:=G) hS s1 [59,61] (by omega) (by decide)
 have hn1:=takeWhile_len_le (λx=>!([59,61]:List UInt8).contains x) s1
 generalize (s1.takeWhile λx=>!([59,61]:List UInt8).contains x).length=n1 at r1 hn1
 have r2:=s36 (lim:=([]:Hp).length) (ro:=([]:Hp).length) (H:=G) hS (s1.take n1) (by simp;omega)
 have hnl:((s1.take n1).map lowB).length<2 ^ 34:=by simp;omega
 have hl2:(s1.drop n1).length≤s1.length:=by simp
 generalize hnm:(s1.take n1).map lowB=nm at r2 hnl
 simp only [r1,lval,slS_take hn1,r2,slS_drop hn1,bsome,lnS_str,iBin_eql] at hB
 generalize s1.drop n1=s2 at hB hl2
 cases s2 with
 | nil=>
  simp only [List.length_nil,show decide (((0:Nat):Int)=0)=true from rfl,br3_bool,if_true] at hB
  exact⟨[],G,v,ps,.inr hB,by simp,hI,by omega⟩
 | cons c s3=>
  have e2:decide (((c::s3).length:Int)=0)=false:=by simp;omega
  have hx:ixS (.d (.str (c::s3))) (.d (.int .i64 0))=some (.d (.int .u8 (c.toNat))):=ixS_nat (n:=0) (k:=.i64) (by simp)
  have hd2:slS (.d (.str (c::s3))) (some (.d (.int .i64 1))) none=some (.d (.str s3)):=slS_drop (s:=c::s3) (n:=1) (k:=.i64) (by simp)
  simp only [List.length_cons] at hl2
  simp only [e2,br3_bool,Bool.false_eq_true,if_false,hx,bsome,iBin_eql,hd2] at hB
  cases h59:decide ((c.toNat:Int)=59) with
  | true=>
   simp only [h59,if_true] at hB
   exact⟨c::s3,G,v,ps,.inl hB,by simp;omega,hI,by omega⟩
  | false=>
   simp only [h59,Bool.false_eq_true,if_false] at hB
   cases s3 with
   | nil=>
    simp only [lnS_str,List.length_nil,show decide (((0:Nat):Int)=0)=true from rfl,br3_bool,if_true,bsome,iBin_eql] at hB
    exact⟨[],G,v,ps,.inr hB,by simp,hI,by omega⟩
   | cons d s4=>
    have e3:decide (((d::s4).length:Int)=0)=false:=by simp;omega
    have hx3:ixS (.d (.str (d::s4))) (.d (.int .i64 0))=some (.d (.int .u8 (d.toNat))):=ixS_nat (n:=0) (k:=.i64) (by simp)
    simp only [List.length_cons] at hl2
    simp only [lnS_str,e3,br3_bool,Bool.false_eq_true,if_false,hx3,bsome,iBin_eql] at hB
    have rt:=s76 (lim:=([]:Hp).length) (ro:=([]:Hp).length) (H:=G) hS nm hnl
    cases h34:decide ((d.toNat:Int)=34) with
    | true=>
     have hd34:d=34:=by
      have h:=of_decide_eq_true h34
      exact UInt8.toNat_inj.1 (show d.toNat=(34:UInt8).toNat by have h2:(34:UInt8).toNat=34:=rfl;omega)
     subst hd34
     obtain⟨w,r3,hw⟩:=s79 (lim:=([]:Hp).length) (ro:=([]:Hp).length) (H:=G) hS s4 (by omega)
     have hq:=qLen_le s4
     have hq1:1+qLen s4≤(34::s4).length:=by simp;omega
     have hl5:((34::s4:List UInt8).drop (1+qLen s4)).length≤s4.length:=by simp
     simp only [h34,if_true,r3,lval,extup,List.getElem?_cons_zero,List.getElem?_cons_succ,bsome,slS_drop hq1] at hB
     generalize (34::s4:List UInt8).drop (1+qLen s4)=s5 at hB hl5
     have r4:=s75 (lim:=([]:Hp).length) (ro:=([]:Hp).length) (H:=G) hS s5 [59] (by omega) (by decide)
     have hn5:=takeWhile_len_le (λx=>!([59]:List UInt8).contains x) s5
     generalize (s5.takeWhile λx=>!([59]:List UInt8).contains x).length=n5 at r4 hn5
     have hl6:(s5.drop n5).length≤s5.length:=by simp
     simp only [r4,lval,slS_drop hn5,bsome,g54_6,brN3_bool,h34,if_true,g54_8,rt] at hB
     generalize s5.drop n5=s6 at hB hl6
     have rq:=s80 (lim:=([]:Hp).length) (ro:=([]:Hp).length) (H:=G) hS w (by omega)
     cases htk:tok nm with
     | false=>
      simp only [htk,Bool.false_eq_true,if_false,g54_13] at hB
      exact⟨s6,G,v,ps,.inl hB,by omega,hI,by omega⟩
     | true=>
      simp only [htk,if_true,g54_12,rq,lval,brN3_bool] at hB
      cases hqu:w.all bQuoted with
      | false=>
       simp only [hqu,Bool.false_eq_true,if_false,g54_21] at hB
       exact⟨s6,G,v,ps,.inl hB,by omega,hI,by omega⟩
      | true=>
       simp only [hqu,if_true,hI.lm,bsome,g54_20] at hB
       obtain⟨G',v',ps',h1,h2,h3⟩:=end54 hS hI (by omega) hnl (show w.length<2 ^ 34 by omega) (E54 (.d (.str s6)) (.ptr 0 0) (.ptr 1 0)) (λp160 h161=>some (.inr (.pan p160,(E54 (.d (.str s6)) (.ptr 0 0) (.ptr 1 0)),h161)))
       exact⟨s6,G',v',ps',.inl (hB.trans h1),by omega,h2,h3⟩
    | false=>
     have r4:=s75 (lim:=([]:Hp).length) (ro:=([]:Hp).length) (H:=G) hS (d::s4) [59] (by simp;omega) (by decide)
     have hn5:=takeWhile_len_le (λx=>!([59]:List UInt8).contains x) (d::s4)
     generalize ((d::s4).takeWhile λx=>!([59]:List UInt8).contains x).length=n5 at r4 hn5
     have hl6:((d::s4).drop n5).length≤s4.length+1:=by simp
     have r5:=s77 (lim:=([]:Hp).length) (ro:=([]:Hp).length) (H:=G) hS ((d::s4).take n5) (by simp;omega)
     have hwl:=endL_length bWhite ((d::s4).take n5)
     have htl:((d::s4).take n5).length≤s4.length+1:=by simp;omega
     generalize endL bWhite ((d::s4).take n5)=w at r5 hwl
     simp only [h34,Bool.false_eq_true,if_false,r4,lval,slS_take hn5,r5,slS_drop hn5,bsome,g54_7,brN3_bool,g54_11,iBin_sneq] at hB
     generalize (d::s4).drop n5=s6 at hB hl6
     cases hwe:decide (w≠[]) with
     | false=>
      simp only [hwe,Bool.false_eq_true,if_false,g54_19] at hB
      exact⟨s6,G,v,ps,.inl hB,by omega,hI,by omega⟩
     | true=>
      have rq:=s80 (lim:=([]:Hp).length) (ro:=([]:Hp).length) (H:=G) hS w (by omega)
      simp only [hwe,if_true,g54_18,rt,lval,brN3_bool] at hB
      cases htk:tok nm with
      | false=>
       simp only [htk,Bool.false_eq_true,if_false,g54_27] at hB
       exact⟨s6,G,v,ps,.inl hB,by omega,hI,by omega⟩
      | true=>
       simp only [htk,if_true,g54_26,rq,lval,brN3_bool] at hB
       cases hqu:w.all bQuoted with
       | false=>
        simp only [hqu,Bool.false_eq_true,if_false,g54_31] at hB
        exact⟨s6,G,v,ps,.inl hB,by omega,hI,by omega⟩
       | true=>
        simp only [hqu,if_true,hI.lm,bsome,g54_30] at hB
        obtain⟨G',v',ps',h1,h2,h3⟩:=end54 hS hI (by omega) hnl (show w.length<2 ^ 34 by omega) (E54 (.d (.str s6)) (.ptr 0 0) (.ptr 1 0)) (λp206 h207=>some (.inr (.pan p206,(E54 (.d (.str s6)) (.ptr 0 0) (.ptr 1 0)),h207)))
        exact⟨s6,G',v',ps',.inl (hB.trans h1),by omega,h2,h3⟩
theorem loop54 (hS:SysOK sys) {t q:List UInt8}:∀ (k:Nat) (s:List UInt8) (G:Hp) (v:IV) (ps:List D),s.length<k→QI G t q v ps→ps.length+s.length<2 ^ 33 →
  ∃ s' G' v' ps',loopW (stepL (C54 (run sys) 0 0 []) [0,2,5] (cd 54 [1,1,1,1,1,1,1,1,1,0,0,0])) (E54 (.d (.str s)) (.ptr 0 0) (.ptr 1 0),G)=some (.exi 0,E54 (.d (.str s')) (.ptr 0 0) (.ptr 1 0),G')∧QI G' t q v' ps'∧ps'.length≤ps.length+s.length:=by
 intro k
 induction k with
 | zero=>intro s G v ps h;omega
 | succ k ih=>
  intro s G v ps hk hI hl
  cases s with
  | nil=>
   refine⟨[],G,v,ps,loopW_done ?_,hI,by omega⟩
   rw [B54_0]
   simp only [lnS_str,iBin_gtr,bsome,br3_bool,List.length_nil,show decide ((0:Int)<((0:Nat):Int))=false from rfl,Bool.false_eq_true,if_false]
  | cons c s=>
   obtain⟨s',G',v',ps',h1,h2,h3,h4⟩:=round54 hS hI hl (by simp)
   simp only [List.length_cons] at h2 hk hl ⊢
   rcases h1 with h1 | h1
   ·obtain⟨s2,G2,v2,ps2,g1,g2,g3⟩:=ih s' G' v' ps' (by omega) h3 (by omega)
    exact⟨s2,G2,v2,ps2,loopW_next h1 g1,g2,by omega⟩
   ·exact⟨s',G',v',ps',loopW_done h1,h3,by omega⟩
end Go.Tg
namespace Go.Tg
variable [Globs] {lim ro:Nat} {H:Hp}
attribute [local congr] bindC liftRC br3C brN3C
theorem take_tw (p:UInt8→Bool) (u:List UInt8):u.take (u.takeWhile p).length=u.takeWhile p:=by
 conv=>lhs;rw [← List.takeWhile_append_dropWhile (p:=p) (l:=u)]
 rw [List.takeWhile_append_dropWhile,show u.take (u.takeWhile p).length=(u.takeWhile p++u.dropWhile p).take (u.takeWhile p).length by rw [List.takeWhile_append_dropWhile],List.take_left]
theorem fin_err (G:Hp) (y:D):fin .pure [] ([]:Hp).length [.agg [.d (.str []),.d (.str []),.vnil],.d y] G=some (.val (.tup [.d (mimD [] [] []),.d y]),[]):=
 fin_mim2 (ro:=0) (Acc.nil 110 2 0 G).frzTo [] y
theorem s54 (hS:SysOK sys) (s:List UInt8) (hs:s.length<2 ^ 25):∃ ps,ParL ps∧ps.length≤s.length∧run sys lim ro 54 [.d (.str s)] H =
  some (.val (match parseT s with | some r=>.tup [.d (mimD r.1 r.2 ps),.d (.int .i64 0)] | none=>.tup [.d (mimD [] [] []),.d (.int .i64 2)]),H):=by
 suffices h:∃ ps,ParL ps∧ps.length≤s.length∧bodyK2 P tab (run sys) 0 0 54 [.d (.str s)] [] =
   some (.val (match parseT s with | some r=>.tup [.d (mimD r.1 r.2 ps),.d (.int .i64 0)] | none=>.tup [.d (mimD [] [] []),.d (.int .i64 2)]),[]) by
  obtain⟨ps,h1,h2,h3⟩:=h
  exact⟨ps,h1,h2,runP hS rfl (by kernel_rfl) rfl h3⟩
 obtain⟨L,hL⟩:∃ L,L=bodyK2 P tab (run sys) 0 0 54 [.d (.str s)] []:=⟨_,rfl⟩
 rw [← hL]
 have hB:=hL.trans (R54 (run sys) 0 0 [] s)
 clear hL
 have hul:=trimL_length bWhite s
 unfold parseT
 have r1:=s74 (lim:=([]:Hp).length) (ro:=([]:Hp).length) (H:=([]++[Blk.cells 69 [.d (.str []),.d (.str []),.vnil]])) hS s (by omega)
 generalize hu:trimL bWhite s=u at hul r1
 simp only
 generalize hX:([]++[Blk.cells 69 [.d (.str []),.d (.str []),.vnil]]:Hp)=X at r1 hB
 have r2:=s75 (lim:=([]:Hp).length) (ro:=([]:Hp).length) (H:=X) hS u [47] (by omega) (by decide)
 have hn1:=takeWhile_len_le (λx=>!([47]:List UInt8).contains x) u
 have ht:=take_tw (λx=>!([47]:List UInt8).contains x) u
 have htl:(u.takeWhile λx=>!([47]:List UInt8).contains x).length≤u.length:=hn1
 generalize htt:u.takeWhile (λx=>!([47]:List UInt8).contains x)=t at r2 ht htl
 have hs1:slS (.d (.str u)) none (some (.d (.int .i64 (t.length:Nat))))=some (.d (.str t)):=by rw [slS_take htl,ht]
 have r3:=s76 (lim:=([]:Hp).length) (ro:=([]:Hp).length) (H:=X) hS t (by omega)
 have err:∀ G:Hp,G[0]? = some (.cells 69 [.d (.str []),.d (.str []),.vnil])→((st 3 ([]:Hp).length ([]:Hp).length (.ptr ([]:Hp).length 0) (.agg [.d (.str []),.d (.str []),.vnil]) G).bind λh15=>
 (
 (ldN 3 (.ptr ([]:Hp).length 0) h15).bind λv16=>(some [.d (.int .i64 2)]:Option (List IV)).map λl17=>v16::l17).bind λl18=>fin .pure [] ([]:Hp).length l18 h15)=some (.val (.tup [.d (mimD [] [] []),.d (.int .i64 2)]),[]):=by
  intro G hG
  have e1:st 3 ([]:Hp).length ([]:Hp).length (.ptr ([]:Hp).length 0) (.agg [.d (.str []),.d (.str []),.vnil]) G=some (G.set 0 (.cells 69 [.d (.str []),.d (.str []),.vnil])):=by
   show st 3 0 0 (.ptr 0 0) _ G=_
   rw [st_cells (n:=3) (off:=0) hG rfl (by simp) rfl (Nat.zero_le _) (.inl (Nat.zero_le _))]
   rfl
  have e2:ldN 3 (.ptr ([]:Hp).length 0) (G.set 0 (.cells 69 [.d (.str []),.d (.str []),.vnil]))=some (.agg [.d (.str []),.d (.str []),.vnil]):=by
   show ldN 3 (.ptr 0 0) _=_
   rw [ldN_cells (set_get hG) (by simp)];rfl
  rw [e1,bsome,e2,bsome]
  simp only [Option.map_some,bsome]
  exact fin_err _ _
 have hX0:X[0]? = some (.cells 69 [.d (.str []),.d (.str []),.vnil]):=by rw [← hX];rfl
 have hXl:X.length=1:=by rw [← hX];rfl
 simp only [r1,lval,r2,g54_0,hs1,bsome,r3,iUn_not,brN3_bool] at hB
 cases htk:tok t with
 | false=>
  rw [if_neg (by simp)]
  simp only [htk,Bool.not_false,if_true,g54_1] at hB
  exact⟨[],λe he=>by simp at he,by simp,hB.trans (err X hX0)⟩
 | true=>
  simp only [htk,Bool.not_true,Bool.false_eq_true,if_false,g54_2,lnS_str,bsome,iBin_eql,br3_bool] at hB
  by_cases hlt:t.length<u.length
  case neg=>
   have e1:decide ((t.length:Int)=(u.length:Nat))=true:=by simp;omega
   rw [if_neg (λh=>hlt h.1)]
   simp only [e1,if_true] at hB
   exact⟨[],λe he=>by simp at he,by simp,hB.trans (err X hX0)⟩
  have e1:decide ((t.length:Int)=(u.length:Nat))=false:=by simp;omega
  have e2:IntKind.i64.wrap ((t.length:Int)+1)=((t.length+1:Nat):Int):=by rw [wrap64 (by omega) (by omega)];simp
  have r4:=s36 (lim:=([]:Hp).length) (ro:=([]:Hp).length) (H:=X) hS t (by omega)
  have e3:=st_new (lim:=0) (ro:=0) (n:=3) (off:=0) (ty:=69) (G:=X) (cs:=[.d (.str []),.d (.str []),.vnil]) (v:=.agg [.d (.str (t.map lowB)),.d (.str []),.vnil]) rfl (by simp) rfl (Nat.zero_le _) (Nat.zero_le _)
  have e3':st 3 ([]:Hp).length ([]:Hp).length (.ptr X.length 0) (.agg [.d (.str (t.map lowB)),.d (.str []),.vnil]) (X++[Blk.cells 69 [.d (.str []),.d (.str []),.vnil]])=some (X++[Blk.cells 69 [.d (.str (t.map lowB)),.d (.str []),.vnil]]):=e3
  generalize hY:X++[Blk.cells 69 [.d (.str (t.map lowB)),.d (.str []),.vnil]]=Y at e3'
  have y0:Y[0]? = some (.cells 69 [.d (.str []),.d (.str []),.vnil]):=by rw [← hY];exact get_app _ hX0
  have y1:Y[1]? = some (.cells 69 [.d (.str (t.map lowB)),.d (.str []),.vnil]):=by rw [← hY,← hX];rfl
  have hs2:slS (.d (.str u)) (some (.d (.int .i64 ((t.length+1:Nat):Int)))) none=some (.d (.str (u.drop (t.length+1)))):=slS_drop (by omega)
  simp only [e1,Bool.false_eq_true,if_false,hs1,bsome,r4,lval,ib_mim,e3',iBin_add,e2,hs2] at hB
  have hwl:(u.drop (t.length+1)).length≤u.length - (t.length+1):=by simp
  generalize u.drop (t.length+1)=w at hB hwl
  have r5:=s75 (lim:=([]:Hp).length) (ro:=([]:Hp).length) (H:=Y) hS w [59] (by omega) (by decide)
  have hn2:=takeWhile_len_le (λx=>!([59]:List UInt8).contains x) w
  have hq:=take_tw (λx=>!([59]:List UInt8).contains x) w
  generalize w.takeWhile (λx=>!([59]:List UInt8).contains x)=q0 at r5 hn2 hq
  have hs3:slS (.d (.str w)) none (some (.d (.int .i64 (q0.length:Nat))))=some (.d (.str q0)):=by rw [slS_take hn2,hq]
  have r6:=s77 (lim:=([]:Hp).length) (ro:=([]:Hp).length) (H:=Y) hS q0 (by omega)
  have hel:=endL_length bWhite q0
  generalize endL bWhite q0=q at r6 hel
  have r7:=s76 (lim:=([]:Hp).length) (ro:=([]:Hp).length) (H:=Y) hS q (by omega)
  simp only [r5,lval,hs3,bsome,r6,r7,iUn_not,br3_bool] at hB
  cases hqk:tok q with
  | false=>
   rw [if_neg (λh=>by simp at h)]
   simp only [hqk,Bool.not_false,if_true] at hB
   exact⟨[],λe he=>by simp at he,by simp,hB.trans (err Y y0)⟩
  | true=>
   rw [if_pos ⟨hlt,rfl,rfl⟩]
   have r8:=s36 (lim:=([]:Hp).length) (ro:=([]:Hp).length) (H:=Y) hS q (by omega)
   have e4:st 1 ([]:Hp).length ([]:Hp).length (.ptr X.length 1) (.d (.str (q.map lowB))) Y=some (Y.set 1 (.cells 69 [.d (.str (t.map lowB)),.d (.str (q.map lowB)),.vnil])):=by
    rw [hXl]
    show st 1 0 0 (.ptr 1 1) _ Y=_
    rw [st_cells (n:=1) (off:=1) y1 rfl (by simp) rfl (Nat.zero_le _) (.inl (Nat.zero_le _))]
    rfl
   have hI:QI (Y.set 1 (.cells 69 [.d (.str (t.map lowB)),.d (.str (q.map lowB)),.vnil])) (t.map lowB) (q.map lowB) .vnil []:=
    ⟨⟨_,by rw [List.getElem?_set_ne (by decide)];exact y0,rfl⟩,set_get y1,Acc.nil _ _ _ _,λj hj=>(by cases hj),λe he=>(by simp at he)⟩
   have hdl:(w.drop q0.length).length≤w.length:=by simp
   have hs4:=slS_drop (k:=.i64) hn2
   generalize w.drop q0.length=z at hs4 hdl
   obtain⟨s',G',v',ps,hloop,hI',hpl⟩:=loop54 hS (z.length+1) z _ _ _ (by omega) hI (by simp;omega)
   have hloop':loopW (stepL (C54 (run sys) 0 0 []) [0,2,5] (cd 54 [1,1,1,1,1,1,1,1,1,0,0,0])) (E54 (.d (.str z)) (.ptr ([]:Hp).length 0) (.ptr X.length 0),Y.set 1 (.cells 69 [.d (.str (t.map lowB)),.d (.str (q.map lowB)),.vnil]))=some (.exi 0,E54 (.d (.str s')) (.ptr ([]:Hp).length 0) (.ptr X.length 0),G'):=by rw [hXl];exact hloop
   simp only [hqk,Bool.not_true,Bool.false_eq_true,if_false,hs3,bsome,r6,lval,r8,hs4,e4,hloop',K54_0x0] at hB
   refine⟨ps,hI'.par,by simp at hpl;omega,hB.trans ?_⟩
   obtain⟨cs,hz,hzl⟩:=hI'.zero
   have vone:=hI'.acc.vone
   have f1:ldN 3 (.ptr X.length 0) G'=some (.agg [.d (.str (t.map lowB)),.d (.str (q.map lowB)),v']):=by rw [hXl];exact hI'.lm
   have f2:st 3 ([]:Hp).length ([]:Hp).length (.ptr ([]:Hp).length 0) (.agg [.d (.str (t.map lowB)),.d (.str (q.map lowB)),v']) G'=some (G'.set 0 (.cells 69 [.d (.str (t.map lowB)),.d (.str (q.map lowB)),v'])):=by
    show st 3 0 0 (.ptr 0 0) _ G'=_
    rw [st_cells (n:=3) (off:=0) hz rfl (by omega) (by simp only [IV.cells,List.all_cons,List.all_nil,vone.1,Bool.and_true];rfl) (Nat.zero_le _) (.inl (Nat.zero_le _))]
    obtain⟨a,b,c,rfl⟩:∃ a b c,cs=[a,b,c]:=by
     match cs,hzl with
     | [a,b,c],_=>exact⟨a,b,c,rfl⟩
    rfl
   have f3:ldN 3 (.ptr ([]:Hp).length 0) (G'.set 0 (.cells 69 [.d (.str (t.map lowB)),.d (.str (q.map lowB)),v']))=some (.agg [.d (.str (t.map lowB)),.d (.str (q.map lowB)),v']):=by
    show ldN 3 (.ptr 0 0) _=_
    rw [ldN_cells (set_get hz) (by simp)];rfl
   have hAf:Acc 110 2 0 (G'.set 0 (.cells 69 [.d (.str (t.map lowB)),.d (.str (q.map lowB)),v'])) v' ps:=hI'.acc.keep (λb hb=>List.getElem?_set_ne (by have:=hI'.own b hb;omega))
   rw [f1,bsome,f2,bsome,f3,bsome]
   simp only [Option.map_some,bsome]
   exact fin_mim2 (ro:=0) hAf.frzTo [] _
end Go.Tg
namespace Go.Tg
variable [Globs] {lim ro:Nat} {H:Hp}
attribute [local congr] bindC liftRC br3C brN3C
abbrev Ty:=List UInt8×List UInt8
def notAny (r:Ty):Bool:=!(decide (r.1=[42]) && decide (r.2=[42]))
def allT (l:List (List UInt8)):List Ty:=(l.filterMap parseT).filter notAny
def MimE (e:D) (r:Ty):Prop:=∃ ps,e=mimD r.1 r.2 ps∧ParL ps∧ps.length<2 ^ 25∧r.1.length<2 ^ 26∧r.2.length<2 ^ 26
def MimL (els:List D) (rs:List Ty):Prop:=els.length=rs.length∧∀ i (h:i<els.length) (h2:i<rs.length),MimE els[i] rs[i]
omit [Globs] in
theorem MimL.nil:MimL [] []:=⟨rfl,λi h=>by simp at h⟩
omit [Globs] in
theorem MimL.snoc {els:List D} {rs:List Ty} {e:D} {r:Ty} (h:MimL els rs) (he:MimE e r):MimL (els++[e]) (rs++[r]):=by
 refine⟨by simp [h.1],λi h1 h2=>?_⟩
 by_cases hi:i<els.length
 ·rw [List.getElem_append_left hi,List.getElem_append_left (by have:=h.1;omega)]
  exact h.2 i hi (by have:=h.1;omega)
 ·have e1:i=els.length:=by simp at h1;omega
  subst e1
  have:=h.1
  simp [this,he]
theorem parseT_len {s:List UInt8} {r:Ty} (h:parseT s=some r):r.1.length≤s.length∧r.2.length≤s.length:=by
 unfold parseT at h
 simp only at h
 split at h
 ·simp only [Option.some.injEq] at h
  subst h
  have h1:=trimL_length bWhite s
  have h2:=takeWhile_len_le (λx=>!([47]:List UInt8).contains x) (trimL bWhite s)
  simp only [List.length_map]
  refine⟨by omega,?_⟩
  refine Nat.le_trans (endL_length bWhite _) ?_
  refine Nat.le_trans (takeWhile_len_le _ _) ?_
  simp;omega
 ·cases h
theorem allT_snoc (l:List (List UInt8)) (s:List UInt8):allT (l++[s])=allT l++(match parseT s with | some r=>if notAny r=true then [r] else [] | none=>[]):=by
 unfold allT
 rw [List.filterMap_append,List.filter_append]
 congr 1
 simp only [List.filterMap_cons,List.filterMap_nil]
 cases parseT s with
 | none=>rfl
 | some r=>simp only [List.filter_cons,List.filter_nil]
theorem allT_len (l:List (List UInt8)):(allT l).length≤l.length:=
 Nat.le_trans (List.length_filter_le _ _) (List.length_filterMap_le _ _)
theorem bs_mim (t s:List UInt8) (ps:List D) (G:Hp):iBuildSlice P 78 1 [(0,.agg [.d (.str t),.d (.str s),.d (.lst ps)])] G=some (.vec G.length 3 0 1,G++[.cells 68 [.d (.str t),.d (.str s),.d (.lst ps)]]):=by
 have e:P.underlying 78=some (.slice 34):=by kernel_rfl
 have e2:sizeT P 34=some 3:=by kernel_rfl
 have e3:zeroT P 34=some (.agg [.d (.str []),.d (.str []),.vnil]):=by kernel_rfl
 unfold iBuildSlice;rw [e];simp only [e2,e3];rfl
theorem bs_mim0 (G:Hp):iBuildSlice P 78 0 [] G=some (.vec G.length 3 0 0,G++[.cells 68 []]):=by
 have e:P.underlying 78=some (.slice 34):=by kernel_rfl
 have e2:sizeT P 34=some 3:=by kernel_rfl
 have e3:zeroT P 34=some (.agg [.d (.str []),.d (.str []),.vnil]):=by kernel_rfl
 unfold iBuildSlice;rw [e];simp only [e2,e3];rfl
theorem s32 (hS:SysOK sys) (l:List (List UInt8)) (hl:l.length<2 ^ 34) (hj:(joinL [44,32] l).length<2 ^ 25 - 1):∃ els,MimL els (allT (valsL l))∧run sys lim ro 32 [.d (.lst (l.map .str))] H=some (.val (.d (.lst els)),H):=by
 obtain⟨hv1,hv2⟩:=valsL_len l
 have r0:=λG=>s53 (lim:=([]:Hp).length) (ro:=([]:Hp).length) (H:=G) hS l hl (by omega)
 generalize valsL l=vs at r0 hv1 hv2 ⊢
 have key:∀ k i (G:Hp) v els,i+k=vs.length→Acc 34 3 0 G v els→MimL els (allT (vs.take i))→∃ G' v' els',loopW (stepL (C32 (run sys) 0 0 []) [3,4,5] (cd 32 [1,1,0,1,0,0])) (E32 v (.d (.lst (vs.map .str))) (.d (.int .i64 (i:Nat))),G) =
   some (.exi 0,E32 v' (.d (.lst (vs.map .str))) (.d (.int .i64 (vs.length:Nat))),G')∧Acc 34 3 0 G' v' els'∧MimL els' (allT vs):=by
  intro k
  induction k with
  | zero=>
   intro i G v els hi hA hM
   have hi':i=vs.length:=by omega
   subst hi'
   rw [List.take_length] at hM
   refine⟨G,v,els,loopW_done ?_,hA,hM⟩
   have e1:decide ((vs.length:Int)<((vs.map D.str).length:Int))=false:=by simp
   rw [B32_0]
   simp only [lnV_lst,iBin_lss,bsome,br3_bool,e1,Bool.false_eq_true,if_false]
  | succ k ih=>
   intro i G v els hi hA hM
   have hlt:i<vs.length:=by omega
   have e1:decide ((i:Int)<((vs.map D.str).length:Int))=true:=by simpa using hlt
   have e2:IntKind.i64.wrap ((i:Int)+1)=((i+1:Nat):Int):=by rw [wrap64 (by omega) (by omega)];simp
   have hel:els.length≤i:=by
    have h1:=hM.1
    have h2:=allT_len (vs.take i)
    simp at h2;omega
   have hsn:allT (vs.take (i+1))=allT (vs.take i)++(match parseT vs[i] with | some r=>if notAny r=true then [r] else [] | none=>[]):=by rw [take_succ_get vs i hlt,allT_snoc]
   have hpl:=hv2 vs[i] (List.getElem_mem hlt)
   obtain⟨ps,hps,hpsl,r1⟩:=s54 (lim:=([]:Hp).length) (ro:=([]:Hp).length) (H:=G) hS vs[i] (by omega)
   obtain⟨L,hL⟩:∃ L,L=stepL (C32 (run sys) 0 0 []) [3,4,5] (cd 32 [1,1,0,1,0,0]) (E32 v (.d (.lst (vs.map .str))) (.d (.int .i64 (i:Nat))),G):=⟨_,rfl⟩
   have hB:=hL.trans (B32_0 (run sys) 0 0 [] v (.d (.lst (vs.map .str))) (.d (.int .i64 (i:Nat))) G)
   simp only [lnV_lst,iBin_lss,bsome,br3_bool,e1,if_true,ixA_strs hlt,ld_lptr,List.getElem?_cons_zero,Option.map_some,r1,lval] at hB
   cases hp:parseT vs[i] with
   | none=>
    rw [hp] at hsn
    simp only [List.append_nil] at hsn
    have st1:=st_new (lim:=0) (ro:=0) (n:=3) (off:=0) (ty:=69) (G:=G) (cs:=[.d (.str []),.d (.str []),.vnil]) (v:=.d (mimD [] [] [])) rfl (by simp) rfl (Nat.zero_le _) (Nat.zero_le _)
    have st1':st 3 ([]:Hp).length ([]:Hp).length (.ptr G.length 0) (.d (mimD [] [] [])) (G++[Blk.cells 69 [.d (.str []),.d (.str []),.vnil]])=some (G++[Blk.cells 69 [.d (.str []),.d (.str []),.d (.lst [])]]):=st1
    simp only [hp,extup,List.getElem?_cons_zero,List.getElem?_cons_succ,bsome,st1',g32_0,iBin_eql,show decide ((2:Int)=0)=false from rfl,brN3_bool,Bool.false_eq_true,if_false,g32_2,iBin_add,e2] at hB
    obtain⟨G',v',els',h1,h2,h3⟩:=ih (i+1) (G++[Blk.cells 69 [.d (.str []),.d (.str []),.d (.lst [])]]) v els (by omega) (hA.keep λb hb=>List.getElem?_append_left (hA.own_lt hb).1) (by rw [hsn];exact hM)
    exact⟨G',v',els',loopW_next (hL.symm.trans hB) h1,h2,h3⟩
   | some r=>
    obtain⟨t,s⟩:=r
    have hrl:=parseT_len hp
    rw [hp] at hsn
    have st1:=st_new (lim:=0) (ro:=0) (n:=3) (off:=0) (ty:=69) (G:=G) (cs:=[.d (.str []),.d (.str []),.vnil]) (v:=.d (mimD t s ps)) rfl (by simp) rfl (Nat.zero_le _) (Nat.zero_le _)
    have st1':st 3 ([]:Hp).length ([]:Hp).length (.ptr G.length 0) (.d (mimD t s ps)) (G++[Blk.cells 69 [.d (.str []),.d (.str []),.vnil]])=some (G++[Blk.cells 69 [.d (.str t),.d (.str s),.d (.lst ps)]]):=st1
    generalize hY:G++[Blk.cells 69 [.d (.str t),.d (.str s),.d (.lst ps)]]=Y at st1'
    have l0:ld1 (.ptr G.length 0) Y=some (.d (.str t)):=by rw [← hY];exact ld1_new G 69 0 _
    have l1:ld1 (.ptr G.length 1) Y=some (.d (.str s)):=by rw [← hY];exact ld1_new G 69 1 _
    have l3:ldN 3 (.ptr G.length 0) Y=some (.agg [.d (.str t),.d (.str s),.d (.lst ps)]):=by rw [← hY];exact ldN_new G 69 3 _ rfl
    have hAY:Acc 34 3 0 Y v els:=by rw [← hY];exact hA.keep λb hb=>List.getElem?_append_left (hA.own_lt hb).1
    obtain⟨v1,G3,hpush,hA1, -⟩:=hAY.push (e:=mimD t s ps) (OkE.agg rfl (by decide)) (Nat.zero_le _) (by omega)
    have hpush':app 34 3 ([]:Hp).length v (.vec Y.length 3 0 1) (Y++[.cells 68 [.d (.str t),.d (.str s),.d (.lst ps)]])=some (v1,G3):=hpush
    have hE:MimE (mimD t s ps) (t,s):=⟨ps,rfl,hps,by omega,by simp only at hrl ⊢;omega,by simp only at hrl ⊢;omega⟩
    simp only [hp,extup,List.getElem?_cons_zero,List.getElem?_cons_succ,bsome,st1',g32_0,iBin_eql,show decide ((0:Int)=0)=true from rfl,brN3_bool,if_true,g32_1,l0,iBin_seql] at hB
    cases ht:decide (t=[42]) with
    | false=>
     have hna:notAny (t,s)=true:=by simp [notAny,ht]
     simp only [ht,Bool.false_eq_true,if_false,g32_4,l3,bsome,bs_mim,hpush',iBin_add,e2] at hB
     obtain⟨G',v',els',h1,h2,h3⟩:=ih (i+1) G3 v1 _ (by omega) hA1 (by rw [hsn];simp only [hna,if_true];exact hM.snoc hE)
     exact⟨G',v',els',loopW_next (hL.symm.trans hB) h1,h2,h3⟩
    | true=>
     simp only [ht,if_true,g32_3,l1,bsome,iBin_seql,iUn_not,br3_bool] at hB
     cases hsb:decide (s=[42]) with
     | true=>
      have hna:notAny (t,s)=false:=by simp [notAny,ht,hsb]
      simp only [hsb,Bool.not_true,Bool.false_eq_true,if_false,iBin_add,bsome,e2] at hB
      obtain⟨G',v',els',h1,h2,h3⟩:=ih (i+1) Y v els (by omega) hAY (by rw [hsn];simp only [hna,Bool.false_eq_true,if_false,List.append_nil];exact hM)
      exact⟨G',v',els',loopW_next (hL.symm.trans hB) h1,h2,h3⟩
     | false=>
      have hna:notAny (t,s)=true:=by simp [notAny,hsb]
      simp only [hsb,Bool.not_false,if_true,l3,bsome,bs_mim,hpush',iBin_add,e2] at hB
      obtain⟨G',v',els',h1,h2,h3⟩:=ih (i+1) G3 v1 _ (by omega) hA1 (by rw [hsn];simp only [hna,if_true];exact hM.snoc hE)
      exact⟨G',v',els',loopW_next (hL.symm.trans hB) h1,h2,h3⟩
 obtain⟨G',v',els',h1,h2,h3⟩:=key vs.length 0 ([]++[.cells 68 []]) (.vec 0 3 0 0) [] (by omega) (Acc.new 34 3 0 [] (Nat.zero_le _)) (by simpa [allT] using MimL.nil)
 refine⟨els',h3,runP hS rfl (by kernel_rfl) rfl ?_⟩
 rw [R32,bs_mim0]
 have h1':loopW (stepL (C32 (run sys) 0 0 []) [3,4,5] (cd 32 [1,1,0,1,0,0])) (E32 (.vec ([]:Hp).length 3 0 0) (.d (.lst (vs.map .str))) (.d (.int .i64 0)),([]++[.cells 68 []]:Hp))=_:=h1
 simp only [bsome,r0,lval,h1',K32_0x0]
 exact h2.fin []
theorem s13 (hS:SysOK sys) (l:List (List UInt8)) (hl:l.length<2 ^ 34) (hj:(joinL [44,32] l).length<2 ^ 25 - 1):∃ ps,ParL ps∧ps.length<2 ^ 26∧run sys lim ro 13 [.d (.lst (l.map .str))] H =
  some (.val (match (allT (valsL l)).getLast? with | some r=>.tup [.d (mimD r.1 r.2 ps),.d (.int .i64 0)] | none=>.tup [.d (mimD [] [] []),.d (.int .i64 4)]),H):=by
 obtain⟨els,hM,_⟩:=s32 (lim:=lim) (ro:=ro) (H:=H) hS l hl hj
 obtain⟨els,hM,r0⟩:=s32 (lim:=([]:Hp).length) (ro:=([]:Hp).length) (H:=([]++[Blk.cells 69 [.d (.str []),.d (.str []),.vnil]])) hS l hl hj
 have hvl:=(valsL_len l).1
 have htl:=allT_len (valsL l)
 generalize allT (valsL l)=rs at hM htl ⊢
 have hlen:=hM.1
 generalize hX:([]++[Blk.cells 69 [.d (.str []),.d (.str []),.vnil]]:Hp)=X at r0
 have hXl:X.length=1:=by rw [← hX];rfl
 let Z:Hp→Prop:=λG=>∃ c,G[0]? = some (.cells 69 c)∧c.length=3
 let I:Nat→Hp→List UInt8→Prop:=λi G set=>Z G∧set.length<2 ^ 34∧∃ t s x ps,G[1]? = some (.cells 69 [.d (.str t),.d (.str s),x])∧(x=.vnil∧ps=[]∨x=.d (.lst ps))∧t.length<2 ^ 26∧s.length<2 ^ 26∧ParL ps∧ps.length<2 ^ 26 ∧
  (∀ (h:0<i) (h2:i≤rs.length),(t,s)=rs[i - 1])
 have key:∀ k i (G:Hp) set,i+k=els.length→I i G set→∃ G' set',loopW (stepL (C13 (run sys) 0 0 []) [2,4,5,6,7] (cd 13 [1,1,0,1,0,0])) (E13 (.ptr 0 0) (.ptr 1 0) (.d (.str set)) (.d (.lst els)) (.d (.int .i64 (i:Nat))),G) =
   some (.exi 0,E13 (.ptr 0 0) (.ptr 1 0) (.d (.str set')) (.d (.lst els)) (.d (.int .i64 (els.length:Nat))),G')∧I els.length G' set':=by
  intro k
  induction k with
  | zero=>
   intro i G set hi hI
   have hi':i=els.length:=by omega
   subst hi'
   refine⟨G,set,loopW_done ?_,hI⟩
   have e1:decide ((els.length:Int)<(els.length:Int))=false:=by simp
   rw [B13_0]
   simp only [lnV_lst,iBin_lss,bsome,br3_bool,e1,Bool.false_eq_true,if_false]
  | succ k ih=>
   intro i G set hi hI
   obtain⟨hz,hset,t,s,x,ps,h1,hx,ht,hs,hp,hpl,_⟩:=hI
   have hlt:i<els.length:=by omega
   have e1:decide ((i:Int)<(els.length:Int))=true:=by simpa using hlt
   have e2:IntKind.i64.wrap ((i:Int)+1)=((i+1:Nat):Int):=by rw [wrap64 (by omega) (by omega)];simp
   obtain⟨ps',he,hp',hpl',ht',hs'⟩:=hM.2 i hlt (by omega)
   generalize hr:rs[i]=r at he ht' hs'
   obtain⟨t',s'⟩:=r
   simp only at he ht' hs'
   have l1:ldN 3 (.ptr 1 0) G=some (.agg [.d (.str t),.d (.str s),x]):=by rw [ldN_cells h1 (by simp)];rfl
   have hix:ixA 3 (.d (.lst els)) (.d (.int .i64 (i:Nat)))=some (.lptr [.str t',.str s',.lst ps'] 0):=by
    rw [ixA_lst hlt (by rw [he];rfl),he];rfl
   have hfit:∀ {ρ:Type} (y:Option ρ),fitsL false [(true,.agg [.d (.str t),.d (.str s),x]),(false,.d (.str set)),(true,.d (.agg [.str t',.str s',.lst ps']))] y=y:=by
    intro ρ y
    rcases hx with ⟨rfl,_⟩ | rfl <;> rfl
   have hfz:frzArgs ([]:Hp).length [(true,.agg [.d (.str t),.d (.str s),x]),(false,.d (.str set)),(true,.d (.agg [.str t',.str s',.lst ps']))] G=([.d (mimD t s ps),.d (.str set),.d (mimD t' s' ps')],G):=by
    rcases hx with ⟨rfl,rfl⟩ | rfl <;> rfl
   obtain⟨ps2,set2,g1,g2,g3,r1⟩:=s33 (lim:=([]:Hp).length) (ro:=([]:Hp).length) (H:=G) hS t s ps set t' s' hp' hpl' (by omega) (by omega) hset
   have hst:st 3 ([]:Hp).length ([]:Hp).length (.ptr 1 0) (.d (mimD t' s' ps2)) G=some (G.set 1 (.cells 69 [.d (.str t'),.d (.str s'),.d (.lst ps2)])):=by
    show st 3 0 0 (.ptr 1 0) _ G=_
    rw [st_cells (n:=3) (off:=0) h1 rfl (by simp) rfl (Nat.zero_le _) (.inl (Nat.zero_le _))]
    rfl
   obtain⟨c,hc1,hc2⟩:=hz
   obtain⟨G',set',k1,k2⟩:=ih (i+1) (G.set 1 (.cells 69 [.d (.str t'),.d (.str s'),.d (.lst ps2)])) set2 (by omega)
    ⟨⟨c,by rw [List.getElem?_set_ne (by decide)];exact hc1,hc2⟩,g3,t',s',_,ps2,set_get h1,.inr rfl,ht',hs',g1,by omega,λ_ _=>by simp only [Nat.add_sub_cancel];exact hr.symm⟩
   refine⟨G',set',loopW_next ?_ k1,k2⟩
   rw [B13_0]
   simp only [lnV_lst,iBin_lss,bsome,br3_bool,e1,if_true,l1,hix,ldN_lptr _ _ (show 3=([.str t',.str s',.lst ps']:List D).length from rfl),hfit,hfz,r1,lval,extup,List.getElem?_cons_zero,List.getElem?_cons_succ,hst,iBin_add,e2]
 have hst0:st 3 ([]:Hp).length ([]:Hp).length (.ptr X.length 0) (.agg [.d (.str []),.d (.str []),.vnil]) (X++[Blk.cells 69 [.d (.str []),.d (.str []),.vnil]])=some (X++[Blk.cells 69 [.d (.str []),.d (.str []),.vnil]]):=by rw [← hX];rfl
 have hI0:I 0 (X++[Blk.cells 69 [.d (.str []),.d (.str []),.vnil]]) []:=by
  refine⟨⟨_,by rw [← hX];rfl,rfl⟩,by decide,[],[],.vnil,[],by rw [← hX];rfl,.inl ⟨rfl,rfl⟩,by decide,by decide,λe he=>by simp at he,by decide,λh=>absurd h (Nat.lt_irrefl _)⟩
 obtain⟨G',set',hloop,hz,hset,t,s,x,ps,h1,hx,ht,hs,hp,hpl,hlast⟩:=key els.length 0 _ [] (by omega) hI0
 have hloop':loopW (stepL (C13 (run sys) 0 0 []) [2,4,5,6,7] (cd 13 [1,1,0,1,0,0])) (E13 (.ptr ([]:Hp).length 0) (.ptr X.length 0) (.d (.str [])) (.d (.lst els)) (.d (.int .i64 0)),X++[Blk.cells 69 [.d (.str []),.d (.str []),.vnil]])=some (.exi 0,E13 (.ptr ([]:Hp).length 0) (.ptr X.length 0) (.d (.str set')) (.d (.lst els)) (.d (.int .i64 (els.length:Nat))),G'):=by rw [hXl];exact hloop
 obtain⟨c,hc1,hc2⟩:=hz
 obtain⟨a,b,d,rfl⟩:∃ a b d,c=[a,b,d]:=by
  match c,hc2 with
  | [a,b,d],_=>exact⟨a,b,d,rfl⟩
 refine⟨ps,hp,hpl,runP hS rfl (by kernel_rfl) rfl ?_⟩
 rw [R13,hX]
 simp only [r0,lval,hst0,bsome,hloop',K13_0x0,lnV_lst,iBin_eql,br3_bool]
 cases hrs:rs.getLast? with
 | none=>
  have:rs=[]:=List.getLast?_eq_none_iff.1 hrs
  subst this
  have e1:decide ((els.length:Int)=0)=true:=by simp [hlen]
  have e2:st 3 ([]:Hp).length ([]:Hp).length (.ptr ([]:Hp).length 0) (.agg [.d (.str []),.d (.str []),.vnil]) G'=some (G'.set 0 (.cells 69 [.d (.str []),.d (.str []),.vnil])):=by
   show st 3 0 0 (.ptr 0 0) _ G'=_
   rw [st_cells (n:=3) (off:=0) hc1 rfl (by simp) rfl (Nat.zero_le _) (.inl (Nat.zero_le _))]
   rfl
  have e3:ldN 3 (.ptr ([]:Hp).length 0) (G'.set 0 (.cells 69 [.d (.str []),.d (.str []),.vnil]))=some (.agg [.d (.str []),.d (.str []),.vnil]):=by
   show ldN 3 (.ptr 0 0) _=_
   rw [ldN_cells (set_get hc1) (by simp)];rfl
  simp only [e1,if_true,e2,bsome,e3,Option.map_some]
  exact fin_err _ _
 | some r=>
  have hne:rs≠[]:=λh=>by rw [h] at hrs;simp at hrs
  have hpos:0<rs.length:=List.length_pos_iff.2 hne
  have e1:decide ((els.length:Int)=0)=false:=by simp;intro h;rw [h] at hlen;simp at hlen;omega
  have hr:r=(t,s):=by
   have h3:=hlast (by omega) (by omega)
   rw [h3]
   have h4:=List.getLast?_eq_getElem? (l:=rs)
   rw [hrs,List.getElem?_eq_getElem (by omega)] at h4
   have h5:=Option.some.inj h4
   rw [h5]
   congr 1
   omega
  subst hr
  have e2:ldN 3 (.ptr X.length 0) G'=some (.agg [.d (.str t),.d (.str s),x]):=by rw [hXl,ldN_cells h1 (by simp)];rfl
  have hx1:x.one=true∧x.cells=[x]:=by rcases hx with ⟨rfl,_⟩ | rfl <;> exact⟨rfl,rfl⟩
  have e3:st 3 ([]:Hp).length ([]:Hp).length (.ptr ([]:Hp).length 0) (.agg [.d (.str t),.d (.str s),x]) G'=some (G'.set 0 (.cells 69 [.d (.str t),.d (.str s),x])):=by
   show st 3 0 0 (.ptr 0 0) _ G'=_
   rw [st_cells (n:=3) (off:=0) hc1 rfl (by simp) (by simp only [IV.cells,List.all_cons,List.all_nil,hx1.1,Bool.and_true];rfl) (Nat.zero_le _) (.inl (Nat.zero_le _))]
   rfl
  have e4:ldN 3 (.ptr ([]:Hp).length 0) (G'.set 0 (.cells 69 [.d (.str t),.d (.str s),x]))=some (.agg [.d (.str t),.d (.str s),x]):=by
   show ldN 3 (.ptr 0 0) _=_
   rw [ldN_cells (set_get hc1) (by simp)];rfl
  simp only [e1,Bool.false_eq_true,if_false,e2,bsome,e3,e4,Option.map_some]
  refine fin_mim2 (ro:=0) (v:=x) (els:=ps) ?_ [] _
  rcases hx with ⟨rfl,rfl⟩ | rfl
  ·exact (Acc.nil 110 2 0 _).frzTo
  ·exact FrzTo.data 0 _ ps
end Go.Tg
namespace Go.Tg
variable [Globs] {lim ro:Nat} {H:Hp}
attribute [local congr] bindC liftRC br3C brN3C
def ctN:List UInt8:=[99,111,110,116,101,110,116,45,116,121,112,101]
def saidD (t s:List UInt8) (ps:List D) (has ns bug:Bool):D:=.agg [.str t,.str s,.lst ps,.bool has,.bool ns,.bool bug]
def typeOf (hs:List Hd):Option Ty:=(allT (valsL (getV ctN hs))).getLast?
theorem ib_said (t s:List UInt8) (ps:List D) (a b c:Bool):iBuild P 36 [(0,.agg [.d (.str t),.d (.str s),.d (.lst ps)]),(1,.d (.bool a)),(2,.d (.bool b)),(3,.d (.bool c))]=some (.agg [.d (.str t),.d (.str s),.d (.lst ps),.d (.bool a),.d (.bool b),.d (.bool c)]):=by kernel_rfl
theorem iBin_errno (a b:Int):iBin P .eql 42 (.d (.int .i64 a)) (.d (.int .i64 b))=some (.d (.bool (decide (a=b)))):=iBin_eql 42 .i64 a b
theorem s4 (hS:SysOK sys) (hs:List Hd) (h:Small hs):∃ ps ns bug,ParL ps∧ps.length<2 ^ 26∧run sys lim ro 4 [.d (.lst (hs.map hdD))] H =
  some (.val (.d (match typeOf hs with | some r=>saidD r.1 r.2 ps true ns bug | none=>saidD [] [] [] false ns bug)),H):=by
 have hj:=h.join ctN
 have r1:=λG=>s14 (lim:=([]:Hp).length) (ro:=([]:Hp).length) (H:=G) hS ctN hs (by decide) h.short
 have r1':∀ G,run sys ([]:Hp).length ([]:Hp).length 14 [.d (.str [99,111,110,116,101,110,116,45,116,121,112,101]),.d (.lst (hs.map hdD))] G=_:=r1
 generalize hX:([]++[Blk.cells 73 [.d (.str []),.d (.str []),.vnil,.d (.bool false),.d (.bool false),.d (.bool false)]]:Hp)=X
 have hX0:X[0]? = some (.cells 73 [.d (.str []),.d (.str []),.vnil,.d (.bool false),.d (.bool false),.d (.bool false)]):=by rw [← hX];rfl
 have hXl:X.length=1:=by rw [← hX];rfl
 obtain⟨ps,hp,hpl,r2⟩:=s13 (lim:=([]:Hp).length) (ro:=([]:Hp).length) (H:=X) hS (getV ctN hs) (by omega) (by omega)
 rw [show (allT (valsL (getV ctN hs))).getLast? = typeOf hs from rfl] at r2
 obtain⟨raw,rb,r3,hrl⟩:=s15 (lim:=([]:Hp).length) (ro:=([]:Hp).length) (H:=[]) hS hs h.short
 have r3:=λG=>s15 (lim:=([]:Hp).length) (ro:=([]:Hp).length) (H:=G) hS hs h.short
 have main:∀ (t s:List UInt8) (ps':List D) (e:Int) (has:Bool),decide (e=0)=has →
   run sys ([]:Hp).length ([]:Hp).length 13 [.d (.lst ((getV ctN hs).map .str))] X=some (.val (.tup [.d (mimD t s ps'),.d (.int .i64 e)]),X)→∃ ns bug,bodyK2 P tab (run sys) 0 0 4 [.d (.lst (hs.map hdD))] []=some (.val (.d (saidD t s ps' has ns bug)),[]):=by
  intro t s ps' e has he r2
  have st1:=st_new (lim:=0) (ro:=0) (n:=3) (off:=0) (ty:=69) (G:=X) (cs:=[.d (.str []),.d (.str []),.vnil]) (v:=.d (mimD t s ps')) rfl (by simp) rfl (Nat.zero_le _) (Nat.zero_le _)
  have st1':st 3 ([]:Hp).length ([]:Hp).length (.ptr X.length 0) (.d (mimD t s ps')) (X++[Blk.cells 69 [.d (.str []),.d (.str []),.vnil]])=some (X++[Blk.cells 69 [.d (.str t),.d (.str s),.d (.lst ps')]]):=st1
  generalize hY:X++[Blk.cells 69 [.d (.str t),.d (.str s),.d (.lst ps')]]=Y at st1'
  have l1:ldN 3 (.ptr X.length 0) Y=some (.agg [.d (.str t),.d (.str s),.d (.lst ps')]):=by rw [← hY];exact ldN_new X 69 3 _ rfl
  have y0:Y[0]? = some (.cells 73 [.d (.str []),.d (.str []),.vnil,.d (.bool false),.d (.bool false),.d (.bool false)]):=by rw [← hY];exact get_app _ hX0
  obtain⟨raw,rb,r3,hrl⟩:=r3 Y
  obtain⟨ns,r4⟩:=s16 (lim:=([]:Hp).length) (ro:=([]:Hp).length) (H:=Y) hS hs h
  obtain⟨bug,r5⟩:=s17 (lim:=([]:Hp).length) (ro:=([]:Hp).length) (H:=Y) hS raw
  have st2:st 6 ([]:Hp).length ([]:Hp).length (.ptr ([]:Hp).length 0) (.agg [.d (.str t),.d (.str s),.d (.lst ps'),.d (.bool has),.d (.bool ns),.d (.bool bug)]) Y=some (Y.set 0 (.cells 73 [.d (.str t),.d (.str s),.d (.lst ps'),.d (.bool has),.d (.bool ns),.d (.bool bug)])):=by
   show st 6 0 0 (.ptr 0 0) _ Y=_
   rw [st_cells (n:=6) (off:=0) y0 rfl (by simp) rfl (Nat.zero_le _) (.inl (Nat.zero_le _))]
   rfl
  have l2:ldN 6 (.ptr ([]:Hp).length 0) (Y.set 0 (.cells 73 [.d (.str t),.d (.str s),.d (.lst ps'),.d (.bool has),.d (.bool ns),.d (.bool bug)]))=some (.agg [.d (.str t),.d (.str s),.d (.lst ps'),.d (.bool has),.d (.bool ns),.d (.bool bug)]):=by
   show ldN 6 (.ptr 0 0) _=_
   rw [ldN_cells (set_get y0) (by simp)];rfl
  refine⟨ns,bug,?_⟩
  obtain⟨L,hL⟩:∃ L,L=bodyK2 P tab (run sys) 0 0 4 [.d (.lst (hs.map hdD))] []:=⟨_,rfl⟩
  rw [← hL]
  have hB:=hL.trans (R4 (run sys) 0 0 [] (hs.map hdD))
  clear hL
  rw [hX] at hB
  simp only [r1',lval,frzArgs_1,frzA_d,r2,extup,List.getElem?_cons_zero,List.getElem?_cons_succ,bsome,st1',r3,l1,iBin_errno,he,r4,r5,ib_said,st2,l2,Option.map_some] at hB
  exact hB.trans rfl
 cases ht:typeOf hs with
 | some r=>
  rw [ht] at r2
  obtain⟨ns,bug,hb⟩:=main r.1 r.2 ps 0 true rfl r2
  exact⟨ps,ns,bug,hp,hpl,runP hS rfl (by kernel_rfl) rfl hb⟩
 | none=>
  rw [ht] at r2
  obtain⟨ns,bug,hb⟩:=main [] [] [] 4 false rfl r2
  exact⟨ps,ns,bug,hp,hpl,runP hS rfl (by kernel_rfl) rfl hb⟩
end Go.Tg
