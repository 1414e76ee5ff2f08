/- Reference functions: parameters found, good types, what is said of sniffing. -/
import Derived.Test.YtnkobejhnphmhaaGreatDoorCa
import Derived.Test.YtnkobejhnphmhaaGreatDoorAh
set_option linter.all false
namespace Go.Tg
variable [Globs] {lim ro:Nat} {H:Hp}
theorem b55 (hS:SysOK sys) {m v:IV} {t s nm:List UInt8} {els:List D} (hm:m.cells=[.d (.str t),.d (.str s),v]) (h1:v.one=true) (hv:SlP H v els) :
  ∃ k:Int,bodyK2 P tab (run sys) lim ro 55 [m,.d (.str nm)] H=some (.val (.d (.int .i64 k)),H) ∧ -1≤k∧k<els.length:=by
 have hl:=hv.2.1
 have hall:([.d (.str t),.d (.str s),v]:List IV).all IV.one=true:=by simp only [List.all_cons,List.all_nil,h1,Bool.and_true];rfl
 generalize hX:(H++[Blk.cells 69 [.d (.str t),.d (.str s),v]])=X
 have hv':SlP X v els:=by rw [← hX];exact (hv.app _)
 have hb:X[H.length]? = some (.cells 69 [.d (.str t),.d (.str s),v]):=by rw [← hX];simp
 have hld:ld1 (.ptr H.length 2) X=some v:=by rw [ld1_cells hb];rfl
 generalize hq:(λe:D=>match e with | .agg [.str n,.str _]=>decide (n=nm) | _=>false)=q
 have key:=loopW_find (step:=stepL (C55 (run sys) lim ro H) [1,2,4,5] (cd 55 [1,0,1,0,0])) els q (λi=>(E55 (.d (.str nm)) (.ptr H.length 0) (.d (.int .i64 0)) (.d (.int .i64 (i:Nat))),X))
  (λi=>(.ret,E55 (.d (.str nm)) (.ptr H.length 0) (.d (.int .i64 (i:Nat))) (.d (.int .i64 (i:Nat))),X)) (.exi 0,E55 (.d (.str nm)) (.ptr H.length 0) (.d (.int .i64 0)) (.d (.int .i64 (els.length:Nat))),X) ?_ ?_ ?_
 ·cases h:els.findIdx? q with
  | none=>
   rw [h] at key
   refine⟨-1,?_,by omega,by omega⟩
   rw [R55]
   simp only [box_cells hm hall,Option.bind_some,show 2*34+1=69 from rfl,hX]
   rw [show (E55 (.d (.str nm)) (.ptr H.length 0) (.d (.int .i64 0)) (.d (.int .i64 0)),X)=(E55 (.d (.str nm)) (.ptr H.length 0) (.d (.int .i64 0)) (.d (.int .i64 ((0:Nat):Int))),X) from rfl,key]
   simp only [Option.bind_some,K55_0x0,fin_pure_d]
  | some i=>
   rw [h] at key
   obtain⟨hi,_⟩:=List.findIdx?_eq_some_iff_getElem.1 h
   refine⟨(i:Nat),?_,by omega,by omega⟩
   rw [R55]
   simp only [box_cells hm hall,Option.bind_some,show 2*34+1=69 from rfl,hX]
   rw [show (E55 (.d (.str nm)) (.ptr H.length 0) (.d (.int .i64 0)) (.d (.int .i64 0)),X)=(E55 (.d (.str nm)) (.ptr H.length 0) (.d (.int .i64 0)) (.d (.int .i64 ((0:Nat):Int))),X) from rfl,key]
   simp only [Option.bind_some,K55_0r,fin_pure_d]
 ·intro i hi hqi
  obtain⟨a,a0,a1,n,w,x,he,_,_,h1,h2,h3,h4,h5,_⟩:=hv'.at (k:=.i64) hi
  have hd:decide (n=nm)=false:=by rw [← hq,he] at hqi;exact hqi
  have e1:decide ((i:Int)<(els.length:Int))=true:=by simpa using hi
  have e2:IntKind.i64.wrap ((i:Int)+1)=((i+1:Nat):Int):=by rw [wrap64 (by omega) (by omega)];simp
  rw [B55_0]
  simp only [padd_ptr,Nat.zero_add,hld,hv'.len,iBin_lss,Option.bind_some,br3_bool,e1,if_true,h1,h4,h5,iBin_seql,hd,Bool.false_eq_true,if_false,iBin_add,e2]
 ·intro i hi hqi
  obtain⟨a,a0,a1,n,w,x,he,_,_,h1,h2,h3,h4,h5,_⟩:=hv'.at (k:=.i64) hi
  have hd:decide (n=nm)=true:=by rw [← hq,he] at hqi;exact hqi
  have e1:decide ((i:Int)<(els.length:Int))=true:=by simpa using hi
  rw [B55_0]
  simp only [padd_ptr,Nat.zero_add,hld,hv'.len,iBin_lss,Option.bind_some,br3_bool,e1,if_true,h1,h4,h5,iBin_seql,hd]
 ·have e1:decide ((els.length:Int)<(els.length:Int))=false:=by simp
  rw [B55_0]
  simp only [padd_ptr,Nat.zero_add,hld,hv'.len,iBin_lss,Option.bind_some,br3_bool,e1,Bool.false_eq_true,if_false]
theorem s55 (hS:SysOK sys) {m v:IV} {t s nm:List UInt8} {els:List D} (hm:m.cells=[.d (.str t),.d (.str s),v]) (h1:v.one=true) (hv:SlP H v els) :
  ∃ k:Int,run sys lim ro 55 [m,.d (.str nm)] H=some (.val (.d (.int .i64 k)),H) ∧ -1≤k∧k<els.length:=by
 cases hcl:closedVs [m,.d (.str nm)] with
 | false=>
  obtain⟨k,hb,hk⟩:=b55 (lim:=lim) (ro:=ro) (nm:=nm) hS hm h1 hv
  exact⟨k,runB hS rfl (λ_=>hcl) hb,hk⟩
 | true=>
  have hcm:closedV v=true:=by
   rw [closedVs,Bool.and_eq_true] at hcl
   exact closed_cells hcl.1 v (by rw [hm];simp)
  have hv0:SlP [] v els:=by
   obtain⟨a,b,c⟩:=hv
   refine⟨a,b,c.imp id ?_⟩
   rintro⟨ty,r,hA⟩
   rcases hA.2 with ⟨h2,h3⟩ | ⟨b',h2,h3,h4⟩
   ·exact⟨ty,r,hA.1,.inl ⟨h2,h3⟩⟩
   ·rw [h3] at hcm;simp [closedV] at hcm
  obtain⟨k,hb,hk⟩:=b55 (lim:=0) (ro:=0) (nm:=nm) hS hm h1 hv0
  exact⟨k,runP hS rfl (by kernel_rfl) hcl hb,hk⟩
theorem s56 (hS:SysOK sys) (t s:List UInt8) {ps:List D} (hp:ParL ps) (hl:ps.length<2 ^ 34) (ht:t.length<2 ^ 34) (hs:s.length<2 ^ 34):∃ b,run sys lim ro 56 [.d (mimD t s ps)] H=some (.val (.d (.bool b)),H):=by
 suffices h:∃ b,bodyK2 P tab (run sys) 0 0 56 [.d (mimD t s ps)] []=some (.val (.d (.bool b)),[]) by
  obtain⟨b,h⟩:=h
  exact⟨b,runP hS rfl (by kernel_rfl) rfl h⟩
 have hv:=SlP.data (G:=[]++[Blk.cells 69 [.d (.str t),.d (.str s),.d (.lst ps)]]) hp hl
 generalize hX:([]++[Blk.cells 69 [.d (.str t),.d (.str s),.d (.lst ps)]]:Hp)=X at hv
 have hb:X[([]:Hp).length]? = some (.cells 69 [.d (.str t),.d (.str s),.d (.lst ps)]):=by rw [← hX];rfl
 have l0:ld1 (.ptr ([]:Hp).length 0) X=some (.d (.str t)):=by rw [ld1_cells hb];rfl
 have l1:ld1 (.ptr ([]:Hp).length 1) X=some (.d (.str s)):=by rw [ld1_cells hb];rfl
 have l2:ld1 (.ptr ([]:Hp).length 2) X=some (.d (.lst ps)):=by rw [ld1_cells hb];rfl
 have l3:ldN 3 (.ptr ([]:Hp).length 0) X=some (.agg [.d (.str t),.d (.str s),.d (.lst ps)]):=by rw [ldN_cells hb (by simp)];rfl
 have key:∀ k i,i+k=ps.length→(∃ j:IV,loopW (stepL (C56 (run sys) 0 0 []) [1,2,3] (cd 56 [1,0,1,0,0])) (E56 (.ptr ([]:Hp).length 0) (.d (.bool false)) (.d (.int .i64 (i:Nat))),X)=some (.ret,E56 (.ptr ([]:Hp).length 0) (.d (.bool false)) j,X)) ∨
   loopW (stepL (C56 (run sys) 0 0 []) [1,2,3] (cd 56 [1,0,1,0,0])) (E56 (.ptr ([]:Hp).length 0) (.d (.bool false)) (.d (.int .i64 (i:Nat))),X)=some (.exi 0,E56 (.ptr ([]:Hp).length 0) (.d (.bool false)) (.d (.int .i64 (ps.length:Nat))),X):=by
  intro k
  induction k with
  | zero=>
   intro i hi
   have hi':i=ps.length:=by omega
   subst hi'
   refine .inr (loopW_done ?_)
   have e1:decide ((ps.length:Int)<(ps.length:Int))=false:=by simp
   rw [B56_0]
   simp only [padd_ptr,Nat.zero_add,l2,hv.len,iBin_lss,Option.bind_some,br3_bool,e1,Bool.false_eq_true,if_false]
  | succ k ih=>
   intro i hi
   have hlt:i<ps.length:=by omega
   have e1:decide ((i:Int)<(ps.length:Int))=true:=by simpa using hlt
   have e2:IntKind.i64.wrap ((i:Int)+1)=((i+1:Nat):Int):=by rw [wrap64 (by omega) (by omega)];simp
   obtain⟨a,a0,a1,n,w,x,he,hn,hw,h1,h2,h3,h4,h5,h6,h7⟩:=hv.at (k:=.i64) hlt
   have r1:=s81 (lim:=([]:Hp).length) (ro:=([]:Hp).length) (H:=X) hS n hn
   have r2:=s80 (lim:=([]:Hp).length) (ro:=([]:Hp).length) (H:=X) hS w hw
   obtain⟨kk,r3,_⟩:=s55 (lim:=([]:Hp).length) (ro:=([]:Hp).length) (H:=X) (m:=.agg [.d (.str t),.d (.str s),.d (.lst ps)]) (nm:=n) hS rfl rfl hv
   have hB:=B56_0 (run sys) 0 0 [] (.ptr ([]:Hp).length 0) (.d (.bool false)) (.d (.int .i64 (i:Nat))) X
   simp only [padd_ptr,Nat.zero_add,l2,hv.len,iBin_lss,Option.bind_some,br3_bool,e1,if_true,g56_0,h1,h4,h5,r1,liftR_val,iUn_not,brN3_bool,g56_1,g56_2,h6,h7,r2,l3,g56_3,g56_4,r3,iBin_neq] at hB
   cases hA:(tok n && decide (n.map lowB=n)) with
   | false=>rw [hA] at hB;exact .inl ⟨_,loopW_done hB⟩
   | true=>
    rw [hA] at hB
    cases hQ:w.all bQuoted with
    | false=>rw [hQ] at hB;exact .inl ⟨_,loopW_done hB⟩
    | true=>
     rw [hQ] at hB
     simp only [Bool.not_true,Bool.false_eq_true,if_false] at hB
     cases hK:decide (kk≠(i:Int)) with
     | true=>rw [hK] at hB;exact .inl ⟨_,loopW_done hB⟩
     | false=>
      rw [hK] at hB
      simp only [Bool.false_eq_true,if_false,iBin_add,Option.bind_some,e2] at hB
      rcases ih (i+1) (by omega) with ⟨j,hj⟩ | hj
      ·exact .inl ⟨j,loopW_next hB hj⟩
      ·exact .inr (loopW_next hB hj)
 rw [R56]
 simp only [box_mim,Option.bind_some,hX]
 have r4:=s81 (lim:=([]:Hp).length) (ro:=([]:Hp).length) (H:=X) hS t ht
 have r5:=s81 (lim:=([]:Hp).length) (ro:=([]:Hp).length) (H:=X) hS s hs
 rcases key ps.length 0 (by omega) with ⟨j,hj⟩ | hj
 ·refine⟨false,?_⟩
  have hj':loopW (stepL (C56 (run sys) 0 0 []) [1,2,3] (cd 56 [1,0,1,0,0])) (E56 (.ptr ([]:Hp).length 0) (.d (.bool false)) (.d (.int .i64 0)),X)=_:=hj
  rw [hj']
  simp only [Option.bind_some,K56_0r,fin_pure_d]
 ·have hj':loopW (stepL (C56 (run sys) 0 0 []) [1,2,3] (cd 56 [1,0,1,0,0])) (E56 (.ptr ([]:Hp).length 0) (.d (.bool false)) (.d (.int .i64 0)),X)=_:=hj
  rw [hj']
  simp only [Option.bind_some,K56_0x0,g56_5,g56_6,g56_7,padd_ptr,Nat.zero_add,l0,l1,r4,r5,liftR_val,brN3_bool,fin_pure_d]
  split <;> exact⟨_,rfl⟩
def Small (hs:List Hd):Prop:=(hs.map λh=>h.1.length+h.2.length+1).sum≤2 ^ 20
theorem Small.short {hs:List Hd} (h:Small hs):Short hs:=by
 have key:∀ (l:List Hd),l.length≤(l.map λh=>h.1.length+h.2.length+1).sum∧∀ h ∈ l,h.1.length+h.2.length≤(l.map λh=>h.1.length+h.2.length+1).sum:=by
  intro l
  induction l with
  | nil=>exact⟨Nat.le_refl _,λh hh=>by simp at hh⟩
  | cons a l ih=>
   simp only [List.map_cons,List.sum_cons,List.length_cons,List.mem_cons]
   refine⟨by omega,?_⟩
   rintro h (rfl | hh)
   ·omega
   ·have:=ih.2 h hh;omega
 obtain⟨k1,k2⟩:=key hs
 unfold Small at h
 exact⟨by omega,λx hx=>by have:=k2 x hx;omega⟩
theorem joinL_len (sep:List UInt8) (l:List (List UInt8)):(joinL sep l).length≤(l.map λx=>x.length+sep.length).sum:=by
 induction l with
 | nil=>simp [joinL]
 | cons a l ih=>
  cases l with
  | nil=>simp [joinL]
  | cons b l=>
   have h1:joinL sep (a::b::l)=a++sep++joinL sep (b::l):=rfl
   rw [h1]
   simp only [List.length_append,List.map_cons,List.sum_cons] at ih ⊢;omega
theorem Small.join {hs:List Hd} (h:Small hs) (nm:List UInt8):(joinL [44,32] (getV nm hs)).length≤2 ^ 21∧(getV nm hs).length≤2 ^ 20:=by
 have key:∀ (l:List Hd),((getV nm l).map λx=>x.length+2).sum≤2*(l.map λh=>h.1.length+h.2.length+1).sum∧(getV nm l).length≤(l.map λh=>h.1.length+h.2.length+1).sum:=by
  intro l
  induction l with
  | nil=>exact⟨Nat.le_refl _,Nat.le_refl _⟩
  | cons a l ih=>
   unfold getV at ih ⊢
   rw [List.filter_cons]
   split
   ·simp only [List.map_cons,List.sum_cons,List.length_cons];omega
   ·simp only [List.map_cons,List.sum_cons];omega
 have h1:=joinL_len [44,32] (getV nm hs)
 have h2:(joinL [44,32] (getV nm hs)).length≤((getV nm hs).map λx=>x.length+2).sum:=h1
 obtain⟨k1,k2⟩:=key hs
 unfold Small at h
 exact⟨by omega,by omega⟩
theorem pieces_len (s:List UInt8):(pieces s).length≤s.length+1∧∀ p ∈ pieces s,p.length≤s.length:=by
 obtain⟨h1,h2⟩:=splitA_len s s.length [] (Nat.le_refl _)
 unfold pieces
 refine⟨by simpa using h2,λp hp=>?_⟩
 obtain⟨q,hq,rfl⟩:=List.mem_map.1 hp
 have:=trimL_length bTab q
 have:=h1 q hq
 simp at this;omega
def valsL (l:List (List UInt8)):List (List UInt8):=if l=[] then [] else pieces (joinL [44,32] l)
theorem valsL_len (l:List (List UInt8)):(valsL l).length≤(joinL [44,32] l).length+1∧∀ p ∈ valsL l,p.length≤(joinL [44,32] l).length:=by
 unfold valsL
 split
 ·exact⟨Nat.zero_le _,λp hp=>by simp at hp⟩
 ·exact pieces_len _
theorem fin_vnil (H G:Hp):fin .pure H ro [.vnil] G=some (.val (.d (.lst [])),H):=rfl
theorem s53 (hS:SysOK sys) (l:List (List UInt8)) (hl:l.length<2 ^ 34) (hj:(joinL [44,32] l).length<2 ^ 34):run sys lim ro 53 [.d (.lst (l.map .str))] H=some (.val (.d (.lst ((valsL l).map .str))),H):=by
 refine runP hS rfl (by kernel_rfl) rfl ?_
 rw [R53]
 simp only [lnV_lst,iBin_eql,Option.bind_some,br3_bool,s58 hS l hl hj,liftR_val,s57 hS _ hj,fin_pure_d,fin_vnil,valsL]
 cases l with
 | nil=>rfl
 | cons a l=>simp;intro h;omega
theorem s35 (hS:SysOK sys) (hs:List Hd) (h:Small hs):∃ l:List (List UInt8),l.length<2 ^ 34∧(∀ p ∈ l,p.length<2 ^ 34)∧run sys lim ro 35 [.d (.lst (hs.map hdD))] H=some (.val (.d (.lst (l.map .str))),H):=by
 generalize hn:([120,45,99,111,110,116,101,110,116,45,116,121,112,101,45,111,112,116,105,111,110,115]:List UInt8)=nm
 have hnl:nm.length<2 ^ 34:=by rw [← hn];decide
 have hjl:=h.join nm
 obtain⟨k1,k2⟩:=valsL_len (getV nm hs)
 refine⟨valsL (getV nm hs),by omega,λp hp=>by have:=k2 p hp;omega,runP hS rfl (by kernel_rfl) rfl ?_⟩
 rw [R35,hn]
 simp only [s14 hS nm hs hnl h.short,liftR_val,lnV_lst,iBin_eql,Option.bind_some,br3_bool,frzArgs_1,frzA_d,s58 hS (getV nm hs) (by omega) (by omega),s57 hS _ (show (joinL [44,32] (getV nm hs)).length<2 ^ 34 by omega),fin_pure_d,fin_vnil,valsL]
 cases getV nm hs with
 | nil=>rfl
 | cons a l=>simp;intro h;omega
theorem s16 (hS:SysOK sys) (hs:List Hd) (h:Small hs):∃ b,run sys lim ro 16 [.d (.lst (hs.map hdD))] H=some (.val (.d (.bool b)),H):=by
 suffices h:∃ b,bodyK2 P tab (run sys) 0 0 16 [.d (.lst (hs.map hdD))] []=some (.val (.d (.bool b)),[]) by
  obtain⟨b,h⟩:=h
  exact⟨b,runP hS rfl (by kernel_rfl) rfl h⟩
 obtain⟨l,hl,hp,hr⟩:=s35 (lim:=([]:Hp).length) (ro:=([]:Hp).length) (H:=[]) hS hs h
 rw [R16]
 simp only [hr,liftR_val,g16_0,lnV_lst,iBin_gtr,Option.bind_some,brN3_bool]
 cases l with
 | nil=>exact⟨false,by simp [g16_2]⟩
 | cons a l=>
  have ha:=hp a (by simp)
  have hx:=ixA_strs (strs:=a::l) (i:=0) (k:=.i64) (by simp)
  have e:decide ((0:Int)<(((a::l).map D.str).length:Int))=true:=by simp
  rw [e,if_pos rfl,g16_1]
  have hx':ixA 1 (.d (.lst ((a::l).map .str))) (.d (.int .i64 0))=some (.lptr [.str (a::l)[0]] 0):=hx
  simp only [hx',Option.bind_some,ld_lptr,List.getElem?_cons_zero,Option.map_some,List.getElem_cons_zero,s36 hS a ha,liftR_val,iBin_seql,fin_pure_d]
  exact⟨_,rfl⟩
end Go.Tg
namespace Go.Tg
variable [Globs] {lim ro:Nat} {H:Hp}
attribute [local congr] bindC liftRC br3C brN3C
theorem listed_step {l:Nat→Bool} {σ vals:Nat→IV} {i:Nat} {v:IV} (h:∀ j,l j=true→σ j=vals j) (hv:v=vals i):∀ j,(decide (j=i) || l j)=true→(if j=i then v else σ j)=vals j:=by
 intro j hj
 by_cases e:j=i
 ·subst e;rw [if_pos rfl];exact hv
 ·rw [if_neg e];exact h j (by simpa [e] using hj)
def mimC (t s:List UInt8) (v:IV):Blk:=.cells 69 [.d (.str t),.d (.str s),v]
section
variable {t s set t' s':List UInt8} {ps ps':List D}
theorem step33_sq (hS:SysOK sys) {k:Nat} {n w:List UInt8} (hk:k<ps'.length) (he:ps'[k]=.agg [.str n,.str w]) (a0 a2:IV) (a1:List UInt8) (r1:IV×Hp) (v3 v6 v7 v8 v9 v10 v11 v12 v13 v14 v15 v16 v17 v18 v19:IV) (B0 B2:Blk) (hB2:∃ c,B2=.cells 69 c∧c.length=3) :
  sqK (C33 (run sys) 0 0 []) (rg 33 [1,1,0,1,0,1,0]) (en33_0 a0 a1 a2 r1 (.ptr 1 0,[B0,mimC t' s' (.d (.lst ps'))]) v3 (.d (.int .i64 (k:Nat))) v6 v7 v8 v9 v10 v11 v12 v13 v14 v15 v16 v17 v18 v19) [B0,mimC t' s' (.d (.lst ps')),B2] (q33_0 (run sys) 0 0 []) =
   some (.val (.tup [.d (mimD t' s' ps'),.d (.str w)]),[]):=by
 obtain⟨c2,rfl,hc2⟩:=hB2
 obtain⟨x,y,z,rfl⟩:∃ x y z,c2=[x,y,z]:=by
  match c2,hc2 with
  | [x,y,z],_=>exact⟨x,y,z,rfl⟩
 let vals:Nat→IV:=fun
  | 0=>.agg [.d (.str t'),.d (.str s'),.d (.lst ps')]
  | 1=>.ptr 1 2
  | 2=>.d (.lst ps')
  | 3=>.d (.int .i64 (k:Nat))
  | 4=>.lptr [.str n,.str w] 0
  | 5=>.lptr [.str n,.str w] 1
  | 6=>.d (.str w)
  | 7=>.un
  | _=>.d (.str w)
 let X3:Hp:=[B0,mimC t' s' (.d (.lst ps')),.cells 69 [x,y,z]]
 let Xf:Hp:=[B0,mimC t' s' (.d (.lst ps')),mimC t' s' (.d (.lst ps'))]
 have hG:∀ (b:Bool),ldN 3 (.ptr 1 0) (if b=true then Xf else X3)=some (.agg [.d (.str t'),.d (.str s'),.d (.lst ps')])∧ld1 (.ptr 1 2) (if b=true then Xf else X3)=some (.d (.lst ps')):=by
  intro b;cases b <;> exact⟨rfl,rfl⟩
 refine sqK_inv (by kernel_rfl) (λl σ G=>(∀ j,l j=true→σ j=vals j)∧G=if l 7=true then Xf else X3) (λ_=>.un) ⟨λj h=>(by cases h),rfl⟩ ?_ ?_
 ·rintro l σ G i o ⟨hσ,rfl⟩ ho hl hdep _
  have hsz:((rg 33 [1,1,0,1,0,1,0]).size:Nat)=9:=by kernel_rfl
  have hi:i<9:=by
   rcases Nat.lt_or_ge i 9 with h | h
   ·exact h
   ·rw [Array.getElem?_eq_none (by omega)] at ho;cases ho
  rcases (by omega:i=0∨i=1∨i=2∨i=3∨i=4∨i=5∨i=6∨i=7∨i=8) with rfl | rfl | rfl | rfl | rfl | rfl | rfl | rfl | rfl
  ·refine⟨_,_,val2_at (i:=0) ((O33_0_0 ..).trans ?_) ho,listed_step hσ rfl,rfl⟩
   simp only [(hG _).1];rfl
  ·exact⟨_,_,val2_at (i:=1) (O33_0_1 ..) ho,listed_step hσ rfl,rfl⟩
  ·have e1:=hσ 1 (hdep 1 (by kernel_rfl))
   refine⟨_,_,val2_at (i:=2) ((O33_0_2 ..).trans ?_) ho,listed_step hσ rfl,rfl⟩
   rw [e1]
   simp only [vals,(hG _).2];rfl
  ·exact⟨_,_,val2_at (i:=3) (O33_0_3 ..) ho,listed_step hσ rfl,rfl⟩
  ·have e1:=hσ 2 (hdep 2 (by kernel_rfl))
   have e2:=hσ 3 (hdep 3 (by kernel_rfl))
   refine⟨_,_,val2_at (i:=4) ((O33_0_4 ..).trans ?_) ho,listed_step hσ rfl,rfl⟩
   rw [e1,e2]
   simp only [vals]
   rw [ixA_lst hk (by rw [he];rfl),he];rfl
  ·have e1:=hσ 4 (hdep 4 (by kernel_rfl))
   refine⟨_,_,val2_at (i:=5) ((O33_0_5 ..).trans ?_) ho,listed_step hσ rfl,rfl⟩
   rw [e1];rfl
  ·have e1:=hσ 5 (hdep 5 (by kernel_rfl))
   refine⟨_,_,val2_at (i:=6) ((O33_0_6 ..).trans ?_) ho,listed_step hσ rfl,rfl⟩
   rw [e1];rfl
  ·have e1:=hσ 0 (hdep 0 (by kernel_rfl))
   refine⟨_,_,val2_at (i:=7) ((O33_0_7 ..).trans ?_) ho,listed_step hσ rfl,rfl⟩
   rw [e1,hl]
   rfl
  ·have e1:=hσ 6 (hdep 6 (by kernel_rfl))
   refine⟨_,_,val2_at (i:=8) (O33_0_8 ..) ho,listed_step hσ e1,rfl⟩
 ·rintro l σ G ⟨hσ,rfl⟩ hall
  have hsz:((rg 33 [1,1,0,1,0,1,0]).size:Nat)=9:=by kernel_rfl
  have e7:=hall 7 (by omega)
  have e8:=hσ 8 (hall 8 (by omega))
  rw [F33_0]
  refine (S33_0 ..).trans ?_
  rw [e8,e7]
  simp only [if_true,vals]
  exact fin_mim2 (ro:=0) (t:=t') (s:=s') (FrzTo.data 0 Xf ps') [] (.str w)
end
theorem srcCells_data {sz:Nat} (els:List D) (h:∀ e ∈ els,OkE sz e) (G:Hp):srcCells sz (.d (.lst els)) G=some (els.length,cellsOf els):=by
 unfold srcCells
 simp only
 rw [if_pos (List.all_eq_true.2 λe he=>by simpa using (h e he).1)]
 rfl
theorem Acc.appAll {ty sz ro:Nat} {G:Hp} {els:List D} (hr:ro≤G.length) (h:∀ e ∈ els,OkE sz e) (hl:els.length≤34359738368) :
  ∃ v' G',app ty sz ro (.vec G.length sz 0 0) (.d (.lst els)) (G++[.cells (2*ty) []])=some (v',G')∧Acc ty sz ro G' v' els∧G.length≤G'.length∧(∀ i,i<G.length→G'[i]? = G[i]?)∧(∃ b,ownB v'=some b∧G.length≤b∧b<G'.length):=by
 have hg:(G++[Blk.cells (2*ty) []])[G.length]? = some (.cells (2*ty) []):=by simp
 unfold app
 rw [srcCells_data els h]
 simp only [Option.bind_some,sameBlk,Bool.false_eq_true,if_false,hg]
 rw [if_pos ⟨trivial,trivial,by simp,hr⟩]
 cases els with
 | nil=>
  refine⟨.vec G.length sz 0 0,G++[.cells (2*ty) []],rfl,Acc.new ty sz ro G hr,by simp,λi hi=>List.getElem?_append_left hi,⟨_,rfl,Nat.le_refl _,by simp⟩⟩
 | cons e els=>
  refine⟨.vec (G.length+1) sz 0 (e::els).length,(G++[Blk.cells (2*ty) []]).set G.length Blk.dead++[Blk.cells (2*ty) (cellsOf (e::els))],?_,⟨h,.inr ⟨G.length+1,by omega,rfl,?_⟩⟩,by simp,λi hi=>?_,⟨_,rfl,by omega,by simp⟩⟩
  ·rw [if_neg (by simp),if_pos (by simpa using hl)]
   simp
  ·rw [List.getElem?_append_right (by simp)];simp
  ·rw [List.getElem?_append_left (by simp;omega),List.getElem?_set_ne (by omega),List.getElem?_append_left hi]
theorem Acc.frz' {ty sz ro:Nat} {G:Hp} {v:IV} {els:List D} (h:Acc ty sz ro G v els):∃ G',(∀ n,Tg.frz ro (n+2) v G=some (.lst els,G'))∧G'.length=G.length∧(∀ i,ownB v≠some i→G'[i]? = G[i]?)∧(v=.vnil∧els=[]∨∃ b,v=.vec b sz 0 els.length∧G'[b]? = some (.frz (els.flatMap D.cells))):=by
 rcases h.2 with ⟨h1,h2⟩ | ⟨b,h1,h2,h3⟩
 ·subst h1;subst h2;exact⟨G,λ_=>rfl,rfl,λ_ _=>rfl,.inl ⟨rfl,rfl⟩⟩
 ·subst h2
  refine⟨G.set b (.frz (els.flatMap D.cells)),λn=>?_,by simp,λi hi=>List.getElem?_set_ne (λe=>hi (by rw [e];rfl)),.inr ⟨b,rfl,set_get h3⟩⟩
  have hl:=cellsOf_length h.1
  unfold Tg.frz
  simp only [h3]
  rw [if_pos ⟨by omega,h1⟩]
  unfold cellsOf
  rw [frzMany_d _ (λx H=>by cases n <;> rfl)]
  simp only [Option.bind_some,h3,List.drop_zero,group_cells els h.1]
theorem out33 {G:Hp} {c:List IV} {x:IV} {els:List D} {t s y:List UInt8} (h2:G[2]? = some (.cells 69 c)) (hc:c.length=3) (h1:x.one=true∧x.cells=[x]) (hf:∀ B,FrzTo 0 (G.set 2 B) x els) :
  ((st 3 0 0 (.ptr 2 0) (.agg [.d (.str t),.d (.str s),x]) G).bind λh=>((ldN 3 (.ptr 2 0) h).bind λv=>(some [.d (.str y)]:Option (List IV)).map λl=>v::l).bind λl=>fin .pure [] 0 l h)=some (.val (.tup [.d (mimD t s els),.d (.str y)]),[]):=by
 have e1:st 3 0 0 (.ptr 2 0) (.agg [.d (.str t),.d (.str s),x]) G=some (G.set 2 (.cells 69 [.d (.str t),.d (.str s),x])):=by
  rw [st_cells (n:=3) (off:=0) h2 rfl (by omega) (by simp only [IV.cells,List.all_cons,List.all_nil,h1.1,Bool.and_true];rfl) (Nat.zero_le _) (.inl (Nat.zero_le _))]
  obtain⟨a,b,d,rfl⟩:∃ a b d,c=[a,b,d]:=by
   match c,hc with
   | [a,b,d],_=>exact⟨a,b,d,rfl⟩
  rfl
 have e2:ldN 3 (.ptr 2 0) (G.set 2 (.cells 69 [.d (.str t),.d (.str s),x]))=some (.agg [.d (.str t),.d (.str s),x]):=by rw [ldN_cells (set_get h2) (by simp)];rfl
 rw [e1]
 simp only [Option.bind_some,e2,Option.map_some]
 exact fin_mim2 (hf _) [] (.str y)
theorem ParL.snoc {ps:List D} (h:ParL ps) {n w:List UInt8} (hn:n.length<2 ^ 34) (hw:w.length<2 ^ 34):ParL (ps++[.agg [.str n,.str w]]):=by
 intro e he
 rcases List.mem_append.1 he with h' | h'
 ·exact h e h'
 ·exact⟨n,w,List.mem_singleton.1 h',hn,hw⟩
theorem bs_par0 (G:Hp):iBuildSlice P 32 0 [] G=some (.vec G.length 2 0 0,G++[.cells 220 []]):=by
 have e:P.underlying 32=some (.slice 110):=by kernel_rfl
 have e2:sizeT P 110=some 2:=by kernel_rfl
 have e3:zeroT P 110=some (.agg [.d (.str []),.d (.str [])]):=by kernel_rfl
 unfold iBuildSlice;rw [e];simp only [e2,e3];rfl
def csN:List UInt8:=[99,104,97,114,115,101,116]
theorem s33 (hS:SysOK sys) (t s:List UInt8) (ps:List D) (set t' s':List UInt8) {ps':List D} (hp:ParL ps') (hl:ps'.length<2 ^ 25) (h1:t.length+s.length<2 ^ 33) (h2:t'.length+s'.length<2 ^ 33) (hset:set.length<2 ^ 34) :
  ∃ ps'' set',ParL ps''∧ps''.length≤ps'.length+1∧set'.length<2 ^ 34∧run sys lim ro 33 [.d (mimD t s ps),.d (.str set),.d (mimD t' s' ps')] H=some (.val (.tup [.d (mimD t' s' ps''),.d (.str set')]),H):=by
 suffices h:∃ ps'' set',ParL ps''∧ps''.length≤ps'.length+1∧set'.length<2 ^ 34∧bodyK2 P tab (run sys) 0 0 33 [.d (mimD t s ps),.d (.str set),.d (mimD t' s' ps')] []=some (.val (.tup [.d (mimD t' s' ps''),.d (.str set')]),[]) by
  obtain⟨a,b,c1,c2,c3,h⟩:=h
  exact⟨a,b,c1,c2,c3,runP hS rfl (by kernel_rfl) rfl h⟩
 have hv:=SlP.data (G:=[mimC t s (.d (.lst ps)),mimC t' s' (.d (.lst ps')),mimC [] [] .vnil]) hp (by omega)
 obtain⟨k,r1,hk1,hk2⟩:=s55 (lim:=0) (ro:=0) (m:=.agg [.d (.str t'),.d (.str s'),.d (.lst ps')]) (nm:=csN) hS rfl rfl hv
 have b1:iBox 34 (.d (mimD t s ps)) []=some (.ptr 0 0,[mimC t s (.d (.lst ps))]):=rfl
 have b2:iBox 34 (.d (mimD t' s' ps')) [mimC t s (.d (.lst ps))]=some (.ptr 1 0,[mimC t s (.d (.lst ps)),mimC t' s' (.d (.lst ps'))]):=rfl
 have b3:([mimC t s (.d (.lst ps)),mimC t' s' (.d (.lst ps'))]++[Blk.cells 69 [.d (.str []),.d (.str []),.vnil]]:Hp)=[mimC t s (.d (.lst ps)),mimC t' s' (.d (.lst ps')),mimC [] [] .vnil]:=rfl
 have l1:ldN 3 (.ptr 1 0) [mimC t s (.d (.lst ps)),mimC t' s' (.d (.lst ps')),mimC [] [] .vnil]=some (.agg [.d (.str t'),.d (.str s'),.d (.lst ps')]):=rfl
 have l2:ld1 (.ptr 0 0) [mimC t s (.d (.lst ps)),mimC t' s' (.d (.lst ps')),mimC [] [] .vnil]=some (.d (.str t)):=rfl
 have l3:ld1 (.ptr 0 1) [mimC t s (.d (.lst ps)),mimC t' s' (.d (.lst ps')),mimC [] [] .vnil]=some (.d (.str s)):=rfl
 have l4:ld1 (.ptr 1 0) [mimC t s (.d (.lst ps)),mimC t' s' (.d (.lst ps')),mimC [] [] .vnil]=some (.d (.str t')):=rfl
 have l5:ld1 (.ptr 1 1) [mimC t s (.d (.lst ps)),mimC t' s' (.d (.lst ps')),mimC [] [] .vnil]=some (.d (.str s')):=rfl
 have r1':run sys ([]:Hp).length ([]:Hp).length 55 [.agg [.d (.str t'),.d (.str s'),.d (.lst ps')],.d (.str [99,104,97,114,115,101,116])] [mimC t s (.d (.lst ps)),mimC t' s' (.d (.lst ps')),mimC [] [] .vnil]=_:=r1
 have a1:=iBin_sadd 9 t [47] (by simp;omega)
 have a2:=iBin_sadd 9 (t++[47]) s (by simp;omega)
 have a3:=iBin_sadd 9 t' [47] (by simp;omega)
 have a4:=iBin_sadd 9 (t'++[47]) s' (by simp;omega)
 obtain⟨L,hL⟩:∃ L,L=bodyK2 P tab (run sys) 0 0 33 [.d (mimD t s ps),.d (.str set),.d (mimD t' s' ps')] []:=⟨_,rfl⟩
 suffices h:∃ ps'' set',ParL ps''∧ps''.length≤ps'.length+1∧set'.length<2 ^ 34∧L=some (.val (.tup [.d (mimD t' s' ps''),.d (.str set')]),[]) by
  obtain⟨a,b,c1,c2,c3,h⟩:=h
  exact⟨a,b,c1,c2,c3,hL.symm.trans h⟩
 have hR:=hL.trans (R33 (run sys) 0 0 [] (.d (mimD t s ps)) set (.d (mimD t' s' ps')))
 clear hL
 simp only [b1,b2,bsome,b3,l1,r1',liftR_val,padd_ptr,Nat.zero_add,l2,a1,l3,a2,l4,a3,l5,a4,iBin_sneq,br3_bool,iBin_lss] at hR
 by_cases hne:t++[47]++s=t'++[47]++s'
 ·
  rw [decide_eq_false (by simpa using hne)] at hR
  simp only [Bool.false_eq_true,if_false] at hR
  have st1:st 3 ([]:Hp).length ([]:Hp).length (.ptr [mimC t s (.d (.lst ps)),mimC t' s' (.d (.lst ps')),mimC [] [] .vnil].length 0) (.agg [.d (.str t'),.d (.str s'),.d (.lst ps')]) ([mimC t s (.d (.lst ps)),mimC t' s' (.d (.lst ps')),mimC [] [] .vnil]++[Blk.cells 69 [.d (.str []),.d (.str []),.vnil]])=some [mimC t s (.d (.lst ps)),mimC t' s' (.d (.lst ps')),mimC [] [] .vnil,mimC t' s' (.d (.lst ps'))]:=rfl
  simp only [st1,bsome,bs_par0] at hR
  generalize hX:[mimC t s (.d (.lst ps)),mimC t' s' (.d (.lst ps')),mimC [] [] .vnil,mimC t' s' (.d (.lst ps'))]=X at hR
  have hXl:X.length=4:=by rw [← hX];rfl
  have x1:X[1]? = some (mimC t' s' (.d (.lst ps'))):=by rw [← hX];rfl
  have x2:X[2]? = some (mimC [] [] .vnil):=by rw [← hX];rfl
  have x3:X[3]? = some (mimC t' s' (.d (.lst ps'))):=by rw [← hX];rfl
  have l6:ld1 (.ptr 1 2) (X++[Blk.cells 220 []])=some (.d (.lst ps')):=by rw [ld1_cells (get_app _ x1)];rfl
  obtain⟨v1,G1,p1,A1,le1,k1,o1,ho1,ho2,ho3⟩:=Acc.appAll (ty:=110) (sz:=2) (ro:=0) (G:=X) (Nat.zero_le _) hp.ok (by omega)
  have p1':app 110 2 ([]:Hp).length (.vec X.length 2 0 0) (.d (.lst ps')) (X++[.cells 220 []])=some (v1,G1):=p1
  simp only [l6,bsome,p1',bs_par] at hR
  obtain⟨v2,G2,p2,A2,le2,k2,o2,hq1,hq2,hq3⟩:=A1.push (e:=.agg [.str csN,.str set]) (OkE.agg rfl (by decide)) (Nat.zero_le _) (by omega)
  have p2':app 110 2 ([]:Hp).length v1 (.vec G1.length 2 0 1) (G1++[.cells 220 [.d (.str [99,104,97,114,115,101,116]),.d (.str set)]])=some (v2,G2):=p2
  simp only [p2',bsome] at hR
  have g2:∀ i,i<4→G2[i]? = X[i]?:=λi hi=>by
   rw [k2 i (by omega) (λe=>by rw [ho1] at e;cases e;omega),k1 i (by omega)]
  have v2one:=A2.vone
  have st2:st 1 ([]:Hp).length ([]:Hp).length (.ptr 3 2) v2 G2=some (G2.set 3 (mimC t' s' v2)):=by
   have h3:G2[3]? = some (.cells 69 [.d (.str t'),.d (.str s'),.d (.lst ps')]):=(g2 3 (by omega)).trans x3
   show st 1 0 0 (.ptr 3 2) v2 G2=_
   rw [st_cells (n:=1) (off:=2) h3 (by rw [v2one.2];rfl) (by simp) (by rw [v2one.2];simp [v2one.1]) (Nat.zero_le _) (.inl (Nat.zero_le _)),v2one.2]
   rfl
  have st2':st 1 ([]:Hp).length ([]:Hp).length (.ptr [mimC t s (.d (.lst ps)),mimC t' s' (.d (.lst ps')),mimC [] [] .vnil].length 2) v2 G2=some (G2.set 3 (mimC t' s' v2)):=st2
  simp only [st2',bsome] at hR
  generalize hY:G2.set 3 (mimC t' s' v2)=Y at hR
  have y1:Y[1]? = some (mimC t' s' (.d (.lst ps'))):=by rw [← hY,List.getElem?_set_ne (by decide),g2 1 (by omega)];exact x1
  have y2:Y[2]? = some (mimC [] [] .vnil):=by rw [← hY,List.getElem?_set_ne (by decide),g2 2 (by omega)];exact x2
  have y3:Y[3]? = some (mimC t' s' v2):=by rw [← hY];exact List.getElem?_set_self (by omega)
  have AY:Acc 110 2 0 Y v2 (ps'++[.agg [.str csN,.str set]]):=A2.keep (λb hb=>by rw [hq1] at hb;cases hb;rw [← hY];exact List.getElem?_set_ne (by omega))
  have next:∀ (G:Hp),G[1]? = some (mimC t' s' (.d (.lst ps')))→G[2]? = some (mimC [] [] .vnil)→((ldN 3 (.ptr 1 0) G).bind λv42=>(st 3 ([]:Hp).length ([]:Hp).length (.ptr 2 0) v42 G).bind λh43=>((ldN 3 (.ptr 2 0) h43).bind λv44=>(some [.d (.str set)]:Option (List IV)).map λl45=>v44::l45).bind λl46=>fin .pure [] ([]:Hp).length l46 h43)=some (.val (.tup [.d (mimD t' s' ps'),.d (.str set)]),[]):=by
   intro G e1 e2
   have e3:ldN 3 (.ptr 1 0) G=some (.agg [.d (.str t'),.d (.str s'),.d (.lst ps')]):=by rw [ldN_cells e1 (by simp)];rfl
   rw [e3]
   exact out33 e2 rfl ⟨rfl,rfl⟩ (λB=>FrzTo.data 0 _ ps')
  have nextR:∃ ps'' set',ParL ps''∧ps''.length≤ps'.length+1∧set'.length<2 ^ 34∧some (Out.val (.tup [.d (mimD t' s' ps'),.d (.str set)]),([]:Hp))=some (.val (.tup [.d (mimD t' s' ps''),.d (.str set')]),[]):=⟨ps',set,hp,by omega,hset,rfl⟩
  have q0:=g33_0 (run sys) 0 0 [] (.d (mimD t s ps)) set (.d (mimD t' s' ps')) [mimC t s (.d (.lst ps)),mimC t' s' (.d (.lst ps')),mimC [] [] .vnil] Y (.ptr 0 0,[mimC t s (.d (.lst ps))]) (.ptr 1 0,[mimC t s (.d (.lst ps)),mimC t' s' (.d (.lst ps'))])
  simp only [q0,iBin_lss,bsome,brN3_bool] at hR
  cases hk:decide (k<0) with
  | false=>
   simp only [hk,Bool.false_eq_true,if_false] at hR
   have q2:=λr27 r30 r31 r32 v3 v4 v6 v7 v8 v9 v10 v11 v12 v13 v14 v15 v16 v17 v18 v25 v28 v29 v39=>g33_2 (run sys) 0 0 [] (.d (mimD t s ps)) set (.d (mimD t' s' ps')) [mimC t s (.d (.lst ps)),mimC t' s' (.d (.lst ps')),mimC [] [] .vnil] Y (.ptr 0 0,[mimC t s (.d (.lst ps))]) (.ptr 1 0,[mimC t s (.d (.lst ps)),mimC t' s' (.d (.lst ps'))]) r27 r30 r31 r32 v3 v4 v6 v7 v8 v9 v10 v11 v12 v13 v14 v15 v16 v17 v18 v25 v28 v29 v39
   rw [q2] at hR
   exact⟨ps',set,hp,by omega,hset,hR.trans (next Y y1 y2)⟩
  | true=>
   simp only [hk,if_true] at hR
   have q1:=λr27 r30 r31 r32 v3 v4 v6 v7 v8 v9 v10 v11 v12 v13 v14 v15 v16 v17 v18 v25 v28 v29 v39=>g33_1 (run sys) 0 0 [] (.d (mimD t s ps)) set (.d (mimD t' s' ps')) [mimC t s (.d (.lst ps)),mimC t' s' (.d (.lst ps')),mimC [] [] .vnil] Y (.ptr 0 0,[mimC t s (.d (.lst ps))]) (.ptr 1 0,[mimC t s (.d (.lst ps)),mimC t' s' (.d (.lst ps'))]) r27 r30 r31 r32 v3 v4 v6 v7 v8 v9 v10 v11 v12 v13 v14 v15 v16 v17 v18 v25 v28 v29 v39
   rw [q1] at hR
   have ly:ldN 3 (.ptr 3 0) Y=some (.agg [.d (.str t'),.d (.str s'),v2]):=by rw [ldN_cells y3 (by simp)];rfl
   have ly':ldN 3 (.ptr [mimC t s (.d (.lst ps)),mimC t' s' (.d (.lst ps')),mimC [] [] .vnil].length 0) Y=some (.agg [.d (.str t'),.d (.str s'),v2]):=ly
   simp only [iBin_sneq,bsome,brN3_bool,ly'] at hR
   cases hs0:decide (set≠[]) with
   | false=>
    simp only [hs0,Bool.false_eq_true,if_false] at hR
    have q4:=λr27 r30 r31 r32 v3 v4 v6 v7 v8 v9 v10 v11 v12 v13 v14 v15 v16 v17 v18 v25 v28 v29 v39 v40=>g33_4 (run sys) 0 0 [] (.d (mimD t s ps)) set (.d (mimD t' s' ps')) [mimC t s (.d (.lst ps)),mimC t' s' (.d (.lst ps')),mimC [] [] .vnil] Y (.ptr 0 0,[mimC t s (.d (.lst ps))]) (.ptr 1 0,[mimC t s (.d (.lst ps)),mimC t' s' (.d (.lst ps'))]) r27 r30 r31 r32 v3 v4 v6 v7 v8 v9 v10 v11 v12 v13 v14 v15 v16 v17 v18 v25 v28 v29 v39 v40
    rw [q4] at hR
    exact⟨ps',set,hp,by omega,hset,hR.trans (next Y y1 y2)⟩
   | true=>
    simp only [hs0,if_true] at hR
    have q3:=λr27 r30 r31 r32 v3 v4 v6 v7 v8 v9 v10 v11 v12 v13 v14 v15 v16 v17 v18 v25 v28 v29 v39 v40 v41=>g33_3 (run sys) 0 0 [] (.d (mimD t s ps)) set (.d (mimD t' s' ps')) [mimC t s (.d (.lst ps)),mimC t' s' (.d (.lst ps')),mimC [] [] .vnil] Y (.ptr 0 0,[mimC t s (.d (.lst ps))]) (.ptr 1 0,[mimC t s (.d (.lst ps)),mimC t' s' (.d (.lst ps'))]) r27 r30 r31 r32 v3 v4 v6 v7 v8 v9 v10 v11 v12 v13 v14 v15 v16 v17 v18 v25 v28 v29 v39 v40 v41
    rw [q3] at hR
    have hps:=hp.snoc (n:=csN) (w:=set) (by decide) hset
    obtain⟨Z,z1,z2,z3,z4⟩:=AY.frz'
    have hz:frzArgs ([]:Hp).length [(true,.agg [.d (.str t'),.d (.str s'),v2])] Y=([.d (mimD t' s' (ps'++[.agg [.str csN,.str set]]))],Z):=by
     have e1:Tg.frz 0 6 (.agg [.d (.str t'),.d (.str s'),v2]) Y=some (mimD t' s' (ps'++[.agg [.str csN,.str set]]),Z):=by
      show (frzMany (Tg.frz 0 5) [.d (.str t'),.d (.str s'),v2] Y).map (λr=>(D.agg r.1,r.2))=_
      have e2:frzMany (Tg.frz 0 5) [.d (.str t'),.d (.str s'),v2] Y=(frzMany (Tg.frz 0 5) [v2] Y).map λq=>(.str t'::.str s'::q.1,q.2):=by
       show ((Option.some (D.str t',Y)).bind λr=>((Option.some (D.str s',r.2)).bind λr=>(frzMany (Tg.frz 0 5) [v2] r.2).map λq=>(r.1::q.1,q.2)).map λq=>(r.1::q.1,q.2))=_
       simp only [bsome,Option.map_map];rfl
      have e3:frzMany (Tg.frz 0 5) [v2] Y=some ([.lst (ps'++[.agg [.str csN,.str set]])],Z):=by
       show (Tg.frz 0 5 v2 Y).bind _=_
       rw [z1 3];rfl
      rw [e2,e3];rfl
     have e4:frzA 0 (.agg [.d (.str t'),.d (.str s'),v2]) Y=(.d (mimD t' s' (ps'++[.agg [.str csN,.str set]])),Z):=by
      show (match Tg.frz 0 6 (.agg [.d (.str t'),.d (.str s'),v2]) Y with | some (x,H)=>(IV.d x,H) | none=>_)=_
      rw [e1]
     exact congrArg (λp:IV×Hp=>([p.1],p.2)) e4
    obtain⟨b,rb⟩:=s56 (lim:=([]:Hp).length) (ro:=([]:Hp).length) (H:=Z) hS t' s' hps (by simp;omega) (by omega) (by omega)
    have zk:∀ i,i<4→Z[i]? = Y[i]?:=λi hi=>z3 i (λe=>by rw [hq1] at e;cases e;omega)
    have lz:ldN 3 (.ptr 3 0) Z=some (.agg [.d (.str t'),.d (.str s'),v2]):=by rw [ldN_cells ((zk 3 (by omega)).trans y3) (by simp)];rfl
    have lz':ldN 3 (.ptr [mimC t s (.d (.lst ps)),mimC t' s' (.d (.lst ps')),mimC [] [] .vnil].length 0) Z=some (.agg [.d (.str t'),.d (.str s'),v2]):=lz
    simp only [hz,rb,liftR_val,br3_bool] at hR
    cases b with
    | false=>exact⟨ps',set,hp,by omega,hset,hR.trans (by simpa using next Z ((zk 1 (by omega)).trans y1) ((zk 2 (by omega)).trans y2))⟩
    | true=>
     simp only [if_true,lz',bsome] at hR
     refine⟨_,set,hps,by simp,hset,hR.trans (out33 ((zk 2 (by omega)).trans y2) rfl v2one (λB=>?_))⟩
     rcases z4 with ⟨hv0,_⟩ | ⟨b,hb,hfb⟩
     ·rw [hv0] at hq1;cases hq1
     ·have:b≠2:=by intro e;subst e;rw [hb] at hq1;simp [ownB] at hq1;omega
      rw [hb]
      exact FrzTo.frozen hps.ok (by rw [List.getElem?_set_ne (Ne.symm this)];exact hfb)
 ·rw [decide_eq_true hne] at hR
  simp only [if_true] at hR
  cases hk:decide (k<0) with
  | true=>
   simp only [hk,if_true] at hR
   refine⟨ps',[],hp,by omega,by decide,hR.trans ?_⟩
   exact out33 (G:=[mimC t s (.d (.lst ps)),mimC t' s' (.d (.lst ps')),mimC [] [] .vnil]) rfl rfl ⟨rfl,rfl⟩ (λB=>FrzTo.data 0 _ ps')
  | false=>
   simp only [hk,Bool.false_eq_true,if_false] at hR
   obtain⟨i,rfl⟩:∃ i:Nat,k=(i:Nat):=⟨k.toNat,by have:=of_decide_eq_false hk;omega⟩
   have hi:i<ps'.length:=by omega
   obtain⟨n,w,he,hn,hw⟩:=hp ps'[i] (List.getElem_mem hi)
   refine⟨ps',w,hp,by omega,hw,hR.trans ?_⟩
   exact step33_sq hS hi he _ _ _ _ _ _ _ _ _ _ _ _ _ _ _ _ _ _ _ _ _ ⟨_,rfl,rfl⟩
end Go.Tg
