/- The stream: queue, hold, body, head. -/
import Derived.Test.YtnkobejhnphmhaaGreatDoorCh
import Derived.Test.YtnkobejhnphmhaaGreatDoorCi
set_option linter.all false
namespace Go.Tg
variable [Globs] {lim ro:Nat} {H:Hp}
attribute [local congr] bindC liftRC br3C brN3C
abbrev I64 (n:Int):IV:=.d (.int .i64 n)
theorem q_eql97 (b:Nat):iBin P .eql 97 (.ptr b 0) .nul=some (.d (.bool false)):=by kernel_rfl
theorem q_neq97 (b:Nat):iBin P .neq 97 (.ptr b 0) .nul=some (.d (.bool true)):=by kernel_rfl
theorem q_eql64 (b:Nat):iBin P .eql 64 (.ptr b 0) .nul=some (.d (.bool false)):=by kernel_rfl
theorem q_eql41 (b:Nat):iBin P .eql 41 (.ptr b 0) .nul=some (.d (.bool false)):=by kernel_rfl
section
variable {qb hb:Nat} {x y z u w:IV} {n:Int}
theorem s52 (hS:SysOK sys) (h:H[qb]? = some (.cells 247 [x,y,I64 n,z,w])):run sys lim ro 52 [.ptr qb 0] H=some (.val (I64 n),H):=by
 refine runB hS rfl (λ_=>by simp [closedVs,closedV]) ?_
 rw [R52]
 have l1:ld1 (.ptr qb 2) H=some (I64 n):=by rw [ld1_cells h];rfl
 simp only [q_eql97,bsome,br3_bool,Bool.false_eq_true,if_false,l1,fin_pure_d]
theorem s30 (hS:SysOK sys) {a b c:IV} (hh:H[hb]? = some (.cells 203 [.ptr qb 0,a,b,c])) (h:H[qb]? = some (.cells 247 [x,y,I64 n,z,w])):run sys lim ro 30 [.ptr hb 0] H=some (.val (I64 n),H):=by
 refine runB hS rfl (λ_=>by simp [closedVs,closedV]) ?_
 rw [R30]
 have l1:ld1 (.ptr hb 0) H=some (.ptr qb 0):=by rw [ld1_cells hh];rfl
 simp only [q_eql64,bsome,br3_bool,Bool.false_eq_true,if_false,l1,s52 hS h,lval,fin_pure_d]
theorem s119 (hS:SysOK sys) {m:Int} (h:H[qb]? = some (.cells 247 [x,I64 m,y,z,w])):run sys lim ro 119 [.ptr qb 0,I64 0] H=some (.val (.d (.str [])),H):=by
 refine runB hS rfl (λ_=>by simp [closedVs,closedV]) ?_
 refine (R119 ..).trans ?_
 have e1:iMakeSlice P 113 (I64 0) (I64 0) H=some (.vec H.length 1 0 0,H++[.cells 10 []]):=by kernel_rfl
 have hA:Acc 5 1 H.length (H++[.cells 10 []]) (.vec H.length 1 0 0) (bD []):=Acc.new 5 1 H.length H (Nat.le_refl _)
 have l1:ld1 (.ptr qb 1) (H++[.cells 10 []])=some (I64 m):=by rw [ld1_cells (get_app _ h)];rfl
 have hB:loopW (stepL (C119 (run sys) lim ro H) [0,1,5,6,7] (cd 119 [1,1,1,1,0,1,0,0])) (E119 (.ptr qb 0) (I64 0) (.vec H.length 1 0 0) (I64 m) (I64 0),H++[.cells 10 []])=some (.exi 0,E119 (.ptr qb 0) (I64 0) (.vec H.length 1 0 0) (I64 m) (I64 0),H++[.cells 10 []]):=by
  refine loopW_done ?_
  rw [B119_0]
  simp only [lnV_vec,bsome,iBin_lss,show decide (((0:Nat):Int)<0)=false from rfl,br3_bool,Bool.false_eq_true,if_false]
 rw [e1,bsome,q_neq97,bsome]
 simp only [br3_bool,if_true,l1,bsome,hB,K119_0x0,hA.bstr,fin_pure_d]
theorem s96 (hS:SysOK sys) {m:Int} (h:H[qb]? = some (.cells 247 [x,I64 m,y,z,w])):run sys lim ro 96 [.ptr qb 0,I64 0] H=some (.val (.d (.str [])),H):=by
 have e:tab.mode 96=.keep:=by kernel_rfl
 refine runB hS rfl (λh=>by rw [e] at h;cases h) ?_
 rw [R96]
 simp only [s119 hS h,lval,iBin_gtr,show decide ((0:Int)<0)=false from rfl,bsome,br3_bool,Bool.false_eq_true,if_false]
 rfl
theorem s70 (hS:SysOK sys) {m:Int} (h:H[qb]? = some (.cells 247 [x,I64 m,I64 0,z,w])):run sys lim ro 70 [.ptr qb 0] H=some (.val (.d (.str [])),H):=by
 have e:tab.mode 70=.keep:=by kernel_rfl
 refine runB hS rfl (λh=>by rw [e] at h;cases h) ?_
 rw [R70]
 simp only [s52 hS h,lval,s96 hS h]
 rfl
end
theorem Small.len {hs:List Hd} (h:Small hs):hs.length<67108864:=by
 have key:∀ (l:List Hd),l.length≤(l.map λh=>h.1.length+h.2.length+1).sum:=by
  intro l
  induction l with
  | nil=>exact Nat.le_refl _
  | cons a l ih=>simp only [List.map_cons,List.sum_cons,List.length_cons];omega
 have:=key hs
 unfold Small at h
 omega
def headD (st:Int) (hs:List Hd):D:=.agg [.int .i64 1,.int .i64 0,.int .i64 st,.lst (hs.map hdD),.str [],.str []]
theorem s26 (hS:SysOK sys) (st:Int) (hs:List Hd) (hl:hs.length<67108864):run sys lim ro 26 [.d (replyD st hs)] H=some (.val (.d (replyD st hs)),H):=by
 refine runP hS rfl (by kernel_rfl) rfl ?_
 rw [R26]
 have b1:iBox 28 (.d (replyD st hs)) []=some (.ptr 0 0,[.cells 57 [I64 st,.d (.lst (hs.map hdD))]]):=rfl
 have r1:∀ G,run sys ([]:Hp).length ([]:Hp).length 45 [.d (.lst (hs.map hdD))] G=some (.val (.d (.lst (hs.map hdD))),G):=λG=>run_prim hS (g:=pClone) rfl (if_pos ⟨by rw [List.all_eq_true];intro x hx;obtain⟨h,_,rfl⟩:=List.mem_map.1 hx;rfl,by rw [List.length_map];exact hl⟩)
 have l1:ld1 (.ptr 0 1) ([.cells 57 [I64 st,.d (.lst (hs.map hdD))]]++[Blk.cells 57 [.d (.int .i64 0),.vnil]])=some (.d (.lst (hs.map hdD))):=rfl
 simp only [b1,bsome,padd_ptr,Nat.zero_add,l1,frzArgs_1,frzA_d,r1,lval]
 rfl
end Go.Tg
namespace Go.Tg
variable [Globs] {lim ro:Nat} {H:Hp}
attribute [local congr] bindC liftRC br3C brN3C
section
variable {lg:Bool} {lk dp:Int} {url:List UInt8} {cr nc:Bool} {md stt:Int} {hs:List Hd} {kn:Bool}
def caseD (lg:Bool) (lk dp:Int) (url:List UInt8) (cr nc:Bool) (md stt:Int) (hs:List Hd) (kn:Bool):D:=.agg [.bool lg,.int .i64 lk,.int .i64 dp,.str url,.bool cr,.bool nc,.int .i64 md,.int .i64 stt,.lst (hs.map hdD),.bool kn]
abbrev caseC (lg:Bool) (lk dp:Int) (url:List UInt8) (cr nc:Bool) (md stt:Int) (hd:IV) (kn:Bool):List IV:=[.d (.bool lg),I64 lk,I64 dp,.d (.str url),.d (.bool cr),.d (.bool nc),I64 md,I64 stt,hd,.d (.bool kn)]
abbrev judC0:Blk:=.cells 145 [.d (.int .i64 0),.d (.str []),.d (.int .i64 0),.d (.bool false)]
theorem s88 (hS:SysOK sys) (hG:GAsp) (h:Small hs) (hf:Free lg cr nc hs):∃ r,run sys lim ro 88 [.d (caseD lg lk dp url cr nc md stt hs kn)] H=some (.val (.d (judgedD 1 r)),H):=by
 suffices h:∃ r,bodyK2 P tab (run sys) 0 0 88 [.d (caseD lg lk dp url cr nc md stt hs kn)] []=some (.val (.d (judgedD 1 r)),[]) by
  obtain⟨r,h⟩:=h
  exact⟨r,runP hS rfl (by kernel_rfl) rfl h⟩
 obtain⟨L,hL⟩:∃ L,L=bodyK2 P tab (run sys) 0 0 88 [.d (caseD lg lk dp url cr nc md stt hs kn)] []:=⟨_,rfl⟩
 rw [← hL]
 have hB:=hL.trans (R88 (run sys) 0 0 [] (.d (caseD lg lk dp url cr nc md stt hs kn)))
 clear hL
 have b1:iBox 30 (.d (caseD lg lk dp url cr nc md stt hs kn)) []=some (.ptr 0 0,[.cells 61 (caseC lg lk dp url cr nc md stt (.d (.lst (hs.map hdD))) kn)]):=rfl
 have b2:([.cells 61 (caseC lg lk dp url cr nc md stt (.d (.lst (hs.map hdD))) kn)]++[Blk.cells 145 [.d (.int .i64 0),.d (.str []),.d (.int .i64 0),.d (.bool false)]]:Hp)=[.cells 61 (caseC lg lk dp url cr nc md stt (.d (.lst (hs.map hdD))) kn),judC0]:=rfl
 have b3:([.cells 61 (caseC lg lk dp url cr nc md stt (.d (.lst (hs.map hdD))) kn)]:Hp).length=1:=rfl
 generalize hX:([.cells 61 (caseC lg lk dp url cr nc md stt (.d (.lst (hs.map hdD))) kn),judC0]:Hp)=X at b2
 have x1:X[1]? = some judC0:=by rw [← hX];rfl
 have l0:ld1 (.ptr 0 0) X=some (.d (.bool lg)):=by rw [← hX];rfl
 have l3:ldN 4 (.ptr 0 3) X=some (askV url cr nc md):=by rw [← hX];rfl
 have l7:ldN 2 (.ptr 0 7) X=some (.agg [I64 stt,.d (.lst (hs.map hdD))]):=by rw [← hX];rfl
 have l9:ld1 (.ptr 0 9) X=some (.d (.bool kn)):=by rw [← hX];rfl
 have f1:frzArgs ([]:Hp).length [(false,askV url cr nc md),(true,.agg [I64 stt,.d (.lst (hs.map hdD))])] X=([askV url cr nc md,.d (replyD stt hs)],X):=rfl
 have f2:frzArgs ([]:Hp).length [(false,askV url cr nc md),(true,.agg [I64 stt,.d (.lst (hs.map hdD))]),(false,.d (.bool kn))] X=([askV url cr nc md,.d (replyD stt hs),.d (.bool kn)],X):=rfl
 simp only [b1,bsome,padd_ptr,Nat.zero_add,b2,l0,br3_bool,l3,l7,b3,l9] at hB
 cases lg with
 | true=>
  have hcn:(cr && nc)=false:=hf.resolve_right (λe=>by cases e.1)
  obtain⟨r,hr⟩:=s114 (lim:=([]:Hp).length) (ro:=([]:Hp).length) (H:=X) (url:=url) (cr:=cr) (nc:=nc) (md:=md) (stt:=stt) (hs:=hs) hS h hcn
  rw [if_pos rfl,f1] at hB
  simp only [hr,lval] at hB
  exact⟨r,hB.trans (out_j x1 rfl 1 r _ (.inl rfl))⟩
 | false=>
  obtain⟨r,hr⟩:=s115 (lim:=([]:Hp).length) (ro:=([]:Hp).length) (H:=X) (url:=url) (cr:=cr) (nc:=nc) (md:=md) (stt:=stt) (hs:=hs) hS hG h kn hf
  rw [if_neg (by simp),f2] at hB
  simp only [hr,lval] at hB
  exact⟨r,hB.trans (out_j x1 rfl 1 r _ (.inl rfl))⟩
theorem s65 (hS:SysOK sys) (hG:GAsp) (h:Small hs) (hf:Free lg cr nc hs):∃ r,run sys lim ro 65 [.d (caseD lg lk dp url cr nc md stt hs kn)] H=some (.val (.d (judgedD 1 r)),H):=by
 have b1:iBox 30 (.d (caseD lg lk dp url cr nc md stt hs kn)) []=some (.ptr 0 0,[.cells 61 (caseC lg lk dp url cr nc md stt (.d (.lst (hs.map hdD))) kn)]):=rfl
 have b2:([.cells 61 (caseC lg lk dp url cr nc md stt (.d (.lst (hs.map hdD))) kn)]++[Blk.cells 145 [.d (.int .i64 0),.d (.str []),.d (.int .i64 0),.d (.bool false)]]:Hp)=[.cells 61 (caseC lg lk dp url cr nc md stt (.d (.lst (hs.map hdD))) kn),judC0]:=rfl
 have b3:([.cells 61 (caseC lg lk dp url cr nc md stt (.d (.lst (hs.map hdD))) kn)]:Hp).length=1:=rfl
 generalize hX:([.cells 61 (caseC lg lk dp url cr nc md stt (.d (.lst (hs.map hdD))) kn),judC0]:Hp)=X at b2
 have x1:X[1]? = some judC0:=by rw [← hX];rfl
 have l0:ldN 10 (.ptr 0 0) X=some (.agg (caseC lg lk dp url cr nc md stt (.d (.lst (hs.map hdD))) kn)):=by rw [← hX];rfl
 have f1:frzA ([]:Hp).length (.agg (caseC lg lk dp url cr nc md stt (.d (.lst (hs.map hdD))) kn)) X=(.d (caseD lg lk dp url cr nc md stt hs kn),X):=rfl
 obtain⟨r,hr⟩:=s88 (lim:=([]:Hp).length) (ro:=([]:Hp).length) (H:=X) (lg:=lg) (lk:=lk) (dp:=dp) (url:=url) (cr:=cr) (nc:=nc) (md:=md) (stt:=stt) (hs:=hs) (kn:=kn) hS hG h hf
 refine⟨r,runP hS rfl (by kernel_rfl) rfl ?_⟩
 refine (R65 ..).trans ?_
 rw [b1,bsome]
 simp only [b2,l0,bsome,frzArgs_1,f1,hr,lval,b3]
 exact out_j x1 rfl 1 r _ (.inl rfl)
abbrev strC (cs:List IV) (stage:Int) (hb:Nat) (x:IV) (j0 j1 j2 j3:IV) (is:IV) (came work:Int) (sn:IV):List IV:=cs++[I64 stage,.ptr hb 0,x,j0,j1,j2,j3,is,I64 came,I64 work,sn]
abbrev holdB (q:Nat) (s c w:Int):Blk:=.cells 203 [.ptr q 0,I64 s,I64 c,I64 w]
abbrev queB (x:IV) (a m o:Int):Blk:=.cells 247 [x,I64 a,I64 0,I64 m,I64 o]
theorem s71 (hS:SysOK sys) {hb q:Nat} {s c w:Int} (t:List UInt8) (h:H[hb]? = some (holdB q s c w)) (hr:ro≤hb):run sys lim ro 71 [.ptr hb 0,.d (.str t)] H=some (.val (.d (.str t)),H.set hb (holdB q s c (IntKind.i64.wrap (w+(t.length:Nat))))):=by
 refine runB hS rfl (λ_=>rfl) ?_
 rw [R71]
 have l1:ld1 (.ptr hb 3) H=some (I64 w):=by rw [ld1_cells h];rfl
 have e1:∀ v:Int,st 1 H.length ro (.ptr hb 3) (I64 v) H=some (H.set hb (holdB q s c v)):=by
  intro v
  rw [st_cells (n:=1) (off:=3) h rfl (by simp) rfl hr (.inr rfl)]
  rfl
 simp only [l1,lnS_str,bsome,iBin_add,e1,fin_mut_d,set_take]
theorem s50 (hS:SysOK sys) {hb q:Nat} {c a m o:Int} {x:IV} (h:H[hb]? = some (holdB q 0 c 0)) (hq:H[q]? = some (queB x a m o)):run sys 0 0 50 [.ptr hb 0] H=some (.val (.d (.str [])),H.set hb (holdB q 1 c 0)):=by
 have e:tab.mode 50=.keep:=by kernel_rfl
 refine runB hS rfl (λh=>by rw [e] at h;cases h) ?_
 have hne:hb≠q:=by intro e;subst e;rw [h] at hq;cases hq
 have l1:ld1 (.ptr hb 1) H=some (I64 0):=by rw [ld1_cells h];rfl
 have e1:st 1 0 0 (.ptr hb 1) (I64 1) H=some (H.set hb (holdB q 1 c 0)):=by
  rw [st_cells (n:=1) (off:=1) h rfl (by simp) rfl (Nat.zero_le _) (.inl (Nat.zero_le _))]
  rfl
 have h2:(H.set hb (holdB q 1 c 0))[hb]? = some (holdB q 1 c 0):=set_get h
 have hq2:(H.set hb (holdB q 1 c 0))[q]? = some (queB x a m o):=by rw [List.getElem?_set_ne hne];exact hq
 have l2:ld1 (.ptr hb 0) (H.set hb (holdB q 1 c 0))=some (.ptr q 0):=by rw [ld1_cells h2];rfl
 have r1:=s70 (lim:=0) (ro:=0) hS hq2
 have r2:=s71 (lim:=0) (ro:=0) hS [] h2 (Nat.zero_le _)
 rw [List.set_set] at r2
 have w0:IntKind.i64.wrap ((0:Int)+((([]:List UInt8).length:Nat):Int))=0:=by decide
 rw [w0] at r2
 rw [R50,g50_0]
 simp only [q_eql64,bsome,brN3_bool,Bool.false_eq_true,if_false,g50_2,l1,iBin_ineq,show decide ((0:Int)≠0)=false from rfl,br3_bool,e1,l2,r1,lval,r2]
 rfl
theorem bs_out (k:Int) (s:List UInt8) (G:Hp):iBuildSlice P 45 1 [(0,.agg [I64 k,I64 0,I64 0,.vnil,.d (.str s),.d (.str [])])] G=some (.vec G.length 6 0 1,G++[.cells 98 [I64 k,I64 0,I64 0,.vnil,.d (.str s),.d (.str [])]]):=by
 have e:P.underlying 45=some (.slice 49):=by kernel_rfl
 have e2:sizeT P 49=some 6:=by kernel_rfl
 have e3:zeroT P 49=some (.agg [I64 0,I64 0,I64 0,.vnil,.d (.str []),.d (.str [])]):=by kernel_rfl
 unfold iBuildSlice;rw [e];simp only [e2,e3];rfl
theorem app_one {ty sz T:Nat} {cs:List IV} (G:Hp) (h:cs.length=sz):app ty sz ro .vnil (.vec G.length sz 0 1) (G++[.cells T cs])=some (.vec (G.length+1) sz 0 1,G++[.cells T cs]++[.cells (2*ty) cs]):=by
 have hn:(G++[Blk.cells T cs])[G.length]? = some (.cells T cs):=by simp
 have hsrc:srcCells sz (.vec G.length sz 0 1) (G++[Blk.cells T cs])=some (1,cs):=by
  unfold srcCells
  simp only [hn,if_true,Nat.zero_add,Nat.one_mul,h,Nat.le_refl,List.drop_zero]
  rw [← h,List.take_length]
 unfold app
 rw [hsrc]
 simp [sameBlk]
theorem s48_nil (hS:SysOK sys) (x:IV):run sys lim ro 48 [x,.d (.str [])] H=some (.val x,H):=by
 have e:tab.mode 48=.keep:=by kernel_rfl
 refine runB hS rfl (λh=>by rw [e] at h;cases h) ?_
 rw [R48]
 simp only [iBin_seql,decide_true,bsome,br3_bool,if_true]
 rfl
theorem s48_one (hS:SysOK sys) (s:List UInt8) (hs:s≠[]):run sys lim ro 48 [.vnil,.d (.str s)] H=some (.val (.vec (H.length+1) 6 0 1),H++[.cells 98 [I64 2,I64 0,I64 0,.vnil,.d (.str s),.d (.str [])]]++[.cells 98 [I64 2,I64 0,I64 0,.vnil,.d (.str s),.d (.str [])]]):=by
 have e:tab.mode 48=.keep:=by kernel_rfl
 refine runB hS rfl (λh=>by rw [e] at h;cases h) ?_
 rw [R48]
 simp only [iBin_seql,hs,decide_false,bsome,br3_bool,Bool.false_eq_true,if_false,bs_out,app_one H (show ([I64 2,I64 0,I64 0,.vnil,.d (.str s),.d (.str [])]:List IV).length=6 from rfl)]
 rfl
theorem ib_head (st:Int) (l:List D):iBuild P 49 [(0,.d (.int .i64 1)),(2,I64 st),(3,.d (.lst l))]=some (.agg [I64 1,I64 0,I64 st,.d (.lst l),.d (.str []),.d (.str [])]):=by kernel_rfl
theorem s49 (hS:SysOK sys) (hl:hs.length<67108864) {b:Nat} {c:List IV} (h:H[b]? = some (.cells 149 (caseC lg lk dp url cr nc md stt (.d (.lst (hs.map hdD))) kn++c))):run sys lim ro 49 [.ptr b 0] H=some (.val (.d (headD stt hs)),H):=by
 refine runB hS rfl (λ_=>by simp [closedVs,closedV]) ?_
 rw [R49]
 have h':=get_app [Blk.cells 99 [.d (.int .i64 0),.d (.int .i64 0),.d (.int .i64 0),.vnil,.d (.str []),.d (.str [])]] h
 have l1:ld1 (.ptr b 7) (H++[Blk.cells 99 [.d (.int .i64 0),.d (.int .i64 0),.d (.int .i64 0),.vnil,.d (.str []),.d (.str [])]])=some (I64 stt):=by rw [ld1_cells h'];rfl
 have l2:ldN 2 (.ptr b 7) (H++[Blk.cells 99 [.d (.int .i64 0),.d (.int .i64 0),.d (.int .i64 0),.vnil,.d (.str []),.d (.str [])]])=some (.agg [I64 stt,.d (.lst (hs.map hdD))]):=by rw [ldN_cells h' (by simp)];rfl
 have q1:∀ {ρ:Type} (y:Option ρ),fitsL false [(true,.agg [I64 stt,.d (.lst (hs.map hdD))])] y=y:=λy=>rfl
 have f1:∀ G,frzArgs H.length [(true,.agg [I64 stt,.d (.lst (hs.map hdD))])] G=([.d (replyD stt hs)],G):=λ_=>rfl
 have fl:fld1 1 (.d (replyD stt hs))=some (.d (.lst (hs.map hdD))):=rfl
 have st1:=st_new (lim:=H.length) (ro:=H.length) (n:=6) (off:=0) (ty:=99) (G:=H) (cs:=[.d (.int .i64 0),.d (.int .i64 0),.d (.int .i64 0),.vnil,.d (.str []),.d (.str [])]) (v:=.agg [I64 1,I64 0,I64 stt,.d (.lst (hs.map hdD)),.d (.str []),.d (.str [])]) rfl (by simp) rfl (Nat.le_refl _) (Nat.le_refl _)
 have st1':st 6 H.length H.length (.ptr H.length 0) (.agg [I64 1,I64 0,I64 stt,.d (.lst (hs.map hdD)),.d (.str []),.d (.str [])]) (H++[Blk.cells 99 [.d (.int .i64 0),.d (.int .i64 0),.d (.int .i64 0),.vnil,.d (.str []),.d (.str [])]])=some (H++[Blk.cells 99 [I64 1,I64 0,I64 stt,.d (.lst (hs.map hdD)),.d (.str []),.d (.str [])]]):=st1
 have l3:ldN 6 (.ptr H.length 0) (H++[Blk.cells 99 [I64 1,I64 0,I64 stt,.d (.lst (hs.map hdD)),.d (.str []),.d (.str [])]])=some (.agg [I64 1,I64 0,I64 stt,.d (.lst (hs.map hdD)),.d (.str []),.d (.str [])]):=ldN_new H 99 6 _ rfl
 simp only [l1,l2,bsome,q1,f1,s26 hS _ _ hl,lval,fl,ib_head,st1',l3,Option.map_some]
 rfl
end
end Go.Tg
namespace Go.Tg
variable [Globs] {lim ro:Nat} {H:Hp}
attribute [local congr] bindC liftRC br3C brN3C
section
variable {lg:Bool} {lk dp:Int} {url:List UInt8} {cr nc:Bool} {md stt:Int} {hs:List Hd} {kn:Bool}
abbrev headC (st:Int) (hs:List Hd):Blk:=.cells 98 [I64 1,I64 0,I64 st,.d (.lst (hs.map hdD)),.d (.str []),.d (.str [])]
theorem bs_head (st:Int) (hs:List Hd) (G:Hp):iBuildSlice P 45 1 [(0,.d (headD st hs))] G=some (.vec G.length 6 0 1,G++[headC st hs]):=by
 have e:P.underlying 45=some (.slice 49):=by kernel_rfl
 have e2:sizeT P 49=some 6:=by kernel_rfl
 have e3:zeroT P 49=some (.agg [I64 0,I64 0,I64 0,.vnil,.d (.str []),.d (.str [])]):=by kernel_rfl
 unfold iBuildSlice;rw [e];simp only [e2,e3];rfl
theorem s46 (hS:SysOK sys) (hG:GAsp) (h:Small hs) (hf:Free lg cr nc hs) {b hb q:Nat} {x j0 j1 j2 j3 is sn qx:IV} {came work s c w a m o:Int} (e:Bool)
  (hb1:H[b]? = some (.cells 149 (strC (caseC lg lk dp url cr nc md stt (.d (.lst (hs.map hdD))) kn) 0 hb x j0 j1 j2 j3 is came work sn))) (hh:H[hb]? = some (holdB q s c w)) (hq:H[q]? = some (queB qx a m o)) :
  ∃ r,run sys 0 0 46 [.ptr b 0,.d (.bool e)] H=some (.val (.agg [I64 1,.d (.str r),I64 0,.d (.bool false)]),H++[.cells 145 [I64 1,.d (.str r),I64 0,.d (.bool false)]]):=by
 have em:tab.mode 46=.keep:=by kernel_rfl
 generalize hX:H++[judC0]=X
 have x1:X[b]? = some (.cells 149 (strC (caseC lg lk dp url cr nc md stt (.d (.lst (hs.map hdD))) kn) 0 hb x j0 j1 j2 j3 is came work sn)):=by rw [← hX];exact get_app _ hb1
 have xh:X[hb]? = some (holdB q s c w):=by rw [← hX];exact get_app _ hh
 have xq:X[q]? = some (queB qx a m o):=by rw [← hX];exact get_app _ hq
 have l11:ld1 (.ptr b 11) X=some (.ptr hb 0):=by rw [ld1_cells x1];rfl
 have l10:ld1 (.ptr b 10) X=some (I64 0):=by rw [ld1_cells x1];rfl
 have l0:ldN 10 (.ptr b 0) X=some (.agg (caseC lg lk dp url cr nc md stt (.d (.lst (hs.map hdD))) kn)):=by rw [ldN_cells x1 (by simp)];rfl
 have f1:frzA 0 (.agg (caseC lg lk dp url cr nc md stt (.d (.lst (hs.map hdD))) kn)) X=(.d (caseD lg lk dp url cr nc md stt hs kn),X):=rfl
 obtain⟨r,hr⟩:=s65 (lim:=0) (ro:=0) (H:=X) (lg:=lg) (lk:=lk) (dp:=dp) (url:=url) (cr:=cr) (nc:=nc) (md:=md) (stt:=stt) (hs:=hs) (kn:=kn) hS hG h hf
 have st1:=st_new (lim:=0) (ro:=0) (n:=4) (off:=0) (ty:=145) (G:=H) (cs:=[.d (.int .i64 0),.d (.str []),.d (.int .i64 0),.d (.bool false)]) (v:=.d (judgedD 1 r)) rfl (by simp) rfl (Nat.zero_le _) (Nat.zero_le _)
 have st1':st 4 0 0 (.ptr H.length 0) (.d (judgedD 1 r)) X=some (H++[.cells 145 [I64 1,.d (.str r),I64 0,.d (.bool false)]]):=by rw [← hX];exact st1
 have l4:ldN 4 (.ptr H.length 0) (H++[.cells 145 [I64 1,.d (.str r),I64 0,.d (.bool false)]])=some (.agg [I64 1,.d (.str r),I64 0,.d (.bool false)]):=ldN_new H 145 4 _ rfl
 refine⟨r,runB hS rfl (λh=>by rw [em] at h;cases h) ?_⟩
 rw [R46,hX]
 simp only [l11,bsome,s30 hS xh xq,lval,l10,iBin_eql,decide_true,br3_bool,if_true,l0,frzArgs_1,f1,hr,st1',l4,Option.map_some]
 rfl
def tellH (H0:Hp) (hb q:Nat) (c:Int) (stt:Int) (hs:List Hd) (p2 p7:Bool):Hp:=(if p7=true then H0.set hb (holdB q 1 c 0) else H0)++(if p2=true then [headC stt hs] else [])
theorem tellH_len {H0:Hp} {hb q:Nat} {c:Int} (p2 p7:Bool):H0.length≤(tellH H0 hb q c stt hs p2 p7).length:=by
 unfold tellH;cases p2 <;> cases p7 <;> simp
theorem tellH_get {H0:Hp} {hb q:Nat} {c:Int} (p2 p7:Bool) {i:Nat} {x:Blk} (h:H0[i]? = some x) (hi:hb≠i):(tellH H0 hb q c stt hs p2 p7)[i]? = some x:=by
 unfold tellH
 refine get_app _ ?_
 cases p7 with
 | false=>exact h
 | true=>simp only [if_true];rw [List.getElem?_set_ne hi];exact h
theorem settle_sq (hS:SysOK sys) (hsm:Small hs) {b hb q:Nat} {x j0 j1 j2 j3 is sn qx:IV} {came work c a m o stg:Int} (H1 H0:Hp) (e:Bool) (h2:Hp) (v1 v4 v5 v14 v17 v18:IV)
  (hb1:H0[b]? = some (.cells 149 (strC (caseC lg lk dp url cr nc md stt (.d (.lst (hs.map hdD))) kn) stg hb x j0 j1 j2 j3 is came work sn))) (hh:H0[hb]? = some (holdB q 0 c 0)) (hq:H0[q]? = some (queB qx a m o)) :
  sqK (C27 (run sys) 0 0 H1) (rg 27 [1,1,1,1,1,1,0]) (en27_0 e b h2 v1 v4 v5 v14 v17 v18) H0 (q27_0 (run sys) 0 0 H1)=some (.val (.vec H0.length 6 0 1),tellH H0 hb q c stt hs true true):=by
 have hsz:((rg 27 [1,1,1,1,1,1,0]).size:Nat)=10:=by kernel_rfl
 have nb:hb≠b:=by intro e;subst e;rw [hb1] at hh;cases hh
 have nq:hb≠q:=by intro e;subst e;rw [hq] at hh;cases hh
 let vals:Nat→IV:=fun
  | 0=>.ptr b 0
  | 1=>.d (headD stt hs)
  | 2=>.vec H0.length 6 0 1
  | 3=>.ptr b 0
  | 4=>.ptr b 0
  | 5=>.ptr b 11
  | 6=>.ptr hb 0
  | 7=>.d (.str [])
  | _=>.vec H0.length 6 0 1
 refine sqK_inv (by kernel_rfl) (λl σ G=>(∀ j,l j=true→σ j=vals j)∧G=tellH H0 hb q c stt hs (l 2) (l 7)) (λ_=>.un) ⟨λj h=>(by cases h),by simp [tellH]⟩ ?_ ?_
 ·rintro l σ G i o ⟨hσ,rfl⟩ ho hl hdep hnot
  have hi:i<10:=by
   rcases Nat.lt_or_ge i 10 with h | h
   ·exact h
   ·rw [Array.getElem?_eq_none (by omega)] at ho;cases ho
  have gb:=tellH_get (hb:=hb) (q:=q) (c:=c) (stt:=stt) (hs:=hs) (l 2) (l 7) hb1 nb
  have gq:=tellH_get (hb:=hb) (q:=q) (c:=c) (stt:=stt) (hs:=hs) (l 2) (l 7) hq nq
  rcases (by omega:i=0∨i=1∨i=2∨i=3∨i=4∨i=5∨i=6∨i=7∨i=8∨i=9) with rfl | rfl | rfl | rfl | rfl | rfl | rfl | rfl | rfl | rfl
  ·exact⟨_,_,val2_at (i:=0) (O27_0_0 ..) ho,listed_step hσ rfl,rfl⟩
  ·have e1:=hσ 0 (hdep 0 (by kernel_rfl))
   refine⟨_,_,val2_at (i:=1) ((O27_0_1 ..).trans ?_) ho,listed_step hσ rfl,rfl⟩
   rw [e1]
   simp only [vals]
   rw [s49 (lim:=0) (ro:=0) hS hsm.len gb];rfl
  ·have e1:=hσ 1 (hdep 1 (by kernel_rfl))
   refine⟨_,_,val2_at (i:=2) ((O27_0_2 ..).trans ?_) ho,listed_step hσ rfl,rfl⟩
   rw [e1]
   simp only [vals]
   rw [bs_head,hl]
   unfold tellH
   cases l 7 <;> simp
  ·exact⟨_,_,val2_at (i:=3) (O27_0_3 ..) ho,listed_step hσ rfl,rfl⟩
  ·have e1:=hσ 3 (hdep 3 (by kernel_rfl))
   refine⟨_,_,val2_at (i:=4) ((O27_0_4 ..).trans ?_) ho,listed_step hσ rfl,rfl⟩
   rw [e1];rfl
  ·have e1:=hσ 4 (hdep 4 (by kernel_rfl))
   refine⟨_,_,val2_at (i:=5) ((O27_0_5 ..).trans ?_) ho,listed_step hσ rfl,rfl⟩
   rw [e1];rfl
  ·have e1:=hσ 5 (hdep 5 (by kernel_rfl))
   refine⟨_,_,val2_at (i:=6) ((O27_0_6 ..).trans ?_) ho,listed_step hσ rfl,rfl⟩
   rw [e1]
   simp only [vals]
   rw [ld1_cells gb];rfl
  ·have e1:=hσ 6 (hdep 6 (by kernel_rfl))
   refine⟨_,_,val2_at (i:=7) ((O27_0_7 ..).trans ?_) ho,listed_step hσ rfl,rfl⟩
   rw [e1]
   simp only [vals]
   have gh:(tellH H0 hb q c stt hs (l 2) (l 7))[hb]? = some (holdB q 0 c 0):=by
    rw [hl];unfold tellH;exact get_app _ (by simpa using hh)
   rw [s50 hS gh gq,hl]
   have hlt:=get_lt hh
   unfold tellH
   cases l 2 <;> simp [List.set_append,hlt]
  ·have e1:=hσ 2 (hdep 2 (by kernel_rfl))
   have e2:=hσ 7 (hdep 7 (by kernel_rfl))
   refine⟨_,_,val2_at (i:=8) ((O27_0_8 ..).trans ?_) ho,listed_step hσ rfl,rfl⟩
   rw [e1,e2]
   simp only [vals]
   rw [s48_nil (lim:=0) (ro:=0) hS];rfl
  ·have e1:=hσ 8 (hdep 8 (by kernel_rfl))
   exact⟨_,_,val2_at (i:=9) (O27_0_9 ..) ho,listed_step hσ e1,rfl⟩
 ·rintro l σ G ⟨hσ,rfl⟩ hall
  have e9:=hσ 9 (hall 9 (by omega))
  rw [F27_0,e9,hall 2 (by omega),hall 7 (by omega)]
  refine (S27_0 ..).trans ?_
  rfl
theorem s27 (hS:SysOK sys) (hG:GAsp) (h:Small hs) (hf:Free lg cr nc hs) {b hb q:Nat} {x j0 j1 j2 j3 is sn qx:IV} {came work c a m o:Int} (e:Bool)
  (hb1:H[b]? = some (.cells 149 (strC (caseC lg lk dp url cr nc md stt (.d (.lst (hs.map hdD))) kn) 0 hb x j0 j1 j2 j3 is came work sn))) (hh:H[hb]? = some (holdB q 0 c 0)) (hq:H[q]? = some (queB qx a m o)) :
  ∃ G n y0 y1 y2 y3,run sys 0 0 27 [.ptr b 0,.d (.bool e)] H=some (.val (.vec n 6 0 1),G)∧G[n]? = some (headC stt hs)∧H.length≤n ∧
   G[b]? = some (.cells 149 (strC (caseC lg lk dp url cr nc md stt (.d (.lst (hs.map hdD))) kn) 3 hb x y0 y1 y2 y3 (.d (.bool true)) came work sn))∧G[hb]? = some (holdB q 1 c 0)∧G[q]? = some (queB qx a m o) ∧
   H.length≤G.length∧(∀ i,i<H.length→i≠b→i≠hb→G[i]? = H[i]?):=by
 have em:tab.mode 27=.keep:=by kernel_rfl
 have nb:hb≠b:=by intro e;subst e;rw [hb1] at hh;cases hh
 have nq:hb≠q:=by intro e;subst e;rw [hq] at hh;cases hh
 have nbq:b≠q:=by intro e;subst e;rw [hb1] at hq;cases hq
 obtain⟨r,r1⟩:=s46 hS hG h hf e hb1 hh hq
 generalize hX:H++[Blk.cells 145 [I64 1,.d (.str r),I64 0,.d (.bool false)]]=X at r1
 have hXl:X.length=H.length+1:=by rw [← hX];simp
 have xk:∀ i,i<H.length→X[i]? = H[i]?:=λi hi=>by rw [← hX];exact List.getElem?_append_left hi
 have lb:=get_lt hb1
 have lh:=get_lt hh
 have lq:=get_lt hq
 have st1:=st_new (lim:=0) (ro:=0) (n:=4) (off:=0) (ty:=145) (G:=X) (cs:=[.d (.int .i64 0),.d (.str []),.d (.int .i64 0),.d (.bool false)]) (v:=.agg [I64 1,.d (.str r),I64 0,.d (.bool false)]) rfl (by simp) rfl (Nat.zero_le _) (Nat.zero_le _)
 have st1':st 4 0 0 (.ptr X.length 0) (.agg [I64 1,.d (.str r),I64 0,.d (.bool false)]) (X++[Blk.cells 145 [.d (.int .i64 0),.d (.str []),.d (.int .i64 0),.d (.bool false)]])=some (X++[Blk.cells 145 [I64 1,.d (.str r),I64 0,.d (.bool false)]]):=st1
 generalize hY:X++[Blk.cells 145 [I64 1,.d (.str r),I64 0,.d (.bool false)]]=Y at st1'
 have hYl:Y.length=H.length+2:=by rw [← hY];simp;omega
 have yk:∀ i,i<H.length→Y[i]? = H[i]?:=λi hi=>by rw [← hY,List.getElem?_append_left (by omega)];exact xk i hi
 have yX:Y[X.length]? = some (Blk.cells 145 [I64 1,.d (.str r),I64 0,.d (.bool false)]):=by rw [← hY];simp
 have l0:ld1 (.ptr X.length 0) Y=some (I64 1):=by rw [ld1_cells yX];rfl
 have l4:ldN 4 (.ptr X.length 0) Y=some (.agg [I64 1,.d (.str r),I64 0,.d (.bool false)]):=by rw [ldN_cells yX (by simp)];rfl
 have yb:Y[b]? = some (.cells 149 (strC (caseC lg lk dp url cr nc md stt (.d (.lst (hs.map hdD))) kn) 0 hb x j0 j1 j2 j3 is came work sn)):=by rw [yk b lb];exact hb1
 have st2:st 4 0 0 (.ptr b 13) (.agg [I64 1,.d (.str r),I64 0,.d (.bool false)]) Y=some (Y.set b (.cells 149 (strC (caseC lg lk dp url cr nc md stt (.d (.lst (hs.map hdD))) kn) 0 hb x (I64 1) (.d (.str r)) (I64 0) (.d (.bool false)) is came work sn))):=by
  rw [st_cells (n:=4) (off:=13) yb rfl (by simp) rfl (Nat.zero_le _) (.inl (Nat.zero_le _))];rfl
 have st3:st 1 0 0 (.ptr b 17) (.d (.bool true)) (Y.set b (.cells 149 (strC (caseC lg lk dp url cr nc md stt (.d (.lst (hs.map hdD))) kn) 0 hb x (I64 1) (.d (.str r)) (I64 0) (.d (.bool false)) is came work sn)))=some (Y.set b (.cells 149 (strC (caseC lg lk dp url cr nc md stt (.d (.lst (hs.map hdD))) kn) 0 hb x (I64 1) (.d (.str r)) (I64 0) (.d (.bool false)) (.d (.bool true)) came work sn))):=by
  rw [st_cells (n:=1) (off:=17) (set_get yb) rfl (by simp) rfl (Nat.zero_le _) (.inl (Nat.zero_le _)),List.set_set];rfl
 have st4:st 1 0 0 (.ptr b 10) (I64 3) (Y.set b (.cells 149 (strC (caseC lg lk dp url cr nc md stt (.d (.lst (hs.map hdD))) kn) 0 hb x (I64 1) (.d (.str r)) (I64 0) (.d (.bool false)) (.d (.bool true)) came work sn)))=some (Y.set b (.cells 149 (strC (caseC lg lk dp url cr nc md stt (.d (.lst (hs.map hdD))) kn) 3 hb x (I64 1) (.d (.str r)) (I64 0) (.d (.bool false)) (.d (.bool true)) came work sn))):=by
  rw [st_cells (n:=1) (off:=10) (set_get yb) rfl (by simp) rfl (Nat.zero_le _) (.inl (Nat.zero_le _)),List.set_set];rfl
 have l0':ld1 (.ptr X.length 0) (Y.set b (.cells 149 (strC (caseC lg lk dp url cr nc md stt (.d (.lst (hs.map hdD))) kn) 0 hb x (I64 1) (.d (.str r)) (I64 0) (.d (.bool false)) (.d (.bool true)) came work sn)))=some (I64 1):=by
  rw [ld1_cells (show _=some (Blk.cells 145 [I64 1,.d (.str r),I64 0,.d (.bool false)]) by rw [List.getElem?_set_ne (by omega)];exact yX)];rfl
 generalize hZ:Y.set b (.cells 149 (strC (caseC lg lk dp url cr nc md stt (.d (.lst (hs.map hdD))) kn) 3 hb x (I64 1) (.d (.str r)) (I64 0) (.d (.bool false)) (.d (.bool true)) came work sn))=Z at st4
 have zb:Z[b]? = some (.cells 149 (strC (caseC lg lk dp url cr nc md stt (.d (.lst (hs.map hdD))) kn) 3 hb x (I64 1) (.d (.str r)) (I64 0) (.d (.bool false)) (.d (.bool true)) came work sn)):=by rw [← hZ];exact set_get yb
 have zh:Z[hb]? = some (holdB q 0 c 0):=by rw [← hZ,List.getElem?_set_ne (Ne.symm nb),yk hb lh];exact hh
 have zq:Z[q]? = some (queB qx a m o):=by rw [← hZ,List.getElem?_set_ne nbq,yk q lq];exact hq
 have zl:Z.length=H.length+2:=by rw [← hZ];simp;omega
 refine⟨tellH Z hb q c stt hs true true,Z.length,_,_,_,_,runB hS rfl (λh=>by rw [em] at h;cases h) ?_,?_,by omega,tellH_get _ _ zb nb,?_,tellH_get _ _ zq nq,?_,?_⟩
 ·refine (R27 ..).trans ?_
  rw [r1]
  simp only [lval,st1',bsome,l0,iBin_eql,show decide ((1:Int)=0)=false from rfl,br3_bool,Bool.false_eq_true,if_false,l4,st2,st3,l0',show decide ((1:Int)=2)=false from rfl,st4]
  exact settle_sq hS h H Z e _ _ _ _ _ _ _ zb zh zq
 ·unfold tellH
  simp
 ·unfold tellH
  refine get_app _ ?_
  simp only [if_true]
  exact set_get zh
 ·have:=tellH_len (H0:=Z) (hb:=hb) (q:=q) (c:=c) (stt:=stt) (hs:=hs) true true
  omega
 ·intro i hi hib hih
  have e1:Z[i]? = H[i]?:=by rw [← hZ,List.getElem?_set_ne (Ne.symm hib),yk i hi]
  have e2:H[i]? = some H[i]:=List.getElem?_eq_getElem hi
  rw [e2]
  exact tellH_get _ _ (e1.trans e2) (Ne.symm hih)
end
end Go.Tg
namespace Go.Tg
variable [Globs] {lim ro:Nat} {H:Hp}
attribute [local congr] bindC liftRC br3C brN3C
theorem s22 (hS:SysOK sys) (b:Bool) (l d:Int):run sys lim ro 22 [.agg [.d (.bool b),I64 l,I64 d]] H=some (.val (.d (.bool (goodR l d))),H):=by
 refine runP hS rfl (by kernel_rfl) rfl ?_
 rw [R22]
 have hb:iBox 23 (.agg [.d (.bool b),I64 l,I64 d]) []=some (.ptr ([]:Hp).length 0,[]++[.cells 47 [.d (.bool b),.d (.int .i64 l),.d (.int .i64 d)]]):=rfl
 have k0:=g22_0 (run sys) 0 0 [] (.agg [.d (.bool b),I64 l,I64 d]) (.ptr ([]:Hp).length 0,[]++[.cells 47 [.d (.bool b),.d (.int .i64 l),.d (.int .i64 d)]])
 have k1:=g22_1 (run sys) 0 0 [] (.agg [.d (.bool b),I64 l,I64 d]) (.ptr ([]:Hp).length 0,[]++[.cells 47 [.d (.bool b),.d (.int .i64 l),.d (.int .i64 d)]])
 have k2:=g22_2 (run sys) 0 0 [] (.agg [.d (.bool b),I64 l,I64 d]) (.ptr ([]:Hp).length 0,[]++[.cells 47 [.d (.bool b),.d (.int .i64 l),.d (.int .i64 d)]])
 have k3:=g22_3 (run sys) 0 0 [] (.agg [.d (.bool b),I64 l,I64 d]) (.ptr ([]:Hp).length 0,[]++[.cells 47 [.d (.bool b),.d (.int .i64 l),.d (.int .i64 d)]])
 have k4:=g22_4 (run sys) 0 0 [] (.agg [.d (.bool b),I64 l,I64 d]) (.ptr ([]:Hp).length 0,[]++[.cells 47 [.d (.bool b),.d (.int .i64 l),.d (.int .i64 d)]])
 have k5:=g22_5 (run sys) 0 0 [] (.agg [.d (.bool b),I64 l,I64 d]) (.ptr ([]:Hp).length 0,[]++[.cells 47 [.d (.bool b),.d (.int .i64 l),.d (.int .i64 d)]])
 have k6:=g22_6 (run sys) 0 0 [] (.agg [.d (.bool b),I64 l,I64 d]) (.ptr ([]:Hp).length 0,[]++[.cells 47 [.d (.bool b),.d (.int .i64 l),.d (.int .i64 d)]])
 simp only [hb,bsome,k0,k1,k2,k3,k4,k5,k6,padd_ptr,ld1_new,Nat.zero_add,List.getElem?_cons_zero,List.getElem?_cons_succ,iBin_geq,iBin_leq,brN3_bool,fin_pure_d,goodR]
 cases decide ((1445:Int)≤l) <;> cases decide (l≤(1048576:Int)) <;> cases decide ((0:Int)≤d) <;> rfl
theorem iMax_int (k:IntKind) (a b:Int):iMax (.d (.int k a)) (.d (.int k b))=some (.d (.int k (if a<b then b else a))):=by
 unfold iMax;simp
theorem iMin_int (k:IntKind) (a b:Int):iMin (.d (.int k a)) (.d (.int k b))=some (.d (.int k (if b<a then b else a))):=by
 unfold iMin;simp
theorem s43 (hS:SysOK sys) (b:Bool) (l d:Int) (h1:1445≤l) (h2:l≤1048576):run sys lim ro 43 [.agg [.d (.bool b),I64 l,I64 d]] H=some (.val (I64 l),H):=by
 refine runP hS rfl (by kernel_rfl) rfl ?_
 rw [R43]
 have hb:iBox 23 (.agg [.d (.bool b),I64 l,I64 d]) []=some (.ptr ([]:Hp).length 0,[]++[.cells 47 [.d (.bool b),.d (.int .i64 l),.d (.int .i64 d)]]):=rfl
 simp only [hb,bsome,padd_ptr,ld1_new,Nat.zero_add,List.getElem?_cons_zero,List.getElem?_cons_succ,iMax_int,iMin_int,fin_pure_d]
 rw [if_neg (show ¬ l<1445 by omega),if_neg (show ¬ (1048576:Int)<l by omega)]
theorem s24 (hS:SysOK sys) (b:Bool) (l d:Int) (h1:1445≤l) (h2:l≤1048576):run sys lim ro 24 [.agg [.d (.bool b),I64 l,I64 d]] H=some (.val (I64 l),H):=by
 refine runP hS rfl (by kernel_rfl) rfl ?_
 rw [R24]
 have hb:iBox 23 (.agg [.d (.bool b),I64 l,I64 d]) []=some (.ptr ([]:Hp).length 0,[]++[.cells 47 [.d (.bool b),.d (.int .i64 l),.d (.int .i64 d)]]):=rfl
 have hl:=ldN_new ([]:Hp) 47 3 [.d (.bool b),I64 l,I64 d] rfl
 simp only [hb,bsome,hl,s43 hS b l d h1 h2,lval,fin_pure_d]
theorem s42 (hS:SysOK sys) (l:Int) (h1:0≤l) (h2:l≤1048576):run sys lim ro 42 [I64 l] H=some (.val (.tup [.ptr H.length 0,I64 0]),H++[queB .vnil 0 l 0]):=by
 have e:tab.mode 42=.keep:=by kernel_rfl
 refine runB hS rfl (λh=>by rw [e] at h;cases h) ?_
 have e1:decide (l<0)=false:=by simp;omega
 have e2:decide ((1048576:Int)<l)=false:=by simp;omega
 rw [R42,g42_0]
 simp only [iBin_lss,bsome,e1,brN3_bool,Bool.false_eq_true,if_false,g42_2,iBin_gtr,e2,br3_bool]
 rfl
theorem ib_hold (b:Nat):iBuild P 101 [(0,.ptr b 0)]=some (.agg [.ptr b 0,I64 0,I64 0,I64 0]):=by kernel_rfl
theorem s23 (hS:SysOK sys) (l:Int) (h1:0≤l) (h2:l≤1048576):run sys lim ro 23 [I64 l] H=some (.val (.tup [.ptr (H.length+1) 0,I64 0]),H++[queB .vnil 0 l 0]++[holdB H.length 0 0 0]):=by
 have e:tab.mode 23=.keep:=by kernel_rfl
 refine runB hS rfl (λh=>by rw [e] at h;cases h) ?_
 have b1:∀ (q:Nat) (G:Hp),iBox 101 (.agg [.ptr q 0,I64 0,I64 0,I64 0]) G=some (.ptr G.length 0,G++[holdB q 0 0 0]):=λq G=>rfl
 have e0:∀ a b:Int,iBin P .neq 42 (.d (.int .i64 a)) (.d (.int .i64 b))=some (.d (.bool (decide (a≠b)))):=λa b=>iBin_ineq 42 .i64 a b
 rw [R23]
 simp only [s42 hS l h1 h2,lval,extup,List.getElem?_cons_zero,List.getElem?_cons_succ,bsome,e0,show decide ((0:Int)≠0)=false from rfl,br3_bool,Bool.false_eq_true,if_false,ib_hold,b1]
 simp [fin_keep,oneOf]
abbrev jsonB (d:Int):Blk:=.cells 301 [I64 d,.vnil,I64 0,.d (.bool false),.d (.str []),I64 0,.d (.bool false),I64 1,I64 (-1),I64 0]
abbrev jsB (d:Int):Blk:=.cells 305 [I64 d,.vnil,I64 0,.d (.int .u8 0),.d (.bool false),.d (.str []),I64 0,.d (.bool false),.d (.bool false),I64 (-1),I64 0,I64 0,I64 0]
abbrev lexB (a b:Nat):Blk:=.cells 263 [.ptr a 0,.ptr b 0,I64 0,.d (.str []),I64 (-1),I64 0,.d (.bool false)]
theorem s63 (hS:SysOK sys) (d:Int) (h1:0≤d) (h2:d≤200):run sys lim ro 63 [I64 d] H=some (.val (.tup [.ptr H.length 0,I64 0]),H++[jsonB d]):=by
 have e:tab.mode 63=.keep:=by kernel_rfl
 refine runB hS rfl (λh=>by rw [e] at h;cases h) ?_
 have e1:decide (d<0)=false:=by simp;omega
 have e2:decide ((200:Int)<d)=false:=by simp;omega
 rw [R63,g63_0]
 simp only [iBin_lss,bsome,e1,brN3_bool,Bool.false_eq_true,if_false,g63_2,iBin_gtr,e2,br3_bool]
 rfl
theorem s64 (hS:SysOK sys) (d:Int) (h1:0≤d) (h2:d≤200):run sys lim ro 64 [I64 d] H=some (.val (.tup [.ptr H.length 0,I64 0]),H++[jsB d]):=by
 have e:tab.mode 64=.keep:=by kernel_rfl
 refine runB hS rfl (λh=>by rw [e] at h;cases h) ?_
 have e1:decide (d<0)=false:=by simp;omega
 have e2:decide ((200:Int)<d)=false:=by simp;omega
 rw [R64,g64_0]
 simp only [iBin_lss,bsome,e1,brN3_bool,Bool.false_eq_true,if_false,g64_2,iBin_gtr,e2,br3_bool]
 rfl
theorem ib_lex (a b:Nat):iBuild P 131 [(0,.ptr a 0),(1,.ptr b 0),(4,.d (.int .i64 (-1)))]=some (.agg [.ptr a 0,.ptr b 0,I64 0,.d (.str []),I64 (-1),I64 0,.d (.bool false)]):=by kernel_rfl
theorem s44 (hS:SysOK sys) (d:Int) (h1:0≤d) (h2:d≤200):run sys lim ro 44 [I64 d] H=some (.val (.tup [.ptr (H.length+2) 0,I64 0]),H++[jsonB d]++[jsB d]++[lexB H.length (H.length+1)]):=by
 have e:tab.mode 44=.keep:=by kernel_rfl
 refine runB hS rfl (λh=>by rw [e] at h;cases h) ?_
 have b1:∀ (a b:Nat) (G:Hp),iBox 131 (.agg [.ptr a 0,.ptr b 0,I64 0,.d (.str []),I64 (-1),I64 0,.d (.bool false)]) G=some (.ptr G.length 0,G++[lexB a b]):=λa b G=>rfl
 have e0:∀ a b:Int,iBin P .neq 42 (.d (.int .i64 a)) (.d (.int .i64 b))=some (.d (.bool (decide (a≠b)))):=λa b=>iBin_ineq 42 .i64 a b
 rw [R44]
 simp only [s63 hS d h1 h2,lval,extup,List.getElem?_cons_zero,List.getElem?_cons_succ,bsome,e0,show decide ((0:Int)≠0)=false from rfl,br3_bool,Bool.false_eq_true,if_false,s64 hS d h1 h2,ib_lex,b1]
 simp [fin_keep,oneOf]
theorem s25 (hS:SysOK sys) (d:Int) (h1:0≤d) (h2:d≤200):run sys lim ro 25 [I64 d] H=some (.val (.tup [.ptr (H.length+2) 0,I64 0]),H++[jsonB d]++[jsB d]++[lexB H.length (H.length+1)]):=by
 have e:tab.mode 25=.keep:=by kernel_rfl
 refine runB hS rfl (λh=>by rw [e] at h;cases h) ?_
 rw [R25]
 simp only [s44 hS d h1 h2,lval,extup,List.getElem?_cons_zero,List.getElem?_cons_succ,bsome]
 rfl
section
variable {lg:Bool} {lk dp:Int} {url:List UInt8} {cr nc:Bool} {md stt:Int} {hs:List Hd} {kn:Bool}
theorem ib_case (lg:Bool) (lk dp:Int) (url:List UInt8) (cr nc:Bool) (md:Int):iBuild P 30 [(0,.agg [.d (.bool lg),I64 lk,I64 dp]),(1,askV url cr nc md)]=some (.agg (caseC lg lk dp url cr nc md 0 .vnil false)):=by kernel_rfl
theorem ib_str (lg:Bool) (lk dp:Int) (url:List UInt8) (cr nc:Bool) (md:Int) (hb lx:Nat):iBuild P 74 [(0,.agg (caseC lg lk dp url cr nc md 0 .vnil false)),(2,.ptr hb 0),(3,.ptr lx 0)] =
  some (.agg (strC (caseC lg lk dp url cr nc md 0 .vnil false) 0 hb (.ptr lx 0) (I64 0) (.d (.str [])) (I64 0) (.d (.bool false)) (.d (.bool false)) 0 0 (.d (.bool false)))):=by kernel_rfl
theorem s8 (hS:SysOK sys) (a0 a1:IV) (h0:∀ G,iBox 23 a0 G=some (.ptr G.length 0,G++[.cells 47 [.d (.bool lg),I64 lk,I64 dp]])) (h1:∀ G,iBox 25 a1 G=some (.ptr G.length 0,G++[.cells 51 [.d (.str url),.d (.bool cr),.d (.bool nc),I64 md]])) (hg:goodR lk dp=true) :
  ∃ G sb hb q lx,run sys 0 0 8 [a0,a1] H=some (.val (.tup [.ptr sb 0,I64 0]),G)∧G[sb]? = some (.cells 149 (strC (caseC lg lk dp url cr nc md 0 .vnil false) 0 hb (.ptr lx 0) (I64 0) (.d (.str [])) (I64 0) (.d (.bool false)) (.d (.bool false)) 0 0 (.d (.bool false)))) ∧
   G[hb]? = some (holdB q 0 0 0)∧G[q]? = some (queB .vnil 0 lk 0)∧H.length≤G.length∧(∀ i,i<H.length→G[i]? = H[i]?)∧H.length≤sb∧H.length≤hb:=by
 have em:tab.mode 8=.keep:=by kernel_rfl
 have hg':=hg
 unfold goodR at hg'
 simp only [Bool.and_eq_true,decide_eq_true_eq] at hg'
 obtain⟨g1,g2,g3,g4⟩:=hg'
 generalize hX:H++[.cells 47 [.d (.bool lg),I64 lk,I64 dp]]++[.cells 51 [.d (.str url),.d (.bool cr),.d (.bool nc),I64 md]]=X
 have hXl:X.length=H.length+2:=by rw [← hX];simp
 have x0:X[H.length]? = some (.cells 47 [.d (.bool lg),I64 lk,I64 dp]):=by rw [← hX];simp
 have x1:X[H.length+1]? = some (.cells 51 [.d (.str url),.d (.bool cr),.d (.bool nc),I64 md]):=by rw [← hX];simp
 have xk:∀ i,i<H.length→X[i]? = H[i]?:=λi hi=>by rw [← hX,List.append_assoc,List.getElem?_append_left hi]
 have l0:ldN 3 (.ptr H.length 0) X=some (.agg [.d (.bool lg),I64 lk,I64 dp]):=by rw [ldN_cells x0 (by simp)];rfl
 have r3:=s23 (lim:=0) (ro:=0) (H:=X) hS lk (by omega) g2
 generalize hY:X++[queB .vnil 0 lk 0]++[holdB X.length 0 0 0]=Y at r3
 have hYl:Y.length=X.length+2:=by rw [← hY];simp
 have yk:∀ i,i<X.length→Y[i]? = X[i]?:=λi hi=>by rw [← hY,List.append_assoc,List.getElem?_append_left hi]
 have yq:Y[X.length]? = some (queB .vnil 0 lk 0):=by rw [← hY];simp
 have yh:Y[X.length+1]? = some (holdB X.length 0 0 0):=by rw [← hY];simp
 have l2:ld1 (.ptr H.length 2) Y=some (I64 dp):=by rw [ld1_cells ((yk _ (by omega)).trans x0)];rfl
 have r4:=s25 (lim:=0) (ro:=0) (H:=Y) hS dp g3 g4
 generalize hZ:Y++[jsonB dp]++[jsB dp]++[lexB Y.length (Y.length+1)]=Z at r4
 have hZl:Z.length=Y.length+3:=by rw [← hZ];simp
 have zk:∀ i,i<Y.length→Z[i]? = Y[i]?:=λi hi=>by rw [← hZ,List.append_assoc,List.append_assoc,List.getElem?_append_left hi]
 have l3:ldN 3 (.ptr H.length 0) Z=some (.agg [.d (.bool lg),I64 lk,I64 dp]):=by rw [ldN_cells (((zk _ (by omega)).trans (yk _ (by omega))).trans x0) (by simp)];rfl
 have l4:ldN 4 (.ptr (H.length+1) 0) Z=some (askV url cr nc md):=by rw [ldN_cells (((zk _ (by omega)).trans (yk _ (by omega))).trans x1) (by simp)];rfl
 have bx:∀ G,iBox 74 (.agg (strC (caseC lg lk dp url cr nc md 0 .vnil false) 0 (X.length+1) (.ptr (Y.length+2) 0) (I64 0) (.d (.str [])) (I64 0) (.d (.bool false)) (.d (.bool false)) 0 0 (.d (.bool false)))) G=some (.ptr G.length 0,G++[.cells 149 (strC (caseC lg lk dp url cr nc md 0 .vnil false) 0 (X.length+1) (.ptr (Y.length+2) 0) (I64 0) (.d (.str [])) (I64 0) (.d (.bool false)) (.d (.bool false)) 0 0 (.d (.bool false)))]):=λG=>rfl
 refine⟨Z++[.cells 149 (strC (caseC lg lk dp url cr nc md 0 .vnil false) 0 (X.length+1) (.ptr (Y.length+2) 0) (I64 0) (.d (.str [])) (I64 0) (.d (.bool false)) (.d (.bool false)) 0 0 (.d (.bool false)))],Z.length,X.length+1,X.length,Y.length+2,runB hS rfl (λh=>by rw [em] at h;cases h) ?_,by simp,?_,?_,by simp;omega,λi hi=>?_,by omega,by omega⟩
 ·refine (R8 ..).trans ?_
  rw [h0,bsome]
  simp only [h1,bsome,hX,l0,s22 hS,hg,lval,iUn_not,Bool.not_true,br3_bool,Bool.false_eq_true,if_false,s24 hS lg lk dp g1 g2,r3,extup,List.getElem?_cons_zero,List.getElem?_cons_succ,padd_ptr,Nat.zero_add,l2,r4,l3,List.length_append,List.length_singleton,l4,ib_case,ib_str,bx]
  rfl
 ·exact get_app _ ((zk _ (by omega)).trans yh)
 ·exact get_app _ ((zk _ (by omega)).trans yq)
 ·rw [List.getElem?_append_left (by omega),zk i (by omega),yk i (by omega),xk i hi]
end
end Go.Tg
namespace Go.Tg
variable [Globs] {lim ro:Nat} {H:Hp}
attribute [local congr] bindC liftRC br3C brN3C
section
variable {lg:Bool} {lk dp:Int} {url:List UInt8} {cr nc:Bool} {md stt:Int} {hs:List Hd} {kn:Bool}
theorem s9 (hS:SysOK sys) (hG:GAsp) (h:Small hs) (hf:Free lg cr nc hs) {b hb q:Nat} {x j0 j1 j2 j3 is sn qx hd0:IV} {came work c a m o s0:Int} {k0:Bool} (a1:IV)
  (h1:∀ G,iBox 28 a1 G=some (.ptr G.length 0,G++[.cells 57 [I64 stt,.d (.lst (hs.map hdD))]]))
  (hb1:H[b]? = some (.cells 149 (strC (caseC lg lk dp url cr nc md s0 hd0 k0) 0 hb x j0 j1 j2 j3 is came work sn))) (hh:H[hb]? = some (holdB q 0 c 0)) (hq:H[q]? = some (queB qx a m o)) :
  ∃ G n y0 y1 y2 y3,run sys 0 0 9 [.ptr b 0,a1,.d (.bool kn)] H=some (.val (.tup [.vec n 6 0 1,I64 0]),G)∧G[n]? = some (headC stt hs)∧H.length≤n ∧
   G[b]? = some (.cells 149 (strC (caseC lg lk dp url cr nc md stt (.d (.lst (hs.map hdD))) kn) 3 hb x y0 y1 y2 y3 (.d (.bool true)) came work sn))∧G[hb]? = some (holdB q 1 c 0)∧G[q]? = some (queB qx a m o) ∧
   H.length≤G.length∧(∀ i,i<H.length→i≠b→i≠hb→G[i]? = H[i]?):=by
 have em:tab.mode 9=.keep:=by kernel_rfl
 have nb:hb≠b:=by intro e;subst e;rw [hb1] at hh;cases hh
 have nbq:b≠q:=by intro e;subst e;rw [hb1] at hq;cases hq
 have lb:=get_lt hb1
 have lh:=get_lt hh
 have lq:=get_lt hq
 generalize hX:H++[Blk.cells 57 [I64 stt,.d (.lst (hs.map hdD))]]=X
 have hXl:X.length=H.length+1:=by rw [← hX];simp
 have xk:∀ i,i<H.length→X[i]? = H[i]?:=λi hi=>by rw [← hX];exact List.getElem?_append_left hi
 have xb:X[b]? = some (.cells 149 (strC (caseC lg lk dp url cr nc md s0 hd0 k0) 0 hb x j0 j1 j2 j3 is came work sn)):=by rw [xk b lb];exact hb1
 have l10:ld1 (.ptr b 10) X=some (I64 0):=by rw [ld1_cells xb];rfl
 have l2:ldN 2 (.ptr H.length 0) X=some (.agg [I64 stt,.d (.lst (hs.map hdD))]):=by rw [← hX];exact ldN_new H 57 2 _ rfl
 have f1:frzArgs 0 [(true,.agg [I64 stt,.d (.lst (hs.map hdD))])] X=([.d (replyD stt hs)],X):=rfl
 have st1:st 2 0 0 (.ptr b 7) (.d (replyD stt hs)) X=some (X.set b (.cells 149 (strC (caseC lg lk dp url cr nc md stt (.d (.lst (hs.map hdD))) k0) 0 hb x j0 j1 j2 j3 is came work sn))):=by
  rw [st_cells (n:=2) (off:=7) xb rfl (by simp) rfl (Nat.zero_le _) (.inl (Nat.zero_le _))];rfl
 have st2:st 1 0 0 (.ptr b 9) (.d (.bool kn)) (X.set b (.cells 149 (strC (caseC lg lk dp url cr nc md stt (.d (.lst (hs.map hdD))) k0) 0 hb x j0 j1 j2 j3 is came work sn)))=some (X.set b (.cells 149 (strC (caseC lg lk dp url cr nc md stt (.d (.lst (hs.map hdD))) kn) 0 hb x j0 j1 j2 j3 is came work sn))):=by
  rw [st_cells (n:=1) (off:=9) (set_get xb) rfl (by simp) rfl (Nat.zero_le _) (.inl (Nat.zero_le _)),List.set_set];rfl
 generalize hY:X.set b (.cells 149 (strC (caseC lg lk dp url cr nc md stt (.d (.lst (hs.map hdD))) kn) 0 hb x j0 j1 j2 j3 is came work sn))=Y at st2
 have yl:Y.length=H.length+1:=by rw [← hY];simp;omega
 have yb:Y[b]? = some (.cells 149 (strC (caseC lg lk dp url cr nc md stt (.d (.lst (hs.map hdD))) kn) 0 hb x j0 j1 j2 j3 is came work sn)):=by rw [← hY];exact set_get xb
 have yk:∀ i,i<H.length→i≠b→Y[i]? = H[i]?:=λi hi hib=>by rw [← hY,List.getElem?_set_ne (Ne.symm hib)];exact xk i hi
 obtain⟨G,n,y0,y1,y2,y3,r1,gn,hn,gb,gh,gq,gl,gk⟩:=s27 (H:=Y) hS hG h hf false yb ((yk hb lh nb).trans hh) ((yk q lq (Ne.symm nbq)).trans hq)
 refine⟨G,n,y0,y1,y2,y3,runB hS rfl (λh=>by rw [em] at h;cases h) ?_,gn,by omega,gb,gh,gq,by omega,λi hi hib hih=>by rw [gk i (by omega) hib hih,yk i hi hib]⟩
 refine (R9 ..).trans ?_
 rw [h1,bsome,hX]
 simp only [q_eql41,bsome,br3_bool,Bool.false_eq_true,if_false,l10,iBin_ineq,show decide ((0:Int)≠0)=false from rfl,l2,f1,s26 hS _ _ h.len,lval,st1,st2,r1]
 rfl
variable {b hb q:Nat} {x j0 j1 j2 j3 is sn qx:IV} {came work c a m o:Int}
abbrev SB (lg:Bool) (lk dp:Int) (url:List UInt8) (cr nc:Bool) (md stt:Int) (hs:List Hd) (kn:Bool) (stage:Int) (hb:Nat) (x j0 j1 j2 j3 is:IV) (came work:Int) (sn:IV):Blk:=
 .cells 149 (strC (caseC lg lk dp url cr nc md stt (.d (.lst (hs.map hdD))) kn) stage hb x j0 j1 j2 j3 is came work sn)
theorem s28 (hS:SysOK sys) (hb1:H[b]? = some (SB lg lk dp url cr nc md stt hs kn 3 hb x j0 j1 j2 j3 is came work sn)):run sys lim ro 28 [.ptr b 0] H=some (.val (.d (.bool true)),H):=by
 refine runB hS rfl (λ_=>by simp [closedVs,closedV]) ?_
 have l10:ld1 (.ptr b 10) H=some (I64 3):=by rw [ld1_cells hb1];rfl
 rw [R28,g28_0]
 simp only [l10,bsome,iBin_geq,show decide ((1:Int)≤3)=true from rfl,brN3_bool,if_true,g28_1,iBin_leq,show decide ((3:Int)≤4)=true from rfl,fin_pure_d]
theorem s31 (hS:SysOK sys) (hb1:H[b]? = some (SB lg lk dp url cr nc md stt hs kn 3 hb x j0 j1 j2 j3 is came work sn)):run sys lim ro 31 [.ptr b 0] H=some (.val (.d (.bool false)),H):=by
 refine runB hS rfl (λ_=>by simp [closedVs,closedV]) ?_
 have l10:ld1 (.ptr b 10) H=some (I64 3):=by rw [ld1_cells hb1];rfl
 rw [R31,g31_0]
 simp only [l10,bsome,iBin_eql,show decide ((3:Int)=1)=false from rfl,brN3_bool,Bool.false_eq_true,if_false,g31_2,show decide ((3:Int)=2)=false from rfl,fin_pure_d]
abbrev bodyC (s:List UInt8):Blk:=.cells 98 [I64 2,I64 0,I64 0,.vnil,.d (.str s),.d (.str [])]
theorem s10 (hS:SysOK sys) (s:List UInt8) (hb1:H[b]? = some (SB lg lk dp url cr nc md stt hs kn 3 hb x j0 j1 j2 j3 is came work sn)) :
  ∃ out G came' work',run sys 0 0 10 [.ptr b 0,.d (.str s)] H=some (.val (.tup [out,I64 0]),G)∧(s=[]→out=.vnil)∧(s≠[]→∃ n,out=.vec n 6 0 1∧G[n]? = some (bodyC s)) ∧
   G[b]? = some (SB lg lk dp url cr nc md stt hs kn 3 hb x j0 j1 j2 j3 is came' work' sn)∧H.length≤G.length∧(∀ i,i<H.length→i≠b→G[i]? = H[i]?):=by
 have em:tab.mode 10=.keep:=by kernel_rfl
 have em2:tab.mode 29=.keep:=by kernel_rfl
 have l18:ld1 (.ptr b 18) H=some (I64 came):=by rw [ld1_cells hb1];rfl
 generalize hc:IntKind.i64.wrap (came+(s.length:Nat))=came'
 generalize hw:IntKind.i64.wrap (work+(s.length:Nat))=work'
 have st1:st 1 0 0 (.ptr b 18) (I64 came') H=some (H.set b (SB lg lk dp url cr nc md stt hs kn 3 hb x j0 j1 j2 j3 is came' work sn)):=by
  rw [st_cells (n:=1) (off:=18) hb1 rfl (by simp) rfl (Nat.zero_le _) (.inl (Nat.zero_le _))];rfl
 have l19:ld1 (.ptr b 19) (H.set b (SB lg lk dp url cr nc md stt hs kn 3 hb x j0 j1 j2 j3 is came' work sn))=some (I64 work):=by rw [ld1_cells (set_get hb1)];rfl
 have st2:st 1 0 0 (.ptr b 19) (I64 work') (H.set b (SB lg lk dp url cr nc md stt hs kn 3 hb x j0 j1 j2 j3 is came' work sn))=some (H.set b (SB lg lk dp url cr nc md stt hs kn 3 hb x j0 j1 j2 j3 is came' work' sn)):=by
  rw [st_cells (n:=1) (off:=19) (set_get hb1) rfl (by simp) rfl (Nat.zero_le _) (.inl (Nat.zero_le _)),List.set_set];rfl
 generalize hY:H.set b (SB lg lk dp url cr nc md stt hs kn 3 hb x j0 j1 j2 j3 is came' work' sn)=Y at st2
 have yb:Y[b]? = some (SB lg lk dp url cr nc md stt hs kn 3 hb x j0 j1 j2 j3 is came' work' sn):=by rw [← hY];exact set_get hb1
 have yl:Y.length=H.length:=by rw [← hY];simp
 have yk:∀ i,i≠b→Y[i]? = H[i]?:=λi hib=>by rw [← hY,List.getElem?_set_ne (Ne.symm hib)]
 have l10:ld1 (.ptr b 10) Y=some (I64 3):=by rw [ld1_cells yb];rfl
 have go:∀ (out:IV) (G:Hp),run sys 0 0 48 [.vnil,.d (.str s)] Y=some (.val out,G)→run sys 0 0 10 [.ptr b 0,.d (.str s)] H=some (.val (.tup [out,I64 0]),G):=by
  intro out G hr
  have r29:run sys 0 0 29 [.ptr b 0,.d (.str s)] H=some (.val out,G):=by
   refine runB hS rfl (λh=>by rw [em2] at h;cases h) ?_
   refine (R29 ..).trans ?_
   rw [l18,bsome]
   simp only [lnS_str,bsome,iBin_add,hc,st1,l19,hw,st2,s31 hS yb,lval,br3_bool,Bool.false_eq_true,if_false,l10,iBin_eql,decide_true,if_true,hr]
   rfl
  refine runB hS rfl (λh=>by rw [em] at h;cases h) ?_
  refine (R10 ..).trans ?_
  rw [q_eql41,bsome]
  simp only [br3_bool,Bool.false_eq_true,if_false,s28 hS hb1,lval,iUn_not,Bool.not_true,bsome,r29]
  rfl
 by_cases hs0:s=[]
 ·subst hs0
  exact⟨.vnil,Y,came',work',go _ _ (s48_nil hS .vnil),λ_=>rfl,λh=>absurd rfl h,yb,by omega,λi _ hib=>yk i hib⟩
 ·refine⟨_,_,came',work',go _ _ (s48_one hS s hs0),λh=>absurd h hs0,λ_=>⟨Y.length+1,rfl,by simp⟩,?_,by simp;omega,λi hi hib=>?_⟩
  ·exact get_app _ (get_app _ yb)
  ·rw [List.append_assoc,List.getElem?_append_left (by omega)];exact yk i hib
theorem s11 (hS:SysOK sys) {s c w:Int} (hb1:H[b]? = some (SB lg lk dp url cr nc md stt hs kn 3 hb x j0 j1 j2 j3 is came work sn)) (hh:H[hb]? = some (holdB q s c w)) (hq:H[q]? = some (queB qx a m o)):run sys lim ro 11 [.ptr b 0] H=some (.val (I64 0),H):=by
 refine runB hS rfl (λ_=>by simp [closedVs,closedV]) ?_
 have l11:ld1 (.ptr b 11) H=some (.ptr hb 0):=by rw [ld1_cells hb1];rfl
 rw [R11]
 simp only [q_eql41,bsome,br3_bool,Bool.false_eq_true,if_false,l11,s30 hS hh hq,lval,fin_pure_d]
theorem s12 (hS:SysOK sys) (hb1:H[b]? = some (SB lg lk dp url cr nc md stt hs kn 3 hb x j0 j1 j2 j3 is came work sn)) :
  ∃ n G,run sys 0 0 12 [.ptr b 0] H=some (.val (.tup [.vec n 6 0 1,I64 0]),G)∧G[n]? = some (.cells 98 [I64 3,I64 0,I64 0,.vnil,.d (.str []),.d (.str [])]):=by
 have em:tab.mode 12=.keep:=by kernel_rfl
 have l10:ld1 (.ptr b 10) H=some (I64 3):=by rw [ld1_cells hb1];rfl
 have ha:=app_one (ro:=0) (ty:=49) (T:=98) H (show ([I64 3,I64 0,I64 0,.vnil,.d (.str []),.d (.str [])]:List IV).length=6 from rfl)
 generalize hY:H++[Blk.cells 98 [I64 3,I64 0,I64 0,.vnil,.d (.str []),.d (.str [])]]++[Blk.cells (2*49) [I64 3,I64 0,I64 0,.vnil,.d (.str []),.d (.str [])]]=Y at ha
 have yb:Y[b]? = some (SB lg lk dp url cr nc md stt hs kn 3 hb x j0 j1 j2 j3 is came work sn):=by rw [← hY];exact get_app _ (get_app _ hb1)
 have yn:Y[H.length+1]? = some (Blk.cells 98 [I64 3,I64 0,I64 0,.vnil,.d (.str []),.d (.str [])]):=by rw [← hY];simp
 have st1:st 1 0 0 (.ptr b 10) (I64 5) Y=some (Y.set b (SB lg lk dp url cr nc md stt hs kn 5 hb x j0 j1 j2 j3 is came work sn)):=by
  rw [st_cells (n:=1) (off:=10) yb rfl (by simp) rfl (Nat.zero_le _) (.inl (Nat.zero_le _))];rfl
 have lb:=get_lt hb1
 refine⟨H.length+1,Y.set b (SB lg lk dp url cr nc md stt hs kn 5 hb x j0 j1 j2 j3 is came work sn),runB hS rfl (λh=>by rw [em] at h;cases h) ((R12 ..).trans ?_),?_⟩
 case refine_2=>rw [List.getElem?_set_ne (by omega)];exact yn
 case refine_1=>
  rw [q_eql41,bsome]
  simp only [br3_bool,Bool.false_eq_true,if_false,s28 hS hb1,lval,iUn_not,Bool.not_true,bsome,s31 hS hb1,l10,iBin_eql,decide_true,if_true,bs_out,ha,st1]
  rfl
end
end Go.Tg
