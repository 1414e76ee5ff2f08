/- The contract: in every world that holds the table, for all arguments within the bound, TopEveryPasses answers true and leaves all as it was. -/
import Derived.Test.YtnkobejhnphmhaaGreatDoorRows
import Derived.Test.YtnkobejhnphmhaaGreatDoorCl
import Derived.Test.YtnkobejhnphmhaaGreatDoorBe
import Derived.Test.YtnkobejhnphmhaaGreatDoorDd
import Derived.Test.YtnkobejhnphmhaaGreatDoorDe
import Derived.Lib.LaidTab
import Derived.RowKit
import Derived.WalkKit
import Derived.ProofKit
import Derived.OpenShut
set_option linter.all false
namespace Go.Proofs.YtnkobejhnphmhaaGreatDoor
open Go Go.ChangeShapes Go.WideShapes Go.ChangeAt Go.RowKit Go.Tg
def aspZ:List Int:=(List.range 256).map aspN
theorem asp_type:(Tryz.prog.globals[0]?).map (·.type)=some 271:=by kernel_rfl
theorem asp_find:(Rows.topEveryPassesUptoRow.laid.find? λx=>Tryz.prog.globalNamed x.1 == some 0).map (·.2)=some (Lib.tabData .u8 aspZ):=by kernel_rfl
theorem aspT_at (j:Nat) (hj:j<aspT.length):aspT[j]=D.int .u8 (aspN j):=by simp [aspT]
theorem aspZ_at (j:Nat) (hj:j<256):aspZ.getD j 0=aspN j:=by simp [aspZ,hj]
theorem laid_mem {P:Program} {W:World} {n:String} {d:DataW Unit}:∀ {l:List (String×DataW Unit)} {ps:List MemPlace},DataW.LaidVars P W l ps→(n,d) ∈ l →
  ∃ g t cs fuel p,P.globalNamed n=some g∧(P.globals[g]?).map (·.type)=some t∧W.var? P n=some cs∧DataW.trod (λ_=>()) P W 0 (λ_=>true) false fuel t cs.toList=some (d,p)
 | [],_,_,hm=>by cases hm
 | (_,_)::_,_,⟨g,t,cs,fuel,p,_,h1,h2,h3,h4,h5,_⟩,hm=>by
  rcases List.mem_cons.1 hm with e | hm
  ·cases e;exact⟨g,t,cs,fuel,p,h1,h2,h3,h4⟩
  ·exact laid_mem h5 hm
theorem asp_is {W:World} (h:laidMetH Tryz.prog Rows.topEveryPassesUptoRow.laid W):∃ n,Tryz.prog.globalNamed n=some 0∧Lib.TabIs Tryz.prog W n .u8 aspZ:=by
 have h':laidMet Tryz.prog Rows.topEveryPassesUptoRow.laid W:=h
 obtain⟨ps,h1,_⟩:=h'
 obtain⟨⟨n,d⟩,hx,hd⟩:=Option.map_eq_some_iff.1 asp_find
 have hm:=List.mem_of_find?_eq_some hx
 have hn:Tryz.prog.globalNamed n=some 0:=by
  have:=List.find?_some hx
  simpa using this
 obtain⟨g,t,cs,fuel,p,k1,k2,k3,k4⟩:=laid_mem h1 hm
 obtain rfl:=Option.some.inj (hn.symm.trans k1)
 obtain rfl:=Option.some.inj (asp_type.symm.trans k2)
 have hd':d=Lib.tabData .u8 aspZ:=hd
 rw [hd'] at k4
 refine⟨n,hn,?_⟩
 unfold Lib.TabIs
 rw [k3,← Lib.cells_of_tab (n:=256) (e:=5) Tryz.underlying271 Tryz.underlying5 (by kernel_rfl) (by kernel_rfl) k4]
set_option maxRecDepth 100000 in
theorem gl_is {W:World} (h:laidMetH Tryz.prog Rows.topEveryPassesUptoRow.laid W) (g j:Nat) (hj:j<(Globs.gl g).length):∃ v,fzOf W g j=some v∧DRel (fzOf W) ((Globs.gl g)[j]) v:=by
 match g,hj with
 | 0,hj=>
  have hj':j<aspT.length:=Nat.lt_of_lt_of_eq hj (congrArg List.length gi_asp)
  have hj3:j<256:=by rw [show aspT.length=256 by simp [aspT]] at hj';exact hj'
  obtain⟨n,hn,ht⟩:=asp_is h
  have hc:=ht.cell hn j (by simp [aspZ];exact hj3)
  rw [aspZ_at j hj3] at hc
  have e:(Globs.gl 0)[j]=D.int .u8 (aspN j):=(List.getElem_of_eq gi_asp hj).trans (aspT_at j hj')
  have hr:DRel (fzOf W) (D.int .u8 (aspN j)) (.int .u8 (aspN j)):=.int _ _
  rw [← e] at hr
  exact⟨_,fzOf_mk hc rfl,hr⟩
 | g+1,hj=>exact absurd hj (by show ¬ j<0;omega)
theorem bulk_one {H:Type} (d:DataW H):1≤Rows.uptoBulk d:=by
 cases d with
 | lit l=>cases l <;> simp [Rows.uptoBulk]
 | nil=>simp [Rows.uptoBulk]
 | ptr d=>simp [Rows.uptoBulk]
 | slice elems spare=>simp [Rows.uptoBulk]
 | agg parts=>simp [Rows.uptoBulk]
 | iface t d=>simp [Rows.uptoBulk]
 | map entries=>simp [Rows.uptoBulk]
 | held h=>simp [Rows.uptoBulk]
theorem bulk_len {H:Type} (l:List (DataW H)):l.length≤Rows.uptoBulkAll l:=by
 induction l with
 | nil=>simp
 | cons x r ih=>have:=bulk_one x;simp only [Rows.uptoBulkAll,List.length_cons];omega
theorem bulk_heads {H:Type} (hs:List Hd):(hs.map λh=>h.1.length+h.2.length+1).sum≤Rows.uptoBulkAll (H:=H) (hs.map λh=>.agg [.lit (.string h.1),.lit (.string h.2)]):=by
 induction hs with
 | nil=>simp [Rows.uptoBulkAll]
 | cons x r ih=>simp only [List.map_cons,List.sum_cons,Rows.uptoBulkAll,Rows.uptoBulk] at ih ⊢;omega
set_option maxRecDepth 100000 in
theorem contract (H:Type) (enc:TypeId×Value→H) (W:World) (base:Nat) (args:Array Value) (ds gs:List (DataW H)) (before:List MemPlace)
  (hval:∀ (j:Nat) t v,Tryz.f3.params[j]? = some t→args[j]? = some v→Value.okWide Tryz.prog W .any base t v)
  (hW:DataW.Whole enc Tryz.prog Tryz.f3.params.toList Rows.topEveryPassesSpec.vars false W args.toList ds gs before) (hk:Rows.uptoSmall H (ds++gs)=true) (hL:laidMetH Tryz.prog Rows.topEveryPassesUptoRow.laid W) :
  Calls Tryz.prog 3 args W λe W'=>∃ v,e=.returned v∧Rows.topEveryPassesSpec.post enc Tryz.prog Tryz.f3 false true false false W args v W':=by
 have hW':=hW
 obtain⟨p,q,hA0,hV,rfl,hfz,hnd⟩:=hW
 have hA:DataW.TrodAll enc Tryz.prog W 0 (λ_=>true) true Tryz.f3.params.toList args.toList ds p:=hA0
 rw [Tryz.params3] at hA hval
 obtain⟨v0,v1,d0,d1,p0,p1,rfl,rfl,rfl,h0,h1⟩:=trodAll_two hA
 obtain⟨rfl,rfl⟩:=trodVars_none hV
 clear hA0
 have hv0:=okWide_struct Tryz.underlying30 (hval 0 30 v0 rfl rfl)
 have hv1:=slice_of_okWide Tryz.underlying31 (hval 1 31 v1 rfl rfl)
 obtain⟨lg,lk,dp,url,cr,nc,md,st,hs,kn,hd,r0,rfl,hh⟩:=open_case hv0 h0
 obtain⟨strs,r1,ht⟩:=open_texts hv1 h1
 have hb:Rows.uptoBulkAll (H:=H) [.agg [.agg [.lit (.bool lg),.lit (.int .i64 lk),.lit (.int .i64 dp)],.agg [.lit (.string url),.lit (.bool cr),.lit (.bool nc),.lit (.int .i64 md)],.agg [.lit (.int .i64 st),hd],.lit (.bool kn)],d1]≤1048576:=by
  have:=hk
  rw [List.append_nil] at this
  exact of_decide_eq_true this
 simp only [Rows.uptoBulkAll,Rows.uptoBulk] at hb
 have small:Small hs:=by
  unfold Small
  rcases hh with ⟨_,rfl⟩ | ⟨rest,rfl⟩
  ·simp
  ·have:=bulk_heads (H:=H) hs
   simp only [Rows.uptoBulk] at hb
   omega
 have few:strs.length<2 ^ 34:=by
  rcases ht with ⟨_,rfl⟩ | ⟨rest,rfl⟩
  ·simp
  ·have:=bulk_len (H:=H) (strs.map λs=>.lit (.string s))
   simp only [Rows.uptoBulk,List.length_map] at hb this
   omega
 have hrun:=s3 (lim:=0) (ro:=0) (H:=[]) (lg:=lg) (lk:=lk) (dp:=dp) (url:=url) (cr:=cr) (nc:=nc) (md:=md) (stt:=st) (kn:=kn) sysOK gi_asp (l_lives sysOK) small strs few (.d (caseD lg lk dp url cr nc md st hs kn)) (λ_=>rfl) rfl
 have key:=run_calls sysOK hrun (w:=W) (F:=fzOf W) (r:=λ_=>⟨0,0,0,false⟩) (args':=#[v0,v1]) (λb o v h=>fzOf_some h) (gl_is hL) ⟨rfl,λi hi=>by
  match i,hi with
  | 0,_=>exact .d r0
  | 1,_=>exact .d r1⟩
 have hc:Callable P 3:=callable_of (fn:=fnOf 3) (by kernel_rfl) (by kernel_rfl)
 have hcalls:=calls_of_enters hc key
 refine hcalls.mono λe W' hp=>?_
 obtain⟨F',r',_,hw',v',he,hv'⟩:=hp
 obtain rfl:=rel_bool hv'
 refine⟨_,he,post_of_below rfl rfl (by kernel_rfl) (by kernel_rfl) (by kernel_rfl) (λt ht=>?_) hW' ⟨hw'.os,hw'.tape,hw'.output,hw'.size,hw'.old⟩ ?_ rfl ?_⟩
 ·rw [Tryz.params3] at ht
  have h30:30<Tryz.prog.types.size:=of_decide_eq_true (by kernel_rfl)
  have h31:31<Tryz.prog.types.size:=of_decide_eq_true (by kernel_rfl)
  simp only [List.mem_cons,List.mem_nil_iff,or_false] at ht
  rcases ht with rfl | rfl
  ·exact h30
  ·exact h31
 ·rfl
 ·intro b sp hd
  exact trodAll_cons_mk (shut_bool Tryz.underlying4 _) trodAll_mk0
end Go.Proofs.YtnkobejhnphmhaaGreatDoor
