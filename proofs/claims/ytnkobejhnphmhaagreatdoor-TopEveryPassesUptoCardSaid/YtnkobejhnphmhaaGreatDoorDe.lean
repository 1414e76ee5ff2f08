/- Arguments that come in as data, in our words. -/
import Derived.Test.YtnkobejhnphmhaaGreatDoorAb
import Derived.ChangeArms
import Derived.ChangeSame
import Derived.ReadAgain
import Derived.Below
import Derived.Carry
import Derived.Test.YtnkobejhnphmhaaGreatDoorCj
set_option linter.all false
namespace Go.Tg
noncomputable def fzOf (w:World):Fz:=λb o=>(w.cell? ⟨b,o,none⟩).bind λv=>if v.oneCell'=true then some v else none
theorem fzOf_mk {w:World} {b o:Nat} {v:Value} (h:w.cell? ⟨b,o,none⟩=some v) (h1:v.oneCell'=true):fzOf w b o=some v:=by
 unfold fzOf;rw [h,Option.bind_some,if_pos h1]
theorem fzOf_some {w:World} {b o:Nat} {v:Value} (h:fzOf w b o=some v):w.cell? ⟨b,o,none⟩=some v∧v.oneCell'=true:=by
 unfold fzOf at h
 rw [Option.bind_eq_some_iff] at h
 obtain⟨u,h1,h2⟩:=h
 split at h2
 ·cases h2;exact⟨h1,by assumption⟩
 ·cases h2
theorem mapM_at {α β:Type} {f:α→Option β}:∀ {l:List α} {r:List β},l.mapM f=some r→r.length=l.length∧∀ (i:Nat) (a:α),l[i]? = some a→f a=r[i]?
 | [],r,h=>by
  simp at h;subst h;exact⟨rfl,λi a ha=>by simp at ha⟩
 | x::l,r,h=>by
  simp only [List.mapM_cons,Option.bind_eq_bind,Option.bind_eq_some_iff,Option.pure_def,Option.some.injEq] at h
  obtain⟨b,hb,r',hr',rfl⟩:=h
  obtain⟨h1,h2⟩:=mapM_at hr'
  refine⟨by simp [h1],λi a ha=>?_⟩
  cases i with
  | zero=>
   simp only [List.getElem?_cons_zero,Option.some.injEq] at ha
   subst ha
   simpa using hb
  | succ i=>simpa using h2 i a (by simpa using ha)
section
variable {H:Type} {enc:TypeId×Value→H} {P:Program} {w:World}
def Reads (enc:TypeId×Value→H) (P:Program) (w:World) (t:TypeId) (n:Nat) (φ:D→DataW H→Prop):Prop:=
 ∀ (fuel:Nat) (cs:List Value) (x:DataW H×List MemPlace),DataW.trod enc P w 0 (λ_=>true) true fuel t cs=some x →
  ∃ d:D,cs.length=n∧d.cells.length=n∧φ d x.1∧∀ j (hj:j<d.cells.length),DRel (fzOf w) (d.cells[j]) (cs.getD j undef)∧(cs.getD j undef).oneCell'=true
theorem reads_str {t:TypeId} (ht:P.underlying t=some .string):Reads enc P w t 1 λd x=>∃ s,d=.str s∧x=.lit (.string s):=by
 intro fuel cs x h
 obtain⟨s,rfl,rfl,_⟩:=DataW.trod_string ht h
 refine⟨.str s.data.toList,rfl,rfl,⟨_,rfl,rfl⟩,λj hj=>?_⟩
 have:j=0:=by simp [D.cells] at hj;omega
 subst this
 exact⟨.str s,rfl⟩
theorem reads_two {t:TypeId} {f0 f1:Field} (ht:P.underlying t=some (.struct #[f0,f1])) (hc:P.cellsOf t=2) (o0:f0.offset=0) (o1:f1.offset=1) (c0:P.cellsOf f0.type=1) (c1:P.cellsOf f1.type=1)
  (t0:P.underlying f0.type=some .string) (t1:P.underlying f1.type=some .string):Reads enc P w t 2 λd x=>∃ a b,d=.agg [.str a,.str b]∧x=.agg [.lit (.string a),.lit (.string b)]:=by
 intro fuel cs x h
 obtain⟨xs,n,rfl,rfl,hl,hxl,hx⟩:=DataW.trod_struct ht h
 rw [hc] at hl
 have h0:=hx 0 f0 rfl
 have h1:=hx 1 f1 rfl
 rw [o0,c0] at h0
 rw [o1,c1] at h1
 match cs,hl with
 | [u,v],_=>
  match xs,hxl with
  | [x0,x1],_=>
   simp only [List.drop_zero,List.take_succ_cons,List.take_zero,List.getElem?_cons_zero,List.drop_succ_cons,List.getElem?_cons_succ] at h0 h1
   obtain⟨s,e0,rfl,_⟩:=DataW.trod_string t0 h0
   obtain⟨s',e1,rfl,_⟩:=DataW.trod_string t1 h1
   cases e0
   cases e1
   refine⟨.agg [.str s.data.toList,.str s'.data.toList],rfl,rfl,⟨_,_,rfl,rfl⟩,λj hj=>?_⟩
   match j,hj with
   | 0,_=>exact⟨.str s,rfl⟩
   | 1,_=>exact⟨.str s',rfl⟩
theorem reads_slice {t e:TypeId} {n:Nat} {φ:D→DataW H→Prop} (ht:P.underlying t=some (.slice e)) (hc:P.cellsOf e=n) (hn:0<n) (he:Reads enc P w e n φ) {fuel:Nat} {cs:List Value} {x:DataW H×List MemPlace}
  (h:DataW.trod enc P w 0 (λ_=>true) true fuel t cs=some x) :
  ∃ (v:Value) (els:List D),cs=[v]∧DRel (fzOf w) (.lst els) v∧v.oneCell'=true∧((x.1=.nil∧els=[])∨∃ ds rest,x.1=.slice ds rest∧ds.length=els.length∧∀ i (hi:i<els.length),∃ y,ds[i]? = some y∧φ els[i] y):=by
 rcases DataW.trod_slice ht h with ⟨rfl,rfl⟩ | ⟨a,len,cap,elems,rest,m,rfl,rfl,rfl,_,hlc,_,hel,hat,_,_⟩
 ·exact⟨_,[],rfl,.nil none 0,rfl,.inl ⟨rfl,rfl⟩⟩
 ·rw [hc] at hat
  have step:∀ i,∃ d:D,i<len→(a.spot=none∧d.cells.length=n∧(∃ y,elems[i]? = some y∧φ d y.1) ∧
    ∀ j,j<n→∃ v,w.cell? ⟨a.block,a.off+i*n+j,none⟩=some v∧DRel (fzOf w) (d.cells.getD j (.bool false)) v∧v.oneCell'=true):=by
   intro i
   by_cases hi:i<len
   ·have h1:=hat i hi
    have hy:elems[i]? = some (elems[i]'(by omega)):=List.getElem?_eq_getElem _
    rw [hy,Option.bind_eq_some_iff] at h1
    obtain⟨cs',h2,h3⟩:=h1
    obtain⟨d,k1,k2,k3,k4⟩:=he _ _ _ h3
    unfold World.cells? at h2
    rw [if_pos (Nat.zero_le _)] at h2
    obtain⟨m1,m2⟩:=mapM_at h2
    have hcell:∀ j,j<n→w.cell? ((a.add (i*n)).add j)=some (cs'.getD j undef):=by
     intro j hj
     have:=m2 j j (by simp [hj])
     rw [this,List.getD_eq_getElem?_getD,List.getElem?_eq_getElem (by omega)]
     rfl
    have addr:∀ j,j<n→∃ v,w.cell? ⟨a.block,a.off+i*n+j,none⟩=some v∧DRel (fzOf w) (d.cells.getD j (.bool false)) v∧v.oneCell'=true:=by
     intro j hj
     have h5:=hcell j hj
     have h6:=k4 j (by omega)
     refine⟨cs'.getD j undef,?_,?_,h6.2⟩
     ·rw [← h5]
      by_cases hs:((a.add (i*n)).add j).spot=none
      ·congr 1
       revert hs
       unfold Addr.add
       split <;> split <;> intro hs <;> simp_all
       cases a
       simp_all
      ·exfalso
       obtain⟨q,hq⟩:=Option.ne_none_iff_exists'.1 hs
       unfold World.cell? at h5
       split at h5
       ·rw [hq] at h5;simp at h5
       ·cases h5
     ·rw [List.getD_eq_getElem?_getD,List.getElem?_eq_getElem (by omega)]
      exact h6.1
    refine⟨d,λ_=>⟨?_,k2,⟨_,hy,k3⟩,addr⟩⟩
    have z:=hat 0 (by omega)
    have hy0:elems[0]? = some (elems[0]'(by omega)):=List.getElem?_eq_getElem _
    rw [hy0,Option.bind_eq_some_iff] at z
    obtain⟨cs0,z2,z3⟩:=z
    unfold World.cells? at z2
    rw [if_pos (Nat.zero_le _)] at z2
    obtain⟨n1,n2⟩:=mapM_at z2
    have z4:=n2 0 0 (by simp [hn])
    rw [List.getElem?_eq_getElem (by simp at n1;omega)] at z4
    have e0:(a.add (0*n)).add 0=a:=by unfold Addr.add;simp
    rw [e0] at z4
    cases hs:a.spot with
    | none=>rfl
    | some q=>
     unfold World.cell? at z4
     split at z4
     ·rw [hs] at z4;simp at z4
     ·cases z4
   ·exact⟨.bool false,λh=>absurd h hi⟩
  obtain⟨g,hg⟩:=Classical.axiomOfChoice step
  refine⟨.slice (some a) len cap,(List.range len).map g,rfl,?_,rfl,.inr ⟨_,_,rfl,by simp [hel],λi hi=>?_⟩⟩
  ·cases len with
   | zero=>exact .nil _ _
   | succ len=>
    have sp:=(hg 0 (by omega)).1
    obtain⟨ab,ao,asp⟩:=a
    simp only at sp
    subst sp
    have key:=DRel.lst (F:=fzOf w) ((List.range (len+1)).map g) ab ao cap n (λi j=>(w.cell? ⟨ab,ao+i*n+j,none⟩).getD undef) (by simpa using hlc)
     (λi hi=>by simp at hi ⊢;exact (hg i (by omega)).2.1)
     (λi j hi hj=>by
      simp at hi
      obtain⟨v,h1,h2,h3⟩:=(hg i (by omega)).2.2.2 j hj
      simp only at h1
      rw [h1]
      exact fzOf_mk h1 h3)
     (λi hi j hj=>by
      simp at hi
      have hcl:=(hg i (by omega)).2.1
      have hj':j<(g i).cells.length:=by simpa using hj
      obtain⟨v,h1,h2,h3⟩:=(hg i (by omega)).2.2.2 j (by omega)
      simp only at h1
      simp only [h1,Option.getD_some,List.getElem_map,List.getElem_range]
      rw [List.getD_eq_getElem?_getD,List.getElem?_eq_getElem hj'] at h2
      exact h2)
    simpa using key
  ·simp at hi
   obtain⟨y,h1,h2⟩:=(hg i (by omega)).2.2.1
   exact⟨y.1,by simp [h1],by simpa using h2⟩
end
end Go.Tg
namespace Go.Tg
open Go.ChangeShapes Go.WideShapes Go.RowKit
theorem trodAll_below {H:Type} {enc:TypeId×Value→H} {P:Program} {W W':World} {base:Nat} {sp:Nat→Bool} {hd:Bool} (hB:Below W.heap.size W W') :
  ∀ {ts:List TypeId} {vs:List Value} {ds:List (DataW H)} {ps:List MemPlace},DataW.TrodAll enc P W base sp hd ts vs ds ps→DataW.TrodAll enc P W' base sp hd ts vs ds ps
 | [],[],[],_,h=>h
 | _::_,_::_,_::_,_,⟨p,q,⟨n,hn⟩,h2,e⟩=>⟨p,q,⟨n,DataW.trod_carry n _ _ _ hn (λx hx=>hB.same (DataW.trod_lt n _ _ _ hn x hx))⟩,trodAll_below hB h2,e⟩
theorem keptBut_below {W W':World} (hB:Below W.heap.size W W') (may:MemPlace→Prop):W.keptBut W' may:=by
 refine⟨hB.os,hB.output,λi hi=>?_⟩
 rw [hB.block i hi]
 have:=(World.keptBut_refl W may).2.2 i hi
 exact this
theorem post_of_below {H:Type} {enc:TypeId×Value→H} {P:Program} {f:Func} {s:ChangeSpec} {apart fresh handsOn again:Bool} {W W':World} {args:Array Value} {v:Value} {ds gs:List (DataW H)} {before:List MemPlace} (hr:again=false) (hs:s.vars=[])
  (hl:laidOutB P=true) (hm:mapsRowed P=true) (hz:((List.range P.types.size).all λt=>match P.underlying t with | some (.slice e)=>decide (0<P.cellsOf e) | _=>true)=true) (hts:∀ t ∈ f.params.toList,t<P.types.size)
  (hW:DataW.Whole enc P f.params.toList s.vars apart W args.toList ds gs before) (hB:Below W.heap.size W W')
  (ha:(s.fn H (ds++gs)).args=ds) (hv:(s.fn H (ds++gs)).vars=[])
  (hres:∀ (b:Nat) (sp:Nat→Bool) (hd:Bool),DataW.TrodAll enc P W' b sp hd f.resultTypes.toList (v.resultList f.resultTypes.size) (s.fn H (ds++gs)).results []) :
  s.post enc P f apart fresh handsOn again W args v W':=by
 have hW':=hW
 obtain⟨p,q,hA,hV,rfl,_,_⟩:=hW
 rw [hs] at hV
 have hV':=hV
 cases gs with
 | cons=>exact absurd hV' (by simp [DataW.TrodVars])
 | nil=>
 have hq:q=[]:=hV'
 subst hq
 have hlt:∀ x ∈ p,decide (x.block<W.heap.size)=true:=λx hx=>by simpa using hW'.lt x (by simpa using hx)
 have hA2:=DataW.TrodAll.respare (kids_rows hl hm) (λt e ht hu=>slices_full_of P hz t e ht hu) hts hA (spare':=λb=>decide (b<W.heap.size)) hlt
 refine⟨ds,[],p++[],[],p,[],hW',hres _ _ _,by rw [ha];exact trodAll_below hB hA2,?_,?_,λh=>by rw [hr] at h;cases h⟩
 ·rw [hs,hv];exact rfl
 ·exact keptBut_below hB _
end Go.Tg
namespace Go.Tg
open Go.Proofs
variable [Globs]
theorem split_all {α:Type} {H:Type} {f:α→D} {g:α→DataW H}:∀ {els:List D} {ds:List (DataW H)},ds.length=els.length→(∀ i (hi:i<els.length),∃ y,ds[i]? = some y∧∃ a,els[i]=f a∧y=g a)→∃ l:List α,els=l.map f∧ds=l.map g
 | [],[],_,_=>⟨[],rfl,rfl⟩
 | [],_::_,h,_=>by simp at h
 | _::_,[],h,_=>by simp at h
 | e::els,d::ds,hl,h=>by
  obtain⟨y,h1,a,h2,h3⟩:=h 0 (by simp)
  obtain⟨l,k1,k2⟩:=split_all (els:=els) (ds:=ds) (by simpa using hl) (λi hi=>by
   have:=h (i+1) (by simpa using hi)
   simpa using this)
  simp only [List.getElem?_cons_zero,Option.some.injEq] at h1
  simp only [List.getElem_cons_zero] at h2
  exact⟨a::l,by rw [List.map_cons,← k1,h2],by rw [List.map_cons,← k2,h1,h3]⟩
section
variable {H:Type} {enc:TypeId×Value→H} {w:World}
theorem slice_of_okWide {P:Program} {t e:TypeId} {v:Value} (ht:P.underlying t=some (.slice e)) {W:World} {b:Nat} (h:Value.okWide P W .any b t v):v.cells.toList=[v]:=by
 obtain⟨a,len,cap,rfl⟩:=Go.WideShapes.okWide_slice ht h
 rfl
theorem open_texts {v:Value} {d:DataW H} {ps:List MemPlace} (hv:v.cells.toList=[v]) (h:DataW.Trod enc P w 0 (λ_=>true) true 31 v d ps) :
  ∃ strs:List (List UInt8),DRel (fzOf w) (.lst (strs.map .str)) v∧((d=.nil∧strs=[])∨∃ rest,d=.slice (strs.map λs=>.lit (.string s)) rest):=by
 obtain⟨fuel,hf⟩:=h
 obtain⟨u,els,e,h1,h2,h3⟩:=reads_slice (n:=1) (P:=P) Tryz.underlying31 (by kernel_rfl) (by omega) (reads_str Tryz.underlying9) hf
 rw [hv] at e
 cases e
 rcases h3 with ⟨h3,rfl⟩ | ⟨ds,rest,h3,hl,hi⟩
 ·exact⟨[],h1,.inl ⟨h3,rfl⟩⟩
 ·obtain⟨l,rfl,rfl⟩:=split_all (f:=D.str) (g:=λs=>.lit (.string s)) hl hi
  exact⟨l,h1,.inr ⟨rest,h3⟩⟩
theorem open_heads {n:Nat} {v:Value} {x:DataW H×List MemPlace} (hf:DataW.trod enc P w 0 (λ_=>true) true n 26 [v]=some x) :
  ∃ hs:List Hd,DRel (fzOf w) (.lst (hs.map hdD)) v∧((x.1=.nil∧hs=[])∨∃ rest,x.1=.slice (hs.map λh=>.agg [.lit (.string h.1),.lit (.string h.2)]) rest):=by
 have two:=reads_two (enc:=enc) (P:=P) (w:=w) Tryz.underlying84 (by kernel_rfl) rfl rfl (by kernel_rfl) (by kernel_rfl) Tryz.underlying9 Tryz.underlying9
 obtain⟨u,els,e,h1,h2,h3⟩:=reads_slice (n:=2) (P:=P) Tryz.underlying26 (by kernel_rfl) (by omega) two hf
 cases e
 rcases h3 with ⟨h3,rfl⟩ | ⟨ds,rest,h3,hl,hi⟩
 ·exact⟨[],h1,.inl ⟨h3,rfl⟩⟩
 ·obtain⟨l,rfl,rfl⟩:=split_all (f:=hdD) (g:=λh:Hd=>.agg [.lit (.string h.1),.lit (.string h.2)]) hl (λi hi'=>by
   obtain⟨y,k1,a,b,k2,k3⟩:=hi i hi'
   exact⟨y,k1,(a,b),k2,k3⟩)
  exact⟨l,h1,.inr ⟨rest,h3⟩⟩
set_option maxRecDepth 4000 in
theorem open_case {v:Value} {d:DataW H} {ps:List MemPlace} (hv:∃ cs,v=.agg cs∧cs.size=P.cellsOf 30) (h:DataW.Trod enc P w 0 (λ_=>true) true 30 v d ps) :
  ∃ (lg:Bool) (lk dp:Int) (url:List UInt8) (cr nc:Bool) (md st:Int) (hs:List Hd) (kn:Bool) (hd:DataW H),DRel (fzOf w) (caseD lg lk dp url cr nc md st hs kn) v ∧
   d=.agg [.agg [.lit (.bool lg),.lit (.int .i64 lk),.lit (.int .i64 dp)],.agg [.lit (.string url),.lit (.bool cr),.lit (.bool nc),.lit (.int .i64 md)],.agg [.lit (.int .i64 st),hd],.lit (.bool kn)] ∧
   ((hd=.nil∧hs=[])∨∃ rest,hd=.slice (hs.map λh=>.agg [.lit (.string h.1),.lit (.string h.2)]) rest):=by
 obtain⟨fuel,hf⟩:=h
 obtain⟨⟨l⟩,rfl,_⟩:=hv
 obtain⟨xs,n,rfl,hx,hl,hxl,hat⟩:=DataW.trod_struct Tryz.underlying30 hf
 have c30:P.cellsOf 30=10:=by kernel_rfl
 have c23:P.cellsOf 23=3:=by kernel_rfl
 have c25:P.cellsOf 25=4:=by kernel_rfl
 have c28:P.cellsOf 28=2:=by kernel_rfl
 have c26:P.cellsOf 26=1:=by kernel_rfl
 have c3:P.cellsOf 3=1:=by kernel_rfl
 have c4:P.cellsOf 4=1:=by kernel_rfl
 have c9:P.cellsOf 9=1:=by kernel_rfl
 rw [c30] at hl
 have hl':l.length=10:=hl
 have hxl':xs.length=4:=hxl
 match l,hl' with
 | [a0,a1,a2,a3,a4,a5,a6,a7,a8,a9],_=>
 match xs,hxl' with
 | [x0,x1,x2,x3],_=>
 have q0:DataW.trod enc P w 0 (λ_=>true) true n 23 (([a0,a1,a2,a3,a4,a5,a6,a7,a8,a9].drop 0).take (P.cellsOf 23))=some x0:=hat 0 _ rfl
 have q1:DataW.trod enc P w 0 (λ_=>true) true n 25 (([a0,a1,a2,a3,a4,a5,a6,a7,a8,a9].drop 3).take (P.cellsOf 25))=some x1:=hat 1 _ rfl
 have q2:DataW.trod enc P w 0 (λ_=>true) true n 28 (([a0,a1,a2,a3,a4,a5,a6,a7,a8,a9].drop 7).take (P.cellsOf 28))=some x2:=hat 2 _ rfl
 have q3:DataW.trod enc P w 0 (λ_=>true) true n 4 (([a0,a1,a2,a3,a4,a5,a6,a7,a8,a9].drop 9).take (P.cellsOf 4))=some x3:=hat 3 _ rfl
 rw [c23] at q0
 rw [c25] at q1
 rw [c28] at q2
 rw [c4] at q3
 simp only [List.drop_zero,List.drop_succ_cons,List.take_succ_cons,List.take_zero] at q0 q1 q2 q3
 clear hat hl hxl hf
 obtain⟨kn,e9,rfl⟩:=DataW.trod_bool Tryz.underlying4 q3
 cases e9
 obtain⟨ys,m,rfl,rfl,_,hyl,hay⟩:=DataW.trod_struct Tryz.underlying23 q0
 have hyl':ys.length=3:=hyl
 match ys,hyl' with
 | [y0,y1,y2],_=>
 have r0:DataW.trod enc P w 0 (λ_=>true) true m 4 (([a0,a1,a2].drop 0).take (P.cellsOf 4))=some y0:=hay 0 _ rfl
 have r1:DataW.trod enc P w 0 (λ_=>true) true m 3 (([a0,a1,a2].drop 1).take (P.cellsOf 3))=some y1:=hay 1 _ rfl
 have r2:DataW.trod enc P w 0 (λ_=>true) true m 3 (([a0,a1,a2].drop 2).take (P.cellsOf 3))=some y2:=hay 2 _ rfl
 rw [c4] at r0
 rw [c3] at r1 r2
 simp only [List.drop_zero,List.drop_succ_cons,List.take_succ_cons,List.take_zero] at r0 r1 r2
 clear hay hyl
 obtain⟨lg,e0,rfl⟩:=DataW.trod_bool Tryz.underlying4 r0
 obtain⟨lk,e1,rfl,_⟩:=DataW.trod_int Tryz.underlying3 r1
 obtain⟨dp,e2,rfl,_⟩:=DataW.trod_int Tryz.underlying3 r2
 cases e0
 cases e1
 cases e2
 obtain⟨zs,m',em,rfl,_,hzl,haz⟩:=DataW.trod_struct Tryz.underlying25 q1
 cases em
 have hzl':zs.length=4:=hzl
 match zs,hzl' with
 | [z0,z1,z2,z3],_=>
 have s0:DataW.trod enc P w 0 (λ_=>true) true m 9 (([a3,a4,a5,a6].drop 0).take (P.cellsOf 9))=some z0:=haz 0 _ rfl
 have s1:DataW.trod enc P w 0 (λ_=>true) true m 4 (([a3,a4,a5,a6].drop 1).take (P.cellsOf 4))=some z1:=haz 1 _ rfl
 have s2:DataW.trod enc P w 0 (λ_=>true) true m 4 (([a3,a4,a5,a6].drop 2).take (P.cellsOf 4))=some z2:=haz 2 _ rfl
 have s3:DataW.trod enc P w 0 (λ_=>true) true m 3 (([a3,a4,a5,a6].drop 3).take (P.cellsOf 3))=some z3:=haz 3 _ rfl
 rw [c9] at s0
 rw [c4] at s1 s2
 rw [c3] at s3
 simp only [List.drop_zero,List.drop_succ_cons,List.take_succ_cons,List.take_zero] at s0 s1 s2 s3
 clear haz hzl
 obtain⟨url,e3,rfl,_⟩:=DataW.trod_string Tryz.underlying9 s0
 obtain⟨cr,e4,rfl⟩:=DataW.trod_bool Tryz.underlying4 s1
 obtain⟨nc,e5,rfl⟩:=DataW.trod_bool Tryz.underlying4 s2
 obtain⟨md,e6,rfl,_⟩:=DataW.trod_int Tryz.underlying3 s3
 cases e3
 cases e4
 cases e5
 cases e6
 obtain⟨us,m',em,rfl,_,hul,hau⟩:=DataW.trod_struct Tryz.underlying28 q2
 cases em
 have hul':us.length=2:=hul
 match us,hul' with
 | [u0,u1],_=>
 have t0:DataW.trod enc P w 0 (λ_=>true) true m 3 (([a7,a8].drop 0).take (P.cellsOf 3))=some u0:=hau 0 _ rfl
 have t1:DataW.trod enc P w 0 (λ_=>true) true m 26 (([a7,a8].drop 1).take (P.cellsOf 26))=some u1:=hau 1 _ rfl
 rw [c3] at t0
 rw [c26] at t1
 simp only [List.drop_zero,List.drop_succ_cons,List.take_succ_cons,List.take_zero] at t0 t1
 clear hau hul
 obtain⟨st,e7,rfl,_⟩:=DataW.trod_int Tryz.underlying3 t0
 cases e7
 obtain⟨hs,k1,k2⟩:=open_heads t1
 simp only [Prod.mk.injEq] at hx
 refine⟨lg,lk,dp,url.data.toList,cr,nc,md,st,hs,kn,u1.1,?_,hx.1,k2⟩
 refine .agg _ _ rfl λi hi=>?_
 match i,hi with
 | 0,_=>exact .bool _
 | 1,_=>exact .int _ _
 | 2,_=>exact .int _ _
 | 3,_=>exact .str _
 | 4,_=>exact .bool _
 | 5,_=>exact .bool _
 | 6,_=>exact .int _ _
 | 7,_=>exact .int _ _
 | 8,_=>exact k1
 | 9,_=>exact .bool _
end
end Go.Tg
