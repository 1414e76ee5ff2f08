/- media.kind where no pattern matches: the walk. -/
import Derived.Test.YtnkobejhnphmhaaGreatDoorProg
import Derived.RangeFuncNested
import Derived.RangeFuncBound
import Derived.RangeFuncCalls
import Derived.RangeFuncLeaves
import Derived.Shelf.Abstract
import Derived.Shelf.RegionOpen
import Derived.WalkKit
import Derived.OwnWalkIn
import Derived.TacticsInMore
import Derived.KernelRfl
import Derived.Test.YtnkobejhnphmhaaGreatDoorDa
import Derived.Test.YtnkobejhnphmhaaGreatDoorDb
import Derived.Test.YtnkobejhnphmhaaGreatDoorDc
set_option linter.all false
namespace Go.Proofs
open Go.RowKit Go.Shelf
attribute [local go_sem] Oper.semAt_some
def strV (l:List UInt8):Value:=.string ⟨l.toArray⟩
structure Pat where
 b:List UInt8
 m:List UInt8
 k:List UInt8
 ty:List UInt8
def patC (x:Pat):Array Value:=#[strV x.b,strV x.m,strV x.k,strV x.ty]
def patV (x:Pat):Value:=.agg (patC x)
theorem grown_below {W W':World} (h:Below W.heap.size W W'):W.grownBy W' none:=⟨h.os,h.tape,h.output,h.size,λk hk _=>h.block k hk⟩
theorem keeps_below {W W':World} (h:Below W.heap.size W W'):KeepsOthers W W':=⟨h.size,λk _ hk _=>(h.block k (Array.getElem?_eq_some_iff.1 hk).1).trans hk⟩
theorem Tryz.patterns_in (F:Fence) (n:Nat) (h5:F.fn 487) (hro:F.round=none) (w:World) :
  CallsIn F n Tryz.prog 487 #[] w λe w'=>e=.returned (.func (.func 499) #[] #[])∧w'=w:=by
 refine callsIn_of_wp Tryz.func487 rfl h5 ?_ hro
 simp only [Tryz.ntmps487,List.size_toArray,List.length_nil,Nat.reduceSub,Array.replicate_succ,Array.replicate_zero,List.push_toArray,List.append_toArray,List.nil_append]
 gi_wp2
 go_ret
 exact⟨rfl,rfl⟩
def Made (w:World) (f:Nat) (args:Array Value) (x:Pat):Prop:=∀ W,Below w.heap.size w W→Calls Tryz.prog f args W λe W'=>e=.returned (patV x)∧Below W.heap.size W W'
set_option maxRecDepth 100000 in
set_option maxHeartbeats 8000000 in
theorem Tryz.pats_stops (w:World) (Q:Pat→Prop) (x1 x2 x3 x4 x5 x6:{ x:Pat // Q x }) (n:Nat) (hn:1≤n)
  (m1:Made w 500 #[.string ⟨#[70,79,82,77]⟩,.string ⟨#[65,73,70,70]⟩,.string ⟨#[97,117,100,105,111,47,97,105,102,102]⟩] x1.1)
  (m2:Made w 501 #[.string ⟨#[73,68,51]⟩,.string ⟨#[97,117,100,105,111,47,109,112,101,103]⟩] x2.1)
  (m3:Made w 501 #[.string ⟨#[79,103,103,83,0]⟩,.string ⟨#[97,112,112,108,105,99,97,116,105,111,110,47,111,103,103]⟩] x3.1)
  (m4:Made w 501 #[.string ⟨#[77,84,104,100,0,0,0,6]⟩,.string ⟨#[97,117,100,105,111,47,109,105,100,105]⟩] x4.1)
  (m5:Made w 500 #[.string ⟨#[82,73,70,70]⟩,.string ⟨#[65,86,73,32]⟩,.string ⟨#[118,105,100,101,111,47,97,118,105]⟩] x5.1)
  (m6:Made w 500 #[.string ⟨#[82,73,70,70]⟩,.string ⟨#[87,65,86,69]⟩,.string ⟨#[97,117,100,105,111,47,119,97,118,101]⟩] x6.1)
  (w0:World) (hw0:Below w.heap.size w w0) :
  SeqStopsK Fence.wide n Tryz.prog 499 #[] (λx:{ x:Pat // Q x }=>#[patV x.1]) (Below w.heap.size) (λ_=>True) (λ_=>True) 6 w0:=λl J Jx W hW hJ hJx hY h0=>by
 refine callsIn_of_wp Tryz.func499 rfl trivial ?_ rfl
 simp only [Tryz.ntmps499,List.size_toArray,List.length_cons,List.length_nil,Nat.reduceAdd,Nat.reduceSub,Array.replicate_succ,Array.replicate_zero,List.push_toArray,List.append_toArray,List.nil_append,List.cons_append]
 have b0:Below w.heap.size w W:=hw0.trans (hW.mono hw0.size)
 have j0:=h0
 have s1:=m1 _ b0
 gi_wp2_with (refine⟨trivial,?_⟩;gi_at_call 500;refine (callsIn_wide.2 s1).mono ?_;clear s1;rintro e V1 ⟨rfl,B1⟩;have c1:=b0.trans (B1.mono b0.size);obtain⟨f1,t1,a1,d1,hy1,hR1⟩:=hY [] x1 V1 (hJ _ _ _ none j0 (grown_below B1) (λr e=>by cases e)) (by simp);try dsimp only at hy1)
 refine hR1.mono ?_
 rintro e W1 (⟨rfl,j1,k1⟩ | ⟨rfl,y1⟩)
 rotate_left
 ·gi_wp2_with (first | refine⟨trivial,?_⟩ | refine⟨λ_ _=>trivial,?_⟩)
  go_end0
  exact⟨⟨_,rfl⟩,.inr ⟨_,trivial,y1⟩⟩
 have b1:=c1.trans k1
 have s2:=m2 _ b1
 gi_wp2_with (refine⟨trivial,?_⟩;gi_at_call 501;refine (callsIn_wide.2 s2).mono ?_;clear s2;rintro e V2 ⟨rfl,B2⟩;have c2:=b1.trans (B2.mono b1.size);obtain⟨f2,t2,a2,d2,hy2,hR2⟩:=hY [x1] x2 V2 (hJ _ _ _ none j1 (grown_below B2) (λr e=>by cases e)) (by simp);try dsimp only at hy2)
 refine hR2.mono ?_
 rintro e W2 (⟨rfl,j2,k2⟩ | ⟨rfl,y2⟩)
 rotate_left
 ·gi_wp2_with (first | refine⟨trivial,?_⟩ | refine⟨λ_ _=>trivial,?_⟩)
  go_end0
  exact⟨⟨_,rfl⟩,.inr ⟨_,trivial,y2⟩⟩
 have b2:=c2.trans k2
 have s3:=m3 _ b2
 gi_wp2_with (refine⟨trivial,?_⟩;gi_at_call 501;refine (callsIn_wide.2 s3).mono ?_;clear s3;rintro e V3 ⟨rfl,B3⟩;have c3:=b2.trans (B3.mono b2.size);obtain⟨f3,t3,a3,d3,hy3,hR3⟩:=hY [x1,x2] x3 V3 (hJ _ _ _ none j2 (grown_below B3) (λr e=>by cases e)) (by simp);try dsimp only at hy3)
 refine hR3.mono ?_
 rintro e W3 (⟨rfl,j3,k3⟩ | ⟨rfl,y3⟩)
 rotate_left
 ·gi_wp2_with (first | refine⟨trivial,?_⟩ | refine⟨λ_ _=>trivial,?_⟩)
  go_end0
  exact⟨⟨_,rfl⟩,.inr ⟨_,trivial,y3⟩⟩
 have b3:=c3.trans k3
 have s4:=m4 _ b3
 gi_wp2_with (refine⟨trivial,?_⟩;gi_at_call 501;refine (callsIn_wide.2 s4).mono ?_;clear s4;rintro e V4 ⟨rfl,B4⟩;have c4:=b3.trans (B4.mono b3.size);obtain⟨f4,t4,a4,d4,hy4,hR4⟩:=hY [x1,x2,x3] x4 V4 (hJ _ _ _ none j3 (grown_below B4) (λr e=>by cases e)) (by simp);try dsimp only at hy4)
 refine hR4.mono ?_
 rintro e W4 (⟨rfl,j4,k4⟩ | ⟨rfl,y4⟩)
 rotate_left
 ·gi_wp2_with (first | refine⟨trivial,?_⟩ | refine⟨λ_ _=>trivial,?_⟩)
  go_end0
  exact⟨⟨_,rfl⟩,.inr ⟨_,trivial,y4⟩⟩
 have b4:=c4.trans k4
 have s5:=m5 _ b4
 gi_wp2_with (refine⟨trivial,?_⟩;gi_at_call 500;refine (callsIn_wide.2 s5).mono ?_;clear s5;rintro e V5 ⟨rfl,B5⟩;have c5:=b4.trans (B5.mono b4.size);obtain⟨f5,t5,a5,d5,hy5,hR5⟩:=hY [x1,x2,x3,x4] x5 V5 (hJ _ _ _ none j4 (grown_below B5) (λr e=>by cases e)) (by simp);try dsimp only at hy5)
 refine hR5.mono ?_
 rintro e W5 (⟨rfl,j5,k5⟩ | ⟨rfl,y5⟩)
 rotate_left
 ·gi_wp2_with (first | refine⟨trivial,?_⟩ | refine⟨λ_ _=>trivial,?_⟩)
  go_end0
  exact⟨⟨_,rfl⟩,.inr ⟨_,trivial,y5⟩⟩
 have b5:=c5.trans k5
 have s6:=m6 _ b5
 gi_wp2_with (refine⟨trivial,?_⟩;gi_at_call 500;refine (callsIn_wide.2 s6).mono ?_;clear s6;rintro e V6 ⟨rfl,B6⟩;have c6:=b5.trans (B6.mono b5.size);obtain⟨f6,t6,a6,d6,hy6,hR6⟩:=hY [x1,x2,x3,x4,x5] x6 V6 (hJ _ _ _ none j5 (grown_below B6) (λr e=>by cases e)) (by simp);try dsimp only at hy6)
 refine hR6.mono ?_
 rintro e W6 (⟨rfl,j6,k6⟩ | ⟨rfl,y6⟩)
 rotate_left
 ·gi_wp2_with (first | refine⟨trivial,?_⟩ | refine⟨λ_ _=>trivial,?_⟩)
  go_end0
  exact⟨⟨_,rfl⟩,.inr ⟨_,trivial,y6⟩⟩
 have b6:=c6.trans k6
 gi_wp2
 go_end0
 exact⟨⟨_,rfl⟩,.inl ⟨_,trivial,j6⟩⟩
def Missed (w:World) (s:ByteArray) (x:Pat):Prop:=∀ W,Below w.heap.size w W→Calls Tryz.prog 325 #[.string s,patV x] W λe W'=>e=.returned (.bool false)∧Below W.heap.size W W'
def Four (W:World) (B:Nat) (x:Pat):Prop:=W.heap[B]? = some (.cells (patC x) 283 (0,0))
theorem Four.own (B:Nat) (x:Pat) (n:Nat):OwnFrom n (λ(_:Unit) W=>Four W B x):=λ_ X Y row hs hg hr=>
 (hg.block B (Array.getElem?_eq_some_iff.1 hs).1 (λe=>by obtain⟨_,o,ho,hc⟩:=hr B e.symm;rw [show X.heap[B]? = _ from hs] at ho;cases ho;cases hc)).trans hs
set_option maxRecDepth 100000 in
set_option maxHeartbeats 8000000 in
theorem Tryz.kind_walk (s:ByteArray) (w:World) (x1 x2 x3 x4 x5 x6:{ x:Pat // Missed w s x })
  (m1:Made w 500 #[.string ⟨#[70,79,82,77]⟩,.string ⟨#[65,73,70,70]⟩,.string ⟨#[97,117,100,105,111,47,97,105,102,102]⟩] x1.1)
  (m2:Made w 501 #[.string ⟨#[73,68,51]⟩,.string ⟨#[97,117,100,105,111,47,109,112,101,103]⟩] x2.1)
  (m3:Made w 501 #[.string ⟨#[79,103,103,83,0]⟩,.string ⟨#[97,112,112,108,105,99,97,116,105,111,110,47,111,103,103]⟩] x3.1)
  (m4:Made w 501 #[.string ⟨#[77,84,104,100,0,0,0,6]⟩,.string ⟨#[97,117,100,105,111,47,109,105,100,105]⟩] x4.1)
  (m5:Made w 500 #[.string ⟨#[82,73,70,70]⟩,.string ⟨#[65,86,73,32]⟩,.string ⟨#[118,105,100,101,111,47,97,118,105]⟩] x5.1)
  (m6:Made w 500 #[.string ⟨#[82,73,70,70]⟩,.string ⟨#[87,65,86,69]⟩,.string ⟨#[97,117,100,105,111,47,119,97,118,101]⟩] x6.1) :
  Calls Tryz.prog 470 #[.string s] w λe W'=>e=.returned (.string ⟨#[]⟩)∧Below w.heap.size w W':=by
 refine (callsIn_wide (n:=5)).1 ?_
 refine callsIn_of_wp_marks Tryz.func470 rfl trivial ?_ rfl
 simp only [Tryz.ntmps470,List.size_toArray,List.length_cons,List.length_nil,Nat.reduceAdd,Nat.reduceSub,Array.replicate_succ,Array.replicate_zero,List.push_toArray,List.append_toArray,List.nil_append,List.cons_append]
 gi_wp2_with (refine⟨trivial,?_⟩;gi_at_call 487;refine (Tryz.patterns_in Fence.wide _ trivial rfl _).mono ?_;rintro e w' ⟨rfl,rfl⟩)
 have bS:=(Boxed.new w 9 (.string s)).alloc (.cells #[.string ⟨#[]⟩] 9)
 have bR:=Boxed.new (w.alloc (.cells #[.string s] 9)) 9 (.string ⟨#[]⟩)
 simp only [World.size_alloc] at bR
 have hB0:Below w.heap.size w ((w.alloc (.cells #[.string s] 9)).alloc (.cells #[.string ⟨#[]⟩] 9)):=((Below.refl _ w).alloc (Nat.le_refl _) _).alloc (by simp) _
 have hsz:((w.alloc (.cells #[.string s] 9)).alloc (.cells #[.string ⟨#[]⟩] 9)).heap.size=w.heap.size+2:=by simp
 obtain⟨W0,hW0⟩:∃ W0,(w.alloc (.cells #[.string s] 9)).alloc (.cells #[.string ⟨#[]⟩] 9)=W0:=⟨_,rfl⟩
 rw [hW0] at bS bR hB0 hsz ⊢
 clear hW0
 refine wpIn_rangeFunc_ownH rfl (by omega) (gf:=499) (lb:=#[]) rfl trivial (enters_of Tryz.func499 (by kernel_rfl) rfl)
  (Tryz.pats_stops w (Missed w s) x1 x2 x3 x4 x5 x6 (5 - 1) (by omega) m1 m2 m3 m4 m5 m6 W0 hB0) belowK_t (belowK_b (by omega)) (Below.refl _ _) (λ_=>rfl)
  (λpre W=>(Boxed W w.heap.size 9 (.string s)∧Boxed W (w.heap.size+1) 9 (.string ⟨#[]⟩))∧Below w.heap.size w W)
  (λ_ _ _=>False)
  (OwnFrom.and (OwnFrom.and (Own.from (boxed_own _ _ _) _) (Own.from (boxed_own _ _ _) _)) (ownFrom_below (Nat.le_refl _) (by omega)))
  (λ_ _ _ _ _ hs _ _=>hs)
  ⟨⟨bS,bR⟩,hB0⟩
  (λx a' W=>∃ Bx,Four W Bx x.1∧a'={ tmps:=#[.string s,.pointer (some ⟨w.heap.size,0,none⟩),.pointer (some ⟨w.heap.size+1,0,none⟩),.pointer (some ⟨Bx,0,none⟩),.func (.func 499) #[] #[],patV x.1,undef,undef,undef,undef,undef],defers:=[] })
  (λx a' _ X Y row hs hg hr=>by obtain⟨Bx,h2,h3⟩:=hs;exact⟨Bx,Four.own Bx x.1 _ () X Y row h2 hg hr,h3⟩)
  ?assign ?body ?done ?stop
 case assign=>
  rintro l pre x W K ⟨⟨bS1,bR1⟩,hB1⟩ hK
  dsimp only [patV,patC,strV]
  gi_wp2
  exact hK _ _ ((KeepsOthers.alloc _ _).from _) ((Below.refl _ W).alloc hB1.size _) ⟨⟨bS1.alloc _,bR1.alloc _⟩,hB1.alloc hB1.size _⟩ ⟨W.heap.size,World.alloc_heap_new W _,rfl⟩
 case body=>
  rintro l pre x a' W hl ⟨r,hr⟩ ⟨⟨bS1,bR1⟩,hB1⟩ ⟨Bx,bX,rfl⟩ hlt
  have cS:=bS1.cell
  have h1':1≤5 - 1 - 1:=by omega
  have k0:W.cell? ⟨Bx,0,none⟩=some (.string ⟨x.1.b.toArray⟩):=by simp [World.cell?,show W.heap[Bx]? = _ from bX,patC,strV]
  have k1:W.cell? ⟨Bx,1,none⟩=some (.string ⟨x.1.m.toArray⟩):=by simp [World.cell?,show W.heap[Bx]? = _ from bX,patC,strV]
  have k2:W.cell? ⟨Bx,2,none⟩=some (.string ⟨x.1.k.toArray⟩):=by simp [World.cell?,show W.heap[Bx]? = _ from bX,patC,strV]
  have k3:W.cell? ⟨Bx,3,none⟩=some (.string ⟨x.1.ty.toArray⟩):=by simp [World.cell?,show W.heap[Bx]? = _ from bX,patC,strV]
  have hm:=x.2 W hB1
  dsimp only [patV,patC,strV] at hm ⊢
  gi_wp2_with (refine⟨trivial,?_⟩;gi_at_call 325;refine (CallsIn.inRound l (callsIn_wide.2 hm)).mono ?_;clear hm;rintro e W1 ⟨rfl,B1⟩)
  have g:=grown_below B1
  exact⟨(keeps_below B1).from _,B1.mono hB1.size,⟨bS1.kept g (by simp),bR1.kept g (by simp)⟩,hB1.trans (B1.mono hB1.size)⟩
 case done=>
  rintro D zs W hD _ ⟨⟨bS1,bR1⟩,hB1⟩ hK
  have cR:=bR1.cell
  have fR:=bR1.frozen
  gi_wp2
  have hK':=(KeepsOthers.setCell W ⟨w.heap.size+1,0,none⟩ (.string ⟨#[]⟩)).same D _ hK rfl
  have cR':(W.setCell ⟨w.heap.size+1,0,none⟩ (.string ⟨#[]⟩)).cell? ⟨w.heap.size+1,0,none⟩=some (.string ⟨#[]⟩):=World.cell?_setCell_same' _ _ _ (by rw [cR];rfl)
  have cR2:=cell_kept cR' (grownBy_putObj' _ D (.deferred none)) (λr e=>by cases e;exact⟨_,hK',rfl⟩)
  have hB2:Below w.heap.size w (W.setCell ⟨w.heap.size+1,0,none⟩ (.string ⟨#[]⟩)):=hB1.trans ((Below.refl _ W).setCell (p:=⟨w.heap.size+1,0,none⟩) (by simp) _)
  refine⟨by simp,.inl ⟨_,_,rfl,run_takeDeferred hK',?_⟩⟩
  refine⟨.string ⟨#[]⟩,by simp [results,Tryz.results470,go_sem,cR2],rfl,hB2.trans (belowK_b (w:=w) (Nat.le_refl _) _ D _ _ (by omega) hK' rfl rfl)⟩
 case stop=>
  rintro D c pre W _ _ h _
  exact h.elim
end Go.Proofs
namespace Go.Tg
open Go.Proofs
variable [Globs]
theorem calls_of_enters {f:Nat} {args:Array Value} {W:World} {R:Ending→World→Prop} (hc:Callable P f) (h:Enters P f args W R):Calls P f args W R:=by
 rcases h with ⟨_,h⟩ | ⟨v,w',h1,_⟩
 ·exact h
 ·rw [run_callFunc hc] at h1;cases h1
theorem rel_strV {F:Fz} {l:List UInt8} {v:Value} (h:DRel F (.str l) v):v=strV l:=by
 generalize hd:D.str l=d at h
 cases h <;> first | (cases hd;rfl) | cases hd
theorem drel_strV (F:Fz) (l:List UInt8):DRel F (.str l) (strV l):=.str ⟨l.toArray⟩
theorem vrel_strV (F:Fz) (r:Rm) (n:Nat) (l:List UInt8):VRel F r n (.d (.str l)) (strV l):=.d (drel_strV F l)
def patD (x:Pat):D:=.agg [.str x.b,.str x.m,.str x.k,.str x.ty]
theorem rel_pat {F:Fz} {r:Rm} {n:Nat} {x:Pat} {v:Value} (h:VRel F r n (.d (patD x)) v):v=patV x:=by
 cases h with
 | d h=>
 cases h with
 | agg _ vs hlen hh=>
 obtain⟨l⟩:=vs
 match l,hlen with
 | [y0,y1,y2,y3],_=>
  have h0:=rel_strV (hh 0 (by simp))
  have h1:=rel_strV (hh 1 (by simp))
  have h2:=rel_strV (hh 2 (by simp))
  have h3:=rel_strV (hh 3 (by simp))
  have h0':y0=strV x.b:=h0
  have h1':y1=strV x.m:=h1
  have h2':y2=strV x.k:=h2
  have h3':y3=strV x.ty:=h3
  rw [h0',h1',h2',h3']
  rfl
theorem drel_patV (F:Fz) (x:Pat):DRel F (patD x) (patV x):=by
 refine .agg _ _ rfl λi hi=>?_
 match i,hi with
 | 0,_=>exact drel_strV F _
 | 1,_=>exact drel_strV F _
 | 2,_=>exact drel_strV F _
 | 3,_=>exact drel_strV F _
theorem closed_call {call:Oracle} (hS:Sound P call) {f:Nat} (hc:Callable P f) {xs:List IV} {args:Array Value} {v:IV} (h:call 0 0 f xs []=some (.val v,[])) {B:Nat} {W0:Base} {L:Nat→Prop} {F:Fz} {r:Rm} {H:Hp} {w:World}
  (hw:WRel B W0 L F r H w) (ha:Vs F r 0 xs args) (W:World) (hB:RowKit.Below w.heap.size w W):Calls P f args W λe W'=>(∃ F' r' v',e=.returned v'∧VRel F' r' 0 v v')∧RowKit.Below W.heap.size W W':=by
 have h0:WRel W.heap.size ⟨W,F⟩ (λ_=>False) F r [] W:=
  {
   os:=rfl,tape:=rfl,output:=rfl,size:=Nat.le_refl _,old:=λ_ _=>rfl,fz:=λb o v hv=>(cell_keep (hB.block b (cell_lt (hw.fz b o v hv)))).trans (hw.fz b o v hv),one:=hw.one,gl:=hw.gl,fzB:=λ_ _ _ h=>.inl h,
   blk:=λb hb=>by simp at hb,low:=λ_ h=>h.elim,own:=λb hb=>by simp at hb,inj:=λa b ha=>by simp at ha }
 refine (calls_of_enters hc (hS.says _ _ _ _ _ _ _ h W.heap.size ⟨W,F⟩ (λ_=>False) F r W args h0 (λ_ h=>h.elim) (Nat.le_refl _) (Nat.le_refl _) ha)).mono ?_
 rintro e W' ⟨F',r',_,hw',v',he,hv⟩
 exact⟨⟨F',r',v',he,hv⟩,hw'.os,hw'.tape,hw'.output,hw'.size,hw'.old⟩
theorem kindGo_cons {call:Oracle} {s t:List UInt8} {g:Nat} {xs:List IV} {ps:List (Nat×List IV)} (h:kindGo call s ((g,xs)::ps)=some t) :
  ∃ x:Pat,call 0 0 g xs []=some (.val (.d (patD x)),[])∧call 0 0 325 [.d (.str s),.d (patD x)] []=some (.val (.d (.bool false)),[])∧kindGo call s ps=some t:=by
 unfold kindGo at h
 split at h
 ·rename_i b m k ty h1
  split at h
  ·rename_i h2
   exact⟨⟨b,m,k,ty⟩,h1,h2,h⟩
  ·cases h
 ·cases h
theorem made_of {call:Oracle} (hS:Sound P call) {f:Nat} (hc:Callable P f) {xs:List IV} {args:Array Value} {x:Pat} (h:call 0 0 f xs []=some (.val (.d (patD x)),[])) {B:Nat} {W0:Base} {L:Nat→Prop} {F:Fz} {r:Rm} {H:Hp} {w:World}
  (hw:WRel B W0 L F r H w) (ha:Vs F r 0 xs args):Made w f args x:=by
 intro W hB
 refine (closed_call hS hc h hw ha W hB).mono ?_
 rintro e W' ⟨⟨F',r',v',rfl,hv⟩,hb⟩
 exact⟨by rw [rel_pat hv],hb⟩
theorem missed_of {call:Oracle} (hS:Sound P call) {s:ByteArray} {x:Pat} (h:call 0 0 325 [.d (.str s.data.toList),.d (patD x)] []=some (.val (.d (.bool false)),[])) {B:Nat} {W0:Base} {L:Nat→Prop} {F:Fz} {r:Rm} {H:Hp} {w:World}
  (hw:WRel B W0 L F r H w):Missed w s x:=by
 intro W hB
 refine (closed_call hS (callable_of (fn:=fnOf 325) (by kernel_rfl) (by kernel_rfl)) h hw (args:=#[.string s,patV x]) ⟨rfl,λi hi=>by
  match i,hi with
  | 0,_=>exact .d (.str s)
  | 1,_=>exact .d (drel_patV F x)⟩ W hB).mono ?_
 rintro e W' ⟨⟨F',r',v',rfl,hv⟩,hb⟩
 have:=rel_bool hv
 subst this
 exact⟨rfl,hb⟩
theorem vs3 {F:Fz} {r:Rm} (a b c:List UInt8):Vs F r 0 [.d (.str a),.d (.str b),.d (.str c)] #[strV a,strV b,strV c]:=⟨rfl,λi hi=>by
 match i,hi with
 | 0,_=>exact vrel_strV F r 0 a
 | 1,_=>exact vrel_strV F r 0 b
 | 2,_=>exact vrel_strV F r 0 c⟩
theorem vs2 {F:Fz} {r:Rm} (a b:List UInt8):Vs F r 0 [.d (.str a),.d (.str b)] #[strV a,strV b]:=⟨rfl,λi hi=>by
 match i,hi with
 | 0,_=>exact vrel_strV F r 0 a
 | 1,_=>exact vrel_strV F r 0 b⟩
theorem says_pKind {call:Oracle} (hS:Sound P call) {lim ro:Nat} {args:List IV} {H H':Hp} {out:Out} (h:pKind call lim ro args H=some (out,H')):Says P lim ro 470 args H out H':=by
 unfold pKind at h
 split at h
 ·rename_i s
  rw [Option.map_eq_some_iff] at h
  obtain⟨t,hk,e⟩:=h
  simp only [Prod.mk.injEq] at e
  obtain⟨rfl,rfl⟩:=e
  obtain⟨x1,a1,b1,hk⟩:=kindGo_cons hk
  obtain⟨x2,a2,b2,hk⟩:=kindGo_cons hk
  obtain⟨x3,a3,b3,hk⟩:=kindGo_cons hk
  obtain⟨x4,a4,b4,hk⟩:=kindGo_cons hk
  obtain⟨x5,a5,b5,hk⟩:=kindGo_cons hk
  obtain⟨x6,a6,b6,hk⟩:=kindGo_cons hk
  have ht:t=[]:=by
   have:some ([]:List UInt8)=some t:=hk
   exact (Option.some.inj this).symm
  subst ht
  intro B W0 L F r w args' hw hL hlim hro ha
  obtain⟨x',rfl,hx⟩:=vs_one ha
  obtain⟨t,rfl,rfl⟩:=rel_str hx
  have c0:Callable P 500:=callable_of (fn:=fnOf 500) (by kernel_rfl) (by kernel_rfl)
  have c1:Callable P 501:=callable_of (fn:=fnOf 501) (by kernel_rfl) (by kernel_rfl)
  refine .inl ⟨run_callFunc (callable_of (fn:=fnOf 470) (by kernel_rfl) (by kernel_rfl)) _,(Tryz.kind_walk t w ⟨x1,missed_of hS b1 hw⟩ ⟨x2,missed_of hS b2 hw⟩ ⟨x3,missed_of hS b3 hw⟩ ⟨x4,missed_of hS b4 hw⟩ ⟨x5,missed_of hS b5 hw⟩ ⟨x6,missed_of hS b6 hw⟩
   (made_of hS c0 a1 hw (vs3 _ _ _)) (made_of hS c1 a2 hw (vs2 _ _)) (made_of hS c1 a3 hw (vs2 _ _)) (made_of hS c1 a4 hw (vs2 _ _)) (made_of hS c0 a5 hw (vs3 _ _ _)) (made_of hS c0 a6 hw (vs3 _ _ _))).mono ?_⟩
  rintro e w' ⟨rfl,hb⟩
  exact⟨F,r,Ext.refl _ _ _ _,hw.later (below_later hb),_,rfl,.d (.str ⟨#[]⟩)⟩
 ·cases h
end Go.Tg
namespace Go.Tg
variable [Globs]
theorem grow_pCatch:∀ call cs,Grows call cs→∀ lim ro args H r,pCatch call lim ro args H=some r→Ev λm=>pCatch (cs m) lim ro args H=some r:=by
 intro call cs hg lim ro args H r h
 unfold pCatch at h
 split at h
 ·rename_i g fst cap
  rw [Option.bind_eq_some_iff] at h
  obtain⟨q,h1,h2⟩:=h
  refine (hg _ _ _ _ _ _ h1).imp λm hm=>?_
  unfold pCatch
  simp only
  rw [hm,Option.bind_some]
  exact h2
 ·cases h
theorem grow_kindGo {call:Oracle} {cs:Nat→Oracle} (hg:Grows call cs) (s:List UInt8):∀ ps t,kindGo call s ps=some t→Ev λm=>kindGo (cs m) s ps=some t
 | [],t,h=>Ev.all λ_=>h
 | (g,xs)::ps,t,h=>by
  unfold kindGo at h
  split at h
  ·rename_i b m k ty h1
   split at h
   ·rename_i h2
    refine ((hg _ _ _ _ _ _ h1).and (hg _ _ _ _ _ _ h2)).both (grow_kindGo hg s ps t h) λn hn h3=>?_
    unfold kindGo
    rw [hn.1]
    simp only
    rw [hn.2]
    exact h3
   ·cases h
  ·cases h
theorem grow_pKind:∀ call cs,Grows call cs→∀ lim ro args H r,pKind call lim ro args H=some r→Ev λm=>pKind (cs m) lim ro args H=some r:=by
 intro call cs hg lim ro args H r h
 unfold pKind at h
 split at h
 ·rw [Option.map_eq_some_iff] at h
  obtain⟨t,h1,h2⟩:=h
  refine (grow_kindGo hg _ _ _ h1).imp λm hm=>?_
  unfold pKind
  simp only
  rw [hm,Option.map_some,h2]
 ·cases h
theorem prims_cases {f:Nat} {g:Prim} (h:prims f=some g):(f=392∧g=pIndexByte)∨(f=463∧g=pCountByte)∨(f=438∧g=pSame)∨(f=386∧g=pRepeat)∨(f=45∧g=pClone)∨(f=444∧g=pCloneG 110 2)∨(f=356∧g=pJoin)∨(f=169∧g=pCatch)∨(f=470∧g=pKind):=by
 unfold prims at h
 split at h <;> first | (cases h;simp) | cases h
theorem mode169:tab.mode 169≠.pure:=λh=>by
 have h2:(match tab.mode 169 with | .pure=>true | _=>false)=false:=by kernel_rfl
 rw [h] at h2;cases h2
theorem mode444:tab.mode 444≠.pure:=λh=>by
 have h2:(match tab.mode 444 with | .pure=>true | _=>false)=false:=by kernel_rfl
 rw [h] at h2;cases h2
theorem same_pIndexByte {c:Oracle} {lim ro:Nat} {args:List IV} {H H':Hp} {out:Out} (h:pIndexByte c lim ro args H=some (out,H')):H'=H:=by
 unfold pIndexByte at h;split at h <;> cases h;rfl
theorem same_pCountByte {c:Oracle} {lim ro:Nat} {args:List IV} {H H':Hp} {out:Out} (h:pCountByte c lim ro args H=some (out,H')):H'=H:=by
 unfold pCountByte at h;split at h <;> cases h;rfl
theorem same_pSame {c:Oracle} {lim ro:Nat} {args:List IV} {H H':Hp} {out:Out} (h:pSame c lim ro args H=some (out,H')):H'=H:=by
 unfold pSame at h;split at h <;> cases h;rfl
theorem same_pRepeat {c:Oracle} {lim ro:Nat} {args:List IV} {H H':Hp} {out:Out} (h:pRepeat c lim ro args H=some (out,H')):H'=H:=by
 unfold pRepeat at h;split at h
 ·split at h <;> cases h;rfl
 ·cases h
theorem same_pClone {c:Oracle} {lim ro:Nat} {args:List IV} {H H':Hp} {out:Out} (h:pClone c lim ro args H=some (out,H')):H'=H:=by
 unfold pClone at h;split at h
 ·split at h <;> cases h;rfl
 ·cases h
theorem same_pJoin {c:Oracle} {lim ro:Nat} {args:List IV} {H H':Hp} {out:Out} (h:pJoin c lim ro args H=some (out,H')):H'=H:=by
 unfold pJoin at h;split at h
 ·rw [Option.bind_eq_some_iff] at h
  obtain⟨l,_,h⟩:=h
  split at h <;> cases h;rfl
 ·cases h
theorem same_pKind {c:Oracle} {lim ro:Nat} {args:List IV} {H H':Hp} {out:Out} (h:pKind c lim ro args H=some (out,H')):H'=H:=by
 unfold pKind at h;split at h
 ·rw [Option.map_eq_some_iff] at h
  obtain⟨t,_,h⟩:=h
  cases h;rfl
 ·cases h
theorem sysOK:SysOK sys where
 mix:=sys_mix
 name:=sys_name
 prim:=by
  intro f g hf call hS lim ro args H out H' h
  rcases prims_cases hf with ⟨rfl,rfl⟩ | ⟨rfl,rfl⟩ | ⟨rfl,rfl⟩ | ⟨rfl,rfl⟩ | ⟨rfl,rfl⟩ | ⟨rfl,rfl⟩ | ⟨rfl,rfl⟩ | ⟨rfl,rfl⟩ | ⟨rfl,rfl⟩
  ·exact says_indexByte ext392 h
  ·exact says_countByte ext463 h
  ·exact says_same ext438 h
  ·exact says_repeat h
  ·exact says_pClone h
  ·exact says_pCloneG h
  ·exact says_join h
  ·exact says_pCatch hS h
  ·exact says_pKind hS h
 grow:=by
  intro f g hf
  rcases prims_cases hf with ⟨rfl,rfl⟩ | ⟨rfl,rfl⟩ | ⟨rfl,rfl⟩ | ⟨rfl,rfl⟩ | ⟨rfl,rfl⟩ | ⟨rfl,rfl⟩ | ⟨rfl,rfl⟩ | ⟨rfl,rfl⟩ | ⟨rfl,rfl⟩
  ·exact grow_const λ_ _ _ _ _ _=>rfl
  ·exact grow_const λ_ _ _ _ _ _=>rfl
  ·exact grow_const λ_ _ _ _ _ _=>rfl
  ·exact grow_const λ_ _ _ _ _ _=>rfl
  ·exact grow_const λ_ _ _ _ _ _=>rfl
  ·exact grow_const λ_ _ _ _ _ _=>rfl
  ·exact grow_const λ_ _ _ _ _ _=>rfl
  ·exact grow_pCatch
  ·exact grow_pKind
 pure:=by
  intro f g hf hm call _ lim ro args H out H' h
  rcases prims_cases hf with ⟨rfl,rfl⟩ | ⟨rfl,rfl⟩ | ⟨rfl,rfl⟩ | ⟨rfl,rfl⟩ | ⟨rfl,rfl⟩ | ⟨rfl,rfl⟩ | ⟨rfl,rfl⟩ | ⟨rfl,rfl⟩ | ⟨rfl,rfl⟩
  ·exact same_pIndexByte h
  ·exact same_pCountByte h
  ·exact same_pSame h
  ·exact same_pRepeat h
  ·exact same_pClone h
  ·exact absurd hm mode444
  ·exact same_pJoin h
  ·exact absurd hm mode169
  ·exact same_pKind h
end Go.Tg
