/- Quoted texts: collect. -/
import Derived.Test.YtnkobejhnphmhaaGreatDoorBd
set_option linter.all false
namespace Go.Tg
variable [Globs] {lim ro:Nat} {H:Hp}
def qLen:List UInt8→Nat
 | []=>0
 | c::r=>if c=34 then 1 else if c=92 then (match r with | []=>1 | _::r'=>2+qLen r') else 1+qLen r
structure CI (H G:Hp) (b:Nat) (s:List UInt8) (at_:Nat) (t1 t2:List UInt8):Prop where
 len:H.length+2≤G.length
 cur:G[b]? = some (curB s at_)
 kept:∀ i,i<H.length→i≠b→G[i]? = H[i]?
 blds:∃ own1 own2,Bld G H.length own1 t1∧Bld G (H.length+1) own2 t2∧(∀ j,own1=some j→H.length+2≤j)∧(∀ j,own2=some j→H.length+2≤j)∧(∀ j,own1=some j→own2≠some j)
theorem Bld.keep {G G':Hp} {b:Nat} {own:Option Nat} {t:List UInt8} (h:Bld G b own t) (h1:G'[b]? = G[b]?) (h2:∀ j,own=some j→G'[j]? = G[j]?):Bld G' b own t:=by
 obtain⟨⟨x,hx,hH⟩,ho⟩:=h
 refine⟨⟨x,hx,by rw [h1];exact hH⟩,?_⟩
 cases own with
 | none=>exact ho
 | some j=>exact⟨ho.1,ho.2.1,by rw [h2 j rfl];exact ho.2.2⟩
theorem CI.move {G:Hp} {b at_ n:Nat} {s t1 t2:List UInt8} (h:CI H G b s at_ t1 t2) (hb:b<H.length):CI H (G.set b (curB s n)) b s n t1 t2:=by
 obtain⟨hl,hc,hk,o1,o2,h1,h2,h3,h4,h5⟩:=h
 refine⟨by simpa using hl,set_get hc,λi hi hib=>by rw [List.getElem?_set_ne (Ne.symm hib)];exact hk i hi hib,o1,o2,?_,?_,h3,h4,h5⟩
 ·exact h1.keep (List.getElem?_set_ne (by omega)) (λj hj=>List.getElem?_set_ne (by have:=h3 j hj;omega))
 ·exact h2.keep (List.getElem?_set_ne (by omega)) (λj hj=>List.getElem?_set_ne (by have:=h4 j hj;omega))
theorem CI.first {G G':Hp} {b at_:Nat} {s t2 t1':List UInt8} {o1 o2 o1':Option Nat} (hl:H.length+2≤G.length) (hc:G[b]? = some (curB s at_)) (hk:∀ i,i<H.length→i≠b→G[i]? = H[i]?) (h2:Bld G (H.length+1) o2 t2) (h3:∀ j,o1=some j→H.length+2≤j) (h4:∀ j,o2=some j→H.length+2≤j) (h5:∀ j,o1=some j→o2≠some j) (hb:b<H.length)
  (hB:Bld G' H.length o1' t1') (hK:KeptBut H.length o1 G G') (ho:o1'=o1∨∃ j,o1'=some j∧G.length≤j∧j<G'.length):CI H G' b s at_ t1' t2:=by
 have hkk:∀ i,i<G.length→i≠H.length→o1≠some i→G'[i]? = G[i]?:=hK.2
 have hn:∀ i,i<H.length+2→o1≠some i:=λi hi he=>by have:=h3 i he;omega
 have h2l:∀ j,o2=some j→j<G.length:=by
  intro j hj;subst hj;exact get_lt h2.2.2.2
 refine⟨Nat.le_trans hl hK.1,?_,?_,o1',o2,hB,?_,?_,h4,?_⟩
 ·rw [hkk b (by omega) (by omega) (hn b (by omega))];exact hc
 ·intro i hi hib;rw [hkk i (by omega) (by omega) (hn i (by omega))];exact hk i hi hib
 ·refine h2.keep (hkk _ (by omega) (by omega) (hn _ (by omega))) (λj hj=>hkk j (h2l j hj) (by have:=h4 j hj;omega) (λhe=>h5 j he hj))
 ·intro j hj
  rcases ho with h | ⟨k,h,h',_⟩
  ·exact h3 j (by rw [← h];exact hj)
  ·rw [h] at hj;cases hj;omega
 ·intro j hj he
  rcases ho with h | ⟨k,h,h',_⟩
  ·exact h5 j (by rw [← h];exact hj) he
  ·rw [h] at hj;cases hj;have:=h2l _ he;omega
theorem CI.second {G G':Hp} {b at_:Nat} {s t1 t2':List UInt8} {o1 o2 o2':Option Nat} (hl:H.length+2≤G.length) (hc:G[b]? = some (curB s at_)) (hk:∀ i,i<H.length→i≠b→G[i]? = H[i]?) (h1:Bld G H.length o1 t1) (h3:∀ j,o1=some j→H.length+2≤j) (h4:∀ j,o2=some j→H.length+2≤j) (h5:∀ j,o1=some j→o2≠some j) (hb:b<H.length)
  (hB:Bld G' (H.length+1) o2' t2') (hK:KeptBut (H.length+1) o2 G G') (ho:o2'=o2∨∃ j,o2'=some j∧G.length≤j∧j<G'.length):CI H G' b s at_ t1 t2':=by
 have hkk:∀ i,i<G.length→i≠H.length+1→o2≠some i→G'[i]? = G[i]?:=hK.2
 have hn:∀ i,i<H.length+2→o2≠some i:=λi hi he=>by have:=h4 i he;omega
 have h1l:∀ j,o1=some j→j<G.length:=by
  intro j hj;subst hj;exact get_lt h1.2.2.2
 refine⟨Nat.le_trans hl hK.1,?_,?_,o1,o2',?_,hB,h3,?_,?_⟩
 ·rw [hkk b (by omega) (by omega) (hn b (by omega))];exact hc
 ·intro i hi hib;rw [hkk i (by omega) (by omega) (hn i (by omega))];exact hk i hi hib
 ·refine h1.keep (hkk _ (by omega) (by omega) (hn _ (by omega))) (λj hj=>hkk j (h1l j hj) (by have:=h3 j hj;omega) (h5 j hj))
 ·intro j hj
  rcases ho with h | ⟨k,h,h',_⟩
  ·exact h4 j (by rw [← h];exact hj)
  ·rw [h] at hj;cases hj;omega
 ·intro j hj he
  rcases ho with h | ⟨k,h,h',_⟩
  ·exact h5 j hj (by rw [← h];exact he)
  ·rw [h] at he;cases he;have:=h1l _ hj;omega
section
variable {G:Hp} {b at_:Nat} {s t1 t2:List UInt8}
theorem CI.w1 (hS:SysOK sys) (h:CI H G b s at_ t1 t2) (hb:b<H.length) (hr:ro≤b) (u:List UInt8) (hsz:t1.length+u.length≤34359738368):∃ G',run sys H.length ro 358 [.ptr H.length 0,.d (.str u)] G=some (.val (.tup [.d (.int .i64 u.length),.noifc]),G')∧CI H G' b s at_ (t1++u) t2:=by
 obtain⟨hl,hc,hk,o1,o2,h1,h2,h3,h4,h5⟩:=h
 obtain⟨G',o1',hrun,hB,hK,ho⟩:=s358 (lim:=H.length) (ro:=ro) hS u hsz h1 (by omega) (Nat.le_refl _) (λj hj=>by have:=h3 j hj;omega)
 exact⟨G',hrun,CI.first hl hc hk h2 h3 h4 h5 hb hB hK ho⟩
theorem CI.w2 (hS:SysOK sys) (h:CI H G b s at_ t1 t2) (hb:b<H.length) (hr:ro≤b) (u:List UInt8) (hsz:t2.length+u.length≤34359738368):∃ G',run sys H.length ro 358 [.ptr (H.length+1) 0,.d (.str u)] G=some (.val (.tup [.d (.int .i64 u.length),.noifc]),G')∧CI H G' b s at_ t1 (t2++u):=by
 obtain⟨hl,hc,hk,o1,o2,h1,h2,h3,h4,h5⟩:=h
 obtain⟨G',o1',hrun,hB,hK,ho⟩:=s358 (lim:=H.length) (ro:=ro) hS u hsz h2 (by omega) (by omega) (λj hj=>by have:=h4 j hj;omega)
 exact⟨G',hrun,CI.second hl hc hk h1 h3 h4 h5 hb hB hK ho⟩
theorem CI.c1 (hS:SysOK sys) (h:CI H G b s at_ t1 t2) (hb:b<H.length) (hr:ro≤b) (u:UInt8) (hsz:t1.length<34359738368):∃ G',run sys H.length ro 359 [.ptr H.length 0,.d (.int .u8 (u.toNat:Nat))] G=some (.val .noifc,G')∧CI H G' b s at_ (t1++[u]) t2:=by
 obtain⟨hl,hc,hk,o1,o2,h1,h2,h3,h4,h5⟩:=h
 obtain⟨G',o1',hrun,hB,hK,ho⟩:=s359 (lim:=H.length) (ro:=ro) hS u hsz h1 (by omega) (Nat.le_refl _) (λj hj=>by have:=h3 j hj;omega)
 exact⟨G',hrun,CI.first hl hc hk h2 h3 h4 h5 hb hB hK ho⟩
theorem CI.c2 (hS:SysOK sys) (h:CI H G b s at_ t1 t2) (hb:b<H.length) (hr:ro≤b) (u:UInt8) (hsz:t2.length<34359738368):∃ G',run sys H.length ro 359 [.ptr (H.length+1) 0,.d (.int .u8 (u.toNat:Nat))] G=some (.val .noifc,G')∧CI H G' b s at_ t1 (t2++[u]):=by
 obtain⟨hl,hc,hk,o1,o2,h1,h2,h3,h4,h5⟩:=h
 obtain⟨G',o1',hrun,hB,hK,ho⟩:=s359 (lim:=H.length) (ro:=ro) hS u hsz h2 (by omega) (by omega) (λj hj=>by have:=h4 j hj;omega)
 exact⟨G',hrun,CI.second hl hc hk h1 h3 h4 h5 hb hB hK ho⟩
end
theorem qLen_le:∀ (r:List UInt8),qLen r≤r.length
 | []=>Nat.le_refl _
 | c::r=>by
  unfold qLen
  split
  ·simp
  ·split
   ·cases r with
    | nil=>simp
    | cons d r'=>have:=qLen_le r';simp only [List.length_cons];omega
   ·have:=qLen_le r;simp only [List.length_cons];omega
def isStop (x:UInt8):Bool:=!([34,92]:List UInt8).contains x
theorem qLen_other (c:UInt8) (r:List UInt8) (h1:c≠34) (h2:c≠92):qLen (c::r)=1+qLen r:=by
 conv=>lhs;unfold qLen
 rw [if_neg h1,if_neg h2]
theorem qLen_q (r:List UInt8):qLen (34::r)=1:=by
 conv=>lhs;unfold qLen
 rw [if_pos rfl]
theorem qLen_run (w r:List UInt8) (hw:∀ c ∈ w,isStop c=true):qLen (w++r)=w.length+qLen r:=by
 induction w with
 | nil=>simp
 | cons c w ih=>
  have hc:=hw c (by simp)
  have h1:c≠34:=by intro h;subst h;revert hc;decide
  have h2:c≠92:=by intro h;subst h;revert hc;decide
  rw [List.cons_append,qLen_other c _ h1 h2,ih (λd hd=>hw d (by simp [hd]))]
  simp only [List.length_cons];omega
theorem loop374 (hS:SysOK sys) {b:Nat} {s:List UInt8} (hb:b<H.length) (hr:ro≤b) (hs:s.length<2 ^ 34):∀ (k:Nat) (G:Hp) (at_:Nat) (t1 t2:List UInt8),s.length - at_<k→at_≤s.length→t1.length≤at_→t2.length≤at_→CI H G b s at_ t1 t2 →
  ∃ G' t1',loopW (stepL (C374 (run sys) lim ro H) [0,4,5] (cd 374 [1,1,1,1,0,0,0])) (E374 (.ptr b 0) (.ptr H.length 0) (.ptr (H.length+1) 0),G)=some (.exi 0,E374 (.ptr b 0) (.ptr H.length 0) (.ptr (H.length+1) 0),G') ∧
   CI H G' b s (at_+qLen (s.drop at_)) t1' (t2++(s.drop at_).take (qLen (s.drop at_)))∧t1'.length≤t1.length+qLen (s.drop at_):=by
 intro k
 induction k with
 | zero=>intro G at_ t1 t2 hk;omega
 | succ k ih=>
  intro G at_ t1 t2 hk ha ht1 ht2 hC
  have hw:(s.drop at_).takeWhile isStop++(s.drop at_).dropWhile isStop=s.drop at_:=List.takeWhile_append_dropWhile
  have hstop:∀ x r',(s.drop at_).dropWhile isStop=x::r'→isStop x=false:=by
   intro x r' he
   have h2:(s.drop at_).dropWhile isStop≠[]:=by rw [he];simp
   have:=List.head_dropWhile_not isStop h2
   simpa [he] using this
  generalize hww:(s.drop at_).takeWhile isStop=w at hw
  generalize (s.drop at_).dropWhile isStop=r at hw hstop
  have hwl:=congrArg List.length hw
  simp only [List.length_append,List.length_drop] at hwl
  have hrun1:=s334 (lim:=H.length) (ro:=ro) hS [34,92] hC.cur hr ha hs
  have hC1:=hC.move (n:=at_+w.length) hb
  rw [show (λx=>!([34,92]:List UInt8).contains x)=isStop from rfl,hww] at hrun1
  obtain⟨G2,hrun2,hC2⟩:=hC1.w1 hS hb hr w (by omega)
  obtain⟨G3,hrun3,hC3⟩:=hC2.w2 hS hb hr w (by omega)
  have hrun4:=s373 (lim:=H.length) (ro:=ro) hS hC3.cur (by omega)
  have hq:=qLen_run w r (by rw [← hww];exact λc hc=>List.all_eq_true.1 (List.all_takeWhile (p:=isStop) (l:=s.drop at_)) c hc)
  have hdr:s.drop (at_+w.length)=r:=by rw [← List.drop_drop,← hw];simp
  rw [hdr] at hrun4
  rw [← hw,hq]
  cases r with
  | nil=>
   refine⟨G3,t1++w,loopW_done ?_,?_,by simp [qLen]⟩
   ·rw [B374_0]
    simp only [hrun1,liftR_val,hrun2,hrun3,hrun4,extract_tup]
    simp
   ·simpa [qLen] using hC3
  | cons x r=>
   have hx:=hstop x r rfl
   simp only [List.length_cons] at hwl
   have hlt:at_+w.length<s.length:=by omega
   have hget:s[at_+w.length]=x:=by
    have:=List.drop_eq_getElem_cons hlt
    rw [hdr] at this
    exact (List.cons.inj this).1.symm
   have hdr2:s.drop (at_+w.length+1)=r:=by
    have:=List.drop_eq_getElem_cons hlt
    rw [hdr] at this
    exact (List.cons.inj this).2.symm
   have hrun5:=s335 (lim:=H.length) (ro:=ro) hS hC3.cur hr hlt hs
   rw [hget] at hrun5
   have hC4:=hC3.move (n:=at_+w.length+1) hb
   obtain⟨G5,hrun6,hC5⟩:=hC4.c2 hS hb hr x (by simp;omega)
   by_cases h34:x=34
   ·subst h34
    refine⟨G5,t1++w,loopW_done ?_,?_,by rw [qLen_q,List.length_append];omega⟩
    ·rw [B374_0]
     simp only [hrun1,liftR_val,hrun2,hrun3,hrun4,extract_tup]
     have hrun6':run sys H.length ro 359 [.ptr (H.length+1) 0,.d (.int .u8 34)] (G3.set b (curB s (at_+w.length+1)))=some (.val .noifc,G5):=hrun6
     have hrun5':run sys H.length ro 335 [.ptr b 0] G3=some (.val (.d (.int .u8 34)),G3.set b (curB s (at_+w.length+1))):=hrun5
     simp [hrun5',hrun6']
    ·have e:(w++34::r).take (w.length+1)=w++[34]:=by rw [List.take_length_add_append];rfl
     rw [qLen_q,e];simpa [Nat.add_assoc] using hC5
   ·have h92:x=92:=by
     have h:=hx
     simp [isStop] at h
     exact h h34
    subst h92
    have hrun7:=s373 (lim:=H.length) (ro:=ro) hS hC5.cur (by omega)
    rw [hdr2] at hrun7
    cases r with
    | nil=>
     obtain⟨G6,hrun8,hC6⟩:=hC5.c1 hS hb hr 92 (by simp;omega)
     obtain⟨G',t1',hl,hC',hlen'⟩:=ih G6 (at_+w.length+1) _ _ (by omega) (by omega) (by simp;omega) (by simp;omega) hC6
     rw [hdr2] at hC' hlen'
     refine⟨G',t1',loopW_next (s':=(E374 (.ptr b 0) (.ptr H.length 0) (.ptr (H.length+1) 0),G6)) ?_ hl,?_,by simp [qLen] at hlen' ⊢;omega⟩
     ·rw [B374_0]
      have hrun6':run sys H.length ro 359 [.ptr (H.length+1) 0,.d (.int .u8 92)] (G3.set b (curB s (at_+w.length+1)))=some (.val .noifc,G5):=hrun6
      have hrun5':run sys H.length ro 335 [.ptr b 0] G3=some (.val (.d (.int .u8 92)),G3.set b (curB s (at_+w.length+1))):=hrun5
      have hrun8':run sys H.length ro 359 [.ptr H.length 0,.d (.int .u8 92)] G5=some (.val .noifc,G6):=hrun8
      simp only [hrun1,liftR_val,hrun2,hrun3,hrun4,extract_tup]
      simp [hrun5',hrun6',hrun7,hrun8']
     ·have e:(w++[92]).take (w.length+1)=w++[92]:=List.take_of_length_le (by simp)
      have eq1:qLen [92]=1:=by decide
      rw [eq1,e]
      simpa [qLen,Nat.add_assoc] using hC'
    | cons y r=>
     simp only [List.length_cons] at hwl
     have hlt2:at_+w.length+1<s.length:=by omega
     have hd:=List.drop_eq_getElem_cons hlt2
     rw [hdr2] at hd
     have hget2:s[at_+w.length+1]=y:=(List.cons.inj hd).1.symm
     have hdr3:s.drop (at_+w.length+1+1)=r:=(List.cons.inj hd).2.symm
     have hrun8:=s335 (lim:=H.length) (ro:=ro) hS hC5.cur hr hlt2 hs
     rw [hget2] at hrun8
     have hC6:=hC5.move (n:=at_+w.length+1+1) hb
     obtain⟨G7,hrun9,hC7⟩:=hC6.c1 hS hb hr y (by simp;omega)
     obtain⟨G8,hrun10,hC8⟩:=hC7.c2 hS hb hr y (by simp;omega)
     obtain⟨G',t1',hl,hC',hlen'⟩:=ih G8 (at_+w.length+1+1) _ _ (by omega) (by omega) (by simp;omega) (by simp;omega) hC8
     rw [hdr3] at hC' hlen'
     have eq0:qLen (92::y::r)=2+qLen r:=by
      conv=>lhs;unfold qLen
      rfl
     refine⟨G',t1',loopW_next (s':=(E374 (.ptr b 0) (.ptr H.length 0) (.ptr (H.length+1) 0),G8)) ?_ hl,?_,by rw [eq0];simp at hlen' ⊢;omega⟩
     ·rw [B374_0]
      have hrun6':run sys H.length ro 359 [.ptr (H.length+1) 0,.d (.int .u8 92)] (G3.set b (curB s (at_+w.length+1)))=some (.val .noifc,G5):=hrun6
      have hrun5':run sys H.length ro 335 [.ptr b 0] G3=some (.val (.d (.int .u8 92)),G3.set b (curB s (at_+w.length+1))):=hrun5
      simp only [hrun1,liftR_val,hrun2,hrun3,hrun4,extract_tup]
      simp [hrun5',hrun6',hrun7,hrun8,hrun9,hrun10]
     ·have eq1:qLen (92::y::r)=2+qLen r:=by
       conv=>lhs;unfold qLen
       rfl
      have e:(w++92::y::r).take (w.length+(2+qLen r))=w++92::y::r.take (qLen r):=by
       rw [List.take_length_add_append,Nat.add_comm 2];rfl
      rw [eq1,e]
      have e3:at_+w.length+1+1+qLen r=at_+(w.length+(2+qLen r)):=by omega
      rw [e3] at hC'
      simpa using hC'
theorem take_of_kept {G:Hp} {b:Nat} {v:Blk} (hl:H.length≤G.length) (hb:b<H.length) (hc:G[b]? = some v) (hk:∀ i,i<H.length→i≠b→G[i]? = H[i]?):G.take H.length=H.set b v:=by
 apply List.ext_getElem?
 intro i
 rcases Nat.lt_or_ge i H.length with h | h
 ·rw [List.getElem?_take_of_lt h]
  by_cases hib:i=b
  ·subst hib;rw [hc,List.getElem?_set_self hb]
  ·rw [hk i h hib,List.getElem?_set_ne (Ne.symm hib)]
 ·rw [List.getElem?_eq_none (by simp;omega),List.getElem?_eq_none (by simpa using h)]
theorem s374 (hS:SysOK sys) {b at_:Nat} {s r:List UInt8} (h:H[b]? = some (curB s at_)) (hr:ro≤b) (hd:s.drop at_=34::r) (hs:s.length<2 ^ 34) :
  ∃ t,run sys lim ro 374 [.ptr b 0] H=some (.val (.tup [.d (.str t),.d (.str (34::r.take (qLen r)))]),H.set b (curB s (at_+1+qLen r)))∧t.length≤qLen r:=by
 have hb:=get_lt h
 have ha:at_<s.length:=by
  rcases Nat.lt_or_ge at_ s.length with h' | h'
  ·exact h'
  ·rw [List.drop_eq_nil_of_le h'] at hd;cases hd
 have hd2:s.drop (at_+1)=r:=by
  have:=List.drop_eq_getElem_cons ha
  rw [hd] at this;exact (List.cons.inj this).2.symm
 have hql:=qLen_le r
 have hrl:r.length+at_+1=s.length:=by have:=congrArg List.length hd;simp at this;omega
 generalize hX:(H++[Blk.cells 601 [.nul,.vnil]])++[Blk.cells 601 [.nul,.vnil]]=X
 have hXl:X.length=H.length+2:=by rw [← hX];simp
 have hXb:X[b]? = some (curB s at_):=by rw [← hX];exact get_app _ (get_app _ h)
 have hC0:CI H X b s at_ [] []:=by
  refine⟨by omega,hXb,λi hi _=>?_,none,none,⟨⟨.nul,Or.inl rfl,?_⟩,rfl⟩,⟨⟨.nul,Or.inl rfl,?_⟩,rfl⟩,by simp,by simp,by simp⟩
  ·rw [← hX,List.append_assoc,List.getElem?_append_left hi]
  ·rw [← hX];simp [bldY]
  ·rw [← hX];simp [bldY]
 have hrun1:=s317 (lim:=H.length) (ro:=ro) hS 34 hXb hr (by omega) hs
 have hp:([34]:List UInt8).isPrefixOf (s.drop at_)=true:=by rw [hd];rfl
 rw [hp,if_pos rfl] at hrun1
 have hC1:=hC0.move (n:=at_+1) hb
 have hrun2:=s333 (lim:=H.length) (ro:=ro) hS hC1.cur
 obtain⟨G2,hrun3,hC2⟩:=hC1.c2 hS hb hr 34 (by simp)
 obtain⟨G3,t1,hrun4,hC3,ht1⟩:=loop374 (lim:=lim) hS hb hr hs (s.length - (at_+1)+1) G2 (at_+1) _ _ (by omega) (by omega) (by simp) (by simp) hC2
 rw [hd2] at hC3 ht1
 simp only [List.length_nil,Nat.zero_add] at ht1
 obtain⟨hl3,hc3,hk3,o1,o2,hb1,hb2,h3,h4,h5⟩:=hC3
 have ho2:∀ j,o2=some j→j<G3.length:=by
  intro j hj;subst hj;exact get_lt hb2.2.2.2
 obtain⟨G4,hrun5,hK4,hG4b,hG4l⟩:=s360 (lim:=H.length) (ro:=ro) hS hb1 (λj hj=>by have:=h3 j hj;omega) (by omega)
 have hb2':=hb2.keep (hK4.2 _ (by omega) (by omega) (λe=>by have:=h3 _ e;omega)) (λj hj=>hK4.2 j (ho2 j hj) (by have:=h4 j hj;omega) (λe=>h5 j e hj))
 obtain⟨G5,hrun6,hK5,hG5b,hG5l⟩:=s360 (lim:=H.length) (ro:=ro) hS hb2' (λj hj=>by have:=h4 j hj;omega) (by simp;omega)
 have hn1:∀ i,i<H.length+2→o1≠some i:=λi hi e=>by have:=h3 i e;omega
 have hn2:∀ i,i<H.length+2→o2≠some i:=λi hi e=>by have:=h4 i e;omega
 have hG5:∀ i,i<H.length→G5[i]? = G3[i]?:=λi hi=>by
  rw [hK5.2 i (by omega) (by omega) (hn2 i (by omega)),hK4.2 i (by omega) (by omega) (hn1 i (by omega))]
 have htake:G5.take H.length=H.set b (curB s (at_+1+qLen r)):=
  take_of_kept (by omega) hb (by rw [hG5 b hb];exact hc3) (λi hi hib=>by rw [hG5 i hi];exact hk3 i hi hib)
 refine⟨t1,runB hS rfl (λ_=>rfl) ?_,ht1⟩
 have hrun3':run sys H.length ro 359 [.ptr (H.length+1) 0,.d (.int .u8 34)] (X.set b (curB s (at_+1)))=some (.val .noifc,G2):=hrun3
 rw [R374,hX]
 simp only [List.length_append,List.length_cons,List.length_nil,Nat.zero_add,hrun1,liftR_val,hrun2,s173 hS,hrun3',hrun4,Option.bind_some,K374_0x0,hrun5,hrun6,fin_mut_dd,htake]
 rfl
theorem s486 (hS:SysOK sys) {b at_:Nat} {s r:List UInt8} (h:H[b]? = some (curB s at_)) (hr:ro≤b) (hd:s.drop at_=34::r) (hs:s.length<2 ^ 34) :
  ∃ t,run sys lim ro 486 [.ptr b 0,.d (.bool true)] H=some (.val (.d (.str t)),H.set b (curB s (at_+1+qLen r)))∧t.length≤qLen r:=by
 obtain⟨t,hrun,ht⟩:=s374 (lim:=H.length) (ro:=ro) hS h hr hd hs
 refine⟨t,runB hS rfl (λ_=>rfl) ?_,ht⟩
 rw [R486]
 simp only [hrun,liftR_val,extract_tup,List.getElem?_cons_zero,List.getElem?_cons_succ,Option.bind_some,br3_bool,if_true,fin_mut_d,set_take]
theorem s375 (hS:SysOK sys) (s:List UInt8) (hs:s.length<2 ^ 34):run sys lim ro 375 [.d (.str s)] H=some (.val (.d (.str (trimL bTab s))),H):=by
 refine runP hS rfl (by kernel_rfl) rfl ?_
 rw [R375]
 have hl:=endL_length bTab s
 have h1:=s254 (lim:=([]:Hp).length) (ro:=([]:Hp).length) (H:=[]) hS (endL bTab s)
 have hc:([]++[curB (endL bTab s) 0]:Hp)[0]? = some (curB (endL bTab s) 0):=rfl
 have h2:=s331 (lim:=([]:Hp).length) (ro:=([]:Hp).length) hS (j380 hS) hc (Nat.le_refl _) (Nat.zero_le _) (by omega)
 have hc2:(([]++[curB (endL bTab s) 0]:Hp).set 0 (curB (endL bTab s) (0+(((endL bTab s).drop 0).takeWhile bTab).length)))[0]? = some (curB (endL bTab s) (0+(((endL bTab s).drop 0).takeWhile bTab).length)):=rfl
 have hle:=takeWhile_len_le bTab (endL bTab s)
 have h3:=s418 (lim:=([]:Hp).length) (ro:=([]:Hp).length) hS hc2 (Nat.le_refl _) (by simpa using hle) (by omega)
 have h1':run sys ([]:Hp).length ([]:Hp).length 254 [.d (.str (endL bTab s))] []=some (.val (.ptr 0 0),[]++[curB (endL bTab s) 0]):=h1
 simp only [s417 hS s (by omega),liftR_val,h1',h2,h3,fin_pure_d]
 simp only [List.drop_zero,Nat.zero_add,drop_dropWhile,trimL]
end Go.Tg
namespace Go.Tg
variable [Globs] {lim ro:Nat} {H:Hp}
section
theorem loopW_find {σ τ α:Type} {step:σ→Option (σ ⊕ τ)} (s:List α) (q:α→Bool) (st:Nat→σ) (out:Nat→τ) (dn:τ)
  (h1:∀ i (h:i<s.length),q s[i]=false→step (st i)=some (.inl (st (i+1)))) (h2:∀ i (h:i<s.length),q s[i]=true→step (st i)=some (.inr (out i))) (h3:step (st s.length)=some (.inr dn)) :
  loopW step (st 0)=some (match s.findIdx? q with | some i=>out i | none=>dn):=by
 have key:∀ (l:List α) (i:Nat),i≤s.length→s.drop i=l→loopW step (st i)=some (match l.findIdx? q with | some j=>out (i+j) | none=>dn):=by
  intro l
  induction l with
  | nil=>
   intro i hi hd
   have:=List.drop_eq_nil_iff.1 hd
   have e:i=s.length:=by omega
   subst e
   exact loopW_done h3
  | cons x l ih=>
   intro i hi hd
   have hlt:i<s.length:=by
    rcases Nat.lt_or_ge i s.length with h | h
    ·exact h
    ·rw [List.drop_eq_nil_of_le h] at hd;cases hd
   have hdc:=List.drop_eq_getElem_cons hlt
   rw [hd] at hdc
   have hx:s[i]=x:=(List.cons.inj hdc).1.symm
   have hl:s.drop (i+1)=l:=(List.cons.inj hdc).2.symm
   rw [List.findIdx?_cons]
   cases hq:q x with
   | true=>exact loopW_done (h2 i hlt (by rw [hx];exact hq))
   | false=>
    rw [loopW_next (h1 i hlt (by rw [hx];exact hq)) (ih (i+1) (by omega) hl)]
    simp only [Bool.false_eq_true,if_false]
    cases l.findIdx? q with
    | none=>rfl
    | some j=>simp only [Option.map_some];rw [show i+1+j=i+(j+1) by omega]
 have:=key s 0 (Nat.zero_le _) rfl
 rw [this]
 cases s.findIdx? q with
 | none=>rfl
 | some j=>simp
theorem findIdx_contains {α β:Type} [BEq α] [LawfulBEq α] (s:List α) (b:α) (x y:β):(match s.findIdx? (· == b) with | some _=>x | none=>y)=if s.contains b=true then x else y:=by
 cases h:s.findIdx? (· == b) with
 | none=>
  have h2:=List.findIdx?_eq_none_iff.1 h
  rw [if_neg]
  intro hc
  have:=h2 b (by simpa using hc)
  simp at this
 | some i=>
  obtain⟨hi,h2,_⟩:=List.findIdx?_eq_some_iff_getElem.1 h
  rw [if_pos]
  have e:s[i]=b:=by simpa using h2
  rw [← e];simp
theorem findIdx_all {α β:Type} (s:List α) (p:α→Bool) (x y:β):(match s.findIdx? (λa=>!p a) with | some _=>x | none=>y)=if s.all p=true then y else x:=by
 cases h:s.findIdx? (λa=>!p a) with
 | none=>
  have h2:=List.findIdx?_eq_none_iff.1 h
  rw [if_pos]
  rw [List.all_eq_true]
  intro a ha
  simpa using h2 a ha
 | some i=>
  obtain⟨hi,h2,_⟩:=List.findIdx?_eq_some_iff_getElem.1 h
  rw [if_neg]
  intro hc
  have:=List.all_eq_true.1 hc s[i] (List.getElem_mem hi)
  rw [this] at h2;simp at h2
theorem findIdx_take {α:Type} (s:List α) (p:α→Bool):(match s.findIdx? (λa=>!p a) with | some i=>i | none=>s.length)=(s.takeWhile p).length:=by
 induction s with
 | nil=>rfl
 | cons a s ih=>
  rw [List.findIdx?_cons,List.takeWhile_cons]
  cases hp:p a with
  | false=>simp
  | true=>
   simp only [Bool.not_true,Bool.false_eq_true,if_false,if_true,List.length_cons]
   rw [← ih]
   cases s.findIdx? (λa=>!p a) <;> simp
end
def OkE (sz:Nat) (e:D):Prop:=e.cells.length=sz∧(sz=1→e.cells=[e])∧(sz≠1→∃ cs,e=.agg cs)
theorem OkE.str (s:List UInt8):OkE 1 (.str s):=⟨rfl,λ_=>rfl,λh=>absurd rfl h⟩
theorem OkE.int (k:IntKind) (n:Int):OkE 1 (.int k n):=⟨rfl,λ_=>rfl,λh=>absurd rfl h⟩
theorem OkE.agg {sz:Nat} {cs:List D} (h:cs.length=sz) (h1:sz≠1):OkE sz (.agg cs):=⟨h,λh=>absurd h h1,λ_=>⟨cs,rfl⟩⟩
def cellsOf (els:List D):List IV:=(els.flatMap D.cells).map .d
theorem cellsOf_append (a b:List D):cellsOf (a++b)=cellsOf a++cellsOf b:=by simp [cellsOf]
theorem cellsOf_one (e:D):cellsOf [e]=e.cells.map .d:=by simp [cellsOf]
theorem cellsOf_length {sz:Nat} {els:List D} (h:∀ e ∈ els,OkE sz e):(cellsOf els).length=els.length*sz:=by
 induction els with
 | nil=>simp [cellsOf]
 | cons e els ih=>
  have h1:=(h e (by simp)).1
  have h2:=ih (λx hx=>h x (by simp [hx]))
  rw [show e::els=[e]++els from rfl,cellsOf_append,List.length_append,h2,cellsOf_one]
  simp [h1];rw [Nat.succ_mul];omega
def ownB:IV→Option Nat
 | .vec b _ _ _=>some b
 | _=>none
def Acc (ty sz ro:Nat) (G:Hp) (v:IV) (els:List D):Prop:=
 (∀ e ∈ els,OkE sz e)∧((v=.vnil∧els=[])∨∃ b,ro≤b∧v=.vec b sz 0 els.length∧G[b]? = some (.cells (2*ty) (cellsOf els)))
theorem Acc.nil (ty sz ro:Nat) (G:Hp):Acc ty sz ro G .vnil []:=⟨λ_ h=>by simp at h,.inl ⟨rfl,rfl⟩⟩
theorem Acc.keep {ty sz ro:Nat} {G G':Hp} {v:IV} {els:List D} (h:Acc ty sz ro G v els) (hk:∀ b,ownB v=some b→G'[b]? = G[b]?):Acc ty sz ro G' v els:=by
 refine⟨h.1,?_⟩
 rcases h.2 with h' | ⟨b,h1,h2,h3⟩
 ·exact .inl h'
 ·exact .inr ⟨b,h1,h2,by rw [hk b (by rw [h2];rfl)];exact h3⟩
theorem Acc.own_lt {ty sz ro:Nat} {G:Hp} {v:IV} {els:List D} (h:Acc ty sz ro G v els) {b:Nat} (hb:ownB v=some b):b<G.length∧ro≤b:=by
 rcases h.2 with ⟨h',_⟩ | ⟨b',h1,h2,h3⟩
 ·rw [h'] at hb;cases hb
 ·rw [h2] at hb;cases hb;exact⟨get_lt h3,h1⟩
theorem Acc.len {ty sz ro:Nat} {G:Hp} {v:IV} {els:List D} (h:Acc ty sz ro G v els):lnV v=some (.d (.int .i64 (els.length:Nat))):=by
 rcases h.2 with ⟨h',h2⟩ | ⟨b',h1,h2,h3⟩
 ·rw [h',h2];rfl
 ·rw [h2];rfl
theorem Acc.at {ty sz ro:Nat} {G:Hp} {v:IV} {els:List D} (h:Acc ty sz ro G v els) {i:Nat} (hi:i<els.length) {k:IntKind}:∃ b,ixA sz v (.d (.int k (i:Nat)))=some (.ptr b (i*sz))∧G[b]? = some (.cells (2*ty) (cellsOf els)):=by
 rcases h.2 with ⟨h',h2⟩ | ⟨b',h1,h2,h3⟩
 ·rw [h2] at hi;simp at hi
 ·exact⟨b',by rw [h2,ixA_vec hi,Nat.zero_add],h3⟩
theorem cellsOf_drop {sz:Nat} {els:List D} (h:∀ e ∈ els,OkE sz e):∀ {i:Nat} (hi:i<els.length),(cellsOf els).drop (i*sz)=els[i].cells.map .d++cellsOf (els.drop (i+1)):=by
 induction els with
 | nil=>intro i hi;simp at hi
 | cons e els ih=>
  intro i hi
  have h1:=(h e (by simp)).1
  have hc:cellsOf (e::els)=e.cells.map IV.d++cellsOf els:=by rw [show e::els=[e]++els from rfl,cellsOf_append,cellsOf_one]
  rw [hc]
  cases i with
  | zero=>simp
  | succ i=>
   have hl:(e.cells.map IV.d).length=sz:=by simpa using h1
   rw [show (i+1)*sz=(e.cells.map IV.d).length+i*sz by rw [hl,Nat.succ_mul];omega,List.drop_length_add_append,ih (λx hx=>h x (by simp [hx])) (by simpa using hi)]
   simp
theorem Acc.push {ty sz ro:Nat} {G:Hp} {v:IV} {els:List D} (h:Acc ty sz ro G v els) {e:D} (he:OkE sz e) (hr:ro≤G.length) (hsz:els.length<34359738368) :
  ∃ v' G',app ty sz ro v (.vec G.length sz 0 1) (G++[.cells (2*ty) (e.cells.map .d)])=some (v',G')∧Acc ty sz ro G' v' (els++[e])∧G.length≤G'.length∧(∀ i,i<G.length→ownB v≠some i→G'[i]? = G[i]?)∧(∃ b,ownB v'=some b∧G.length≤b∧b<G'.length):=by
 have hn:(G++[Blk.cells (2*ty) (e.cells.map .d)])[G.length]? = some (.cells (2*ty) (e.cells.map .d)):=by simp
 have hlen:(e.cells.map IV.d).length=sz:=by simpa using he.1
 have hsrc:srcCells sz (.vec G.length sz 0 1) (G++[Blk.cells (2*ty) (e.cells.map .d)])=some (1,e.cells.map .d):=by
  unfold srcCells
  simp only [hn,if_true,Nat.zero_add,Nat.one_mul,hlen,Nat.le_refl,List.drop_zero]
  rw [← hlen,List.take_length]
 have hall:∀ x ∈ els++[e],OkE sz x:=by
  intro x hx
  rcases List.mem_append.1 hx with h' | h'
  ·exact h.1 x h'
  ·rw [List.mem_singleton.1 h'];exact he
 rcases h.2 with ⟨h1,h2⟩ | ⟨b,h1,h2,h3⟩
 ·subst h1;subst h2
  refine⟨.vec (G.length+1) sz 0 1,(G++[Blk.cells (2*ty) (e.cells.map .d)])++[Blk.cells (2*ty) (e.cells.map .d)],?_,⟨hall,.inr ⟨G.length+1,?_,rfl,?_⟩⟩,by simp,λi hi _=>?_,⟨_,rfl,by omega,by simp⟩⟩
  ·unfold app
   rw [hsrc]
   simp [sameBlk]
  ·omega
  ·simp [cellsOf_one]
  ·rw [List.append_assoc,List.getElem?_append_left hi]
 ·have hbl:=get_lt h3
  have h3':(G++[Blk.cells (2*ty) (e.cells.map .d)])[b]? = some (.cells (2*ty) (cellsOf els)):=get_app _ h3
  subst h2
  refine⟨.vec (G.length+1) sz 0 (els.length+1),(G++[Blk.cells (2*ty) (e.cells.map .d)]).set b .dead++[Blk.cells (2*ty) ((cellsOf els).take (els.length*sz)++e.cells.map .d)],?_,⟨hall,.inr ⟨G.length+1,?_,by simp,?_⟩⟩,by simp;omega,λi hi hni=>?_,⟨_,rfl,by omega,by simp⟩⟩
  ·unfold app
   rw [hsrc]
   have hs:sameBlk (.vec b sz 0 els.length) (.vec G.length sz 0 1)=false:=by simp [sameBlk];omega
   simp only [Option.bind_some,hs,Bool.false_eq_true,if_false,h3']
   rw [if_pos ⟨trivial,trivial,by rw [cellsOf_length h.1];omega,h1⟩,if_neg (by simp),if_pos (by omega)]
   simp
  ·omega
  ·have:=cellsOf_length h.1
   rw [List.getElem?_append_right (by simp)]
   simp [cellsOf_append,cellsOf_one,List.take_of_length_le (Nat.le_of_eq this)]
  ·have hne:b≠i:=λe=>hni (by rw [e];rfl)
   rw [List.getElem?_append_left (by simp;omega),List.getElem?_set_ne hne,List.getElem?_append_left hi]
theorem frzMany_d (g:IV→Hp→Option (D×Hp)) (hg:∀ x H,g (.d x) H=some (x,H)):∀ (l:List D) (H:Hp),frzMany g (l.map .d) H=some (l,H):=by
 intro l
 induction l with
 | nil=>intro H;rfl
 | cons x l ih=>intro H;rw [List.map_cons,frzMany,hg];simp only [Option.bind_some,ih];rfl
theorem group_cells {sz:Nat}:∀ (els:List D),(∀ e ∈ els,OkE sz e)→frz.group sz els.length (els.flatMap D.cells)=els:=by
 intro els
 induction els with
 | nil=>intro _;rfl
 | cons e els ih=>
  intro h
  obtain⟨h1,h2,h3⟩:=h e (by simp)
  have hrec:=ih (λx hx=>h x (by simp [hx]))
  change (if sz=1 then (match (e::els).flatMap D.cells with | x::_=>x | []=>D.agg []) else .agg (((e::els).flatMap D.cells).take sz))::frz.group sz els.length (((e::els).flatMap D.cells).drop sz)=_
  rw [List.flatMap_cons]
  have hd:(e.cells++els.flatMap D.cells).drop sz=els.flatMap D.cells:=List.drop_left' h1
  rw [hd,hrec]
  by_cases hsz:sz=1
  ·rw [if_pos hsz,h2 hsz];rfl
  ·rw [if_neg hsz]
   obtain⟨cs,rfl⟩:=h3 hsz
   rw [show (D.agg cs).cells=cs from rfl] at h1 ⊢
   rw [List.take_left' h1]
theorem Acc.frz {ty sz ro:Nat} {G:Hp} {v:IV} {els:List D} (h:Acc ty sz ro G v els) (n:Nat):∃ G',Tg.frz ro (n+2) v G=some (.lst els,G')∧G'.length=G.length∧(∀ i,ownB v≠some i→G'[i]? = G[i]?):=by
 rcases h.2 with ⟨h1,h2⟩ | ⟨b,h1,h2,h3⟩
 ·subst h1;subst h2;exact⟨G,rfl,rfl,λ_ _=>rfl⟩
 ·subst h2
  refine⟨G.set b (.frz (els.flatMap D.cells)),?_,by simp,λi hi=>List.getElem?_set_ne (λe=>hi (by rw [e];rfl))⟩
  have hl:=cellsOf_length h.1
  unfold Tg.frz
  simp only [h3]
  rw [if_pos ⟨by omega,h1⟩]
  unfold cellsOf
  rw [frzMany_d _ (λx H=>by cases n <;> rfl)]
  simp only [Option.bind_some,h3,List.drop_zero,group_cells els h.1]
theorem Acc.fin {ty sz ro:Nat} {G:Hp} {v:IV} {els:List D} (h:Acc ty sz ro G v els) (H:Hp):fin .pure H ro [v] G=some (.val (.d (.lst els)),H):=by
 obtain⟨G',hf',_⟩:=h.frz 4
 have hf:Tg.frz ro 6 v G=some (.lst els,G'):=hf'
 have hr:frzR ro v G=some (.d (.lst els),G'):=by
  rcases h.2 with ⟨h1,h2⟩ | ⟨b,h1,h2,h3⟩
  ·subst h1;exact congrArg (Option.map λr=>(IV.d r.1,r.2)) hf
  ·subst h2;exact congrArg (Option.map λr=>(IV.d r.1,r.2)) hf
 unfold Tg.fin
 simp only [frzRs,hr,Option.bind_some,Option.map_some,oneOf]
theorem bs_str (x:List UInt8) (G:Hp):iBuildSlice P 31 1 [(0,.d (.str x))] G=some (.vec G.length 1 0 1,G++[.cells 18 [.d (.str x)]]):=by
 have e:P.underlying 31=some (.slice 9):=by kernel_rfl
 have e2:sizeT P 9=some 1:=by kernel_rfl
 have e3:zeroT P 9=some (.d (.str [])):=by kernel_rfl
 unfold iBuildSlice;rw [e];simp only [e2,e3];rfl
theorem bs_str0 (G:Hp):iBuildSlice P 31 0 [] G=some (.vec G.length 1 0 0,G++[.cells 18 []]):=by
 have e:P.underlying 31=some (.slice 9):=by kernel_rfl
 have e2:sizeT P 9=some 1:=by kernel_rfl
 have e3:zeroT P 9=some (.d (.str [])):=by kernel_rfl
 unfold iBuildSlice;rw [e];simp only [e2,e3];rfl
theorem bs_u8 (x:Int) (G:Hp):iBuildSlice P 113 1 [(0,.d (.int .u8 x))] G=some (.vec G.length 1 0 1,G++[.cells 10 [.d (.int .u8 x)]]):=by
 have e:P.underlying 113=some (.slice 5):=by kernel_rfl
 have e2:sizeT P 5=some 1:=by kernel_rfl
 have e3:zeroT P 5=some (.d (.int .u8 0)):=by kernel_rfl
 unfold iBuildSlice;rw [e];simp only [e2,e3];rfl
theorem bs_u80 (G:Hp):iBuildSlice P 113 0 [] G=some (.vec G.length 1 0 0,G++[.cells 10 []]):=by
 have e:P.underlying 113=some (.slice 5):=by kernel_rfl
 have e2:sizeT P 5=some 1:=by kernel_rfl
 have e3:zeroT P 5=some (.d (.int .u8 0)):=by kernel_rfl
 unfold iBuildSlice;rw [e];simp only [e2,e3];rfl
theorem Acc.new (ty sz ro:Nat) (G:Hp) (hr:ro≤G.length):Acc ty sz ro (G++[.cells (2*ty) []]) (.vec G.length sz 0 0) []:=
 ⟨λ_ h=>by simp at h,.inr ⟨G.length,hr,rfl,by simp [cellsOf]⟩⟩
def bD (s:List UInt8):List D:=s.map λb=>.int .u8 (b.toNat:Int)
theorem bD_cells (s:List UInt8):cellsOf (bD s)=bv s:=by
 induction s with
 | nil=>rfl
 | cons b s ih=>
  rw [show bD (b::s)=[.int .u8 (b.toNat:Int)]++bD s from rfl,cellsOf_append,ih,cellsOf_one];rfl
theorem bD_append (s t:List UInt8):bD (s++t)=bD s++bD t:=by simp [bD]
theorem Acc.bstr {ro:Nat} {G:Hp} {v:IV} {s:List UInt8} (h:Acc 5 1 ro G v (bD s)):bstr v G=some (.d (.str s)):=by
 rcases h.2 with ⟨h1,h2⟩ | ⟨b,h1,h2,h3⟩
 ·subst h1
  have:s=[]:=by cases s with | nil=>rfl | cons _ _=>cases h2
  subst this;rfl
 ·subst h2
  rw [bD_cells] at h3
  have hl:(bD s).length=s.length:=by simp [bD]
  unfold Tg.bstr srcCells
  simp only [h3,if_true,bv_length,hl,Nat.mul_one,Nat.zero_add,Nat.le_refl,Option.bind_some,List.drop_zero]
  rw [← bv_length s,List.take_length,mapM_bv];rfl
end Go.Tg
