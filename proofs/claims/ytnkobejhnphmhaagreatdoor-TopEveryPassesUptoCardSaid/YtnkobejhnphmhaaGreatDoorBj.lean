/- Quoted texts and lists of pieces: what both texts cut. -/
import Derived.Test.YtnkobejhnphmhaaGreatDoorBh
import Derived.Test.YtnkobejhnphmhaaGreatDoorBf
import Derived.Test.YtnkobejhnphmhaaGreatDoorBi
set_option linter.all false
namespace Go.Tg
variable [Globs] {lim ro:Nat} {H:Hp}
def splitA (acc:List UInt8) (s:List UInt8):List (List UInt8):=
 match s with
 | []=>[acc]
 | c::r=>if c=34 then splitA (acc++34::r.take (qLen r)) (r.drop (qLen r)) else if c=44 then acc::splitA [] r else splitA (acc++[c]) r
termination_by s.length
decreasing_by all_goals (simp;try omega)
theorem splitA_nil (acc:List UInt8):splitA acc []=[acc]:=by rw [splitA]
theorem splitA_quote (acc r:List UInt8):splitA acc (34::r)=splitA (acc++34::r.take (qLen r)) (r.drop (qLen r)):=by rw [splitA];rfl
theorem splitA_comma (acc r:List UInt8):splitA acc (44::r)=acc::splitA [] r:=by rw [splitA];rfl
theorem splitA_other (acc r:List UInt8) (c:UInt8) (h1:c≠34) (h2:c≠44):splitA acc (c::r)=splitA (acc++[c]) r:=by rw [splitA,if_neg h1,if_neg h2]
theorem splitA_run (w r:List UInt8) (hw:∀ c ∈ w,c≠34∧c≠44):∀ acc,splitA acc (w++r)=splitA (acc++w) r:=by
 induction w with
 | nil=>intro acc;simp
 | cons c w ih=>
  intro acc
  obtain⟨h1,h2⟩:=hw c (by simp)
  rw [List.cons_append,splitA_other _ _ _ h1 h2,ih (λd hd=>hw d (by simp [hd]))]
  simp
theorem splitA_len (s:List UInt8):∀ (n:Nat) (acc:List UInt8),s.length≤n→(∀ p ∈ splitA acc s,p.length≤acc.length+s.length)∧(splitA acc s).length≤s.length+1:=by
 intro n
 induction n generalizing s with
 | zero=>
  intro acc h
  have:s=[]:=List.length_eq_zero_iff.1 (by omega)
  subst this
  rw [splitA_nil];simp
 | succ n ih=>
  intro acc h
  cases s with
  | nil=>rw [splitA_nil];simp
  | cons c r=>
   simp only [List.length_cons] at h ⊢
   by_cases h1:c=34
   ·subst h1
    rw [splitA_quote]
    have hq:=qLen_le r
    obtain⟨a,b⟩:=ih (r.drop (qLen r)) (acc++34::r.take (qLen r)) (by simp;omega)
    refine⟨λp hp=>?_,?_⟩
    ·have:=a p hp
     simp at this;omega
    ·simp at b ⊢;omega
   ·by_cases h2:c=44
    ·subst h2
     rw [splitA_comma]
     obtain⟨a,b⟩:=ih r [] (by omega)
     refine⟨λp hp=>?_,by simp;omega⟩
     rcases List.mem_cons.1 hp with h3 | h3
     ·rw [h3];omega
     ·have:=a p h3
      simp at this;omega
    ·rw [splitA_other _ _ _ h1 h2]
     obtain⟨a,b⟩:=ih r (acc++[c]) (by omega)
     refine⟨λp hp=>?_,by omega⟩
     have:=a p hp
     simp at this;omega
theorem bstr_one (c:UInt8) (G:Hp):bstr (.vec G.length 1 0 1) (G++[.cells 10 [.d (.int .u8 (c.toNat:Int))]])=some (.d (.str [c])):=by
 have h:Acc 5 1 0 (G++[.cells 10 [.d (.int .u8 (c.toNat:Int))]]) (.vec G.length 1 0 1) (bD [c]):=by
  refine⟨λe he=>?_,.inr ⟨G.length,Nat.zero_le _,rfl,by simp [cellsOf,bD,D.cells]⟩⟩
  simp [bD] at he;rw [he];exact OkE.int _ _
 exact h.bstr
theorem s79 (hS:SysOK sys) (r:List UInt8) (hs:r.length<2 ^ 34):∃ t,run sys lim ro 79 [.d (.str (34::r))] H=some (.val (.tup [.d (.str t),.d (.int .i64 ((1+qLen r:Nat):Int))]),H)∧t.length≤qLen r:=by
 generalize hss:(34::r:List UInt8)=s
 have hsl:s.length=r.length+1:=by rw [← hss];rfl
 have key:∀ k i (G:Hp) t q,i≤s.length→s.drop i=q→q.length<k→t.length<i→∃ G' t',(loopW (stepL (C79 (run sys) 0 0 []) [0,2,3,4,5] (cd 79 [1,1,0,0,0])) (E79 (.d (.str s)) (.d (.str [])) (.d (.int .i64 0)) (.d (.str t)) (.d (.int .i64 (i:Nat))),G) =
    some (.exi 0,E79 (.d (.str s)) (.d (.str [])) (.d (.int .i64 0)) (.d (.str t')) (.d (.int .i64 ((i+qLen q:Nat):Int))),G') ∨
   loopW (stepL (C79 (run sys) 0 0 []) [0,2,3,4,5] (cd 79 [1,1,0,0,0])) (E79 (.d (.str s)) (.d (.str [])) (.d (.int .i64 0)) (.d (.str t)) (.d (.int .i64 (i:Nat))),G) =
    some (.ret,E79 (.d (.str s)) (.d (.str t')) (.d (.int .i64 ((i+qLen q:Nat):Int))) (.d (.str t')) (.d (.int .i64 ((i+qLen q:Nat):Int))),G'))∧t'.length<i+qLen q:=by
  intro k
  induction k with
  | zero=>intro i G t q _ _ h;omega
  | succ k ih=>
   intro i G t q hi hd hk ht
   have hql:=congrArg List.length hd
   simp only [List.length_drop] at hql
   cases q with
   | nil=>
    have hi':i=s.length:=by simp at hql;omega
    subst hi'
    refine⟨G,t,.inl (loopW_done ?_),by simpa [qLen] using ht⟩
    have e1:decide ((s.length:Int)<(s.length:Int))=false:=by simp
    rw [B79_0]
    simp only [lnS_str,iBin_lss,Option.bind_some,br3_bool,e1,Bool.false_eq_true,if_false]
    simp [qLen]
   | cons c q=>
    have hlt:i<s.length:=by simp at hql;omega
    have hdc:=List.drop_eq_getElem_cons hlt
    rw [hd] at hdc
    have hc:s[i]=c:=(List.cons.inj hdc).1.symm
    have hd2:s.drop (i+1)=q:=(List.cons.inj hdc).2.symm
    have hql2:=congrArg List.length hd2
    simp only [List.length_drop] at hql2
    have e1:decide ((i:Int)<(s.length:Int))=true:=by simpa using hlt
    have e2:IntKind.i64.wrap ((i:Int)+1)=((i+1:Nat):Int):=by rw [wrap64 (by omega) (by omega)];simp
    have hx:ixS (.d (.str s)) (.d (.int .i64 (i:Nat)))=some (.d (.int .u8 (c.toNat:Int))):=by rw [ixS_nat hlt,hc]
    by_cases h34:c=34
    ·subst h34
     refine⟨G,t,.inr (loopW_done ?_),by rw [qLen_q];omega⟩
     rw [B79_0]
     simp only [lnS_str,iBin_lss,Option.bind_some,br3_bool,e1,if_true,hx,iBin_add,e2,iBin_eql]
     simp [qLen_q]
    ·have e34:decide ((c.toNat:Int)=34)=false:=by
      have:=eq_toNat c 34
      rw [show (((34:UInt8).toNat:Nat):Int)=34 from rfl] at this
      rw [this];simpa using h34
     by_cases h92:c=92
     ·subst h92
      cases q with
      | nil=>
       have hsa:iBin P .add 9 (.d (.str t)) (.d (.str [92]))=some (.d (.str (t++[92]))):=iBin_sadd 9 _ _ (by simp;omega)
       obtain⟨G',t',hl,hlen⟩:=ih (i+1) (G++[.cells 10 [.d (.int .u8 (((92:UInt8).toNat:Nat):Int))]]) (t++[92]) [] (by omega) hd2 (by simp at hk ⊢;omega) (by simp;omega)
       have eq1:qLen [92]=1:=by decide
       refine⟨G',t',?_,by rw [eq1];simp [qLen] at hlen;omega⟩
       have hstep:stepL (C79 (run sys) 0 0 []) [0,2,3,4,5] (cd 79 [1,1,0,0,0]) (E79 (.d (.str s)) (.d (.str [])) (.d (.int .i64 0)) (.d (.str t)) (.d (.int .i64 (i:Nat))),G) =
         some (.inl (E79 (.d (.str s)) (.d (.str [])) (.d (.int .i64 0)) (.d (.str (t++[92]))) (.d (.int .i64 ((i+1:Nat):Int))),G++[.cells 10 [.d (.int .u8 (((92:UInt8).toNat:Nat):Int))]])):=by
        have e3:decide (((i+1:Nat):Int)<(s.length:Int))=false:=by simp at hql2 ⊢;omega
        rw [B79_0]
        simp only [lnS_str,iBin_lss,Option.bind_some,br3_bool,e1,if_true,hx,iBin_add,e2,iBin_eql,e34,Bool.false_eq_true,if_false,g79_0,brN3_bool,show decide ((((92:UInt8).toNat:Nat):Int)=92)=true from rfl,g79_1,e3,bs_u8,bstr_one,hsa]
       rw [eq1]
       rw [show i+1+qLen []=i+1 from rfl] at hl
       rcases hl with hl | hl
       ·exact .inl (loopW_next hstep hl)
       ·exact .inr (loopW_next hstep hl)
      | cons d q=>
       have hlt2:i+1<s.length:=by simp at hql2;omega
       have hdc2:=List.drop_eq_getElem_cons hlt2
       rw [hd2] at hdc2
       have hc2:s[i+1]=d:=(List.cons.inj hdc2).1.symm
       have hd3:s.drop (i+1+1)=q:=(List.cons.inj hdc2).2.symm
       have hx2:ixS (.d (.str s)) (.d (.int .i64 ((i+1:Nat):Int)))=some (.d (.int .u8 (d.toNat:Int))):=by rw [ixS_nat hlt2,hc2]
       have hsa:iBin P .add 9 (.d (.str t)) (.d (.str [d]))=some (.d (.str (t++[d]))):=iBin_sadd 9 _ _ (by simp;omega)
       obtain⟨G',t',hl,hlen⟩:=ih (i+1+1) (G++[.cells 10 [.d (.int .u8 (d.toNat:Int))]]) (t++[d]) q (by omega) hd3 (by simp at hk;omega) (by simp;omega)
       have eq1:qLen (92::d::q)=2+qLen q:=by
        conv=>lhs;unfold qLen
        rfl
       have e4:i+(2+qLen q)=i+1+1+qLen q:=by omega
       refine⟨G',t',?_,by rw [eq1,e4];exact hlen⟩
       have hstep:stepL (C79 (run sys) 0 0 []) [0,2,3,4,5] (cd 79 [1,1,0,0,0]) (E79 (.d (.str s)) (.d (.str [])) (.d (.int .i64 0)) (.d (.str t)) (.d (.int .i64 (i:Nat))),G) =
         some (.inl (E79 (.d (.str s)) (.d (.str [])) (.d (.int .i64 0)) (.d (.str (t++[d]))) (.d (.int .i64 ((i+1+1:Nat):Int))),G++[.cells 10 [.d (.int .u8 (d.toNat:Int))]])):=by
        have e3:decide (((i+1:Nat):Int)<(s.length:Int))=true:=by simp;omega
        have e5:IntKind.i64.wrap (((i+1:Nat):Int)+1)=((i+1+1:Nat):Int):=by rw [wrap64 (by omega) (by omega)];simp
        rw [B79_0]
        simp only [lnS_str,iBin_lss,Option.bind_some,br3_bool,e1,if_true,hx,iBin_add,e2,iBin_eql,e34,Bool.false_eq_true,if_false,g79_0,brN3_bool,show decide ((((92:UInt8).toNat:Nat):Int)=92)=true from rfl,g79_1,e3,hx2,e5,bs_u8,bstr_one,hsa]
       rw [eq1,e4]
       rcases hl with hl | hl
       ·exact .inl (loopW_next hstep hl)
       ·exact .inr (loopW_next hstep hl)
     ·have e92:decide ((c.toNat:Int)=92)=false:=by
       have:=eq_toNat c 92
       rw [show (((92:UInt8).toNat:Nat):Int)=92 from rfl] at this
       rw [this];simpa using h92
      have hsa:iBin P .add 9 (.d (.str t)) (.d (.str [c]))=some (.d (.str (t++[c]))):=iBin_sadd 9 _ _ (by simp;omega)
      obtain⟨G',t',hl,hlen⟩:=ih (i+1) (G++[.cells 10 [.d (.int .u8 (c.toNat:Int))]]) (t++[c]) q (by omega) hd2 (by simp at hk;omega) (by simp;omega)
      have eq1:qLen (c::q)=1+qLen q:=qLen_other c q h34 h92
      have e4:i+(1+qLen q)=i+1+qLen q:=by omega
      refine⟨G',t',?_,by rw [eq1,e4];exact hlen⟩
      have hstep:stepL (C79 (run sys) 0 0 []) [0,2,3,4,5] (cd 79 [1,1,0,0,0]) (E79 (.d (.str s)) (.d (.str [])) (.d (.int .i64 0)) (.d (.str t)) (.d (.int .i64 (i:Nat))),G) =
        some (.inl (E79 (.d (.str s)) (.d (.str [])) (.d (.int .i64 0)) (.d (.str (t++[c]))) (.d (.int .i64 ((i+1:Nat):Int))),G++[.cells 10 [.d (.int .u8 (c.toNat:Int))]])):=by
       rw [B79_0]
       simp only [lnS_str,iBin_lss,Option.bind_some,br3_bool,e1,if_true,hx,iBin_add,e2,iBin_eql,e34,Bool.false_eq_true,if_false,g79_0,brN3_bool,e92,g79_2,bs_u8,bstr_one,hsa]
      rw [eq1,e4]
      rcases hl with hl | hl
      ·exact .inl (loopW_next hstep hl)
      ·exact .inr (loopW_next hstep hl)
 obtain⟨G',t',hl,hlen⟩:=key (r.length+1) 1 [] [] r (by omega) (by rw [← hss];rfl) (by omega) (by simp)
 refine⟨t',runP hS rfl (by kernel_rfl) rfl ?_,by omega⟩
 rw [R79]
 rw [show (E79 (.d (.str s)) (.d (.str [])) (.d (.int .i64 0)) (.d (.str [])) (.d (.int .i64 1)),([]:Hp))=(E79 (.d (.str s)) (.d (.str [])) (.d (.int .i64 0)) (.d (.str [])) (.d (.int .i64 ((1:Nat):Int))),([]:Hp)) from rfl]
 rcases hl with hl | hl
 ·rw [hl];simp only [Option.bind_some,K79_0x0,fin_pure_dd]
 ·rw [hl];simp only [Option.bind_some,K79_0r,fin_pure_dd]
theorem slS_range {s:List UInt8} {a b:Nat} {k k':IntKind} (h1:a≤b) (h2:b≤s.length):slS (.d (.str s)) (some (.d (.int k (a:Nat)))) (some (.d (.int k' (b:Nat))))=some (.d (.str ((s.take b).drop a))):=by
 simp [slS,bnd,h1,h2]
theorem take_drop_add (s:List UInt8) {a b:Nat} (n:Nat) (h:a≤b) (hb:b≤s.length):(s.take (b+n)).drop a=(s.take b).drop a++(s.drop b).take n:=by
 rw [List.take_add,List.drop_append_of_le_length (by simp;omega)]
def pieces (s:List UInt8):List (List UInt8):=(splitA [] s).map (trimL bTab)
def pD (l:List (List UInt8)):List D:=l.map λp=>.str (trimL bTab p)
theorem s57 (hS:SysOK sys) (s:List UInt8) (hs:s.length<2 ^ 34):run sys lim ro 57 [.d (.str s)] H=some (.val (.d (.lst ((pieces s).map .str))),H):=by
 refine runP hS rfl (by kernel_rfl) rfl ?_
 rw [R57,bs_str0]
 simp only [Option.bind_some]
 have key:∀ k i fr (G:Hp) v dn,s.length - i<k→fr≤i→i≤s.length→dn.length≤i→Acc 9 1 0 G v (pD dn)→∃ G' v' fr' dn',loopW (stepL (C57 (run sys) 0 0 []) [0,3,4,5] (cd 57 [1,1,0,1,0,0])) (E57 (.d (.str s)) v (.d (.int .i64 (fr:Nat))) (.d (.int .i64 (i:Nat))),G) =
   some (.exi 0,E57 (.d (.str s)) v' (.d (.int .i64 (fr':Nat))) (.d (.int .i64 (s.length:Nat))),G')∧Acc 9 1 0 G' v' (pD dn')∧fr'≤s.length∧dn'.length≤s.length∧dn'++[s.drop fr']=dn++splitA ((s.take i).drop fr) (s.drop i):=by
  intro k
  induction k with
  | zero=>intro i fr G v dn h;omega
  | succ k ih=>
   intro i fr G v dn hk hfr hi hdn hA
   rcases Nat.lt_or_ge i s.length with hlt | hge
   ·have hdc:=List.drop_eq_getElem_cons hlt
    have e1:decide ((i:Int)<(s.length:Int))=true:=by simpa using hlt
    have e2:IntKind.i64.wrap ((i:Int)+1)=((i+1:Nat):Int):=by rw [wrap64 (by omega) (by omega)];simp
    have hx:=ixS_nat (k:=.i64) hlt
    generalize hc:s[i]=c at hdc hx
    generalize hq:s.drop (i+1)=q at hdc
    have hql:=congrArg List.length hq
    simp only [List.length_drop] at hql
    rw [hdc]
    by_cases h34:c=34
    ·subst h34
     have hqq:=qLen_le q
     obtain⟨t,hrun,_⟩:=s79 (lim:=([]:Hp).length) (ro:=([]:Hp).length) (H:=G) hS q (by omega)
     have hn:i+(1+qLen q)≤s.length:=by omega
     obtain⟨G',v',fr',dn',hl,hA',hf',hdn',hres⟩:=ih (i+(1+qLen q)) fr G v dn (by omega) (by omega) hn (by omega) hA
     refine⟨G',v',fr',dn',loopW_next ?_ hl,hA',hf',hdn',?_⟩
     ·have e3:IntKind.i64.wrap ((i:Int)+((1+qLen q:Nat):Int))=((i+(1+qLen q):Nat):Int):=by rw [wrap64 (by omega) (by omega)];simp
      have hsl:=slS_drop (k:=.i64) (Nat.le_of_lt hlt)
      rw [hdc] at hsl
      rw [B57_0]
      simp only [lnS_str,iBin_lss,Option.bind_some,br3_bool,e1,if_true,hx,iBin_eql,show decide ((((34:UInt8).toNat:Nat):Int)=34)=true from rfl,hsl,hrun,liftR_val,extract_tup,List.getElem?_cons_zero,List.getElem?_cons_succ,iBin_add,e3]
     ·rw [hres,splitA_quote,take_drop_add s _ hfr (Nat.le_of_lt hlt),hdc]
      have h5:(34::q).take (1+qLen q)=34::q.take (qLen q):=by rw [Nat.add_comm];rfl
      have h6:s.drop (i+(1+qLen q))=q.drop (qLen q):=by rw [← hq,List.drop_drop];congr 1;omega
      rw [h5,h6]
    ·have e34:decide ((c.toNat:Int)=34)=false:=by
      have:=eq_toNat c 34
      rw [show (((34:UInt8).toNat:Nat):Int)=34 from rfl] at this
      rw [this];simpa using h34
     by_cases h44:c=44
     ·subst h44
      have hrun:=s82 (lim:=([]:Hp).length) (ro:=([]:Hp).length) (H:=G) hS ((s.take i).drop fr) (by simp;omega)
      obtain⟨v1,G1,hp,hA1, -⟩:=hA.push (e:=.str (trimL bTab ((s.take i).drop fr))) (OkE.str _) (Nat.zero_le _) (by simp only [pD,List.length_map];omega)
      have hA1':Acc 9 1 0 G1 v1 (pD (dn++[(s.take i).drop fr])):=by unfold pD at hA1 ⊢;rw [List.map_append];exact hA1
      obtain⟨G',v',fr',dn',hl,hA',hf',hdn',hres⟩:=ih (i+1) (i+1) G1 v1 _ (by omega) (Nat.le_refl _) (by omega) (by simp;omega) hA1'
      refine⟨G',v',fr',dn',loopW_next ?_ hl,hA',hf',hdn',?_⟩
      ·have hp':app 9 1 ([]:Hp).length v (.vec G.length 1 0 1) (G++[.cells 18 [.d (.str (trimL bTab ((s.take i).drop fr)))]])=some (v1,G1):=hp
       rw [B57_0]
       simp only [lnS_str,iBin_lss,Option.bind_some,br3_bool,e1,if_true,hx,iBin_eql,show decide ((((44:UInt8).toNat:Nat):Int)=34)=false from rfl,Bool.false_eq_true,if_false,show decide ((((44:UInt8).toNat:Nat):Int)=44)=true from rfl,slS_range hfr hi,hrun,liftR_val,bs_str,hp',iBin_add,e2]
      ·rw [hres,splitA_comma,hq]
       have:(s.take (i+1)).drop (i+1)=[]:=List.drop_eq_nil_of_le (by simp;omega)
       rw [this];simp
     ·have e44:decide ((c.toNat:Int)=44)=false:=by
       have:=eq_toNat c 44
       rw [show (((44:UInt8).toNat:Nat):Int)=44 from rfl] at this
       rw [this];simpa using h44
      obtain⟨G',v',fr',dn',hl,hA',hf',hdn',hres⟩:=ih (i+1) fr G v dn (by omega) (by omega) (by omega) (by omega) hA
      refine⟨G',v',fr',dn',loopW_next ?_ hl,hA',hf',hdn',?_⟩
      ·rw [B57_0]
       simp only [lnS_str,iBin_lss,Option.bind_some,br3_bool,e1,if_true,hx,iBin_eql,e34,e44,Bool.false_eq_true,if_false,iBin_add,e2]
      ·rw [hres,splitA_other _ _ _ h34 h44,hq,take_drop_add s 1 hfr (Nat.le_of_lt hlt),hdc]
       rfl
   ·have hi':i=s.length:=by omega
    subst hi'
    refine⟨G,v,fr,dn,loopW_done ?_,hA,hfr,by omega,?_⟩
    ·have e1:decide ((s.length:Int)<(s.length:Int))=false:=by simp
     rw [B57_0]
     simp only [lnS_str,iBin_lss,Option.bind_some,br3_bool,e1,Bool.false_eq_true,if_false]
    ·rw [List.take_length,List.drop_length,splitA_nil]
 obtain⟨G',v',fr',dn',hl,hA,hf,hdn,hres⟩:=key (s.length+1) 0 0 ([]++[.cells 18 []]) (.vec 0 1 0 0) [] (by omega) (Nat.le_refl _) (Nat.zero_le _) (Nat.zero_le _) (Acc.new 9 1 0 [] (Nat.zero_le _))
 rw [show (0:Int)=((0:Nat):Int) from rfl,show ([]:Hp).length=0 from rfl,hl]
 have hrun:=s82 (lim:=([]:Hp).length) (ro:=([]:Hp).length) (H:=G') hS (s.drop fr') (by simp;omega)
 obtain⟨v1,G1,hp,hA1, -⟩:=hA.push (e:=.str (trimL bTab (s.drop fr'))) (OkE.str _) (Nat.zero_le _) (by simp only [pD,List.length_map];omega)
 have hp':app 9 1 ([]:Hp).length v' (.vec G'.length 1 0 1) (G'++[.cells 18 [.d (.str (trimL bTab (s.drop fr')))]])=some (v1,G1):=hp
 have hend:pD dn'++[.str (trimL bTab (s.drop fr'))]=(pieces s).map .str:=by
  have:pD dn'++[.str (trimL bTab (s.drop fr'))]=pD (dn'++[s.drop fr']):=by unfold pD;rw [List.map_append];rfl
  rw [this,hres]
  simp [pD,pieces]
 rw [hend] at hA1
 simp only [Option.bind_some,K57_0x0,slS_drop hf,hrun,liftR_val,bs_str,hp']
 exact hA1.fin []
structure SI (G:Hp) (s:List UInt8) (at_:Nat) (t:List UInt8) (v:IV) (dn:List (List UInt8)):Prop where
 len:2≤G.length
 cur:G[1]? = some (curB s at_)
 bld:∃ own,Bld G 0 own t∧∀ j,own=some j→2≤j∧ownB v≠some j
 acc:Acc 9 1 0 G v (pD dn)
 vo:∀ j,ownB v=some j→2≤j
theorem SI.move {G:Hp} {s t:List UInt8} {at_ n:Nat} {v:IV} {dn:List (List UInt8)} (h:SI G s at_ t v dn):SI (G.set 1 (curB s n)) s n t v dn:=by
 obtain⟨h1,h2,⟨own,h3,h4⟩,h5,h6⟩:=h
 refine⟨by simpa using h1,set_get h2,⟨own,h3.keep (List.getElem?_set_ne (by decide)) (λj hj=>List.getElem?_set_ne (by have:=(h4 j hj).1;omega)),h4⟩,h5.keep (λb hb=>List.getElem?_set_ne (by have:=h6 b hb;omega)),h6⟩
theorem SI.write (hS:SysOK sys) {G:Hp} {s t:List UInt8} {at_:Nat} {v:IV} {dn:List (List UInt8)} (h:SI G s at_ t v dn) (u:List UInt8) (hsz:t.length+u.length≤34359738368) :
  ∃ G',run sys 0 0 358 [.ptr 0 0,.d (.str u)] G=some (.val (.tup [.d (.int .i64 u.length),.noifc]),G')∧SI G' s at_ (t++u) v dn:=by
 obtain⟨h1,h2,⟨own,h3,h4⟩,h5,h6⟩:=h
 obtain⟨G',own',hrun,hB,hK,ho⟩:=s358 (lim:=0) (ro:=0) hS u hsz h3 (Nat.le_refl _) (Nat.le_refl _) (λj _=>Nat.zero_le _)
 have hv:∀ j,ownB v=some j→j<G.length:=λj hj=>(h5.own_lt hj).1
 have hne:∀ j,ownB v=some j→own≠some j:=λj hj e=>(h4 j e).2 hj
 refine⟨G',hrun,Nat.le_trans h1 hK.1,?_,⟨own',hB,?_⟩,h5.keep (λb hb=>hK.2 b (hv b hb) (by have:=h6 b hb;omega) (hne b hb)),h6⟩
 ·rw [hK.2 1 (by omega) (by decide) (λe=>by have:=(h4 1 e).1;omega)];exact h2
 ·intro j hj
  rcases ho with e | ⟨k,e,h7,_⟩
  ·exact h4 j (by rw [← e];exact hj)
  ·rw [e] at hj;cases hj
   exact⟨by omega,λe2=>by have:=hv _ e2;omega⟩
theorem SI.flush (hS:SysOK sys) {G:Hp} {s t:List UInt8} {at_:Nat} {v:IV} {dn:List (List UInt8)} (h:SI G s at_ t v dn) (ht:t.length<2 ^ 34) (hdn:dn.length<2 ^ 34) :
  ∃ G1 G3 G4 v',run sys 0 0 360 [.ptr 0 0] G=some (.val (.d (.str t)),G1)∧app 9 1 0 v (.vec G1.length 1 0 1) (G1++[.cells 18 [.d (.str (trimL bTab t))]])=some (v',G3)∧run sys 0 0 376 [.ptr 0 0] G3=some (.val (.tup []),G4)∧SI G4 s at_ [] v' (dn++[t]):=by
 obtain⟨h1,h2,⟨own,h3,h4⟩,h5,h6⟩:=h
 obtain⟨G1,hrun,hK,hb,hl⟩:=s360 (lim:=0) (ro:=0) hS h3 (λj _=>Nat.zero_le _) ht
 have hv:∀ j,ownB v=some j→j<G.length:=λj hj=>(h5.own_lt hj).1
 have hne:∀ j,ownB v=some j→own≠some j:=λj hj e=>(h4 j e).2 hj
 have h5':Acc 9 1 0 G1 v (pD dn):=h5.keep (λb hb=>hK.2 b (hv b hb) (by have:=h6 b hb;omega) (hne b hb))
 have hc1:G1[1]? = some (curB s at_):=by rw [hK.2 1 (by omega) (by decide) (λe=>by have:=(h4 1 e).1;omega)];exact h2
 obtain⟨v',G3,hp,hA,hle,hkeep,b',hb',hb1,hb2⟩:=h5'.push (e:=.str (trimL bTab t)) (OkE.str _) (Nat.zero_le _) (by simp only [pD,List.length_map];omega)
 obtain⟨⟨x,hx,hG0⟩,_⟩:=h3
 have hG0':G3[0]? = some (.cells 601 [x,bldY own t]):=by
  rw [hkeep 0 (by omega) (λe=>by have:=h6 0 e;omega),hb];exact hG0
 have hr:=s376 (lim:=0) (ro:=0) hS hG0' (Nat.le_refl _) (Nat.le_refl _)
 have hA':Acc 9 1 0 G3 v' (pD (dn++[t])):=by unfold pD at hA ⊢;rw [List.map_append];exact hA
 refine⟨G1,G3,_,v',hrun,hp,hr,by simp;omega,?_,⟨none,⟨⟨.nul,.inl rfl,set_get hG0'⟩,rfl⟩,λj hj=>by cases hj⟩,hA'.keep (λb hb=>List.getElem?_set_ne (by rw [hb'] at hb;cases hb;omega)),λj hj=>by rw [hb'] at hj;cases hj;omega⟩
 rw [List.getElem?_set_ne (by decide),hkeep 1 (by omega) (λe=>by have:=h6 1 e;omega)]
 exact hc1
def isPlainC (x:UInt8):Bool:=!([34,44]:List UInt8).contains x
theorem s307 (hS:SysOK sys) (s:List UInt8) (hs:s.length<2 ^ 33):run sys lim ro 307 [.d (.str s)] H=some (.val (.d (.lst ((pieces s).map .str))),H):=by
 refine runP hS rfl (by kernel_rfl) rfl ?_
 rw [R307]
 have key:∀ k at_ (G:Hp) t v dn,s.length - at_<k→at_≤s.length→t.length≤at_→dn.length≤at_→SI G s at_ t v dn→∃ G' v' r,loopW (stepL (C307 (run sys) 0 0 []) [2,3,4,5] (cd 307 [1,1,1,1,0,0])) (E307 .vnil v (.ptr 0 0) (.ptr 1 0),G) =
   some (.ret,E307 v' r (.ptr 0 0) (.ptr 1 0),G')∧Acc 9 1 0 G' v' (pD (dn++splitA t (s.drop at_))):=by
  intro k
  induction k with
  | zero=>intro at_ G t v dn h;omega
  | succ k ih=>
   intro at_ G t v dn hk ha ht hdn hI
   have hw:(s.drop at_).takeWhile isPlainC++(s.drop at_).dropWhile isPlainC=s.drop at_:=List.takeWhile_append_dropWhile
   have hstop:∀ x r',(s.drop at_).dropWhile isPlainC=x::r'→isPlainC x=false:=by
    intro x r' he
    have h2:(s.drop at_).dropWhile isPlainC≠[]:=by rw [he];simp
    have:=List.head_dropWhile_not isPlainC h2
    simpa [he] using this
   have hplain:∀ c ∈ (s.drop at_).takeWhile isPlainC,c≠34∧c≠44:=by
    intro c hc
    have h:=List.all_eq_true.1 (List.all_takeWhile (p:=isPlainC) (l:=s.drop at_)) c hc
    constructor
    ·intro e;subst e;revert h;decide
    ·intro e;subst e;revert h;decide
   generalize hww:(s.drop at_).takeWhile isPlainC=w at hw hplain
   generalize (s.drop at_).dropWhile isPlainC=r at hw hstop
   have hwl:=congrArg List.length hw
   simp only [List.length_append,List.length_drop] at hwl
   have hrun1:=s334 (lim:=0) (ro:=0) hS [34,44] hI.cur (Nat.zero_le _) ha (by omega)
   rw [show (λx=>!([34,44]:List UInt8).contains x)=isPlainC from rfl,hww] at hrun1
   have hI1:=hI.move (n:=at_+w.length)
   obtain⟨G2,hrun2,hI2⟩:=hI1.write hS w (by omega)
   have hrun3:=s373 (lim:=0) (ro:=0) hS hI2.cur (by omega)
   have hdr:s.drop (at_+w.length)=r:=by rw [← List.drop_drop,← hw];simp
   rw [hdr] at hrun3
   have htl:(t++w).length≤at_+w.length:=by simp;omega
   rw [← hw,splitA_run w r hplain]
   cases r with
   | nil=>
    obtain⟨G3,G4,G5,v',hr1,hr2,hr3,hI3⟩:=hI2.flush hS (by omega) (by omega)
    have hrt:=s375 (lim:=0) (ro:=0) (H:=G3) hS (t++w) (by omega)
    refine⟨G5,v',v',loopW_done ?_,by rw [splitA_nil];exact hI3.acc⟩
    rw [B307_0]
    simp only [List.length_nil,hrun1,liftR_val,hrun2,hrun3,extract_tup,List.getElem?_cons_zero,List.getElem?_cons_succ,Option.bind_some,g307_0,brN3_bool,Bool.false_eq_true,if_false,g307_2,hr1,hrt,bs_str,hr2,hr3,iUn_not,Bool.not_false,br3_bool,if_true]
   | cons x r=>
    have hx:=hstop x r rfl
    simp only [List.length_cons] at hwl
    have hlt:at_+w.length<s.length:=by omega
    have hdc:=List.drop_eq_getElem_cons hlt
    rw [hdr] at hdc
    have hget:s[at_+w.length]=x:=(List.cons.inj hdc).1.symm
    have hdr2:s.drop (at_+w.length+1)=r:=(List.cons.inj hdc).2.symm
    by_cases h34:x=34
    ·subst h34
     have hq:=qLen_le r
     obtain⟨tk,hrun4,_⟩:=s374 (lim:=0) (ro:=0) hS hI2.cur (Nat.zero_le _) hdr (by omega)
     have hI3:=hI2.move (n:=at_+w.length+1+qLen r)
     obtain⟨G4,hrun5,hI4⟩:=hI3.write hS (34::r.take (qLen r)) (by simp;omega)
     obtain⟨G',v',r',hl,hA⟩:=ih (at_+w.length+1+qLen r) G4 _ v dn (by omega) (by omega) (by simp;omega) (by omega) hI4
     refine⟨G',v',r',loopW_next ?_ hl,?_⟩
     ·rw [B307_0]
      have hrun3':run sys 0 0 373 [.ptr 1 0,.d (.int .i64 0)] G2=some (.val (.tup [.d (.int .u8 34),.d (.bool true)]),G2):=hrun3
      simp only [List.length_nil,hrun1,liftR_val,hrun2,hrun3',extract_tup,List.getElem?_cons_zero,List.getElem?_cons_succ,Option.bind_some,g307_0,brN3_bool,if_true,g307_1,iBin_eql,decide_true,br3_bool,hrun4,hrun5]
     ·rw [splitA_quote]
      have h6:s.drop (at_+w.length+1+qLen r)=r.drop (qLen r):=by rw [← hdr2,List.drop_drop]
      rw [h6] at hA;exact hA
    ·have h44:x=44:=by
      have h:=hx
      simp [isPlainC] at h
      exact h h34
     subst h44
     obtain⟨G3,G4,G5,v1,hr1,hr2,hr3,hI3⟩:=hI2.flush hS (by omega) (by omega)
     have hrt:=s375 (lim:=0) (ro:=0) (H:=G3) hS (t++w) (by omega)
     have hrun6:=s335 (lim:=0) (ro:=0) hS hI3.cur (Nat.zero_le _) hlt (by omega)
     have hI4:=hI3.move (n:=at_+w.length+1)
     obtain⟨G',v',r',hl,hA⟩:=ih (at_+w.length+1) _ [] v1 _ (by omega) (by omega) (by simp) (by simp;omega) hI4
     refine⟨G',v',r',loopW_next ?_ hl,?_⟩
     ·rw [B307_0]
      have hrun3':run sys 0 0 373 [.ptr 1 0,.d (.int .i64 0)] G2=some (.val (.tup [.d (.int .u8 44),.d (.bool true)]),G2):=hrun3
      simp only [List.length_nil,hrun1,liftR_val,hrun2,hrun3',extract_tup,List.getElem?_cons_zero,List.getElem?_cons_succ,Option.bind_some,g307_0,brN3_bool,if_true,g307_1,iBin_eql,show decide ((44:Int)=34)=false from rfl,br3_bool,Bool.false_eq_true,if_false,hr1,hrt,bs_str,hr2,hr3,iUn_not,Bool.not_true,hrun6]
     ·rw [splitA_comma]
      rw [hdr2] at hA
      simpa using hA
 have h0:=s254 (lim:=([]:Hp).length) (ro:=([]:Hp).length) (H:=([]++[Blk.cells 601 [.nul,.vnil]]:Hp)) hS s
 have hI0:SI (([]++[Blk.cells 601 [.nul,.vnil]])++[curB s 0]:Hp) s 0 [] .vnil []:=
  ⟨by simp,rfl,⟨none,⟨⟨.nul,.inl rfl,rfl⟩,rfl⟩,λj hj=>by cases hj⟩,Acc.nil _ _ _ _,λj hj=>by cases hj⟩
 obtain⟨G',v',r',hl,hA⟩:=key (s.length+1) 0 _ [] .vnil [] (by omega) (Nat.zero_le _) (Nat.le_refl _) (Nat.le_refl _) hI0
 have h0':run sys ([]:Hp).length ([]:Hp).length 254 [.d (.str s)] ([]++[Blk.cells 601 [.nul,.vnil]])=some (.val (.ptr 1 0),(([]++[Blk.cells 601 [.nul,.vnil]])++[curB s 0]:Hp)):=h0
 have hA':Acc 9 1 0 G' v' ((pieces s).map .str):=by
  simp only [List.nil_append,List.drop_zero] at hA
  unfold pieces
  rw [List.map_map]
  exact hA
 simp only [h0',liftR_val]
 rw [show ([]:Hp).length=0 from rfl,hl]
 simp only [Option.bind_some,K307_0r]
 exact hA'.fin []
end Go.Tg
namespace Go.Tg
variable [Globs] {lim ro:Nat} {H:Hp}
theorem s440 (hS:SysOK sys) (s:List UInt8) (hs:s.length<2 ^ 34):run sys lim ro 440 [.d (.str s)] H=some (.val (.d (.str (endL bWhite s))),H):=by
 refine runP hS rfl (by kernel_rfl) rfl ?_
 rw [R440]
 simp only [lnS_str,Option.bind_some]
 have key:∀ n,n≤s.length→loopW (stepL (C440 (run sys) 0 0 []) [0,3] (cd 440 [1,1,0,0,0])) (E440 (.d (.str s)) (.d (.int .i64 (n:Nat))),[]) =
   some (.exi 0,E440 (.d (.str s)) (.d (.int .i64 ((endL bWhite (s.take n)).length:Nat))),[]):=by
  intro n
  induction n with
  | zero=>
   intro _
   refine loopW_done ?_
   rw [B440_0]
   simp [g440_0,g440_2,iBin_gtr,endL]
  | succ n ih=>
   intro hn
   have hlt:n<s.length:=by omega
   have e1:IntKind.i64.wrap (((n+1:Nat):Int) - 1)=(n:Int):=by rw [wrap64] <;> omega
   have e2:decide ((0:Int)<((n+1:Nat):Int))=true:=by (simp <;> omega)
   have e3:(s.take n++[s[n]]).length=n+1:=by rw [List.length_append,List.length_take,Nat.min_eq_left (by omega)];rfl
   rw [take_succ_get s n hlt,endL_concat]
   cases hp:bWhite s[n] with
   | true=>
    refine loopW_next (s':=(E440 (.d (.str s)) (.d (.int .i64 (n:Nat))),[])) ?_ (by simpa using ih (by omega))
    rw [B440_0]
    simp only [g440_0,iBin_gtr,Option.bind_some,brN3_bool,e2,if_true,g440_1,iBin_sub,e1,ixS_nat hlt,j332 hS _ _ _ _,liftR_val,br3_bool,hp]
   | false=>
    refine loopW_done ?_
    rw [B440_0]
    simp only [g440_0,iBin_gtr,Option.bind_some,brN3_bool,e2,if_true,g440_1,iBin_sub,e1,ixS_nat hlt,j332 hS _ _ _ _,liftR_val,br3_bool,hp,Bool.false_eq_true,if_false,e3]
 have:=key s.length (Nat.le_refl _)
 rw [List.take_length] at this
 rw [this]
 simp only [Option.bind_some,K440_0x0,slS_take (endL_length bWhite s),endL_prefix,fin_pure_d]
theorem s441 (hS:SysOK sys) (s:List UInt8) (hs:s.length<2 ^ 34):run sys lim ro 441 [.d (.str s)] H=some (.val (.d (.bool (tok s))),H):=by
 refine runP hS rfl (by kernel_rfl) rfl ?_
 rw [R441]
 simp only [g441_0,g441_1,g441_2,iBin_sneq,Option.bind_some,brN3_bool,s277 hS (j278 hS) s (by omega),liftR_val,fin_pure_d,tok]
 cases s <;> simp
theorem s401 (hS:SysOK sys) (s:List UInt8) (hs:s.length<2 ^ 34):run sys lim ro 401 [.d (.str s)] H=some (.val (.d (.str (s.map lowB))),H):=by
 refine runP hS rfl (by kernel_rfl) rfl ?_
 rw [R401]
 cases s with
 | nil=>
  have hl:loopW (stepL (C401 (run sys) 0 0 []) [3,8,9] (cd 401 [1,1,0,1,0,0])) (E401 (.d (.lst [])) (.d (.int .i64 ((0:Nat):Int))) (.d (.int .i64 0)),[])=some (.exi 0,E401 (.d (.lst [])) (.d (.int .i64 ((0:Nat):Int))) (.d (.int .i64 0)),[]):=by
   refine loopW_done ?_
   rw [B401_0]
   simp only [iBin_lss,Option.bind_some,br3_bool,show decide ((0:Int)<((0:Nat):Int))=false from rfl,Bool.false_eq_true,if_false]
  have e:sbyt 5 (.d (.str [])) []=some (.d (.lst []),[]):=rfl
  simp only [e,Option.bind_some,lnV_lst,List.length_nil,hl,K401_0x0]
  rfl
 | cons c s=>
  have e:sbyt 5 (.d (.str (c::s))) []=some (.vec 0 1 0 (s.length+1),[.cells 10 (bv (c::s))]):=rfl
  generalize hq:c::s=q at *
  have hql:q.length=s.length+1:=by rw [← hq];rfl
  rw [← hql] at e
  have key:=loopW_count (step:=stepL (C401 (run sys) 0 0 []) [3,8,9] (cd 401 [1,1,0,1,0,0])) (λi=>(E401 (.vec 0 1 0 q.length) (.d (.int .i64 (q.length:Nat))) (.d (.int .i64 (i:Nat))),([.cells 10 (bv ((q.take i).map lowB++q.drop i))]:Hp))) q.length
   (r:=(.exi 0,E401 (.vec 0 1 0 q.length) (.d (.int .i64 (q.length:Nat))) (.d (.int .i64 (q.length:Nat))),[.cells 10 (bv (q.map lowB))])) ?_ ?_ 0 (Nat.zero_le _)
  ·simp only [List.take_zero,List.map_nil,List.nil_append,List.drop_zero] at key
   have hA:Acc 5 1 0 ([.cells 10 (bv (q.map lowB))]:Hp) (.vec 0 1 0 q.length) (bD (q.map lowB)):=by
    refine⟨λe he=>?_,.inr ⟨0,Nat.zero_le _,by simp [bD],by simp [bD_cells]⟩⟩
    simp only [bD,List.mem_map] at he
    obtain⟨x,_,rfl⟩:=he
    exact OkE.int _ _
   simp only [e,Option.bind_some,lnV_vec]
   rw [show (0:Int)=((0:Nat):Int) from rfl,key]
   simp only [Option.bind_some,K401_0x0,hA.bstr,fin_pure_d]
  ·intro i hi
   have e1:decide ((i:Int)<(q.length:Int))=true:=by simpa using hi
   have e2:IntKind.i64.wrap ((i:Int)+1)=((i+1:Nat):Int):=by rw [wrap64 (by omega) (by omega)];simp
   have hb:([.cells 10 (bv ((q.take i).map lowB++q.drop i))]:Hp)[0]? = some (.cells 10 (bv ((q.take i).map lowB++q.drop i))):=rfl
   have hlen:((q.take i).map lowB).length=i:=by simp;omega
   have hd:=List.drop_eq_getElem_cons hi
   have hget:(bv ((q.take i).map lowB++q.drop i))[i]? = some (.d (.int .u8 (q[i].toNat:Int))):=by
    rw [bv_get _ _ (by simp;omega)]
    have:((q.take i).map lowB++q.drop i)[i]'(by simp;omega)=q[i]:=by
     rw [List.getElem_append_right (by omega)]
     simp only [List.getElem_drop]
     congr 1;omega
    rw [this]
   have hst:st 1 0 0 (.ptr 0 i) (.d (.int .u8 ((lowB q[i]).toNat:Int))) [.cells 10 (bv ((q.take i).map lowB++q.drop i))]=some [.cells 10 (bv ((q.take (i+1)).map lowB++q.drop (i+1)))]:=by
    rw [st_cells (v:=.d (.int .u8 ((lowB q[i]).toNat:Int))) (n:=1) hb rfl (by rw [bv_length];simp;omega) rfl (Nat.zero_le _) (Or.inl (Nat.zero_le _))]
    have:wr (bv ((q.take i).map lowB++q.drop i)) i (IV.d (.int .u8 ((lowB q[i]).toNat:Int))).cells=bv ((q.take (i+1)).map lowB++q.drop (i+1)):=by
     show (bv ((q.take i).map lowB++q.drop i)).set i (.d (.int .u8 ((lowB q[i]).toNat:Int)))=_
     rw [hd,take_succ_get q i hi,List.map_append]
     unfold bv
     rw [List.map_append,List.map_cons,List.set_append_right _ _ (by simp;omega)]
     have h0:i - (List.map (λb:UInt8=>IV.d (.int .u8 (b.toNat:Int))) ((q.take i).map lowB)).length=0:=by simp;omega
     rw [h0]
     simp
    rw [this];rfl
   rw [B401_0]
   simp only [List.length_nil,iBin_lss,Option.bind_some,br3_bool,e1,if_true,ixA_vec hi,Nat.zero_add,Nat.mul_one,ld1_cells hb,hget,s377 hS,liftR_val,hst,iBin_add,e2]
  ·have e1:decide ((q.length:Int)<(q.length:Int))=false:=by simp
   rw [B401_0]
   simp only [iBin_lss,Option.bind_some,br3_bool,e1,Bool.false_eq_true,if_false,List.take_length,List.drop_length,List.append_nil]
theorem s351 (hS:SysOK sys) (s:List UInt8) (hs:s.length<2 ^ 34):run sys lim ro 351 [.d (.str s)] H=some (.val (.d (.str (s.map lowB))),H):=by
 refine runP hS rfl (by kernel_rfl) rfl ?_
 rw [R351]
 simp only [s401 hS s hs,liftR_val,fin_pure_d]
theorem s469 (hS:SysOK sys) (s:List UInt8) (hs:s.length<2 ^ 34):run sys lim ro 469 [.d (.str s)] H=some (.val (.d (.bool (tok s && decide (s.map lowB=s)))),H):=by
 refine runP hS rfl (by kernel_rfl) rfl ?_
 rw [R469]
 simp only [g469_0,g469_1,g469_2,s441 hS s hs,s351 hS s hs,liftR_val,brN3_bool,iBin_seql,Option.bind_some,fin_pure_d]
 cases tok s <;> simp
theorem cu_self {b:Nat} {x:Blk} (h:H[b]? = some x):H=H.set b x:=by
 have hb:=get_lt h
 rw [List.getElem?_eq_getElem hb] at h
 have:H[b]=x:=Option.some.inj h
 rw [← this,List.set_getElem_self]
theorem cu_get {b:Nat} {x:Blk} (X:Hp) (hb:b<H.length):(H.set b x++X)[b]? = some x:=by
 rw [List.getElem?_append_left (by simpa using hb),List.getElem?_set_self hb]
theorem cu_set {b:Nat} {x y:Blk} (X:Hp) (hb:b<H.length):(H.set b x++X).set b y=H.set b y++X:=by
 rw [List.set_append_left _ _ (by simpa using hb),List.set_set]
section
variable {b at_:Nat} {s:List UInt8} (X:Hp) (hb:b<H.length) (hr:ro≤b) (ha:at_≤s.length) (hs:s.length<2 ^ 34)
include hb hr ha hs
theorem c334 (hS:SysOK sys) (stops:List UInt8):∃ w n,run sys lim ro 334 [.ptr b 0,.d (.str stops)] (H.set b (curB s at_)++X)=some (.val (.d (.str w)),H.set b (curB s (at_+n))++X)∧w=(s.drop at_).takeWhile (λx=>!stops.contains x)∧n=w.length∧at_+n≤s.length:=by
 have h:=s334 (lim:=lim) (ro:=ro) hS stops (cu_get (x:=curB s at_) X hb) hr ha hs
 rw [cu_set X hb] at h
 refine⟨_,_,h,rfl,rfl,?_⟩
 have:=takeWhile_len_le (λx=>!stops.contains x) (s.drop at_)
 simp only [List.length_drop] at this;omega
theorem c331 (hS:SysOK sys) {f:Nat} {p:UInt8→Bool} (hf:Judges f p):∃ w n,run sys lim ro 331 [.ptr b 0,.fn f [] []] (H.set b (curB s at_)++X)=some (.val (.d (.str w)),H.set b (curB s (at_+n))++X)∧w=(s.drop at_).takeWhile p∧n=w.length∧at_+n≤s.length:=by
 have h:=s331 (lim:=lim) (ro:=ro) hS hf (cu_get (x:=curB s at_) X hb) hr ha hs
 rw [cu_set X hb] at h
 refine⟨_,_,h,rfl,rfl,?_⟩
 have:=takeWhile_len_le p (s.drop at_)
 simp only [List.length_drop] at this;omega
theorem c317 (hS:SysOK sys) (x:UInt8):(∃ r,s.drop at_=x::r∧at_+1≤s.length∧s.drop (at_+1)=r∧run sys lim ro 317 [.ptr b 0,.d (.str [x])] (H.set b (curB s at_)++X)=some (.val (.d (.bool true)),H.set b (curB s (at_+1))++X)) ∨
  ((∀ r,s.drop at_≠x::r)∧run sys lim ro 317 [.ptr b 0,.d (.str [x])] (H.set b (curB s at_)++X)=some (.val (.d (.bool false)),H.set b (curB s at_)++X)):=by
 have h:=s317 (lim:=lim) (ro:=ro) hS x (cu_get (x:=curB s at_) X hb) hr ha hs
 rw [cu_set X hb] at h
 cases hd:s.drop at_ with
 | nil=>
  rw [hd] at h
  exact .inr ⟨λr e=>(by cases e),h⟩
 | cons y r=>
  rw [hd] at h
  have hlt:at_<s.length:=by
   rcases Nat.lt_or_ge at_ s.length with h' | h'
   ·exact h'
   ·rw [List.drop_eq_nil_of_le h'] at hd;cases hd
  by_cases hxy:x=y
  ·subst hxy
   have e:([x]:List UInt8).isPrefixOf (x::r)=true:=by simp
   rw [e] at h
   have hdc:=List.drop_eq_getElem_cons hlt
   rw [hd] at hdc
   exact .inl ⟨r,rfl,hlt,(List.cons.inj hdc).2.symm,h⟩
  ·have e:([x]:List UInt8).isPrefixOf (y::r)=false:=by
    have hb:(x == y)=false:=beq_eq_false_iff_ne.2 hxy
    show (x == y && _)=false
    rw [hb];rfl
   rw [e] at h
   exact .inr ⟨λr' e=>hxy (List.cons.inj e).1.symm,h⟩
theorem c373 (hS:SysOK sys):run sys lim ro 373 [.ptr b 0,.d (.int .i64 0)] (H.set b (curB s at_)++X) =
  some (.val (.tup (match s.drop at_ with | []=>[.d (.int .u8 0),.d (.bool false)] | x::_=>[.d (.int .u8 (x.toNat:Nat)),.d (.bool true)])),H.set b (curB s at_)++X):=
 s373 hS (cu_get X hb) ha
theorem c486 (hS:SysOK sys) {r:List UInt8} (hd:s.drop at_=34::r):∃ t,run sys lim ro 486 [.ptr b 0,.d (.bool true)] (H.set b (curB s at_)++X)=some (.val (.d (.str t)),H.set b (curB s (at_+1+qLen r))++X)∧t.length≤s.length∧at_+1+qLen r≤s.length:=by
 obtain⟨t,h,ht⟩:=s486 (lim:=lim) (ro:=ro) hS (cu_get (x:=curB s at_) X hb) hr hd hs
 rw [cu_set X hb] at h
 have:=congrArg List.length hd
 have hq:=qLen_le r
 simp at this
 exact⟨t,h,by omega,by omega⟩
theorem c382 (hS:SysOK sys):∃ e,run sys lim ro 382 [.ptr b 0] (H.set b (curB s at_)++X)=some (.val (.d (.bool e)),H.set b (curB s at_)++X):=by
 refine⟨decide (s.drop at_=[]),runB hS rfl (λ_=>rfl) ?_⟩
 rw [R382]
 simp only [s381 hS (cu_get X hb) ha,liftR_val,iBin_seql,Option.bind_some,fin_pure_d]
theorem c466 (hS:SysOK sys):∃ t ok n,run sys lim ro 466 [.ptr b 0] (H.set b (curB s at_)++X)=some (.val (.tup [.d (.str t),.d (.bool ok)]),H.set b (curB s n)++X)∧at_≤n∧n≤s.length∧t.length≤s.length:=by
 have e:tab.mode 466=.mut:=by kernel_rfl
 have hlen:∀ n,(H.set b (curB s n)++X).take (H.set b (curB s at_)++X).length=H.set b (curB s n)++X:=λn=>List.take_of_length_le (by simp)
 have h1:=c373 (lim:=(H.set b (curB s at_)++X).length) X hb hr ha hs hS
 have plain:∃ t ok n,(liftR (run sys (H.set b (curB s at_)++X).length ro 334 [.ptr b 0,.d (.str [59])] (H.set b (curB s at_)++X))
   (λv16 h17=>liftR (run sys (H.set b (curB s at_)++X).length ro 440 [v16] h17) (λv18 h19=>(iBin P .neq 9 v18 (.d (.str []))).bind λv20=>fin .mut (H.set b (curB s at_)++X) ro [v18,v20] h19)
    (λp21 h22=>finP .mut (H.set b (curB s at_)++X) ro p21 h22)) (λp23 h24=>finP .mut (H.set b (curB s at_)++X) ro p23 h24))=some (.val (.tup [.d (.str t),.d (.bool ok)]),H.set b (curB s n)++X)∧at_≤n∧n≤s.length∧t.length≤s.length:=by
  obtain⟨w,n,h2,hw,hn,hle⟩:=c334 (lim:=(H.set b (curB s at_)++X).length) X hb hr ha hs hS [59]
  have hl:=endL_length bWhite w
  refine⟨endL bWhite w,decide (endL bWhite w≠[]),at_+n,?_,by omega,hle,by omega⟩
  simp only [h2,liftR_val,s440 hS w (by omega),iBin_sneq,Option.bind_some,fin_mut_dd,hlen]
 cases hd:s.drop at_ with
 | nil=>
  rw [hd] at h1
  obtain⟨t,ok,n,h2,h3⟩:=plain
  refine⟨t,ok,n,runB hS rfl (λh=>by rw [e] at h;cases h) ?_,h3⟩
  rw [R466]
  simp only [h1,liftR_val,extract_tup,List.getElem?_cons_zero,List.getElem?_cons_succ,Option.bind_some,g466_0,brN3_bool,Bool.false_eq_true,if_false,g466_2]
  exact h2
 | cons x r=>
  rw [hd] at h1
  by_cases h34:x=34
  ·subst h34
   obtain⟨t,h2,ht,hn⟩:=c486 (lim:=(H.set b (curB s at_)++X).length) X hb hr ha hs hS hd
   obtain⟨w,m,h3,hw,hm,hle⟩:=c334 (lim:=(H.set b (curB s at_)++X).length) X hb hr hn hs hS [59]
   refine⟨t,true,_,runB hS rfl (λh=>by rw [e] at h;cases h) ?_,?_,hle,ht⟩
   ·rw [R466]
    have h1':run sys (H.set b (curB s at_)++X).length ro 373 [.ptr b 0,.d (.int .i64 0)] (H.set b (curB s at_)++X)=some (.val (.tup [.d (.int .u8 34),.d (.bool true)]),H.set b (curB s at_)++X):=h1
    simp only [h1',liftR_val,extract_tup,List.getElem?_cons_zero,List.getElem?_cons_succ,Option.bind_some,g466_0,brN3_bool,if_true,g466_1,iBin_eql,decide_true,br3_bool,h2,h3,fin_mut_dd,hlen]
   ·omega
  ·have e34:decide ((x.toNat:Int)=34)=false:=by
    have:=eq_toNat x 34
    rw [show (((34:UInt8).toNat:Nat):Int)=34 from rfl] at this
    rw [this];simpa using h34
   obtain⟨t,ok,n,h2,h3⟩:=plain
   refine⟨t,ok,n,runB hS rfl (λh=>by rw [e] at h;cases h) ?_,h3⟩
   rw [R466]
   simp only [h1,liftR_val,extract_tup,List.getElem?_cons_zero,List.getElem?_cons_succ,Option.bind_some,g466_0,brN3_bool,if_true,g466_1,iBin_eql,e34,br3_bool,Bool.false_eq_true,if_false]
   exact h2
end
end Go.Tg
namespace Go.Tg
variable [Globs] {lim ro:Nat} {H:Hp}
def ParL (els:List D):Prop:=∀ e ∈ els,∃ n v:List UInt8,e=.agg [.str n,.str v]∧n.length<2 ^ 34∧v.length<2 ^ 34
theorem ParL.ok {els:List D} (h:ParL els):∀ e ∈ els,OkE 2 e:=by
 intro e he
 obtain⟨n,v,rfl,_⟩:=h e he
 exact OkE.agg rfl (by decide)
def SlP (G:Hp) (v:IV) (els:List D):Prop:=ParL els∧els.length<2 ^ 34∧(v=.d (.lst els)∨∃ ty ro,Acc ty 2 ro G v els)
theorem SlP.data {G:Hp} {els:List D} (h:ParL els) (hl:els.length<2 ^ 34):SlP G (.d (.lst els)) els:=⟨h,hl,.inl rfl⟩
theorem SlP.keep {G G':Hp} {v:IV} {els:List D} (h:SlP G v els) (hk:∀ b,ownB v=some b→G'[b]? = G[b]?):SlP G' v els:=by
 obtain⟨h1,h2,h3⟩:=h
 refine⟨h1,h2,h3.imp id ?_⟩
 rintro⟨ty,ro,h⟩
 exact⟨ty,ro,h.keep hk⟩
theorem SlP.app {G:Hp} {v:IV} {els:List D} (h:SlP G v els) (X:Hp):SlP (G++X) v els:=by
 obtain⟨h1,h2,h3⟩:=h
 refine⟨h1,h2,h3.imp id ?_⟩
 rintro⟨ty,ro,h⟩
 exact⟨ty,ro,h.keep (λb hb=>List.getElem?_append_left (h.own_lt hb).1)⟩
theorem SlP.len {G:Hp} {v:IV} {els:List D} (h:SlP G v els):lnV v=some (.d (.int .i64 (els.length:Nat))):=by
 rcases h.2.2 with h | ⟨ty,ro,h⟩
 ·rw [h];rfl
 ·exact h.len
theorem SlP.at {G:Hp} {v:IV} {els:List D} (h:SlP G v els) {i:Nat} (hi:i<els.length) {k:IntKind}:∃ a a0 a1 n w x,els[i]=.agg [.str n,.str w]∧n.length<2 ^ 34∧w.length<2 ^ 34∧ixA 2 v (.d (.int k (i:Nat)))=some a ∧
  ldN 2 a G=some x∧x.cells=[.d (.str n),.d (.str w)]∧padd a 0=some a0∧ld1 a0 G=some (.d (.str n))∧padd a 1=some a1∧ld1 a1 G=some (.d (.str w)):=by
 obtain⟨n,w,he,hn,hw⟩:=h.1 els[i] (List.getElem_mem hi)
 rcases h.2.2 with h' | ⟨ty,ro,h'⟩
 ·subst h'
  refine⟨.lptr [.str n,.str w] 0,.lptr [.str n,.str w] 0,.lptr [.str n,.str w] 1,n,w,.d (.agg [.str n,.str w]),he,hn,hw,?_,rfl,rfl,rfl,rfl,rfl,rfl⟩
  rw [ixA_lst hi (by rw [he];rfl),he];rfl
 ·obtain⟨b,h1,h2⟩:=h'.at (k:=k) hi
  have hd:=cellsOf_drop h'.1 hi
  rw [he] at hd
  have hd':(cellsOf els).drop (i*2)=IV.d (.str n)::IV.d (.str w)::cellsOf (els.drop (i+1)):=hd
  have hlen:=cellsOf_length h'.1
  have g0:(cellsOf els)[i*2]? = some (.d (.str n)):=by
   have:=congrArg (λl:List IV=>l[0]?) hd'
   simpa [List.getElem?_drop] using this
  have g1:(cellsOf els)[i*2+1]? = some (.d (.str w)):=by
   have:=congrArg (λl:List IV=>l[1]?) hd'
   simpa [List.getElem?_drop] using this
  refine⟨.ptr b (i*2),.ptr b (i*2),.ptr b (i*2+1),n,w,.agg [.d (.str n),.d (.str w)],he,hn,hw,h1,?_,rfl,rfl,?_,rfl,?_⟩
  ·rw [ldN_cells h2 (by omega),hd'];rfl
  ·rw [ld1_cells h2];exact g0
  ·rw [ld1_cells h2];exact g1
theorem box_cells {t:Nat} {x:IV} {cs:List IV} (h:x.cells=cs) (h1:cs.all IV.one=true) (H:Hp):iBox t x H=some (.ptr H.length 0,H++[.cells (2*t+1) cs]):=by
 subst h
 unfold iBox
 rw [if_pos h1]
theorem s468 (hS:SysOK sys) {x:IV} {n w nm:List UInt8} {c:Nat} (hx:x.cells=[.d (.str n),.d (.str w)]) (hc:H[c]? = some (.cells 19 [.d (.str nm)])) :
  run sys lim ro 468 [x,.ptr c 0] H=some (.val (.d (.bool (decide (n=nm)))),H):=by
 refine runB hS rfl (λ_=>by simp [closedVs,closedV]) ?_
 rw [R468]
 have hc':ld1 (.ptr c 0) (H++[.cells 221 [.d (.str n),.d (.str w)]])=some (.d (.str nm)):=by rw [ld1_cells (get_app _ hc)];rfl
 simp only [box_cells hx rfl,Option.bind_some,padd_ptr,ld1_new,Nat.zero_add,List.getElem?_cons_zero,hc',iBin_seql,fin_pure_d]
theorem s467 (hS:SysOK sys) {v:IV} {els:List D} {c:Nat} {nm:List UInt8} (hv:SlP H v els) (hc:H[c]? = some (.cells 19 [.d (.str nm)])) :
  ∃ k:Int,run sys lim ro 467 [v,.fn 468 [] [.ptr c 0]] H=some (.val (.d (.int .i64 k)),H) ∧ -1≤k∧k<els.length:=by
 have hl:=hv.2.1
 have hcl:tab.mode 467=.pure→closedVs [v,.fn 468 [] [.ptr c 0]]=false:=λ_=>by simp [closedVs,closedV]
 generalize hq:(λe:D=>match e with | .agg [.str n,.str _]=>decide (n=nm) | _=>false)=q
 have key:=loopW_find (step:=stepL (C467 (run sys) lim ro H) [0,1,4,7,8] (cd 467 [1,0,1,0,0])) els q (λi=>(E467 v (.fn 468 [] [.ptr c 0]) (.d (.int .i64 0)) (.d (.int .i64 (els.length:Nat))) (.d (.int .i64 (i:Nat))),H))
  (λi=>(.ret,E467 v (.fn 468 [] [.ptr c 0]) (.d (.int .i64 (i:Nat))) (.d (.int .i64 (els.length:Nat))) (.d (.int .i64 (i:Nat))),H)) (.exi 0,E467 v (.fn 468 [] [.ptr c 0]) (.d (.int .i64 0)) (.d (.int .i64 (els.length:Nat))) (.d (.int .i64 (els.length:Nat))),H) ?_ ?_ ?_
 ·cases h:els.findIdx? q with
  | none=>
   rw [h] at key
   refine⟨-1,runB hS rfl hcl ?_,by omega,by omega⟩
   rw [R467]
   simp only [hv.len,Option.bind_some]
   rw [show (E467 v (.fn 468 [] [.ptr c 0]) (.d (.int .i64 0)) (.d (.int .i64 (els.length:Nat))) (.d (.int .i64 0)),H)=(E467 v (.fn 468 [] [.ptr c 0]) (.d (.int .i64 0)) (.d (.int .i64 (els.length:Nat))) (.d (.int .i64 ((0:Nat):Int))),H) from rfl,key]
   simp only [Option.bind_some,K467_0x0,fin_pure_d]
  | some i=>
   rw [h] at key
   obtain⟨hi,_⟩:=List.findIdx?_eq_some_iff_getElem.1 h
   refine⟨(i:Nat),runB hS rfl hcl ?_,by omega,by omega⟩
   rw [R467]
   simp only [hv.len,Option.bind_some]
   rw [show (E467 v (.fn 468 [] [.ptr c 0]) (.d (.int .i64 0)) (.d (.int .i64 (els.length:Nat))) (.d (.int .i64 0)),H)=(E467 v (.fn 468 [] [.ptr c 0]) (.d (.int .i64 0)) (.d (.int .i64 (els.length:Nat))) (.d (.int .i64 ((0:Nat):Int))),H) from rfl,key]
   simp only [Option.bind_some,K467_0r,fin_pure_d]
 ·intro i hi hqi
  obtain⟨a,a0,a1,n,w,x,he,_,_,h1,h2,h3,_⟩:=hv.at (k:=.i64) hi
  have hd:decide (n=nm)=false:=by rw [← hq,he] at hqi;exact hqi
  have hrun:=s468 (lim:=H.length) (ro:=H.length) hS h3 hc
  rw [hd] at hrun
  have e1:decide ((i:Int)<(els.length:Int))=true:=by simpa using hi
  have e2:IntKind.i64.wrap ((i:Int)+1)=((i+1:Nat):Int):=by rw [wrap64 (by omega) (by omega)];simp
  rw [B467_0]
  simp only [iBin_lss,Option.bind_some,br3_bool,e1,if_true,h1,h2,goVal3_fn,List.nil_append,List.singleton_append,hrun,liftR_val,Bool.false_eq_true,if_false,iBin_add,e2]
 ·intro i hi hqi
  obtain⟨a,a0,a1,n,w,x,he,_,_,h1,h2,h3,_⟩:=hv.at (k:=.i64) hi
  have hd:decide (n=nm)=true:=by rw [← hq,he] at hqi;exact hqi
  have hrun:=s468 (lim:=H.length) (ro:=H.length) hS h3 hc
  rw [hd] at hrun
  have e1:decide ((i:Int)<(els.length:Int))=true:=by simpa using hi
  rw [B467_0]
  simp only [iBin_lss,Option.bind_some,br3_bool,e1,if_true,h1,h2,goVal3_fn,List.nil_append,List.singleton_append,hrun,liftR_val]
 ·have e1:decide ((els.length:Int)<(els.length:Int))=false:=by simp
  rw [B467_0]
  simp only [iBin_lss,Option.bind_some,br3_bool,e1,Bool.false_eq_true,if_false]
theorem closed_cells {m:IV} (h:closedV m=true):∀ c ∈ m.cells,closedV c=true:=by
 have key:∀ (l:List IV),closedVs l=true→∀ c ∈ l,closedV c=true:=by
  intro l
  induction l with
  | nil=>intro _ c hc;simp at hc
  | cons x l ih=>
   intro h c hc
   rw [closedVs,Bool.and_eq_true] at h
   rcases List.mem_cons.1 hc with h2 | h2
   ·rw [h2];exact h.1
   ·exact ih h.2 c h2
 cases m with
 | d x=>
  intro c hc
  simp only [IV.cells,List.mem_map] at hc
  obtain⟨y,_,rfl⟩:=hc
  rfl
 | agg cs=>intro c hc;exact key cs (by simpa [closedV] using h) c hc
 | _=>
  intro c hc
  simp only [IV.cells,List.mem_singleton] at hc
  rw [hc];exact h
theorem b443 (hS:SysOK sys) {m v:IV} {t s nm:List UInt8} {els:List D} (hm:m.cells=[.d (.str t),.d (.str s),v]) (h1:v.one=true) (hv:SlP H v els) :
  ∃ k:Int,bodyK2 P tab (run sys) lim ro 443 [m,.d (.str nm)] H=some (.val (.d (.int .i64 k)),H) ∧ -1≤k∧k<els.length:=by
 have hall:([.d (.str t),.d (.str s),v]:List IV).all IV.one=true:=by simp only [List.all_cons,List.all_nil,h1,Bool.and_true];rfl
 generalize hX:(H++[Blk.cells 69 [.d (.str t),.d (.str s),v]])++[Blk.cells 19 [.d (.str nm)]]=X
 have hv':SlP X v els:=by rw [← hX];exact (hv.app _).app _
 have hc:X[H.length+1]? = some (.cells 19 [.d (.str nm)]):=by rw [← hX];simp
 obtain⟨k,hrun,hk⟩:=s467 (lim:=H.length) (ro:=H.length) hS hv' hc
 have hb:X[H.length]? = some (.cells 69 [.d (.str t),.d (.str s),v]):=by rw [← hX];simp
 have hld:ld1 (.ptr H.length 2) X=some v:=by rw [ld1_cells hb];rfl
 refine⟨k,?_,hk⟩
 rw [R443]
 simp only [box_cells hm hall,Option.bind_some,padd_ptr,Nat.zero_add,show 2*34+1=69 from rfl,hX,List.length_append,List.length_singleton,hld,hrun,liftR_val,fin_pure_d]
theorem s443 (hS:SysOK sys) {m v:IV} {t s nm:List UInt8} {els:List D} (hm:m.cells=[.d (.str t),.d (.str s),v]) (h1:v.one=true) (hv:SlP H v els) :
  ∃ k:Int,run sys lim ro 443 [m,.d (.str nm)] H=some (.val (.d (.int .i64 k)),H) ∧ -1≤k∧k<els.length:=by
 cases hcl:closedVs [m,.d (.str nm)] with
 | false=>
  obtain⟨k,hb,hk⟩:=b443 (lim:=lim) (ro:=ro) (nm:=nm) hS hm h1 hv
  exact⟨k,runB hS rfl (λ_=>hcl) hb,hk⟩
 | true=>
  have hcm:closedV v=true:=by
   rw [closedVs,Bool.and_eq_true] at hcl
   exact closed_cells hcl.1 v (by rw [hm];simp)
  have hv0:SlP [] v els:=by
   obtain⟨a,b,c⟩:=hv
   refine⟨a,b,c.imp id ?_⟩
   rintro⟨ty,r,hA⟩
   rcases hA.2 with ⟨h2,h3⟩ | ⟨b',h2,h3,h4⟩
   ·exact⟨ty,r,hA.1,.inl ⟨h2,h3⟩⟩
   ·rw [h3] at hcm;simp [closedV] at hcm
  obtain⟨k,hb,hk⟩:=b443 (lim:=0) (ro:=0) (nm:=nm) hS hm h1 hv0
  exact⟨k,runP hS rfl (by kernel_rfl) hcl hb,hk⟩
theorem s412 (hS:SysOK sys) (t s nm:List UInt8) {ps:List D} (hp:ParL ps) (hl:ps.length<2 ^ 34):∃ w b,run sys lim ro 412 [.d (mimD t s ps),.d (.str nm)] H=some (.val (.tup [.d (.str w),.d (.bool b)]),H)∧w.length<2 ^ 34:=by
 have hv:=SlP.data (G:=[]++[Blk.cells 69 [.d (.str t),.d (.str s),.d (.lst ps)]]) hp hl
 obtain⟨k,hrun,hk1,hk2⟩:=s443 (lim:=([]:Hp).length) (ro:=([]:Hp).length) (m:=.agg [.d (.str t),.d (.str s),.d (.lst ps)]) (nm:=nm) hS rfl rfl hv
 by_cases hk:k<0
 ·refine⟨[],false,runP hS rfl (by kernel_rfl) rfl ?_,by decide⟩
  rw [R412]
  have e1:decide (k<0)=true:=by simpa using hk
  simp only [box_mim,Option.bind_some,ldN_new [] 69 3 [.d (.str t),.d (.str s),.d (.lst ps)] rfl,hrun,liftR_val,iBin_lss,e1,br3_bool,if_true,fin_pure_dd]
 ·obtain⟨i,rfl⟩:∃ i:Nat,k=(i:Nat):=⟨k.toNat,by omega⟩
  obtain⟨a,a0,a1,n,w,x,he,hn,hw,g1,g2,g3,g4,g5,g6,g7⟩:=hv.at (k:=.i64) (i:=i) (by omega)
  refine⟨w,true,runP hS rfl (by kernel_rfl) rfl ?_,hw⟩
  rw [R412]
  have e1:decide (((i:Nat):Int)<0)=false:=by simp
  simp only [box_mim,Option.bind_some,ldN_new [] 69 3 [.d (.str t),.d (.str s),.d (.lst ps)] rfl,hrun,liftR_val,iBin_lss,e1,br3_bool,Bool.false_eq_true,if_false,padd_ptr,Nat.zero_add,ld1_new,List.getElem?_cons_succ,List.getElem?_cons_zero,g1,g6,g7,fin_pure_dd]
end Go.Tg
namespace Go.Tg
variable [Globs] {lim ro:Nat} {H:Hp}
def FrzTo (ro:Nat) (G:Hp) (v:IV) (els:List D):Prop:=∀ n,∃ G',Tg.frz ro (n+2) v G=some (.lst els,G')∧G'.length=G.length∧∀ i,ownB v≠some i→G'[i]? = G[i]?
theorem Acc.frzTo {ty sz ro:Nat} {G:Hp} {v:IV} {els:List D} (h:Acc ty sz ro G v els):FrzTo ro G v els:=λn=>h.frz n
theorem FrzTo.emp (ro:Nat) (G:Hp):FrzTo ro G .emp []:=λ_=>⟨G,rfl,rfl,λ_ _=>rfl⟩
theorem FrzTo.data (ro:Nat) (G:Hp) (els:List D):FrzTo ro G (.d (.lst els)) els:=λ_=>⟨G,rfl,rfl,λ_ _=>rfl⟩
theorem FrzTo.frozen {ro sz b:Nat} {G:Hp} {els:List D} (hok:∀ e ∈ els,OkE sz e) (h:G[b]? = some (.frz (els.flatMap D.cells))):FrzTo ro G (.vec b sz 0 els.length) els:=by
 intro n
 refine⟨G,?_,rfl,λ_ _=>rfl⟩
 have hl:=cellsOf_length hok
 unfold cellsOf at hl
 rw [List.length_map] at hl
 unfold Tg.frz
 simp only [h]
 rw [if_pos (by omega),List.drop_zero,group_cells els hok]
theorem frz_mim {t s:List UInt8} {v:IV} {els:List D} {G:Hp} (h:FrzTo ro G v els):∃ G',Tg.frz ro 6 (.agg [.d (.str t),.d (.str s),v]) G=some (mimD t s els,G')∧G'.length=G.length∧∀ i,ownB v≠some i→G'[i]? = G[i]?:=by
 obtain⟨G',h1,h2⟩:=h 3
 refine⟨G',?_,h2⟩
 have h1':Tg.frz ro 5 v G=some (.lst els,G'):=h1
 show (frzMany (Tg.frz ro 5) [.d (.str t),.d (.str s),v] G).map (λr=>(D.agg r.1,r.2))=_
 have e1:frzMany (Tg.frz ro 5) [v] G=some ([.lst els],G'):=by
  show (Tg.frz ro 5 v G).bind _=_
  rw [h1'];rfl
 have e2:frzMany (Tg.frz ro 5) [.d (.str t),.d (.str s),v] G=(frzMany (Tg.frz ro 5) [v] G).map λq=>(.str t::.str s::q.1,q.2):=by
  show ((Option.some (D.str t,G)).bind λr=>((Option.some (D.str s,r.2)).bind λr=>(frzMany (Tg.frz ro 5) [v] r.2).map λq=>(r.1::q.1,q.2)).map λq=>(r.1::q.1,q.2))=_
  simp only [Option.bind_some,Option.map_map];rfl
 rw [e2,e1];rfl
theorem fin_mim {t s:List UInt8} {v:IV} {els:List D} {G:Hp} (h:FrzTo ro G v els) (H:Hp):fin .pure H ro [.agg [.d (.str t),.d (.str s),v]] G=some (.val (.d (mimD t s els)),H):=by
 obtain⟨G',h1,_⟩:=frz_mim (t:=t) (s:=s) h
 have hr:frzR ro (.agg [.d (.str t),.d (.str s),v]) G=some (.d (mimD t s els),G'):=by
  show (Tg.frz ro 6 _ G).map _=_
  rw [h1];rfl
 unfold Tg.fin
 simp only [frzRs,hr,Option.bind_some,Option.map_some,oneOf]
theorem fin_mim2 {t s:List UInt8} {v:IV} {els:List D} {G:Hp} (h:FrzTo ro G v els) (H:Hp) (y:D):fin .pure H ro [.agg [.d (.str t),.d (.str s),v],.d y] G=some (.val (.tup [.d (mimD t s els),.d y]),H):=by
 obtain⟨G',h1,_⟩:=frz_mim (t:=t) (s:=s) h
 have hr:frzR ro (.agg [.d (.str t),.d (.str s),v]) G=some (.d (mimD t s els),G'):=by
  show (Tg.frz ro 6 _ G).map _=_
  rw [h1];rfl
 have hd:frzR ro (.d y) G'=some (.d y,G'):=rfl
 unfold Tg.fin
 simp only [frzRs,hr,hd,Option.bind_some,Option.map_some,oneOf]
theorem frzA_mim {t s:List UInt8} {v:IV} {els:List D} {G:Hp} (h:FrzTo ro G v els):∃ G',frzArgs ro [(true,.agg [.d (.str t),.d (.str s),v])] G=([.d (mimD t s els)],G')∧G'.length=G.length∧∀ i,ownB v≠some i→G'[i]? = G[i]?:=by
 obtain⟨G',h1,h2⟩:=frz_mim (t:=t) (s:=s) h
 refine⟨G',?_,h2⟩
 have:frzA ro (.agg [.d (.str t),.d (.str s),v]) G=(.d (mimD t s els),G'):=by
  show (match Tg.frz ro 6 (.agg [.d (.str t),.d (.str s),v]) G with | some (x,H)=>(IV.d x,H) | none=>_)=_
  rw [h1]
 simp only [frzArgs,if_true,this]
theorem st_new {n off ty:Nat} {G:Hp} {cs:List IV} {v:IV} (h1:v.cells.length=n) (h2:off+n≤cs.length) (h3:v.cells.all IV.one=true) (h4:ro≤G.length) (h5:lim≤G.length) :
  st n lim ro (.ptr G.length off) v (G++[.cells ty cs])=some (G++[.cells ty (wr cs off v.cells)]):=by
 rw [st_cells (cs:=cs) (ty:=ty) (by simp) h1 h2 h3 h4 (.inl h5)]
 simp
theorem s444 (hS:SysOK sys) {els:List D} (h:∀ e ∈ els,OkE 2 e) (hl:els.length<67108864) :
  run sys lim ro 444 [.d (.lst els)] H=some (.val (if els=[] then .emp else .vec H.length 2 0 els.length),if els=[] then H else H++[.cells 220 (cellsOf els)]):=by
 refine run_prim hS (g:=pCloneG 110 2) rfl ?_
 cases els with
 | nil=>rfl
 | cons e els=>
  have hall:(e::els).all (λe=>e.cells.length == 2)=true:=by
   rw [List.all_eq_true]
   intro x hx
   simpa using (h x hx).1
  show (if (e::els).all (λe=>e.cells.length == 2)=true∧els.length<67108864 then _ else _)=_
  rw [if_pos ⟨hall,by simp at hl;omega⟩]
  simp [cellsOf]
theorem s413 (hS:SysOK sys) (t s:List UInt8) {ps:List D} (hp:∀ e ∈ ps,OkE 2 e) (hl:ps.length<67108864):run sys lim ro 413 [.d (mimD t s ps)] H=some (.val (.d (mimD t s ps)),H):=by
 refine runP hS rfl (by kernel_rfl) rfl ?_
 rw [R413]
 have hrun:=s444 (lim:=([]:Hp).length) (ro:=([]:Hp).length) (H:=([]++[Blk.cells 69 [.d (.str t),.d (.str s),.d (.lst ps)]]++[Blk.cells 69 [.d (.str []),.d (.str []),.vnil]]:Hp)) hS hp hl
 have e1:ld1 (.ptr ([]:Hp).length 2) ([]++[Blk.cells 69 [.d (.str t),.d (.str s),.d (.lst ps)]]++[Blk.cells 69 [.d (.str []),.d (.str []),.vnil]]:Hp)=some (.d (.lst ps)):=rfl
 simp only [box_mim,Option.bind_some,padd_ptr,Nat.zero_add,e1,hrun,liftR_val]
 cases ps with
 | nil=>
  simp only [if_true]
  have e2:st 1 ([]:Hp).length ([]:Hp).length (.ptr ([]:Hp).length 2) .emp ([]++[Blk.cells 69 [.d (.str t),.d (.str s),.d (.lst [])]]++[Blk.cells 69 [.d (.str []),.d (.str []),.vnil]]:Hp)=some [Blk.cells 69 [.d (.str t),.d (.str s),.emp],Blk.cells 69 [.d (.str []),.d (.str []),.vnil]]:=rfl
  have e3:ldN 3 (.ptr ([]:Hp).length 0) [Blk.cells 69 [.d (.str t),.d (.str s),.emp],Blk.cells 69 [.d (.str []),.d (.str []),.vnil]]=some (.agg [.d (.str t),.d (.str s),.emp]):=rfl
  have e4:st 3 ([]:Hp).length ([]:Hp).length (.ptr ([]++[Blk.cells 69 [.d (.str t),.d (.str s),.d (.lst [])]]:Hp).length 0) (.agg [.d (.str t),.d (.str s),.emp]) [Blk.cells 69 [.d (.str t),.d (.str s),.emp],Blk.cells 69 [.d (.str []),.d (.str []),.vnil]]=some [Blk.cells 69 [.d (.str t),.d (.str s),.emp],Blk.cells 69 [.d (.str t),.d (.str s),.emp]]:=rfl
  have e5:ldN 3 (.ptr ([]++[Blk.cells 69 [.d (.str t),.d (.str s),.d (.lst [])]]:Hp).length 0) [Blk.cells 69 [.d (.str t),.d (.str s),.emp],Blk.cells 69 [.d (.str t),.d (.str s),.emp]]=some (.agg [.d (.str t),.d (.str s),.emp]):=rfl
  simp only [e2,Option.bind_some,e3,e4,e5,Option.map_some]
  exact fin_mim (FrzTo.emp _ _) []
 | cons e ps=>
  simp only [List.cons_ne_nil,if_false]
  generalize hq:e::ps=q at *
  have e2:st 1 ([]:Hp).length ([]:Hp).length (.ptr ([]:Hp).length 2) (.vec ([]++[Blk.cells 69 [.d (.str t),.d (.str s),.d (.lst q)]]++[Blk.cells 69 [.d (.str []),.d (.str []),.vnil]]:Hp).length 2 0 q.length) ([]++[Blk.cells 69 [.d (.str t),.d (.str s),.d (.lst q)]]++[Blk.cells 69 [.d (.str []),.d (.str []),.vnil]]++[Blk.cells 220 (cellsOf q)]:Hp)=some [Blk.cells 69 [.d (.str t),.d (.str s),.vec 2 2 0 q.length],Blk.cells 69 [.d (.str []),.d (.str []),.vnil],.cells 220 (cellsOf q)]:=rfl
  have e3:ldN 3 (.ptr ([]:Hp).length 0) [Blk.cells 69 [.d (.str t),.d (.str s),.vec 2 2 0 q.length],Blk.cells 69 [.d (.str []),.d (.str []),.vnil],.cells 220 (cellsOf q)]=some (.agg [.d (.str t),.d (.str s),.vec 2 2 0 q.length]):=rfl
  have e4:st 3 ([]:Hp).length ([]:Hp).length (.ptr ([]++[Blk.cells 69 [.d (.str t),.d (.str s),.d (.lst q)]]:Hp).length 0) (.agg [.d (.str t),.d (.str s),.vec 2 2 0 q.length]) [Blk.cells 69 [.d (.str t),.d (.str s),.vec 2 2 0 q.length],Blk.cells 69 [.d (.str []),.d (.str []),.vnil],.cells 220 (cellsOf q)]=some [Blk.cells 69 [.d (.str t),.d (.str s),.vec 2 2 0 q.length],Blk.cells 69 [.d (.str t),.d (.str s),.vec 2 2 0 q.length],.cells 220 (cellsOf q)]:=rfl
  have e5:ldN 3 (.ptr ([]++[Blk.cells 69 [.d (.str t),.d (.str s),.d (.lst q)]]:Hp).length 0) [Blk.cells 69 [.d (.str t),.d (.str s),.vec 2 2 0 q.length],Blk.cells 69 [.d (.str t),.d (.str s),.vec 2 2 0 q.length],.cells 220 (cellsOf q)]=some (.agg [.d (.str t),.d (.str s),.vec 2 2 0 q.length]):=rfl
  simp only [e2,Option.bind_some,e3,e4,e5,Option.map_some]
  have hA:Acc 110 2 0 [Blk.cells 69 [.d (.str t),.d (.str s),.vec 2 2 0 q.length],Blk.cells 69 [.d (.str t),.d (.str s),.vec 2 2 0 q.length],.cells 220 (cellsOf q)] (.vec 2 2 0 q.length) q:=⟨hp,.inr ⟨2,Nat.zero_le _,rfl,rfl⟩⟩
  exact fin_mim hA.frzTo []
theorem s445 (hS:SysOK sys) (t s:List UInt8) {ps:List D} (hp:ParL ps) (hl:ps.length<67108864) (ht:t.length<2 ^ 34) (hs:s.length<2 ^ 34):∃ b,run sys lim ro 445 [.d (mimD t s ps)] H=some (.val (.d (.bool b)),H):=by
 have key:∀ k i (G:Hp),i+k=ps.length→G[0]? = some (Blk.cells 69 [.d (.str t),.d (.str s),.d (.lst ps)])→∃ G',G'[0]? = some (Blk.cells 69 [.d (.str t),.d (.str s),.d (.lst ps)]) ∧
   ∃ x j,loopW (stepL (C445 (run sys) 0 0 []) [1,2,6,7,8] (cd 445 [1,0,1,0,0])) (E445 (.ptr 0 0) (.d (.bool false)) (.d (.lst ps)) (.d (.int .i64 (ps.length:Nat))) (.d (.int .i64 (i:Nat))),G) =
    some (x,E445 (.ptr 0 0) (.d (.bool false)) (.d (.lst ps)) (.d (.int .i64 (ps.length:Nat))) (.d (.int .i64 (j:Nat))),G')∧(x=.ret∨x=.exi 0):=by
  intro k
  induction k with
  | zero=>
   intro i G hi hG
   have hi':i=ps.length:=by omega
   subst hi'
   refine⟨G,hG,.exi 0,ps.length,loopW_done ?_,.inr rfl⟩
   have e1:decide ((ps.length:Int)<(ps.length:Int))=false:=by simp
   rw [B445_0]
   simp only [iBin_lss,Option.bind_some,br3_bool,e1,Bool.false_eq_true,if_false]
  | succ k ih=>
   intro i G hi hG
   have hlt:i<ps.length:=by omega
   have e1:decide ((i:Int)<(ps.length:Int))=true:=by simpa using hlt
   have e2:IntKind.i64.wrap ((i:Int)+1)=((i+1:Nat):Int):=by rw [wrap64 (by omega) (by omega)];simp
   have hv:=SlP.data (G:=G) hp (by omega)
   obtain⟨a,a0,a1,n,w,x,he,hn,hw,g1,g2,g3,g4,g5,g6,g7⟩:=hv.at (k:=.i64) hlt
   have hst:st 2 ([]:Hp).length ([]:Hp).length (.ptr G.length 0) x (G++[Blk.cells 221 [.d (.str []),.d (.str [])]])=some (G++[.cells 221 [.d (.str n),.d (.str w)]]):=by
    have h:=st_new (lim:=0) (ro:=0) (n:=2) (off:=0) (ty:=221) (G:=G) (cs:=[.d (.str []),.d (.str [])]) (v:=x) (by rw [g3];rfl) (by simp) (by rw [g3];rfl) (Nat.zero_le _) (Nat.zero_le _)
    rw [g3] at h;exact h
   generalize hX:G++[Blk.cells 221 [.d (.str n),.d (.str w)]]=X at hst
   have hX0:X[0]? = some (Blk.cells 69 [.d (.str t),.d (.str s),.d (.lst ps)]):=by rw [← hX];exact get_app _ hG
   have hXl:X[G.length]? = some (Blk.cells 221 [.d (.str n),.d (.str w)]):=by rw [← hX];simp
   have l0:ld1 (.ptr G.length 0) X=some (.d (.str n)):=by rw [ld1_cells hXl];rfl
   have l1:ld1 (.ptr G.length 1) X=some (.d (.str w)):=by rw [ld1_cells hXl];rfl
   have l2:ldN 3 (.ptr 0 0) X=some (.agg [.d (.str t),.d (.str s),.d (.lst ps)]):=by rw [ldN_cells hX0 (by simp)];rfl
   have r1:=s469 (lim:=([]:Hp).length) (ro:=([]:Hp).length) (H:=X) hS n hn
   have r2:=s277 (lim:=([]:Hp).length) (ro:=([]:Hp).length) (H:=X) hS (j446 hS) w (by omega)
   obtain⟨q,r3,_,_⟩:=s443 (lim:=([]:Hp).length) (ro:=([]:Hp).length) (H:=X) (m:=.agg [.d (.str t),.d (.str s),.d (.lst ps)]) (nm:=n) hS rfl rfl (SlP.data hp (by omega))
   cases hc1:(tok n && decide (n.map lowB=n)) with
   | false=>
    rw [hc1] at r1
    refine⟨X,hX0,.ret,i,loopW_done ?_,.inl rfl⟩
    rw [B445_0]
    simp only [iBin_lss,Option.bind_some,br3_bool,e1,if_true,g1,g2,hst,g445_0,l0,r1,liftR_val,iUn_not,Bool.not_false,brN3_bool,g445_1]
   | true=>
    rw [hc1] at r1
    cases hc2:w.all bQuoted with
    | false=>
     rw [hc2] at r2
     refine⟨X,hX0,.ret,i,loopW_done ?_,.inl rfl⟩
     rw [B445_0]
     simp only [iBin_lss,Option.bind_some,br3_bool,e1,if_true,g1,g2,hst,g445_0,l0,r1,liftR_val,iUn_not,Bool.not_true,brN3_bool,Bool.false_eq_true,if_false,g445_2,l1,r2,Bool.not_false,g445_3]
    | true=>
     rw [hc2] at r2
     cases hc3:decide (q≠(i:Int)) with
     | true=>
      refine⟨X,hX0,.ret,i,loopW_done ?_,.inl rfl⟩
      rw [B445_0]
      simp only [iBin_lss,Option.bind_some,br3_bool,e1,if_true,g1,g2,hst,g445_0,l0,r1,liftR_val,iUn_not,Bool.not_true,brN3_bool,Bool.false_eq_true,if_false,g445_2,l1,r2,l2,g445_4,r3,iBin_neq,hc3]
     | false=>
      obtain⟨G',hG',x',j,hl',hx'⟩:=ih (i+1) X (by omega) hX0
      refine⟨G',hG',x',j,loopW_next ?_ hl',hx'⟩
      rw [B445_0]
      simp only [iBin_lss,Option.bind_some,br3_bool,e1,if_true,g1,g2,hst,g445_0,l0,r1,liftR_val,iUn_not,Bool.not_true,brN3_bool,Bool.false_eq_true,if_false,g445_2,l1,r2,l2,g445_4,r3,iBin_neq,hc3,iBin_add,e2]
 obtain⟨G',hG',x,j,hloop,hx⟩:=key ps.length 0 ([]++[Blk.cells 69 [.d (.str t),.d (.str s),.d (.lst ps)]]) (by omega) rfl
 have e1:ld1 (.ptr ([]:Hp).length 2) ([]++[Blk.cells 69 [.d (.str t),.d (.str s),.d (.lst ps)]]:Hp)=some (.d (.lst ps)):=rfl
 have hloop':loopW (stepL (C445 (run sys) 0 0 []) [1,2,6,7,8] (cd 445 [1,0,1,0,0])) (E445 (.ptr ([]:Hp).length 0) (.d (.bool false)) (.d (.lst ps)) (.d (.int .i64 (ps.length:Nat))) (.d (.int .i64 0)),([]++[Blk.cells 69 [.d (.str t),.d (.str s),.d (.lst ps)]]:Hp))=_:=hloop
 rcases hx with rfl | rfl
 ·refine⟨false,runP hS rfl (by kernel_rfl) rfl ?_⟩
  rw [R445]
  simp only [box_mim,Option.bind_some,padd_ptr,Nat.zero_add,e1,lnV_lst,hloop',K445_0r,fin_pure_d]
 ·have l0:ld1 (.ptr 0 0) G'=some (.d (.str t)):=by rw [ld1_cells hG'];rfl
  have l1:ld1 (.ptr 0 1) G'=some (.d (.str s)):=by rw [ld1_cells hG'];rfl
  have r1:=s469 (lim:=([]:Hp).length) (ro:=([]:Hp).length) (H:=G') hS t ht
  have r2:=s469 (lim:=([]:Hp).length) (ro:=([]:Hp).length) (H:=G') hS s hs
  refine⟨(tok t && decide (t.map lowB=t)) && (tok s && decide (s.map lowB=s)),runP hS rfl (by kernel_rfl) rfl ?_⟩
  rw [R445]
  simp only [box_mim,Option.bind_some,padd_ptr,Nat.zero_add,e1,lnV_lst,hloop',K445_0x0,g445_5,l0,r1,liftR_val]
  cases hc:(tok t && decide (t.map lowB=t)) with
  | false=>simp only [brN3_bool,Bool.false_eq_true,if_false,g445_7,fin_pure_d,Bool.false_and]
  | true=>simp only [brN3_bool,if_true,padd_ptr,Nat.zero_add,Option.bind_some,g445_6,l1,r2,liftR_val,fin_pure_d,Bool.true_and]
end Go.Tg
namespace Go.Tg
variable [Globs] {lim ro:Nat} {H:Hp}
theorem ib_par (n:List UInt8):iBuild P 110 [(0,.d (.str n))]=some (.agg [.d (.str n),.d (.str [])]):=by kernel_rfl
theorem ib_mim (n:List UInt8):iBuild P 34 [(0,.d (.str n))]=some (.agg [.d (.str n),.d (.str []),.vnil]):=by kernel_rfl
theorem bs_par (n w:List UInt8) (G:Hp):iBuildSlice P 32 1 [(0,.agg [.d (.str n),.d (.str w)])] G=some (.vec G.length 2 0 1,G++[.cells 220 [.d (.str n),.d (.str w)]]):=by
 have e:P.underlying 32=some (.slice 110):=by kernel_rfl
 have e2:sizeT P 110=some 2:=by kernel_rfl
 have e3:zeroT P 110=some (.agg [.d (.str []),.d (.str [])]):=by kernel_rfl
 unfold iBuildSlice;rw [e];simp only [e2,e3];rfl
section
variable {K:Hp} {A B:Blk}
theorem two_get0:(K++[A,B])[K.length]? = some A:=by simp
theorem two_get1:(K++[A,B])[K.length+1]? = some B:=by simp
theorem two_set0 (y:Blk):(K++[A,B]).set K.length y=K++[y,B]:=by simp
theorem two_set1 (y:Blk):(K++[A,B]).set (K.length+1) y=K++[A,y]:=by simp
end
theorem par_end {K:Hp} {B:Blk} {ty:Nat} {a1 a2:IV} (n v:List UInt8) (y:D) (hr:ro≤K.length) :
  ((
   st 2 K.length ro (.ptr K.length 0) (.agg [.d (.str n),.d (.str v)]) (K++[.cells ty [a1,a2],B])).bind λh=>((ldN 2 (.ptr K.length 0) h).bind λv22=>(some [.d y]:Option (List IV)).map λl=>v22::l).bind λl=>fin .mut K ro l h) =
   some (.val (.tup [.d (.agg [.str n,.str v]),.d y]),K):=by
 have e1:st 2 K.length ro (.ptr K.length 0) (.agg [.d (.str n),.d (.str v)]) (K++[.cells ty [a1,a2],B])=some (K++[.cells ty [.d (.str n),.d (.str v)],B]):=by
  rw [st_cells (n:=2) (v:=.agg [.d (.str n),.d (.str v)]) (cs:=[a1,a2]) (ty:=ty) two_get0 rfl (by simp) rfl hr (.inl (Nat.le_refl _)),two_set0];rfl
 have e2:ldN 2 (.ptr K.length 0) (K++[.cells ty [.d (.str n),.d (.str v)],B])=some (.agg [.d (.str n),.d (.str v)]):=by
  rw [ldN_cells two_get0 (by simp)];rfl
 have e3:frzRs ro [.agg [.d (.str n),.d (.str v)],.d y] (K++[.cells ty [.d (.str n),.d (.str v)],B])=some ([.d (.agg [.str n,.str v]),.d y],K++[.cells ty [.d (.str n),.d (.str v)],B]):=rfl
 simp only [e1,Option.bind_some,e2,Option.map_some,fin,e3,oneOf]
 simp
theorem s442 (hS:SysOK sys) {b at_:Nat} {s:List UInt8} (h:H[b]? = some (curB s at_)) (hr:ro≤b) (ha:at_≤s.length) (hs:s.length<2 ^ 34) :
  ∃ n v ok m,run sys lim ro 442 [.ptr b 0] H=some (.val (.tup [.d (.agg [.str n,.str v]),.d (.bool ok)]),H.set b (curB s m))∧at_≤m∧m≤s.length∧n.length≤s.length∧v.length≤s.length:=by
 have e:tab.mode 442=.mut:=by kernel_rfl
 have hb:=get_lt h
 have hlen:∀ c,(H.set b c).length=H.length:=λc=>by simp
 obtain⟨w1,n1,r1,_,_,h1⟩:=c331 (lim:=H.length) (X:=[Blk.cells 221 [.d (.str []),.d (.str [])]]) hb hr ha hs hS (j332 hS)
 obtain⟨w2,n2,r2,hw2,hn2,h2⟩:=c334 (lim:=H.length) (X:=[Blk.cells 221 [.d (.str []),.d (.str [])]]) hb hr h1 hs hS [59,61]
 have hw2l:w2.length≤s.length:=by omega
 have r3:=s351 (lim:=H.length) (ro:=ro) (H:=H.set b (curB s (at_+n1+n2))++[Blk.cells 221 [.d (.str []),.d (.str [])]]) hS w2 (by omega)
 have hst:=st_new (lim:=H.length) (ro:=ro) (n:=2) (off:=0) (ty:=221) (G:=H.set b (curB s (at_+n1+n2))++[Blk.cells 221 [.d (.str []),.d (.str [])]]) (cs:=[.d (.str []),.d (.str [])]) (v:=.agg [.d (.str (w2.map lowB)),.d (.str [])]) rfl (by simp) rfl (by simp;omega) (by simp)
 have hnl:(w2.map lowB).length≤s.length:=by rw [List.length_map];exact hw2l
 generalize hnm:w2.map lowB=nm at *
 have hst':st 2 H.length ro (.ptr (H.set b (curB s (at_+n1+n2))++[Blk.cells 221 [.d (.str []),.d (.str [])]]).length 0) (.agg [.d (.str nm),.d (.str [])]) (H.set b (curB s (at_+n1+n2))++[Blk.cells 221 [.d (.str []),.d (.str [])]]++[Blk.cells 221 [.d (.str []),.d (.str [])]])=some (H.set b (curB s (at_+n1+n2))++[Blk.cells 221 [.d (.str []),.d (.str [])],Blk.cells 221 [.d (.str nm),.d (.str [])]]):=by
  rw [hst,List.append_assoc];rfl
 have h0:H++[Blk.cells 221 [.d (.str []),.d (.str [])]]=H.set b (curB s at_)++[Blk.cells 221 [.d (.str []),.d (.str [])]]:=by rw [← cu_self h]
 have hl6:(H.set b (curB s (at_+n1+n2))++[Blk.cells 221 [.d (.str []),.d (.str [])]]).length=H.length+1:=by simp
 rw [hl6] at hst'
 have hend:∀ (m:Nat) (B:Blk) (v:List UInt8) (y:D),((st 2 H.length ro (.ptr H.length 0) (.agg [.d (.str nm),.d (.str v)]) (H.set b (curB s m)++[.cells 221 [.d (.str []),.d (.str [])],B])).bind λh=>((ldN 2 (.ptr H.length 0) h).bind λv22=>(some [.d y]:Option (List IV)).map λl=>v22::l).bind λl=>fin .mut H ro l h) =
   some (.val (.tup [.d (.agg [.str nm,.str v]),.d y]),H.set b (curB s m)):=by
  intro m B v y
  have:=par_end (ro:=ro) (K:=H.set b (curB s m)) (B:=B) (ty:=221) (a1:=.d (.str [])) (a2:=.d (.str [])) nm v y (by simp;omega)
  simp only [hlen] at this
  have hf:∀ l h,fin .mut (H.set b (curB s m)) ro l h=fin .mut H ro l h:=λl h=>by unfold fin;simp only [hlen]
  simp only [hf] at this
  exact this
 have hld:∀ (m:Nat) (v:List UInt8),ldN 2 (.ptr (H.length+1) 0) (H.set b (curB s m)++[.cells 221 [.d (.str []),.d (.str [])],.cells 221 [.d (.str nm),.d (.str v)]])=some (.agg [.d (.str nm),.d (.str v)]):=by
  intro m v
  have hg:(H.set b (curB s m)++[.cells 221 [.d (.str []),.d (.str [])],.cells 221 [.d (.str nm),.d (.str v)]])[H.length+1]? = some (.cells 221 [.d (.str nm),.d (.str v)]):=by
   have:=two_get1 (K:=H.set b (curB s m)) (A:=.cells 221 [.d (.str []),.d (.str [])]) (B:=.cells 221 [.d (.str nm),.d (.str v)])
   rwa [hlen] at this
  rw [ldN_cells hg (by simp)];rfl
 rcases c317 (lim:=H.length) (X:=[Blk.cells 221 [.d (.str []),.d (.str [])],Blk.cells 221 [.d (.str nm),.d (.str [])]]) hb hr h2 hs hS 61 with ⟨rr,hd4,h4,_,r4⟩ | ⟨_,r4⟩
 ·obtain⟨en,r5⟩:=c382 (lim:=H.length) (X:=[Blk.cells 221 [.d (.str []),.d (.str [])],Blk.cells 221 [.d (.str nm),.d (.str [])]]) hb hr h4 hs hS
  cases en with
  | true=>
   refine⟨nm,[],false,_,runB hS rfl (λh=>by rw [e] at h;cases h) ?_,?_,h4,hnl,by simp⟩
   ·rw [R442,h0]
    simp only [r1,liftR_val,r2,r3,ib_par,Option.bind_some,hst',g442_0,r4,iUn_not,Bool.not_true,brN3_bool,Bool.false_eq_true,if_false,g442_2,r5,br3_bool,if_true,hl6,hld]
    exact hend _ _ _ _
   ·omega
  | false=>
   obtain⟨v,ok,m,r6,hm1,hm2,hv⟩:=c466 (lim:=H.length) (X:=[Blk.cells 221 [.d (.str []),.d (.str [])],Blk.cells 221 [.d (.str nm),.d (.str [])]]) hb hr h4 hs hS
   have hst2:st 1 H.length ro (.ptr (H.length+1) 1) (.d (.str v)) (H.set b (curB s m)++[.cells 221 [.d (.str []),.d (.str [])],.cells 221 [.d (.str nm),.d (.str [])]])=some (H.set b (curB s m)++[.cells 221 [.d (.str []),.d (.str [])],.cells 221 [.d (.str nm),.d (.str v)]]):=by
    have hg:(H.set b (curB s m)++[.cells 221 [.d (.str []),.d (.str [])],.cells 221 [.d (.str nm),.d (.str [])]])[H.length+1]? = some (.cells 221 [.d (.str nm),.d (.str [])]):=by
     have:=two_get1 (K:=H.set b (curB s m)) (A:=.cells 221 [.d (.str []),.d (.str [])]) (B:=.cells 221 [.d (.str nm),.d (.str [])])
     rwa [hlen] at this
    have hset:=two_set1 (K:=H.set b (curB s m)) (A:=.cells 221 [.d (.str []),.d (.str [])]) (B:=.cells 221 [.d (.str nm),.d (.str [])]) (.cells 221 [.d (.str nm),.d (.str v)])
    rw [hlen] at hset
    rw [st_cells (n:=1) (off:=1) (v:=.d (.str v)) hg rfl (by simp) rfl (by omega) (.inl (by omega))]
    exact congrArg some hset
   have hl1:ld1 (.ptr (H.length+1) 0) (H.set b (curB s m)++[.cells 221 [.d (.str []),.d (.str [])],.cells 221 [.d (.str nm),.d (.str v)]])=some (.d (.str nm)):=by
    have hg:(H.set b (curB s m)++[.cells 221 [.d (.str []),.d (.str [])],.cells 221 [.d (.str nm),.d (.str v)]])[H.length+1]? = some (.cells 221 [.d (.str nm),.d (.str v)]):=by
     have:=two_get1 (K:=H.set b (curB s m)) (A:=.cells 221 [.d (.str []),.d (.str [])]) (B:=.cells 221 [.d (.str nm),.d (.str v)])
     rwa [hlen] at this
    rw [ld1_cells hg];rfl
   have r7:=s441 (lim:=H.length) (ro:=ro) (H:=H.set b (curB s m)++[.cells 221 [.d (.str []),.d (.str [])],.cells 221 [.d (.str nm),.d (.str v)]]) hS nm (by omega)
   have r8:=s277 (lim:=H.length) (ro:=ro) (H:=H.set b (curB s m)++[.cells 221 [.d (.str []),.d (.str [])],.cells 221 [.d (.str nm),.d (.str v)]]) hS (j446 hS) v (by omega)
   cases ok with
   | false=>
    refine⟨nm,v,false,m,runB hS rfl (λh=>by rw [e] at h;cases h) ?_,by omega,hm2,hnl,hv⟩
    rw [R442,h0]
    simp only [r1,liftR_val,r2,r3,ib_par,Option.bind_some,hst',g442_0,r4,iUn_not,Bool.not_true,brN3_bool,Bool.false_eq_true,if_false,g442_2,r5,br3_bool,hl6,r6,extract_tup,List.getElem?_cons_zero,List.getElem?_cons_succ,hst2,g442_3,hld,g442_5]
    exact hend _ _ _ _
   | true=>
    cases ht:tok nm with
    | false=>
     rw [ht] at r7
     refine⟨nm,v,false,m,runB hS rfl (λh=>by rw [e] at h;cases h) ?_,by omega,hm2,hnl,hv⟩
     rw [R442,h0]
     simp only [r1,liftR_val,r2,r3,ib_par,Option.bind_some,hst',g442_0,r4,iUn_not,Bool.not_true,brN3_bool,Bool.false_eq_true,if_false,if_true,g442_2,r5,br3_bool,hl6,r6,extract_tup,List.getElem?_cons_zero,List.getElem?_cons_succ,hst2,g442_3,hld,g442_4,hl1,r7,g442_7]
     exact hend _ _ _ _
    | true=>
     rw [ht] at r7
     refine⟨nm,v,v.all bQuoted,m,runB hS rfl (λh=>by rw [e] at h;cases h) ?_,by omega,hm2,hnl,hv⟩
     rw [R442,h0]
     simp only [r1,liftR_val,r2,r3,ib_par,Option.bind_some,hst',g442_0,r4,iUn_not,Bool.not_true,brN3_bool,Bool.false_eq_true,if_false,if_true,g442_2,r5,br3_bool,hl6,r6,extract_tup,List.getElem?_cons_zero,List.getElem?_cons_succ,hst2,g442_3,hld,g442_4,hl1,r7,g442_6,r8]
     exact hend _ _ _ _
 ·refine⟨nm,[],false,_,runB hS rfl (λh=>by rw [e] at h;cases h) ?_,?_,h2,hnl,by simp⟩
  ·rw [R442,h0]
   simp only [r1,liftR_val,r2,r3,ib_par,Option.bind_some,hst',g442_0,r4,iUn_not,Bool.not_false,brN3_bool,if_true,g442_1,hl6,hld]
   exact hend _ _ _ _
  ·omega
def parseT (s:List UInt8):Option (List UInt8×List UInt8):=
 let u:=trimL bWhite s
 let t:=u.takeWhile (λx=>!([47]:List UInt8).contains x)
 let q:=endL bWhite ((u.drop (t.length+1)).takeWhile λx=>!([59]:List UInt8).contains x)
 if t.length<u.length∧tok t=true∧tok q=true then some (t.map lowB,q.map lowB) else none
theorem tok_low (s:List UInt8):tok (s.map lowB)=tok s:=by
 unfold tok
 have:(s.map lowB).all bToken=s.all bToken:=by
  rw [List.all_map]
  congr 1
  funext b;exact token_low b
 rw [this];cases s <;> rfl
theorem trimL_length (p:UInt8→Bool) (s:List UInt8):(trimL p s).length≤s.length:=
 Nat.le_trans (List.dropWhile_sublist _).length_le (endL_length p s)
structure PI (G:Hp) (u:List UInt8) (at_:Nat) (t q:List UInt8) (v:IV) (ps:List D):Prop where
 zero:∃ cs,G[0]? = some (.cells 69 cs)∧cs.length=3
 cur:G[1]? = some (curB u at_)
 mim:G[2]? = some (.cells 69 [.d (.str t),.d (.str q),v])
 acc:Acc 110 2 0 G v ps
 own:∀ j,ownB v=some j→3≤j
 par:ParL ps
 len:ps.length≤at_
theorem Acc.vone {ty sz ro:Nat} {G:Hp} {v:IV} {els:List D} (h:Acc ty sz ro G v els):v.one=true∧v.cells=[v]:=by
 rcases h.2 with ⟨h1,_⟩ | ⟨b,_,h1,_⟩ <;> subst h1 <;> exact⟨rfl,rfl⟩
theorem loop411 (hS:SysOK sys) {u t q:List UInt8} (hu:u.length<2 ^ 25):∀ (k at_:Nat) (G:Hp) (v:IV) (ps:List D),u.length - at_<k→at_≤u.length→PI G u at_ t q v ps →
  ∃ G' v' ps' n,loopW (stepL (C411 (run sys) 0 0 []) [2,4,5] (cd 411 [1,1,1,1,1,1,0,0,0])) (E411 (.ptr 0 0) (.ptr 1 0) (.ptr 2 0),G)=some (.exi 0,E411 (.ptr 0 0) (.ptr 1 0) (.ptr 2 0),G')∧PI G' u n t q v' ps'∧n≤u.length:=by
 intro k
 induction k with
 | zero=>intro at_ G v ps h;omega
 | succ k ih=>
  intro at_ G v ps hk ha hI
  obtain⟨⟨z,hz,hzl⟩,hc,hm,hA,ho,hp,hl⟩:=hI
  have hlen:3≤G.length:=by have:=get_lt hm;omega
  have hG:G=G.set 1 (curB u at_)++[]:=by rw [List.append_nil];exact cu_self hc
  have hr:=c317 (lim:=0) (ro:=0) (H:=G) (X:=[]) (at_:=at_) (s:=u) (b:=1) (by omega) (Nat.zero_le _) ha (by omega) hS 59
  rw [← hG] at hr
  simp only [List.append_nil] at hr
  rcases hr with ⟨rr,hd,h1,_,hr⟩ | ⟨_,hr⟩
  ·have hc1:(G.set 1 (curB u (at_+1)))[1]? = some (curB u (at_+1)):=set_get hc
   obtain⟨n,w,ok,m,r2,hm1,hm2,hnl,hwl⟩:=s442 (lim:=0) (ro:=0) hS hc1 (Nat.zero_le _) h1 (by omega)
   rw [List.set_set] at r2
   generalize hG2:G.set 1 (curB u m)=G2 at r2
   have hG2l:G2.length=G.length:=by rw [← hG2];simp
   have gk:∀ i,i≠1→G2[i]? = G[i]?:=λi hi=>by rw [← hG2];exact List.getElem?_set_ne (Ne.symm hi)
   have hst:=st_new (lim:=0) (ro:=0) (n:=2) (off:=0) (ty:=221) (G:=G2) (cs:=[.d (.str []),.d (.str [])]) (v:=.d (.agg [.str n,.str w])) rfl (by simp) rfl (Nat.zero_le _) (Nat.zero_le _)
   have hst':st 2 0 0 (.ptr G2.length 0) (.d (.agg [.str n,.str w])) (G2++[Blk.cells 221 [.d (.str []),.d (.str [])]])=some (G2++[Blk.cells 221 [.d (.str n),.d (.str w)]]):=hst
   generalize hX:G2++[Blk.cells 221 [.d (.str n),.d (.str w)]]=X at hst'
   have hXk:∀ i,i<G2.length→X[i]? = G2[i]?:=λi hi=>by rw [← hX];exact List.getElem?_append_left hi
   have hXl:X[G2.length]? = some (Blk.cells 221 [.d (.str n),.d (.str w)]):=by rw [← hX];simp
   have hXlen:X.length=G2.length+1:=by rw [← hX];simp
   have x0:X[0]? = some (.cells 69 z):=by rw [hXk 0 (by omega),gk 0 (by decide)];exact hz
   have x1:X[1]? = some (curB u m):=by rw [hXk 1 (by omega),← hG2];exact set_get hc
   have x2:X[2]? = some (.cells 69 [.d (.str t),.d (.str q),v]):=by rw [hXk 2 (by omega),gk 2 (by decide)];exact hm
   have xA:Acc 110 2 0 X v ps:=hA.keep (λb hb=>by
    have h3:=ho b hb
    have h4:=(hA.own_lt hb).1
    rw [hXk b (by omega),gk b (by omega)])
   have hIX:PI X u m t q v ps:=⟨⟨z,x0,hzl⟩,x1,x2,xA,ho,hp,by omega⟩
   cases ok with
   | false=>
    obtain⟨G',v',ps',n',hloop,hres⟩:=ih m X v ps (by omega) hm2 hIX
    refine⟨G',v',ps',n',loopW_next ?_ hloop,hres⟩
    rw [B411_0]
    simp only [List.length_nil,hr,liftR_val,br3_bool,if_true,r2,extract_tup,List.getElem?_cons_zero,List.getElem?_cons_succ,Option.bind_some,hst',g411_5,brN3_bool,Bool.false_eq_true,if_false,g411_7]
   | true=>
    have l3:ldN 3 (.ptr 2 0) X=some (.agg [.d (.str t),.d (.str q),v]):=by rw [ldN_cells x2 (by simp)];rfl
    have l4:ld1 (.ptr G2.length 0) X=some (.d (.str n)):=by rw [ld1_cells hXl];rfl
    have l5:ld1 (.ptr 2 2) X=some v:=by rw [ld1_cells x2];rfl
    have l6:ldN 2 (.ptr G2.length 0) X=some (.agg [.d (.str n),.d (.str w)]):=by rw [ldN_cells hXl (by simp)];rfl
    obtain⟨kk,r3,_,_⟩:=s443 (lim:=0) (ro:=0) (H:=X) (m:=.agg [.d (.str t),.d (.str q),v]) (nm:=n) hS rfl hA.vone.1 ⟨hp,by omega,.inr ⟨110,0,xA⟩⟩
    cases hk3:decide (kk<0) with
    | false=>
     obtain⟨G',v',ps',n',hloop,hres⟩:=ih m X v ps (by omega) hm2 hIX
     refine⟨G',v',ps',n',loopW_next ?_ hloop,hres⟩
     rw [B411_0]
     simp only [List.length_nil,hr,liftR_val,br3_bool,if_true,r2,extract_tup,List.getElem?_cons_zero,List.getElem?_cons_succ,Option.bind_some,hst',g411_5,brN3_bool,l3,g411_6,l4,r3,iBin_lss,hk3,Bool.false_eq_true,if_false]
    | true=>
     obtain⟨v1,G3,hpush,hA1,hle,hkeep,b',hb',hb1,hb2⟩:=xA.push (e:=.agg [.str n,.str w]) (OkE.agg rfl (by decide)) (Nat.zero_le _) (by omega)
     have hpush':app 110 2 0 v (.vec X.length 2 0 1) (X++[.cells 220 [.d (.str n),.d (.str w)]])=some (v1,G3):=hpush
     have g2:G3[2]? = some (.cells 69 [.d (.str t),.d (.str q),v]):=by rw [hkeep 2 (by omega) (λe=>by have:=ho 2 e;omega)];exact x2
     have v1one:=hA1.vone
     have hst3:st 1 0 0 (.ptr 2 2) v1 G3=some (G3.set 2 (.cells 69 [.d (.str t),.d (.str q),v1])):=by
      rw [st_cells (n:=1) (off:=2) g2 (by rw [v1one.2];rfl) (by simp) (by rw [v1one.2];simp [v1one.1]) (Nat.zero_le _) (.inl (Nat.zero_le _)),v1one.2]
      rfl
     have hI3:PI (G3.set 2 (.cells 69 [.d (.str t),.d (.str q),v1])) u m t q v1 (ps++[.agg [.str n,.str w]]):=by
      refine⟨⟨z,?_,hzl⟩,?_,set_get g2,hA1.keep (λb hb=>List.getElem?_set_ne (by rw [hb'] at hb;cases hb;omega)),λj hj=>by rw [hb'] at hj;cases hj;omega,?_,?_⟩
      ·rw [List.getElem?_set_ne (by decide),hkeep 0 (by omega) (λe=>by have:=ho 0 e;omega)];exact x0
      ·rw [List.getElem?_set_ne (by decide),hkeep 1 (by omega) (λe=>by have:=ho 1 e;omega)];exact x1
      ·intro e he
       rcases List.mem_append.1 he with h | h
       ·exact hp e h
       ·exact⟨n,w,List.mem_singleton.1 h,by omega,by omega⟩
      ·simp;omega
     obtain⟨G',v',ps',n',hloop,hres⟩:=ih m _ v1 _ (by omega) hm2 hI3
     refine⟨G',v',ps',n',loopW_next ?_ hloop,hres⟩
     rw [B411_0]
     simp only [List.length_nil,hr,liftR_val,br3_bool,if_true,r2,extract_tup,List.getElem?_cons_zero,List.getElem?_cons_succ,Option.bind_some,hst',g411_5,brN3_bool,l3,g411_6,l4,r3,iBin_lss,hk3,padd_ptr,Nat.zero_add,l5,l6,bs_par,hpush',hst3]
  ·refine⟨G,v,ps,at_,loopW_done ?_,⟨⟨z,hz,hzl⟩,hc,hm,hA,ho,hp,hl⟩,ha⟩
   rw [B411_0]
   simp only [List.length_nil,hr,liftR_val,br3_bool,Bool.false_eq_true,if_false]
theorem s411 (hS:SysOK sys) (s:List UInt8) (hs:s.length<2 ^ 25):∃ ps,ParL ps∧ps.length≤s.length∧run sys lim ro 411 [.d (.str s)] H =
  some (.val (match parseT s with | some r=>.tup [.d (mimD r.1 r.2 ps),.d (.int .i64 0)] | none=>.tup [.d (mimD [] [] []),.d (.int .i64 2)]),H):=by
 have hul:=trimL_length bWhite s
 unfold parseT
 generalize hu:trimL bWhite s=u at hul
 simp only
 have r1:=λG=>s279 (lim:=0) (ro:=0) (H:=G) hS s (by omega)
 rw [hu] at r1
 have r2:=s254 (lim:=0) (ro:=0) (H:=[Blk.cells 69 [.d (.str []),.d (.str []),.vnil]]) hS u
 have hc0:([Blk.cells 69 [.d (.str []),.d (.str []),.vnil],curB u 0]:Hp)[1]? = some (curB u 0):=rfl
 have r3:=s334 (lim:=0) (ro:=0) hS [47] hc0 (Nat.zero_le _) (Nat.zero_le _) (by omega)
 simp only [List.drop_zero,Nat.zero_add] at r3
 have htl:=takeWhile_len_le (λx=>!([47]:List UInt8).contains x) u
 generalize ht:u.takeWhile (λx=>!([47]:List UInt8).contains x)=t at r3 htl
 have r4:=λG=>s351 (lim:=0) (ro:=0) (H:=G) hS t (by omega)
 have r3':run sys 0 0 334 [.ptr 1 0,.d (.str [47])] [Blk.cells 69 [.d (.str []),.d (.str []),.vnil],curB u 0]=some (.val (.d (.str t)),[Blk.cells 69 [.d (.str []),.d (.str []),.vnil],curB u t.length]):=r3
 have hst:st 3 0 0 (.ptr 2 0) (.agg [.d (.str (t.map lowB)),.d (.str []),.vnil]) [Blk.cells 69 [.d (.str []),.d (.str []),.vnil],curB u t.length,Blk.cells 69 [.d (.str []),.d (.str []),.vnil]] =
   some [Blk.cells 69 [.d (.str []),.d (.str []),.vnil],curB u t.length,Blk.cells 69 [.d (.str (t.map lowB)),.d (.str []),.vnil]]:=rfl
 have hcm:∀ m,([Blk.cells 69 [.d (.str []),.d (.str []),.vnil],curB u m,Blk.cells 69 [.d (.str (t.map lowB)),.d (.str []),.vnil]]:Hp)[1]? = some (curB u m):=λ_=>rfl
 have r5:=s317 (lim:=0) (ro:=0) hS 47 (hcm t.length) (Nat.zero_le _) htl (by omega)
 have hset:∀ m m',([Blk.cells 69 [.d (.str []),.d (.str []),.vnil],curB u m,Blk.cells 69 [.d (.str (t.map lowB)),.d (.str []),.vnil]]:Hp).set 1 (curB u m')=[Blk.cells 69 [.d (.str []),.d (.str []),.vnil],curB u m',Blk.cells 69 [.d (.str (t.map lowB)),.d (.str []),.vnil]]:=λ_ _=>rfl
 rw [hset] at r5
 have hdrop:=drop_dropWhile (λx=>!([47]:List UInt8).contains x) u
 rw [ht] at hdrop
 by_cases hlt:t.length<u.length
 ·
  have hne:u.drop t.length≠[]:=by
   intro h
   have:=congrArg List.length h
   simp at this;omega
  have hx:=List.head_dropWhile_not (λx=>!([47]:List UInt8).contains x) (l:=u) (by rw [← hdrop];exact hne)
  have hdc:=List.drop_eq_getElem_cons hlt
  have hget:u[t.length]=47:=by
   have h2:(u.dropWhile (λx=>!([47]:List UInt8).contains x)).head (by rw [← hdrop];exact hne)=u[t.length]:=by
    simp only [← hdrop,hdc,List.head_cons]
   rw [h2] at hx
   simpa using hx
  rw [hget] at hdc
  have hp:([47]:List UInt8).isPrefixOf (u.drop t.length)=true:=by rw [hdc];simp
  rw [hp,if_pos rfl] at r5
  have r6:=s334 (lim:=0) (ro:=0) hS [59] (hcm (t.length+1)) (Nat.zero_le _) hlt (by omega)
  rw [hset] at r6
  have hql:=takeWhile_len_le (λx=>!([59]:List UInt8).contains x) (u.drop (t.length+1))
  generalize hq0:(u.drop (t.length+1)).takeWhile (λx=>!([59]:List UInt8).contains x)=q0 at r6 hql
  simp only [List.length_drop] at hql
  have hql2:=endL_length bWhite q0
  have r7:=λG=>s440 (lim:=0) (ro:=0) (H:=G) hS q0 (by omega)
  have r8:=λG=>s351 (lim:=0) (ro:=0) (H:=G) hS (endL bWhite q0) (by omega)
  generalize hq:endL bWhite q0=q at r7 r8 hql2
  have hst2:st 1 0 0 (.ptr 2 1) (.d (.str (q.map lowB))) [Blk.cells 69 [.d (.str []),.d (.str []),.vnil],curB u (t.length+1+q0.length),Blk.cells 69 [.d (.str (t.map lowB)),.d (.str []),.vnil]] =
    some [Blk.cells 69 [.d (.str []),.d (.str []),.vnil],curB u (t.length+1+q0.length),Blk.cells 69 [.d (.str (t.map lowB)),.d (.str (q.map lowB)),.vnil]]:=rfl
  have r9:=λG=>s441 (lim:=0) (ro:=0) (H:=G) hS (t.map lowB) (by simp;omega)
  have r10:=λG=>s441 (lim:=0) (ro:=0) (H:=G) hS (q.map lowB) (by simp;omega)
  simp only [tok_low] at r9 r10
  have l1:ld1 (.ptr 2 0) [Blk.cells 69 [.d (.str []),.d (.str []),.vnil],curB u (t.length+1+q0.length),Blk.cells 69 [.d (.str (t.map lowB)),.d (.str (q.map lowB)),.vnil]]=some (.d (.str (t.map lowB))):=rfl
  have l2:ld1 (.ptr 2 1) [Blk.cells 69 [.d (.str []),.d (.str []),.vnil],curB u (t.length+1+q0.length),Blk.cells 69 [.d (.str (t.map lowB)),.d (.str (q.map lowB)),.vnil]]=some (.d (.str (q.map lowB))):=rfl
  by_cases htk:tok t=true
  ·by_cases hqk:tok q=true
   ·
    rw [if_pos ⟨hlt,htk,hqk⟩]
    have hI0:PI [Blk.cells 69 [.d (.str []),.d (.str []),.vnil],curB u (t.length+1+q0.length),Blk.cells 69 [.d (.str (t.map lowB)),.d (.str (q.map lowB)),.vnil]] u (t.length+1+q0.length) (t.map lowB) (q.map lowB) .vnil []:=
     ⟨⟨_,rfl,rfl⟩,rfl,rfl,Acc.nil _ _ _ _,λj hj=>(by cases hj),λe he=>(by simp at he),by simp⟩
    obtain⟨G',v',ps,n,hloop,hI,hn⟩:=loop411 hS (by omega) (u.length+1) _ _ _ _ (by omega) (by omega) hI0
    obtain⟨⟨z,hz,hzl⟩,hc,hm,hA,ho,hpl,hpn⟩:=hI
    refine⟨ps,hpl,by omega,runP hS rfl (by kernel_rfl) rfl ?_⟩
    rw [htk] at r9
    rw [hqk] at r10
    have l3:ldN 3 (.ptr 2 0) G'=some (.agg [.d (.str (t.map lowB)),.d (.str (q.map lowB)),v']):=by rw [ldN_cells hm (by simp)];rfl
    have vone:=hA.vone
    have hst3:st 3 0 0 (.ptr 0 0) (.agg [.d (.str (t.map lowB)),.d (.str (q.map lowB)),v']) G'=some (G'.set 0 (.cells 69 [.d (.str (t.map lowB)),.d (.str (q.map lowB)),v'])):=by
     rw [st_cells (n:=3) (off:=0) hz rfl (by omega) (by simp only [IV.cells,List.all_cons,List.all_nil,vone.1,Bool.and_true];rfl) (Nat.zero_le _) (.inl (Nat.zero_le _))]
     obtain⟨a,b,c,rfl⟩:∃ a b c,z=[a,b,c]:=by
      match z,hzl with
      | [a,b,c],_=>exact⟨a,b,c,rfl⟩
     rfl
    have l4:ldN 3 (.ptr 0 0) (G'.set 0 (.cells 69 [.d (.str (t.map lowB)),.d (.str (q.map lowB)),v']))=some (.agg [.d (.str (t.map lowB)),.d (.str (q.map lowB)),v']):=by
     rw [ldN_cells (set_get hz) (by simp)];rfl
    have hAf:Acc 110 2 0 (G'.set 0 (.cells 69 [.d (.str (t.map lowB)),.d (.str (q.map lowB)),v'])) v' ps:=hA.keep (λb hb=>List.getElem?_set_ne (by have:=ho b hb;omega))
    rw [R411]
    simp only [List.length_nil,List.nil_append,r1,liftR_val,r2,List.length_singleton,List.singleton_append,List.cons_append,r3',r4,ib_mim,Option.bind_some,hst,r5,r6,r7,r8,List.length_cons,Nat.zero_add,Nat.reduceAdd,hst2,g411_0,iUn_not,Bool.not_true,brN3_bool,Bool.false_eq_true,if_false,g411_2,l1,r9,g411_4,l2,r10,br3_bool,hloop,K411_0x0,l3,hst3,l4,Option.map_some]
    exact fin_mim2 hAf.frzTo [] _
   ·rw [if_neg (λh=>hqk h.2.2)]
    have hqf:tok q=false:=by simpa using hqk
    rw [htk] at r9
    rw [hqf] at r10
    refine⟨[],λe he=>(by simp at he),by simp,runP hS rfl (by kernel_rfl) rfl ?_⟩
    rw [R411]
    simp only [List.length_nil,List.nil_append,r1,liftR_val,r2,List.length_singleton,List.singleton_append,List.cons_append,r3',r4,ib_mim,Option.bind_some,hst,r5,r6,r7,r8,List.length_cons,Nat.zero_add,Nat.reduceAdd,hst2,g411_0,iUn_not,Bool.not_true,brN3_bool,Bool.false_eq_true,if_false,g411_2,l1,r9,g411_4,l2,r10,br3_bool,Bool.not_false,if_true]
    rfl
  ·rw [if_neg (λh=>htk h.2.1)]
   have htf:tok t=false:=by simpa using htk
   rw [htf] at r9
   refine⟨[],λe he=>(by simp at he),by simp,runP hS rfl (by kernel_rfl) rfl ?_⟩
   rw [R411]
   simp only [List.length_nil,List.nil_append,r1,liftR_val,r2,List.length_singleton,List.singleton_append,List.cons_append,r3',r4,ib_mim,Option.bind_some,hst,r5,r6,r7,r8,List.length_cons,Nat.zero_add,Nat.reduceAdd,hst2,g411_0,iUn_not,Bool.not_true,brN3_bool,Bool.false_eq_true,if_false,g411_2,l1,r9,Bool.not_false,if_true,g411_3]
   rfl
 ·rw [if_neg (λh=>hlt h.1)]
  have hte:t.length=u.length:=by omega
  have hdn:u.drop t.length=[]:=List.drop_eq_nil_of_le (by omega)
  rw [hdn] at r5
  have r5':run sys 0 0 317 [.ptr 1 0,.d (.str [47])] [Blk.cells 69 [.d (.str []),.d (.str []),.vnil],curB u t.length,Blk.cells 69 [.d (.str (t.map lowB)),.d (.str []),.vnil]]=some (.val (.d (.bool false)),[Blk.cells 69 [.d (.str []),.d (.str []),.vnil],curB u t.length,Blk.cells 69 [.d (.str (t.map lowB)),.d (.str []),.vnil]]):=r5
  have r6:=s334 (lim:=0) (ro:=0) hS [59] (hcm t.length) (Nat.zero_le _) htl (by omega)
  rw [hset,hdn] at r6
  have r6':run sys 0 0 334 [.ptr 1 0,.d (.str [59])] [Blk.cells 69 [.d (.str []),.d (.str []),.vnil],curB u t.length,Blk.cells 69 [.d (.str (t.map lowB)),.d (.str []),.vnil]]=some (.val (.d (.str [])),[Blk.cells 69 [.d (.str []),.d (.str []),.vnil],curB u t.length,Blk.cells 69 [.d (.str (t.map lowB)),.d (.str []),.vnil]]):=r6
  have r7:=λG=>s440 (lim:=0) (ro:=0) (H:=G) hS [] (by simp)
  have r8:=λG=>s351 (lim:=0) (ro:=0) (H:=G) hS [] (by simp)
  rw [show endL bWhite []=[] from rfl] at r7
  rw [show ([]:List UInt8).map lowB=[] from rfl] at r8
  have hst2:st 1 0 0 (.ptr 2 1) (.d (.str [])) [Blk.cells 69 [.d (.str []),.d (.str []),.vnil],curB u t.length,Blk.cells 69 [.d (.str (t.map lowB)),.d (.str []),.vnil]] =
    some [Blk.cells 69 [.d (.str []),.d (.str []),.vnil],curB u t.length,Blk.cells 69 [.d (.str (t.map lowB)),.d (.str []),.vnil]]:=rfl
  refine⟨[],λe he=>(by simp at he),by simp,runP hS rfl (by kernel_rfl) rfl ?_⟩
  rw [R411]
  simp only [List.length_nil,List.nil_append,r1,liftR_val,r2,List.length_singleton,List.singleton_append,List.cons_append,r3',r4,ib_mim,Option.bind_some,hst,r5',r6',r7,r8,List.length_cons,Nat.zero_add,Nat.reduceAdd,hst2,g411_0,iUn_not,Bool.not_false,brN3_bool,if_true,g411_1]
  rfl
end Go.Tg
