/- A part of the proof: 15 texts joined. -/
import Derived.Test.YtpmoioopjbfhkaaGreatWeA8
import Derived.Test.YtpmoioopjbfhkaaGreatWeA7
import Derived.KernelRfl
import Derived.Test.YtpmoioopjbfhkaaGreatWeA5
import Derived.Lib.AppendZerosOnto
import Derived.Lib.SliceRun
import Derived.Test.YtpmoioopjbfhkaaGreatWeA6
set_option linter.all false
namespace Go.Proofs.YtpmoioopjbfhkaaGreat
open Go.RowKit
theorem ownS_p {s:RosterState} (h:s.Items.length≤100∧s.Gone.length≤100):p_roster_State_own s=some s:=by
 unfold p_roster_State_own clone?
 rw [if_pos (by omega),Option.bind_some,if_pos (by omega)];rfl
theorem lown_l {z:RosterState} (hn:z.Gone.length≤1000):∀ (n k F:Nat) (y:RosterState),k + n=z.Gone.length→n < F→y.Gone.length≤k→p_law21_Own_l1 z F (k:Int) y=some ((z.Gone.length:Int),RosterState.mk y.Ver y.Floor y.Items (y.Gone++z.Gone.drop k))
 | 0,k,F + 1,y,hk,hF,hy=>by
  have e:k=z.Gone.length:=by omega
  rw [p_law21_Own_l1,lt_ff (by omega),e,List.drop_length,List.append_nil];rfl
 | n + 1,k,F + 1,y,hk,hF,hy=>by
  have h:k < z.Gone.length:=by omega
  rw [p_law21_Own_l1,lt_tt h,cond_true,at_lt h,Option.bind_some,app_ok (by simp;omega),Option.bind_some,w64_succ (by omega),lown_l hn n (k + 1) F _ (by omega) (by omega) (by simp;omega),drop_at h]
  simp
theorem lown_p {s:RosterState} (h:s.Items.length≤100∧s.Gone.length≤100):p_law21_Own s=some s:=by
 unfold p_law21_Own
 have:=lown_l (z:=s) (by omega) s.Gone.length 0 fuel (RosterState.mk s.Ver s.Floor s.Items []) (by omega) (by have:=fuel_pos;omega) (Nat.zero_le _)
 rw [own_p _ (by omega),Option.bind_some,show ((0:Int))=((0:Nat):Int) from rfl,this,Option.bind_some]
 rfl
theorem bgone_l (z:List RosterGone) (hn:z.length≤1000):∀ (n k F:Nat) (acc:List RosterGone),k + n=z.length→n < F→acc.length=k→p_law21_gone_l1 z F acc (k:Int)=some (acc++z.drop k,(z.length:Int))
 | 0,k,F + 1,acc,hk,hF,ha=>by
  have e:k=z.length:=by omega
  rw [p_law21_gone_l1,lt_ff (by omega),e,List.drop_length,List.append_nil];rfl
 | n + 1,k,F + 1,acc,hk,hF,ha=>by
  have hlt:k < z.length:=by omega
  rw [p_law21_gone_l1,lt_tt hlt,cond_true,at_lt hlt,Option.bind_some,app_ok (by simp;omega),Option.bind_some,w64_succ (by omega),bgone_l z hn n (k + 1) F _ (by omega) (by omega) (by simp;omega),drop_at hlt]
  simp
theorem backS_p {s:RosterState} (h:s.Items.length≤100∧s.Gone.length≤100):p_law21_Back s=some s:=by
 unfold p_law21_Back p_law21_gone
 have h2:p_law21_gone_l1 s.Gone fuel [] 0=some (s.Gone,(s.Gone.length:Int)):=bgone_l s.Gone (by omega) s.Gone.length 0 fuel [] (by omega) (by have:=fuel_pos;omega) rfl
 rw [back_p _ (by omega),h2];rfl
theorem sgone_l (z:List RosterGone) (hn:z.length≤1000):∀ (n k F:Nat),k + n=z.length→n < F→p_ref21_SameGone_l1 z z F (k:Int)=some (.inr (z.length:Int))
 | 0,k,F + 1,hk,hF=>by
  have e:k=z.length:=by omega
  rw [p_ref21_SameGone_l1,lt_ff (by omega),e];rfl
 | n + 1,k,F + 1,hk,hF=>by
  have hlt:k < z.length:=by omega
  rw [p_ref21_SameGone_l1,lt_tt hlt,cond_true,at_lt hlt]
  simp only [Option.bind_some,eqT_refl,beq_self_eq_true,Bool.and_self,cond_true]
  rw [w64_succ (by omega)]
  exact sgone_l z hn n (k + 1) F (by omega) (by omega)
theorem sameS_p {s:RosterState} (h:s.Items.length≤100∧s.Gone.length≤100):p_ref21_Same s s=some true:=by
 unfold p_ref21_Same p_ref21_SameGone
 have h2:p_ref21_SameGone_l1 s.Gone s.Gone fuel 0=some (.inr (s.Gone.length:Int)):=sgone_l s.Gone (by omega) s.Gone.length 0 fuel (by omega) (by have:=fuel_pos;omega)
 simp only [beq_self_eq_true,cond_true,same_p _ (show s.Items.length≤1000 by omega),Option.bind_some,bne_self_eq_false,cond_false,h2]
theorem FindS_p {s:RosterState} (hc0:p_roster_Check s=some 0) (f:FineS s) (c:ByteArray):p_roster_Find s c=some (if hl:posC s.Items c < s.Items.length then (if fndC s.Items c then (s.Items[posC s.Items c],true) else (ItemItem.mk ⟨#[]⟩ ⟨#[]⟩ 0 0 false,false)) else (ItemItem.mk ⟨#[]⟩ ⟨#[]⟩ 0 0 false,false)):=by
 have:=f.items
 unfold p_roster_Find
 rw [hc0,Option.bind_some,findC_p (by omega) f.rise.sorted]
 simp only [bne_self_eq_false,cond_false,Option.bind_some]
 cases hf:fndC s.Items c with
 | true =>
  obtain ⟨hl,_⟩:=fndC_some hf
  rw [cond_true,at_lt hl,dif_pos hl];rfl
 | false=>rw [cond_false];split <;> rfl
def SmallS (s:RosterState):Prop:=s.Items.length≤100∧s.Gone.length≤100
theorem LightS.small {s:RosterState} (h:LightS s):SmallS s:=⟨by have:=h.items;omega,by have:=h.gone;omega⟩
theorem light_change {s:RosterState} (h:LightS s) (f:FineS s) {x:ItemItem} (hc:x.Contact.size≤100) (hn:x.Name.size≤100):LightS (changeR s x):=by
 have hfi:=f.items
 have hfg:=f.gone
 have h1:(itemsR s x (w64 (s.Ver + 1))).length≤20:=by
  unfold itemsR
  have:(if idleI (verI x (w64 (s.Ver + 1))) then ([]:List ItemItem) else [verI x (w64 (s.Ver + 1))]).length≤1:=by split <;> simp
  have h2:posC s.Items x.Contact≤(if fndC s.Items x.Contact then posC s.Items x.Contact + 1 else posC s.Items x.Contact):=by split <;> omega
  simp only [List.length_append,List.length_take,List.length_drop]
  generalize (if fndC s.Items x.Contact then posC s.Items x.Contact + 1 else posC s.Items x.Contact)=q at *
  generalize (if idleI (verI x (w64 (s.Ver + 1))) then ([]:List ItemItem) else [verI x (w64 (s.Ver + 1))]).length=z at *
  omega
 have h2:(goneR s x (w64 (s.Ver + 1))).length≤20:=by
  unfold goneR
  rw [List.length_append]
  have a:=List.length_filter_le (fun g:RosterGone=>!(g.Contact.toList == x.Contact.toList) || !(listedI x || wasR s x)) s.Gone
  have:(if wasR s x && !listedI x then [RosterGone.mk x.Contact (w64 (s.Ver + 1))] else []).length≤1:=by split <;> simp
  omega
 have h3:∀ y ∈ itemsR s x (w64 (s.Ver + 1)),y.Contact.size≤100∧y.Name.size≤100:=fun y hy=>by
  unfold itemsR at hy
  rcases List.mem_append.1 hy with g | g
  ·exact h.item y (List.mem_of_mem_take g)
  ·rcases List.mem_append.1 g with g | g
   ·split at g
    ·cases g
    ·rw [List.mem_singleton.1 g];exact ⟨hc,hn⟩
   ·exact h.item y (List.mem_of_mem_drop g)
 have h4:∀ g ∈ goneR s x (w64 (s.Ver + 1)),g.Contact.size≤100:=fun y hy=>by
  unfold goneR at hy
  rcases List.mem_append.1 hy with g | g
  ·exact h.went y (List.mem_filter.1 g).1
  ·split at g
   ·rw [List.mem_singleton.1 g];exact hc
   ·cases g
 unfold changeR trimR
 split
 ·rename_i a r e
  rw [e] at h2 h4
  rw [List.length_cons] at h2
  split
  ·exact ⟨h1,by show r.length≤20;omega,h3,fun g hg=>h4 g (List.mem_cons_of_mem _ hg)⟩
  ·exact ⟨h1,h2,h3,h4⟩
 ·exact ⟨h1,by simp,h3,fun g hg=>by cases hg⟩
theorem subS_p {s:RosterState} (h:LightS s) {c:ByteArray} (hc:c.size≤100) (q:Int):∃ r,p_roster_Sub s c q=some r∧p_ref21_Sub s c q=some r∧LightS r.1:=by
 obtain ⟨e,h1,h2,h3⟩:=checkS_p h
 have hi:=h.items
 unfold p_roster_Sub p_ref21_Sub
 rw [ownS_p h.small,place_p (by omega),h1,h2]
 simp only [Option.bind_some]
 by_cases g:e=0
 case neg =>
  rw [show (e != 0)=true by simpa using g,show (e == 0)=false by simpa using g]
  simp only [cond_true,cond_false]
  exact ⟨(s,e),rfl,rfl,h⟩
 subst g
 have f:=h3 rfl
 have k1:p_addr_IsBare c=some (isBareL c.data.toList):=if_pos (by omega)
 have k2:p_ref09_IsBare c=some (isBareL c.data.toList):=if_pos (by omega)
 have k3:=change_p h.items h.gone f.rise.sorted
 have k4:=rchange_p h.items h.gone
 have ks:=fun x hc hn=>light_change h f (x:=x) hc hn
 rw [FindS_p h1 f c]
 simp only [bne_self_eq_false,beq_self_eq_true,cond_true,cond_false,Option.bind_some,k1,k2,subs_p,rsub_p]
 unfold p_roster_State_may
 cases isBareL c.data.toList with
 | false =>
  simp only [cond_false]
  cases hf:fndC s.Items c with
  | true =>
   obtain ⟨hl,_⟩:=fndC_some hf
   rw [cond_true,at_lt hl]
   exact ⟨_,rfl,rfl,h⟩
  | false=>exact ⟨_,rfl,rfl,h⟩
 | true =>
  simp only [cond_true]
  cases hf:fndC s.Items c with
  | true =>
   obtain ⟨hl,hcc⟩:=fndC_some hf
   simp only [dif_pos hl,if_true,cond_true,at_lt hl,Option.bind_some]
   rw [hcc]
   have hnm:=(h.item _ (List.getElem_mem hl)).2
   generalize s.Items[posC s.Items c]=x at hnm ⊢
   by_cases w:subC q=0
   case neg =>
    rw [show (subC q != 0)=true by simpa using w]
    exact ⟨_,rfl,rfl,h⟩
   rw [w]
   simp only [bne_self_eq_false,cond_false]
   by_cases v:1099511627776≤s.Ver
   ·rw [decide_eq_true v]
    cases (q != 0) <;> exact ⟨_,rfl,rfl,h⟩
   rw [decide_eq_false v]
   cases (x.Sub == q) with
   | true=>cases (q != 0) <;> exact ⟨_,rfl,rfl,h⟩
   | false =>
    cases (q != 0) <;> simp only [cond_true,cond_false,Option.bind_some,bne_self_eq_false,k3,k4] <;> exact ⟨_,rfl,rfl,ks _ hc hnm⟩
  | false =>
   simp only [if_false,Bool.false_eq_true,dite_eq_ite,ite_self,cond_true,cond_false,Option.bind_some]
   by_cases w:subC q=0
   case neg =>
    rw [show (subC q != 0)=true by simpa using w]
    exact ⟨_,rfl,rfl,h⟩
   rw [w]
   simp only [bne_self_eq_false,cond_false]
   by_cases u:(12:Int)≤(s.Items.length:Int) <;> by_cases v:1099511627776≤s.Ver <;> by_cases z:q=0 <;>
    simp only [decide_eq_true,decide_eq_false,u,v,z,bne_self_eq_false,beq_self_eq_true,cond_true,cond_false,Option.bind_some,k3,k4,decide_true,decide_false,not_false_eq_true,ne_eq,bne_iff_ne]
   all_goals first
    | exact ⟨_,rfl,rfl,h⟩
    | (rw [show (q != 0)=true by simpa using z];exact ⟨_,rfl,rfl,h⟩)
    | (rw [show (q != 0)=true by simpa using z,show ((0:Int) == q)=false by simpa using fun e=>z e.symm];simp only [cond_true,cond_false,bne_self_eq_false,Option.bind_some,k3,k4];exact ⟨_,rfl,rfl,ks _ hc (Nat.zero_le _)⟩)
theorem dropS_p {s:RosterState} (h:LightS s) {c:ByteArray} (hc:c.size≤100):∃ r,p_roster_Drop s c=some r∧p_ref21_Drop s c=some r∧LightS r.1:=by
 obtain ⟨e,h1,h2,h3⟩:=checkS_p h
 have hi:=h.items
 unfold p_roster_Drop p_ref21_Drop
 rw [ownS_p h.small,place_p (by omega),h1,h2]
 simp only [Option.bind_some]
 by_cases g:e=0
 case neg =>
  rw [show (e != 0)=true by simpa using g]
  simp only [cond_true]
  exact ⟨(s,e),rfl,rfl,h⟩
 subst g
 have f:=h3 rfl
 have ks:=fun x hc hn=>light_change h f (x:=x) hc hn
 rw [findC_p (by omega) f.rise.sorted]
 unfold p_roster_State_may
 simp only [bne_self_eq_false,cond_true,cond_false,Option.bind_some,change_p h.items h.gone f.rise.sorted,rchange_p h.items h.gone]
 cases fndC s.Items c with
 | false=>exact ⟨_,rfl,rfl,h⟩
 | true =>
  by_cases v:1099511627776≤s.Ver
  ·rw [decide_eq_true v];exact ⟨_,rfl,rfl,h⟩
  ·rw [decide_eq_false v];exact ⟨_,rfl,rfl,ks _ hc (Nat.zero_le _)⟩
end Go.Proofs.YtpmoioopjbfhkaaGreat

namespace Go.Proofs.YtpmoioopjbfhkaaGreat
open Go.RowKit
structure Ar2_Bool where
 a0:Bool
 a1:Bool
abbrev Ar2_Bool.v (x:Ar2_Bool):V:=.agg [.b x.a0,.b x.a1]
structure Ar2_Int where
 a0:Int
 a1:Int
abbrev Ar2_Int.v (x:Ar2_Int):V:=.agg [.y8 x.a0,.y8 x.a1]
def p_law22_fits (a0:Ref22Names) (a1:Ref22State):Option (Bool) :=
 bif (decide ((a0.A.size:Int)≤(100:Int))) then
  bif (decide ((a0.B.size:Int)≤(100:Int))) then
   (p_ref21_Light a1.A).bind fun v3 =>
   bif v3 then
    (p_ref21_Light a1.B).bind fun v5 =>
    some v5
   else
   some false
  else
  some false
 else
 some false
def p_law22_own (a0:Ref22State):Option (Ref22State) :=
 (p_law21_Own a0.A).bind fun v1 =>
 (p_law21_Own a0.B).bind fun v2 =>
 some (Ref22State.mk v1 v2)
def p_pair_Check (a0:Ref22Names) (a1:Ref22State):Option (Int) :=
 (p_addr_IsBare a0.A).bind fun v1 =>
 bif v1 then
  (p_addr_IsBare a0.B).bind fun v3 =>
  bif v3 then
   bif (a0.A.toList == a0.B.toList) then
    some (2:Int)
   else
   (p_roster_Check a1.A).bind fun v6 =>
   bif (v6 != (0:Int)) then
    some v6
   else
   (p_roster_Check a1.B).bind fun v8 =>
   some v8
  else
  some (11:Int)
 else
 some (11:Int)
def p_pair_said (a0:Int):Option (Bool) :=
 bif (decide ((7:Int)≤a0)) then
  some (decide (a0≤(10:Int)))
 else
 some false
def p_pair_State_has (a0:Ref22State) (a1:Ref22Names):Option (Int) :=
 (p_roster_Find a0.A a1.B).bind fun v1 =>
 some v1.1.Sub
def p_subs_lose (a0:Int) (a1:Int):Option (Int × Bool) :=
 some ((andNotI .i64 a0 a1),((andI .i64 a0 a1) != (0:Int)))
def p_subs_turn (a0:Int) (a1:Int) (a2:Int):Option (Int × Bool) :=
 bif ((andI .i64 a0 a1) == (0:Int)) then
  some (a0,false)
 else
 some ((orI .i64 (andNotI .i64 a0 a1) a2),true)
def p_subs_Out (a0:Int) (a1:Int):Option (Int × Bool) :=
 (p_subs_Check a0).bind fun v1 =>
 bif (v1 != (0:Int)) then
  some (a0,false)
 else
 bif (a1 == (7:Int)) then
  bif ((andI .i64 a0 (1:Int)) != (0:Int)) then
   some (a0,false)
  else
  some ((orI .i64 a0 (4:Int)),true)
 else
 bif (a1 == (10:Int)) then
  (p_subs_lose a0 (5:Int)).bind fun v6 =>
  some (v6.1,v6.2)
 else
 bif (a1 == (8:Int)) then
  (p_subs_turn a0 (8:Int) (2:Int)).bind fun v8 =>
  some (v8.1,v8.2)
 else
 bif (a1 == (9:Int)) then
  (p_subs_lose a0 (10:Int)).bind fun v10 =>
  some (v10.1,v10.2)
 else
 some (a0,false)
def p_pair_State_turn (a0:Ref22State):Option (Ref22State) :=
 some (Ref22State.mk a0.B a0.A)
def p_pair_Names_turn (a0:Ref22Names):Option (Ref22Names) :=
 some (Ref22Names.mk a0.B a0.A)
def p_subs_In (a0:Int) (a1:Int):Option (Int × Bool) :=
 (p_subs_Check a0).bind fun v1 =>
 bif (v1 != (0:Int)) then
  some (a0,false)
 else
 bif (a1 == (7:Int)) then
  bif ((andI .i64 a0 (10:Int)) != (0:Int)) then
   some (a0,false)
  else
  some ((orI .i64 a0 (8:Int)),true)
 else
 bif (a1 == (10:Int)) then
  (p_subs_lose a0 (10:Int)).bind fun v6 =>
  some (v6.1,v6.2)
 else
 bif (a1 == (8:Int)) then
  (p_subs_turn a0 (4:Int) (1:Int)).bind fun v8 =>
  some (v8.1,v8.2)
 else
 bif (a1 == (9:Int)) then
  (p_subs_lose a0 (5:Int)).bind fun v10 =>
  some (v10.1,v10.2)
 else
 some (a0,false)
def p_pair_State_set (a0:Ref22State) (a1:Ref22Names) (a2:Int) (a3:Int):Option (Ref22State × Int) :=
 (p_roster_Sub a0.A a1.B a2).bind fun v1 =>
 bif (v1.2 != (0:Int)) then
  some (a0,v1.2)
 else
 (p_roster_Sub a0.B a1.A a3).bind fun v3 =>
 bif (v3.2 != (0:Int)) then
  some (a0,v3.2)
 else
 some ((Ref22State.mk v1.1 v3.1),(0:Int))
def p_pair_Say (a0:Ref22Names) (a1:Ref22State) (a2:Int):Option (Ref22State × PairDone × Int) :=
 (p_pair_Check a0 a1).bind fun v1 =>
 bif (v1 != (0:Int)) then
  some (a1,(PairDone.mk false false false false),v1)
 else
 (p_pair_said a2).bind fun v3 =>
 bif v3 then
  (p_pair_State_has a1 a0).bind fun v5 =>
  (p_subs_Out v5 a2).bind fun v6 =>
  (p_pair_State_turn a1).bind fun v7 =>
  (p_pair_Names_turn a0).bind fun v8 =>
  (p_pair_State_has v7 v8).bind fun v9 =>
  bif v6.2 then
   (p_subs_In v9 a2).bind fun v11 =>
   (p_pair_State_set a1 a0 v6.1 v11.1).bind fun v12 =>
   bif (v12.2 != (0:Int)) then
    some (a1,(PairDone.mk false false false false),v12.2)
   else
   some (v12.1,(PairDone.mk v6.2 v11.2 (v12.1.A.Ver != a1.A.Ver) (v12.1.B.Ver != a1.B.Ver)),(0:Int))
  else
  (p_pair_State_set a1 a0 v6.1 v9).bind fun v14 =>
  bif (v14.2 != (0:Int)) then
   some (a1,(PairDone.mk false false false false),v14.2)
  else
  some (v14.1,(PairDone.mk v6.2 false (v14.1.A.Ver != a1.A.Ver) (v14.1.B.Ver != a1.B.Ver)),(0:Int))
 else
 some (a1,(PairDone.mk false false false false),(12:Int))
def p_ref22_Check (a0:Ref22Names) (a1:Ref22State):Option (Int) :=
 (p_ref09_IsBare a0.A).bind fun v1 =>
 bif v1 then
  (p_ref09_IsBare a0.B).bind fun v3 =>
  bif v3 then
   bif (a0.A.toList == a0.B.toList) then
    some (2:Int)
   else
   (p_ref21_Check a1.A).bind fun v6 =>
   bif (v6 != (0:Int)) then
    (p_ref21_Check a1.A).bind fun v8 =>
    some v8
   else
   (p_ref21_Check a1.B).bind fun v9 =>
   some v9
  else
  some (11:Int)
 else
 some (11:Int)
def p_ref21_Find (a0:RosterState) (a1:ByteArray):Option (ItemItem × Bool) :=
 (p_ref21_place a0 a1).bind fun v1 =>
 (p_ref21_Check a0).bind fun v2 =>
 bif (v2 != (0:Int)) then
  some ((ItemItem.mk (⟨#[]⟩ : ByteArray) (⟨#[]⟩ : ByteArray) (0:Int) (0:Int) false),false)
 else
 bif v1.2 then
  (at? a0.Items v1.1).bind fun x5 =>
  some (x5,true)
 else
 some ((ItemItem.mk (⟨#[]⟩ : ByteArray) (⟨#[]⟩ : ByteArray) (0:Int) (0:Int) false),false)
def p_ref22_has (a0:RosterState) (a1:ByteArray):Option (Int) :=
 (p_ref21_Find a0 a1).bind fun v1 =>
 some v1.1.Sub
def p_ref19_sum (a0:Ref19Four):Option (Int) :=
 bif a0.to then
  bif a0.from_ then
   bif a0.ask then
    bif a0.wait then
     some (w64 (w64 (w64 (w64 ((0:Int) + (1:Int)) + (2:Int)) + (4:Int)) + (8:Int)))
    else
    some (w64 (w64 (w64 ((0:Int) + (1:Int)) + (2:Int)) + (4:Int)))
   else
   bif a0.wait then
    some (w64 (w64 (w64 ((0:Int) + (1:Int)) + (2:Int)) + (8:Int)))
   else
   some (w64 (w64 ((0:Int) + (1:Int)) + (2:Int)))
  else
  bif a0.ask then
   bif a0.wait then
    some (w64 (w64 (w64 ((0:Int) + (1:Int)) + (4:Int)) + (8:Int)))
   else
   some (w64 (w64 ((0:Int) + (1:Int)) + (4:Int)))
  else
  bif a0.wait then
   some (w64 (w64 ((0:Int) + (1:Int)) + (8:Int)))
  else
  some (w64 ((0:Int) + (1:Int)))
 else
 bif a0.from_ then
  bif a0.ask then
   bif a0.wait then
    some (w64 (w64 (w64 ((0:Int) + (2:Int)) + (4:Int)) + (8:Int)))
   else
   some (w64 (w64 ((0:Int) + (2:Int)) + (4:Int)))
  else
  bif a0.wait then
   some (w64 (w64 ((0:Int) + (2:Int)) + (8:Int)))
  else
  some (w64 ((0:Int) + (2:Int)))
 else
 bif a0.ask then
  bif a0.wait then
   some (w64 (w64 ((0:Int) + (4:Int)) + (8:Int)))
  else
  some (w64 ((0:Int) + (4:Int)))
 else
 bif a0.wait then
  some (w64 ((0:Int) + (8:Int)))
 else
 some (0:Int)
def p_ref19_Out (a0:Int) (a1:Int):Option (Int × Bool) :=
 (p_ref19_Check a0).bind fun v1 =>
 bif (v1 != (0:Int)) then
  some (a0,false)
 else
 (p_ref19_of a0).bind fun v3 =>
 bif (a1 == (7:Int)) then
  bif v3.ask then
   (p_ref19_sum (Ref19Four.mk v3.to v3.from_ true v3.wait)).bind fun v6 =>
   some (v6,(!v3.to))
  else
  (p_ref19_sum (Ref19Four.mk v3.to v3.from_ (!v3.to) v3.wait)).bind fun v7 =>
  some (v7,(!v3.to))
 else
 bif (a1 == (10:Int)) then
  bif v3.to then
   (p_ref19_sum (Ref19Four.mk false v3.from_ false v3.wait)).bind fun v10 =>
   some (v10,true)
  else
  (p_ref19_sum (Ref19Four.mk false v3.from_ false v3.wait)).bind fun v11 =>
  some (v11,v3.ask)
 else
 bif (a1 == (8:Int)) then
  bif v3.from_ then
   (p_ref19_sum (Ref19Four.mk v3.to true v3.ask false)).bind fun v14 =>
   some (v14,v3.wait)
  else
  (p_ref19_sum (Ref19Four.mk v3.to v3.wait v3.ask false)).bind fun v15 =>
  some (v15,v3.wait)
 else
 bif (a1 == (9:Int)) then
  bif v3.from_ then
   (p_ref19_sum (Ref19Four.mk v3.to false v3.ask false)).bind fun v18 =>
   some (v18,true)
  else
  (p_ref19_sum (Ref19Four.mk v3.to false v3.ask false)).bind fun v19 =>
  some (v19,v3.wait)
 else
 (p_ref19_sum v3).bind fun v20 =>
 some (v20,false)
def p_ref19_In (a0:Int) (a1:Int):Option (Int × Bool) :=
 (p_ref19_Check a0).bind fun v1 =>
 bif (v1 != (0:Int)) then
  some (a0,false)
 else
 (p_ref19_of a0).bind fun v3 =>
 bif (a1 == (7:Int)) then
  bif v3.from_ then
   bif v3.wait then
    (p_ref19_sum (Ref19Four.mk v3.to v3.from_ v3.ask true)).bind fun v7 =>
    some (v7,false)
   else
   (p_ref19_sum (Ref19Four.mk v3.to v3.from_ v3.ask (!v3.from_))).bind fun v8 =>
   some (v8,false)
  else
  bif v3.wait then
   (p_ref19_sum (Ref19Four.mk v3.to v3.from_ v3.ask true)).bind fun v10 =>
   some (v10,(!v3.wait))
  else
  (p_ref19_sum (Ref19Four.mk v3.to v3.from_ v3.ask (!v3.from_))).bind fun v11 =>
  some (v11,(!v3.wait))
 else
 bif (a1 == (10:Int)) then
  bif v3.from_ then
   (p_ref19_sum (Ref19Four.mk v3.to false v3.ask false)).bind fun v14 =>
   some (v14,true)
  else
  (p_ref19_sum (Ref19Four.mk v3.to false v3.ask false)).bind fun v15 =>
  some (v15,v3.wait)
 else
 bif (a1 == (8:Int)) then
  bif v3.to then
   (p_ref19_sum (Ref19Four.mk true v3.from_ false v3.wait)).bind fun v18 =>
   some (v18,v3.ask)
  else
  (p_ref19_sum (Ref19Four.mk v3.ask v3.from_ false v3.wait)).bind fun v19 =>
  some (v19,v3.ask)
 else
 bif (a1 == (9:Int)) then
  bif v3.to then
   (p_ref19_sum (Ref19Four.mk false v3.from_ false v3.wait)).bind fun v22 =>
   some (v22,true)
  else
  (p_ref19_sum (Ref19Four.mk false v3.from_ false v3.wait)).bind fun v23 =>
  some (v23,v3.ask)
 else
 (p_ref19_sum v3).bind fun v24 =>
 some (v24,false)
def p_ref22_Say (a0:Ref22Names) (a1:Ref22State) (a2:Int):Option (Ref22State × PairDone × Int) :=
 (p_ref22_Check a0 a1).bind fun v1 =>
 bif (v1 != (0:Int)) then
  (p_ref22_Check a0 a1).bind fun v3 =>
  some (a1,(PairDone.mk false false false false),v3)
 else
 bif (decide (a2 < (7:Int))) then
  some (a1,(PairDone.mk false false false false),(12:Int))
 else
 bif (decide ((10:Int) < a2)) then
  some (a1,(PairDone.mk false false false false),(12:Int))
 else
 (p_ref22_has a1.A a0.B).bind fun v6 =>
 (p_ref22_has a1.B a0.A).bind fun v7 =>
 (p_ref19_Out v6 a2).bind fun v8 =>
 bif v8.2 then
  (p_ref19_In v7 a2).bind fun v10 =>
  (p_ref21_Sub a1.A a0.B v8.1).bind fun v11 =>
  bif (v11.2 != (0:Int)) then
   some (a1,(PairDone.mk false false false false),v11.2)
  else
  (p_ref21_Sub a1.B a0.A v10.1).bind fun v13 =>
  bif (v13.2 != (0:Int)) then
   some (a1,(PairDone.mk false false false false),v13.2)
  else
  some ((Ref22State.mk v11.1 v13.1),(PairDone.mk v8.2 v10.2 (v11.1.Ver != a1.A.Ver) (v13.1.Ver != a1.B.Ver)),(0:Int))
 else
 (p_ref21_Sub a1.A a0.B v8.1).bind fun v15 =>
 bif (v15.2 != (0:Int)) then
  some (a1,(PairDone.mk false false false false),v15.2)
 else
 (p_ref21_Sub a1.B a0.A v7).bind fun v17 =>
 bif (v17.2 != (0:Int)) then
  some (a1,(PairDone.mk false false false false),v17.2)
 else
 some ((Ref22State.mk v15.1 v17.1),(PairDone.mk v8.2 false (v15.1.Ver != a1.A.Ver) (v17.1.Ver != a1.B.Ver)),(0:Int))
def p_pair_Remove_l1 (z14:Ar2_Int) (z17:Ref22Names) (z18:Ref22State):Nat→Int→Ref22State→Ar2_Bool→Option ((Ref22State × Ar2_Bool × Int) ⊕ (Int × Ref22State × Ar2_Bool))
 | 0,_,_,_=>none
 | n + 1,y15,y16,y21 =>
  bif (decide (y15 < (2:Int))) then
   (at? [z14.a0,z14.a1] y15).bind fun x23 =>
   (p_pair_Say z17 y16 x23).bind fun v24 =>
   bif (v24.2.2 != (0:Int)) then
    some (.inl (z18,(Ar2_Bool.mk false false),v24.2.2))
   else
   bif (y15 == (0:Int)) then
    p_pair_Remove_l1 z14 z17 z18 n (w64 (y15 + (1:Int))) v24.1 (Ar2_Bool.mk v24.2.1.Told y21.a1)
   else
   bif (y15 == (1:Int)) then
    p_pair_Remove_l1 z14 z17 z18 n (w64 (y15 + (1:Int))) v24.1 (Ar2_Bool.mk y21.a0 v24.2.1.Told)
   else
   none
  else
  some (.inr (y15,y16,y21))
def p_pair_Remove (a0:Ref22Names) (a1:Ref22State):Option (Ref22State × Ar2_Bool × Int) :=
 (p_pair_Check a0 a1).bind fun v1 =>
 bif (v1 != (0:Int)) then
  some (a1,(Ar2_Bool.mk false false),v1)
 else
 (p_roster_Find a1.A a0.B).bind fun v3 =>
 bif v3.2 then
  (p_pair_Remove_l1 (Ar2_Int.mk (10:Int) (9:Int)) a0 a1 fuel (0:Int) a1 (Ar2_Bool.mk false false)).bind fun o26=>match o26 with
  | .inl q27 =>
   some q27
  | .inr q28 =>
   (p_roster_Find q28.2.1.A a0.B).bind fun v29 =>
   bif v29.2 then
    (p_roster_Drop q28.2.1.A a0.B).bind fun v31 =>
    bif (v31.2 != (0:Int)) then
     some (a1,(Ar2_Bool.mk false false),v31.2)
    else
    some ((Ref22State.mk v31.1 q28.2.1.B),q28.2.2,(0:Int))
   else
   some (q28.2.1,q28.2.2,(0:Int))
 else
 some (a1,(Ar2_Bool.mk false false),(6:Int))
def p_ref22_Remove (a0:Ref22Names) (a1:Ref22State):Option (Ref22State × Ar2_Bool × Int) :=
 (p_ref22_Check a0 a1).bind fun v1 =>
 bif (v1 != (0:Int)) then
  (p_ref22_Check a0 a1).bind fun v3 =>
  some (a1,(Ar2_Bool.mk false false),v3)
 else
 (p_ref21_Find a1.A a0.B).bind fun v4 =>
 bif v4.2 then
  (p_ref22_Say a0 a1 (10:Int)).bind fun v6 =>
  bif (v6.2.2 != (0:Int)) then
   some (a1,(Ar2_Bool.mk false false),v6.2.2)
  else
  (p_ref22_Say a0 v6.1 (9:Int)).bind fun v8 =>
  bif (v8.2.2 != (0:Int)) then
   some (a1,(Ar2_Bool.mk false false),v8.2.2)
  else
  (p_ref21_Find v8.1.A a0.B).bind fun v10 =>
  bif v10.2 then
   (p_ref21_Drop v8.1.A a0.B).bind fun v12 =>
   bif (v12.2 != (0:Int)) then
    some (a1,(Ar2_Bool.mk false false),v12.2)
   else
   some ((Ref22State.mk v12.1 v8.1.B),(Ar2_Bool.mk v6.2.1.Told v8.2.1.Told),(0:Int))
  else
  some (v8.1,(Ar2_Bool.mk v6.2.1.Told v8.2.1.Told),(0:Int))
 else
 some (a1,(Ar2_Bool.mk false false),(6:Int))
def p_pair_Turn (a0:Ref22Names) (a1:Ref22State):Option (Ref22Names × Ref22State) :=
 (p_pair_Names_turn a0).bind fun v1 =>
 (p_pair_State_turn a1).bind fun v2 =>
 some (v1,v2)
def p_ref22_Turn (a0:Ref22Names) (a1:Ref22State):Option (Ref22Names × Ref22State) :=
 some ((Ref22Names.mk a0.B a0.A),(Ref22State.mk a1.B a1.A))
def p_law22_back (a0:Ref22State):Option (Ref22State) :=
 (p_law21_Back a0.A).bind fun v1 =>
 (p_law21_Back a0.B).bind fun v2 =>
 some (Ref22State.mk v1 v2)
def p_ref22_Same (a0:Ref22State) (a1:Ref22State):Option (Bool) :=
 (p_ref21_Same a0.A a1.A).bind fun v1 =>
 bif v1 then
  (p_ref21_Same a0.B a1.B).bind fun v3 =>
  some v3
 else
 some false
def p_subs_Mirror (a0:Int):Option (Int) :=
 (p_subs_Check a0).bind fun v1 =>
 bif (v1 != (0:Int)) then
  some (0:Int)
 else
 some (orI .i64 (shlI .i64 (andI .i64 a0 (5:Int)) (1:Int)) (shrI .i64 (andI .i64 a0 (10:Int)) (1:Int)))
def p_subs_Agree (a0:Int) (a1:Int):Option (Bool) :=
 (p_subs_Check a0).bind fun v1 =>
 bif (v1 == (0:Int)) then
  (p_subs_Check a1).bind fun v3 =>
  bif (v3 == (0:Int)) then
   (p_subs_Mirror a0).bind fun v5 =>
   some (v5 == a1)
  else
  some false
 else
 some false
def p_pair_Agree (a0:Ref22Names) (a1:Ref22State):Option (Bool) :=
 (p_pair_Check a0 a1).bind fun v1 =>
 bif (v1 == (0:Int)) then
  (p_pair_State_has a1 a0).bind fun v3 =>
  (p_pair_State_turn a1).bind fun v4 =>
  (p_pair_Names_turn a0).bind fun v5 =>
  (p_pair_State_has v4 v5).bind fun v6 =>
  (p_subs_Agree v3 v6).bind fun v7 =>
  some v7
 else
 some false
def p_ref19_Mirror (a0:Int):Option (Int) :=
 (p_ref19_Check a0).bind fun v1 =>
 bif (v1 != (0:Int)) then
  some (0:Int)
 else
 (p_ref19_of a0).bind fun v3 =>
 (p_ref19_sum (Ref19Four.mk v3.from_ v3.to v3.wait v3.ask)).bind fun v4 =>
 some v4
def p_ref19_Agree (a0:Int) (a1:Int):Option (Bool) :=
 (p_ref19_Check a0).bind fun v1 =>
 bif (v1 == (0:Int)) then
  (p_ref19_Check a1).bind fun v3 =>
  bif (v3 == (0:Int)) then
   (p_ref19_Mirror a0).bind fun v5 =>
   some (v5 == a1)
  else
  some false
 else
 some false
def p_ref22_Agree (a0:Ref22Names) (a1:Ref22State):Option (Bool) :=
 (p_ref22_Check a0 a1).bind fun v1 =>
 bif (v1 == (0:Int)) then
  (p_ref22_has a1.A a0.B).bind fun v3 =>
  (p_ref22_has a1.B a0.A).bind fun v4 =>
  (p_ref19_Agree v3 v4).bind fun v5 =>
  some v5
 else
 some false
def p_pair_Sees (a0:Ref22Names) (a1:Ref22State):Option (Bool) :=
 (p_pair_Check a0 a1).bind fun v1 =>
 bif (v1 == (0:Int)) then
  (p_pair_State_has a1 a0).bind fun v3 =>
  some ((andI .i64 v3 (1:Int)) != (0:Int))
 else
 some false
def p_ref22_Sees (a0:Ref22Names) (a1:Ref22State):Option (Bool) :=
 (p_ref22_Check a0 a1).bind fun v1 =>
 bif (v1 == (0:Int)) then
  (p_ref22_has a1.A a0.B).bind fun v3 =>
  some ((Int.tmod v3 (2:Int)) == (1:Int))
 else
 some false
def p_pair_Run_l1 (z11:ByteArray) (z12:ByteArray) (z14:List PairAct) (z15:Int) (z17:Ref22Names):Nat→(List PairDone)→Int→Ref22State→Option (((List PairDone) × Int × Ref22State))
 | 0,_,_,_=>none
 | n + 1,y13,y16,y18 =>
  bif (decide (y16 < z15)) then
   (at? z14 y16).bind fun x21 =>
   bif x21.Back then
    (p_pair_Names_turn (Ref22Names.mk z11 z12)).bind fun v23 =>
    (p_pair_State_turn y18).bind fun v24 =>
    (p_pair_Say v23 v24 x21.Kind).bind fun v25 =>
    (p_pair_State_turn v25.1).bind fun v26 =>
    (app? y13 [v25.2.1]).bind fun l27 =>
    p_pair_Run_l1 z11 z12 z14 z15 z17 n l27 (w64 (y16 + (1:Int))) v26
   else
   (p_pair_Say z17 y18 x21.Kind).bind fun v28 =>
   (app? y13 [v28.2.1]).bind fun l29 =>
   p_pair_Run_l1 z11 z12 z14 z15 z17 n l29 (w64 (y16 + (1:Int))) v28.1
  else
  some (y13,y16,y18)
def p_pair_Run (a0:Ref22Names) (a1:Ref22State) (a2:List PairAct):Option (Ref22State × (List PairDone)) :=
 (p_pair_Run_l1 a0.A a0.B a2 (a2.length:Int) a0 fuel [] (0:Int) a1).bind fun q31 =>
 some (q31.2.2,q31.1)
def p_law22_done_l1 (z5:List PairDone):Nat→(List PairDone)→Int→Option (((List PairDone) × Int))
 | 0,_,_=>none
 | n + 1,y6,y7 =>
  bif (decide (y7 < (z5.length:Int))) then
   (at? z5 y7).bind fun x9 =>
   (app? y6 [x9]).bind fun l10 =>
   p_law22_done_l1 z5 n l10 (w64 (y7 + (1:Int)))
  else
  some (y6,y7)
def p_law22_done (a0:List PairDone):Option ((List PairDone)) :=
 (p_law22_done_l1 a0 fuel [] (0:Int)).bind fun q12 =>
 some q12.1
def p_ref22_SameDone_l1 (z6:List PairDone) (z7:List PairDone):Nat→Int→Option (Bool ⊕ Int)
 | 0,_=>none
 | n + 1,y8 =>
  bif (decide (y8 < (z6.length:Int))) then
   (at? z6 y8).bind fun x10 =>
   (at? z7 y8).bind fun x11 =>
   bif ((x10.Passed == x11.Passed) && ((x10.Told == x11.Told) && ((x10.Listed == x11.Listed) && ((x10.Knows == x11.Knows) && true)))) then
    p_ref22_SameDone_l1 z6 z7 n (w64 (y8 + (1:Int)))
   else
   some (.inl false)
  else
  some (.inr y8)
def p_ref22_SameDone (a0:List PairDone) (a1:List PairDone):Option (Bool) :=
 bif ((a0.length:Int) != (a1.length:Int)) then
  some false
 else
 (p_ref22_SameDone_l1 a0 a1 fuel (0:Int)).bind fun o13=>match o13 with
 | .inl q14 =>
  some q14
 | .inr q15 =>
  some true
def p_law22_awake:Option (Bool) :=
 (p_pair_Run (Ref22Names.mk (⟨#[97,64,120]⟩ : ByteArray) (⟨#[98,64,120]⟩ : ByteArray)) (Ref22State.mk (RosterState.mk (0:Int) (0:Int) [] []) (RosterState.mk (0:Int) (0:Int) [] [])) [(PairAct.mk (7:Int) false),(PairAct.mk (8:Int) true),(PairAct.mk (8:Int) false)]).bind fun v1 =>
 (p_pair_Remove (Ref22Names.mk (⟨#[97,64,120]⟩ : ByteArray) (⟨#[98,64,120]⟩ : ByteArray)) v1.1).bind fun v2 =>
 (p_pair_Turn (Ref22Names.mk (⟨#[97,64,120]⟩ : ByteArray) (⟨#[98,64,120]⟩ : ByteArray)) v1.1).bind fun v3 =>
 (p_pair_Remove (Ref22Names.mk (⟨#[97,64,120]⟩ : ByteArray) (⟨#[98,64,120]⟩ : ByteArray)) v2.1).bind fun v4 =>
 (p_pair_Say (Ref22Names.mk (⟨#[97,64,120]⟩ : ByteArray) (⟨#[98,64,120]⟩ : ByteArray)) v1.1 (15:Int)).bind fun v5 =>
 (p_law22_done v1.2).bind fun v6 =>
 (p_ref22_SameDone v6 [(PairDone.mk true true true true),(PairDone.mk true true true true),(PairDone.mk false false false false)]).bind fun v7 =>
 bif v7 then
  (p_pair_Sees (Ref22Names.mk (⟨#[97,64,120]⟩ : ByteArray) (⟨#[98,64,120]⟩ : ByteArray)) v1.1).bind fun v9 =>
  bif v9 then
   (p_pair_Sees v3.1 v3.2).bind fun v11 =>
   bif v11 then
    some false
   else
   (p_pair_Agree (Ref22Names.mk (⟨#[97,64,120]⟩ : ByteArray) (⟨#[98,64,120]⟩ : ByteArray)) v1.1).bind fun v13 =>
   bif v13 then
    bif (v2.2.2 == (0:Int)) then
     bif ((v2.2.1.a0 == true) && ((v2.2.1.a1 == false) && true)) then
      (p_pair_Sees (Ref22Names.mk (⟨#[97,64,120]⟩ : ByteArray) (⟨#[98,64,120]⟩ : ByteArray)) v2.1).bind fun v17 =>
      bif v17 then
       some false
      else
      bif (v4.2.2 == (6:Int)) then
       bif (v5.2.2 == (12:Int)) then
        (p_pair_Check (Ref22Names.mk (⟨#[97,64,120]⟩ : ByteArray) (⟨#[98,64,120]⟩ : ByteArray)) v2.1).bind fun v21 =>
        bif (v21 == (0:Int)) then
         (p_pair_Check (Ref22Names.mk (⟨#[97,64,120]⟩ : ByteArray) (⟨#[97,64,120]⟩ : ByteArray)) v2.1).bind fun v23 =>
         bif (v23 == (2:Int)) then
          some true
         else
         some false
        else
        some false
       else
       some false
      else
      some false
     else
     some false
    else
    some false
   else
   some false
  else
  some false
 else
 some false
def p_law22_PairSays (a0:Ref22Names) (a1:Ref22State) (a2:Int):Option (Bool) :=
 (p_law22_fits a0 a1).bind fun v1 =>
 bif v1 then
  (p_law22_own a1).bind fun v3 =>
  (p_pair_Say a0 v3 a2).bind fun v4 =>
  (p_ref22_Say a0 a1 a2).bind fun v5 =>
  (p_pair_Remove a0 v3).bind fun v6 =>
  (p_ref22_Remove a0 a1).bind fun v7 =>
  (p_pair_Turn a0 v3).bind fun v8 =>
  (p_ref22_Turn a0 a1).bind fun v9 =>
  (p_law22_back v4.1).bind fun v10 =>
  (p_ref22_Same v10 v5.1).bind fun v11 =>
  bif v11 then
   bif ((v4.2.1.Passed == v5.2.1.Passed) && ((v4.2.1.Told == v5.2.1.Told) && ((v4.2.1.Listed == v5.2.1.Listed) && ((v4.2.1.Knows == v5.2.1.Knows) && true)))) then
    bif (v4.2.2 == v5.2.2) then
     (p_law22_back v6.1).bind fun v15 =>
     (p_ref22_Same v15 v7.1).bind fun v16 =>
     bif v16 then
      bif ((v6.2.1.a0 == v7.2.1.a0) && ((v6.2.1.a1 == v7.2.1.a1) && true)) then
       bif (v6.2.2 == v7.2.2) then
        bif ((v8.1.A.toList == v9.1.A.toList) && ((v8.1.B.toList == v9.1.B.toList) && true)) then
         (p_law22_back v8.2).bind fun v21 =>
         (p_ref22_Same v21 v9.2).bind fun v22 =>
         bif v22 then
          (p_pair_Check a0 v3).bind fun v24 =>
          (p_ref22_Check a0 a1).bind fun v25 =>
          bif (v24 == v25) then
           (p_pair_Agree a0 v3).bind fun v27 =>
           (p_ref22_Agree a0 a1).bind fun v28 =>
           bif (v27 == v28) then
            (p_pair_Sees a0 v3).bind fun v30 =>
            (p_ref22_Sees a0 a1).bind fun v31 =>
            bif (v30 == v31) then
             (p_law22_back v3).bind fun v33 =>
             (p_ref22_Same v33 a1).bind fun v34 =>
             bif v34 then
              (p_law22_awake).bind fun v36 =>
              some v36
             else
             some false
            else
            some false
           else
           some false
          else
          some false
         else
         some false
        else
        some false
       else
       some false
      else
      some false
     else
     some false
    else
    some false
   else
   some false
  else
  some false
 else
 (p_law22_awake).bind fun v37 =>
 some v37
def p_ref22_Run_l1 (z8:List PairAct) (z11:Ref22Names):Nat→(List PairDone)→Int→Ref22State→Option (((List PairDone) × Int × Ref22State))
 | 0,_,_,_=>none
 | n + 1,y9,y10,y12 =>
  bif (decide (y10 < (z8.length:Int))) then
   (at? z8 y10).bind fun x15 =>
   bif x15.Back then
    (p_ref22_Turn z11 y12).bind fun v17 =>
    (at? z8 y10).bind fun x18 =>
    (p_ref22_Say v17.1 v17.2 x18.Kind).bind fun v19 =>
    (at? z8 y10).bind fun x20 =>
    bif x20.Back then
     (p_ref22_Turn v17.1 v19.1).bind fun v22 =>
     (app? y9 [v19.2.1]).bind fun l23 =>
     p_ref22_Run_l1 z8 z11 n l23 (w64 (y10 + (1:Int))) v22.2
    else
    (app? y9 [v19.2.1]).bind fun l24 =>
    p_ref22_Run_l1 z8 z11 n l24 (w64 (y10 + (1:Int))) v19.1
   else
   (at? z8 y10).bind fun x25 =>
   (p_ref22_Say z11 y12 x25.Kind).bind fun v26 =>
   (at? z8 y10).bind fun x27 =>
   bif x27.Back then
    (p_ref22_Turn z11 v26.1).bind fun v29 =>
    (app? y9 [v26.2.1]).bind fun l30 =>
    p_ref22_Run_l1 z8 z11 n l30 (w64 (y10 + (1:Int))) v29.2
   else
   (app? y9 [v26.2.1]).bind fun l31 =>
   p_ref22_Run_l1 z8 z11 n l31 (w64 (y10 + (1:Int))) v26.1
  else
  some (y9,y10,y12)
def p_ref22_Run (a0:Ref22Names) (a1:Ref22State) (a2:List PairAct):Option (Ref22State × (List PairDone)) :=
 (p_ref22_Run_l1 a2 a0 fuel [] (0:Int) a1).bind fun q33 =>
 some (q33.2.2,q33.1)
def p_law22_PairRuns_l1 (z11:List PairAct):Nat→(List PairAct)→Int→Option (((List PairAct) × Int))
 | 0,_,_=>none
 | n + 1,y12,y13 =>
  bif (decide (y13 < (z11.length:Int))) then
   (at? z11 y13).bind fun x17 =>
   (app? y12 [x17]).bind fun l18 =>
   p_law22_PairRuns_l1 z11 n l18 (w64 (y13 + (1:Int)))
  else
  some (y12,y13)
def p_law22_PairRuns (a0:Ref22Names) (a1:Ref22State) (a2:List PairAct):Option (Bool) :=
 (p_law22_fits a0 a1).bind fun v1 =>
 bif v1 then
  bif (decide ((40:Int) < (a2.length:Int))) then
   (p_law22_awake).bind fun v4 =>
   some v4
  else
  (p_law22_PairRuns_l1 a2 fuel [] (0:Int)).bind fun q20 =>
  (p_law22_own a1).bind fun v21 =>
  (p_pair_Run a0 v21 q20.1).bind fun v22 =>
  (p_ref22_Run a0 a1 a2).bind fun v23 =>
  (p_law22_back v22.1).bind fun v24 =>
  (p_ref22_Same v24 v23.1).bind fun v25 =>
  bif v25 then
   (p_law22_done v22.2).bind fun v27 =>
   (p_ref22_SameDone v27 v23.2).bind fun v28 =>
   bif v28 then
    (p_law22_awake).bind fun v30 =>
    some v30
   else
   some false
  else
  some false
 else
 (p_law22_awake).bind fun v31 =>
 some v31
end Go.Proofs.YtpmoioopjbfhkaaGreat

namespace Go.Proofs.YtpmoioopjbfhkaaGreat
open Go.RowKit
theorem out_p {k:Int} (hk:k=7∨k=8∨k=9∨k=10) (s:Int):p_subs_Out s k=p_ref19_Out s k∧∃ v,p_subs_Out s k=some v:=by
 by_cases h:subC s=0
 ·rcases sub16 (subC_in h) with g | g | g | g | g | g | g | g | g | g | g | g | g | g | g | g <;> rw [g] <;> rcases hk with rfl | rfl | rfl | rfl <;> exact ⟨by kernel_rfl,_,rfl⟩
 ·unfold p_subs_Out p_ref19_Out
  rw [subs_p,rsub_p,Option.bind_some,Option.bind_some,show (subC s != 0)=true by simpa using h]
  exact ⟨rfl,_,rfl⟩
theorem in_p {k:Int} (hk:k=7∨k=8∨k=9∨k=10) (s:Int):p_subs_In s k=p_ref19_In s k∧∃ v,p_subs_In s k=some v:=by
 by_cases h:subC s=0
 ·rcases sub16 (subC_in h) with g | g | g | g | g | g | g | g | g | g | g | g | g | g | g | g <;> rw [g] <;> rcases hk with rfl | rfl | rfl | rfl <;> exact ⟨by kernel_rfl,_,rfl⟩
 ·unfold p_subs_In p_ref19_In
  rw [subs_p,rsub_p,Option.bind_some,Option.bind_some,show (subC s != 0)=true by simpa using h]
  exact ⟨rfl,_,rfl⟩
theorem mirror_p {s:Int} (h:subC s=0):p_subs_Mirror s=p_ref19_Mirror s∧∃ v,p_subs_Mirror s=some v:=by
 rcases sub16 (subC_in h) with g | g | g | g | g | g | g | g | g | g | g | g | g | g | g | g <;> rw [g] <;> exact ⟨by kernel_rfl,_,rfl⟩
theorem agree_p (a b:Int):p_subs_Agree a b=p_ref19_Agree a b∧∃ v,p_subs_Agree a b=some v:=by
 unfold p_subs_Agree p_ref19_Agree
 rw [subs_p,rsub_p,subs_p,rsub_p]
 simp only [Option.bind_some]
 by_cases h:subC a=0
 case neg=>rw [show (subC a == 0)=false by simpa using h];exact ⟨rfl,_,rfl⟩
 rw [show (subC a == 0)=true by simpa using h]
 by_cases h2:subC b=0
 case neg=>rw [show (subC b == 0)=false by simpa using h2];exact ⟨rfl,_,rfl⟩
 rw [show (subC b == 0)=true by simpa using h2]
 obtain ⟨e,v,hv⟩:=mirror_p h
 rw [← e,hv]
 exact ⟨rfl,_,rfl⟩
theorem findE_p {s:RosterState} (h:LightS s) (c:ByteArray):∃ v,p_roster_Find s c=some v∧p_ref21_Find s c=some v∧subC v.1.Sub=0:=by
 obtain ⟨e,h1,h2,h3⟩:=checkS_p h
 have hi:=h.items
 by_cases g:e=0
 case neg =>
  unfold p_roster_Find p_ref21_Find
  rw [place_p (by omega),h1,h2]
  simp only [Option.bind_some,show (e != 0)=true by simpa using g,cond_true]
  exact ⟨_,rfl,rfl,rfl⟩
 subst g
 have f:=h3 rfl
 unfold p_ref21_Find
 rw [FindS_p h1 f c,place_p (by omega),h2]
 simp only [Option.bind_some,bne_self_eq_false,cond_false]
 cases hf:fndC s.Items c with
 | true =>
  obtain ⟨hl,_⟩:=fndC_some hf
  rw [dif_pos hl,if_pos rfl,cond_true,at_lt hl]
  exact ⟨_,rfl,rfl,(fine_of (f.fine _ (List.getElem_mem hl))).sub⟩
 | false =>
  simp only [if_false,Bool.false_eq_true,dite_eq_ite,ite_self,cond_false]
  exact ⟨_,rfl,rfl,rfl⟩
structure LightP (n:Ref22Names) (st:Ref22State):Prop where
 a:n.A.size≤100
 b:n.B.size≤100
 sa:LightS st.A
 sb:LightS st.B
theorem LightP.turn {n:Ref22Names} {st:Ref22State} (h:LightP n st):LightP ⟨n.B,n.A⟩ ⟨st.B,st.A⟩:=⟨h.b,h.a,h.sb,h.sa⟩
theorem pcheck_p {n:Ref22Names} {st:Ref22State} (h:LightP n st):∃ e,p_pair_Check n st=some e∧p_ref22_Check n st=some e:=by
 obtain ⟨e1,a1,b1,_⟩:=checkS_p h.sa
 obtain ⟨e2,a2,b2,_⟩:=checkS_p h.sb
 unfold p_pair_Check p_ref22_Check p_addr_IsBare p_ref09_IsBare
 have:=h.a
 have:=h.b
 rw [if_pos (by omega),if_pos (by omega),a1,a2,b1,b2]
 simp only [Option.bind_some]
 cases isBareL n.A.data.toList <;> cases isBareL n.B.data.toList <;> cases (n.A.toList == n.B.toList) <;> cases (e1 != 0) <;> exact ⟨_,rfl,rfl⟩
theorem say_p {n:Ref22Names} {st:Ref22State} (h:LightP n st) (k:Int):∃ r,p_pair_Say n st k=some r∧p_ref22_Say n st k=some r∧LightP n r.1:=by
 obtain ⟨e,a1,b1⟩:=pcheck_p h
 unfold p_pair_Say p_ref22_Say
 rw [a1,b1]
 simp only [Option.bind_some]
 cases (e != 0) with
 | true=>exact ⟨_,rfl,rfl,h⟩
 | false =>
  simp only [cond_false]
  unfold p_pair_said
  by_cases g1:k < 7
  ·rw [decide_eq_true g1,decide_eq_false (show ¬ (7:Int)≤k by omega)];exact ⟨_,rfl,rfl,h⟩
  rw [decide_eq_false g1,decide_eq_true (show (7:Int)≤k by omega)]
  by_cases g2:(10:Int) < k
  ·rw [decide_eq_true g2,decide_eq_false (show ¬ k≤(10:Int) by omega)];exact ⟨_,rfl,rfl,h⟩
  rw [decide_eq_false g2,decide_eq_true (show k≤(10:Int) by omega)]
  have hk:k=7∨k=8∨k=9∨k=10:=by omega
  obtain ⟨v1,f1,r1,_⟩:=findE_p h.sa n.B
  obtain ⟨v2,f2,r2,_⟩:=findE_p h.sb n.A
  obtain ⟨eo,o,ho⟩:=out_p hk v1.1.Sub
  obtain ⟨ei,i,hi⟩:=in_p hk v2.1.Sub
  have ho2:=eo.symm.trans ho
  have hi2:=ei.symm.trans hi
  unfold p_pair_State_has p_pair_State_turn p_pair_Names_turn p_pair_State_set p_ref22_has
  simp only [cond_true,cond_false,Option.bind_some,f1,f2,r1,r2,ho,ho2,hi,hi2]
  have two:∀ p q:Int,∃ x y,p_roster_Sub st.A n.B p=some x∧p_ref21_Sub st.A n.B p=some x∧LightS x.1∧p_roster_Sub st.B n.A q=some y∧p_ref21_Sub st.B n.A q=some y∧LightS y.1:=fun p q=>by
   obtain ⟨x,x1,x2,x3⟩:=subS_p h.sa h.b p
   obtain ⟨y,y1,y2,y3⟩:=subS_p h.sb h.a q
   exact ⟨x,y,x1,x2,x3,y1,y2,y3⟩
  cases o.2 with
  | true =>
   obtain ⟨x,y,x1,x2,x3,y1,y2,y3⟩:=two o.1 i.1
   simp only [cond_true,x1,x2,y1,y2,Option.bind_some]
   cases hx:(x.2 != 0) with
   | true=>simp only [cond_true,hx,Option.bind_some];exact ⟨_,rfl,rfl,h⟩
   | false =>
    cases hy:(y.2 != 0) with
    | true=>simp only [cond_true,cond_false,hy,Option.bind_some];exact ⟨_,rfl,rfl,h⟩
    | false=>exact ⟨_,rfl,rfl,h.a,h.b,x3,y3⟩
  | false =>
   obtain ⟨x,y,x1,x2,x3,y1,y2,y3⟩:=two o.1 v2.1.Sub
   simp only [cond_false,x1,x2,y1,y2,Option.bind_some]
   cases hx:(x.2 != 0) with
   | true=>simp only [cond_true,hx,Option.bind_some];exact ⟨_,rfl,rfl,h⟩
   | false =>
    cases hy:(y.2 != 0) with
    | true=>simp only [cond_true,cond_false,hy,Option.bind_some];exact ⟨_,rfl,rfl,h⟩
    | false=>exact ⟨_,rfl,rfl,h.a,h.b,x3,y3⟩
theorem remove_p {n:Ref22Names} {st:Ref22State} (h:LightP n st):∃ r,p_pair_Remove n st=some r∧p_ref22_Remove n st=some r∧LightP n r.1:=by
 obtain ⟨e,a1,b1⟩:=pcheck_p h
 unfold p_pair_Remove p_ref22_Remove
 rw [a1,b1]
 simp only [Option.bind_some]
 cases (e != 0) with
 | true=>exact ⟨_,rfl,rfl,h⟩
 | false =>
  obtain ⟨v1,f1,r1,_⟩:=findE_p h.sa n.B
  simp only [cond_false,f1,r1,Option.bind_some]
  cases v1.2 with
  | false=>exact ⟨_,rfl,rfl,h⟩
  | true =>
   simp only [cond_true]
   obtain ⟨s1,p1,q1,l1⟩:=say_p h 10
   rw [show fuel=(fuel - 3) + 3 from rfl,p_pair_Remove_l1,q1]
   simp only [show decide ((0:Int) < 2)=true from rfl,cond_true,show at? [(10:Int),9] 0=some 10 from rfl,Option.bind_some,p1]
   cases hs1:(s1.2.2 != 0) with
   | true=>exact ⟨_,rfl,rfl,h⟩
   | false =>
    simp only [cond_false,beq_self_eq_true,cond_true,show w64 ((0:Int) + 1)=1 from rfl]
    obtain ⟨s2,p2,q2,l2⟩:=say_p l1 9
    rw [p_pair_Remove_l1,q2]
    simp only [show decide ((1:Int) < 2)=true from rfl,cond_true,show at? [(10:Int),9] 1=some 9 from rfl,Option.bind_some,p2]
    cases hs2:(s2.2.2 != 0) with
    | true=>exact ⟨_,rfl,rfl,h⟩
    | false =>
     simp only [cond_false,show ((1:Int) == 0)=false from rfl,beq_self_eq_true,cond_true,show w64 ((1:Int) + 1)=2 from rfl]
     rw [p_pair_Remove_l1]
     simp only [show decide ((2:Int) < 2)=false from rfl,cond_false,Option.bind_some]
     obtain ⟨v3,f3,r3,_⟩:=findE_p l2.sa n.B
     simp only [f3,r3,Option.bind_some]
     cases v3.2 with
     | false=>exact ⟨_,rfl,rfl,l2⟩
     | true =>
      obtain ⟨d,d1,d2,d3⟩:=dropS_p l2.sa h.b
      simp only [cond_true,d1,d2,Option.bind_some]
      cases hd:(d.2 != 0) with
      | true=>exact ⟨_,rfl,rfl,h⟩
      | false=>exact ⟨_,rfl,rfl,h.a,h.b,d3,l2.sb⟩
theorem turn_p (n:Ref22Names) (st:Ref22State):p_pair_Turn n st=some (⟨n.B,n.A⟩,⟨st.B,st.A⟩)∧p_ref22_Turn n st=some (⟨n.B,n.A⟩,⟨st.B,st.A⟩):=⟨rfl,rfl⟩
theorem pagree_p {n:Ref22Names} {st:Ref22State} (h:LightP n st):∃ b,p_pair_Agree n st=some b∧p_ref22_Agree n st=some b:=by
 obtain ⟨e,a1,b1⟩:=pcheck_p h
 obtain ⟨v1,f1,r1,_⟩:=findE_p h.sa n.B
 obtain ⟨v2,f2,r2,_⟩:=findE_p h.sb n.A
 obtain ⟨ea,b,hb⟩:=agree_p v1.1.Sub v2.1.Sub
 unfold p_pair_Agree p_ref22_Agree p_pair_State_has p_pair_State_turn p_pair_Names_turn p_ref22_has
 simp only [a1,b1,Option.bind_some,f1,f2,r1,r2,hb,ea.symm.trans hb]
 cases (e == 0) <;> exact ⟨_,rfl,rfl⟩
theorem tmod_odd {s:Int} (h:subC s=0):(andI .i64 s (1:Int) != (0:Int))=(Int.tmod s (2:Int) == (1:Int)):=by
 rcases sub16 (subC_in h) with g | g | g | g | g | g | g | g | g | g | g | g | g | g | g | g <;> rw [g] <;> kernel_rfl
theorem psees_p {n:Ref22Names} {st:Ref22State} (h:LightP n st):∃ b,p_pair_Sees n st=some b∧p_ref22_Sees n st=some b:=by
 obtain ⟨e,a1,b1⟩:=pcheck_p h
 obtain ⟨v1,f1,r1,hv⟩:=findE_p h.sa n.B
 unfold p_pair_Sees p_ref22_Sees p_pair_State_has p_ref22_has
 simp only [a1,b1,Option.bind_some,f1,r1,tmod_odd hv]
 cases (e == 0) <;> exact ⟨_,rfl,rfl⟩
theorem pback_p {n:Ref22Names} {st:Ref22State} (h:LightP n st):p_law22_back st=some st:=by
 unfold p_law22_back
 rw [backS_p h.sa.small,backS_p h.sb.small];rfl
theorem psame_p {n:Ref22Names} {st:Ref22State} (h:LightP n st):p_ref22_Same st st=some true:=by
 unfold p_ref22_Same
 rw [sameS_p h.sa.small,sameS_p h.sb.small];rfl
theorem fits_p (n:Ref22Names) (st:Ref22State):∃ b,p_law22_fits n st=some b∧(b=true→LightP n st):=by
 obtain ⟨b1,h1,l1⟩:=rlight_p st.A
 obtain ⟨b2,h2,l2⟩:=rlight_p st.B
 unfold p_law22_fits
 rw [h1,h2]
 by_cases ga:n.A.size≤100
 case neg=>rw [show decide ((n.A.size:Int)≤100)=false by simp;omega];exact ⟨_,rfl,fun h=>by cases h⟩
 by_cases gb:n.B.size≤100
 case neg=>rw [show decide ((n.A.size:Int)≤100)=true by simp;omega,show decide ((n.B.size:Int)≤100)=false by simp;omega];exact ⟨_,rfl,fun h=>by cases h⟩
 rw [show decide ((n.A.size:Int)≤100)=true by simp;omega,show decide ((n.B.size:Int)≤100)=true by simp;omega]
 cases b1 with
 | false=>exact ⟨_,rfl,fun h=>by cases h⟩
 | true=>exact ⟨b2,rfl,fun h=>⟨ga,gb,l1 rfl,l2 h⟩⟩
theorem pown_p {n:Ref22Names} {st:Ref22State} (h:LightP n st):p_law22_own st=some st:=by
 unfold p_law22_own
 rw [lown_p h.sa.small,lown_p h.sb.small];rfl
theorem pairSays_pure (haw:p_law22_awake=some true) (n:Ref22Names) (st:Ref22State) (k:Int):p_law22_PairSays n st k=some true:=by
 unfold p_law22_PairSays
 obtain ⟨b,hb,hl⟩:=fits_p n st
 rw [hb,Option.bind_some,haw]
 cases b with
 | false=>rfl
 | true =>
  have h:=hl rfl
  obtain ⟨r1,a1,b1,c1⟩:=say_p h k
  obtain ⟨r2,a2,b2,c2⟩:=remove_p h
  obtain ⟨e,a3,b3⟩:=pcheck_p h
  obtain ⟨v,a4,b4⟩:=pagree_p h
  obtain ⟨w,a5,b5⟩:=psees_p h
  obtain ⟨t1,t2⟩:=turn_p n st
  simp only [cond_true,pown_p h,Option.bind_some,a1,a2,a3,a4,a5,b1,b2,b3,b4,b5,t1,t2,pback_p c1,pback_p c2,pback_p h,pback_p h.turn,psame_p c1,psame_p c2,psame_p h,psame_p h.turn,beq_self_eq_true,Bool.and_self,eqT_refl]
end Go.Proofs.YtpmoioopjbfhkaaGreat

namespace Go.Proofs.YtpmoioopjbfhkaaGreat
open Go.RowKit
theorem run_l {N:Ref22Names} {acts:List PairAct} (hl:acts.length≤100):∀ (n k F:Nat) (out:List PairDone) (st:Ref22State),k + n=acts.length→n < F→out.length≤k→LightP N st →
  ∃ o s,p_pair_Run_l1 N.A N.B acts (acts.length:Int) N F out (k:Int) st=some (o,(acts.length:Int),s)∧p_ref22_Run_l1 acts N F out (k:Int) st=some (o,(acts.length:Int),s)∧LightP N s∧o.length≤100
 | 0,k,F + 1,out,st,hk,hF,ho,h=>by
  have e:k=acts.length:=by omega
  rw [p_pair_Run_l1,p_ref22_Run_l1,lt_ff (by omega),e]
  exact ⟨out,st,rfl,rfl,h,by omega⟩
 | n + 1,k,F + 1,out,st,hk,hF,ho,h=>by
  have hlt:k < acts.length:=by omega
  rw [p_pair_Run_l1,p_ref22_Run_l1,lt_tt hlt,w64_succ (by omega)]
  simp only [cond_true,at_lt hlt,Option.bind_some]
  have happ:∀ d:PairDone,app? out [d]=some (out++[d]):=fun d=>app_ok (by simp;omega)
  generalize acts[k]=x
  cases x.Back with
  | true =>
   obtain ⟨r,p,q,l⟩:=say_p h.turn x.Kind
   unfold p_pair_Names_turn p_pair_State_turn p_ref22_Turn
   simp only [cond_true,Option.bind_some,p,q,happ]
   exact run_l hl n (k + 1) F _ _ (by omega) (by omega) (by simp;omega) ⟨h.a,h.b,l.sb,l.sa⟩
  | false =>
   obtain ⟨r,p,q,l⟩:=say_p h x.Kind
   simp only [cond_false,Option.bind_some,p,q,happ]
   exact run_l hl n (k + 1) F _ _ (by omega) (by omega) (by simp;omega) l
theorem run_p {N:Ref22Names} {acts:List PairAct} (hl:acts.length≤100) {st:Ref22State} (h:LightP N st):∃ o s,p_pair_Run N st acts=some (s,o)∧p_ref22_Run N st acts=some (s,o)∧LightP N s∧o.length≤100:=by
 obtain ⟨o,s,p,q,l,c⟩:=run_l hl acts.length 0 fuel [] st (by omega) (by have:=fuel_pos;omega) (Nat.le_refl _) h
 have p' : p_pair_Run_l1 N.A N.B acts (acts.length:Int) N fuel [] 0 st=some (o,(acts.length:Int),s):=p
 have q' : p_ref22_Run_l1 acts N fuel [] 0 st=some (o,(acts.length:Int),s):=q
 unfold p_pair_Run p_ref22_Run
 rw [p',q']
 exact ⟨o,s,rfl,rfl,l,c⟩
theorem acts_l (z:List PairAct) (hn:z.length≤1000):∀ (n k F:Nat) (acc:List PairAct),k + n=z.length→n < F→acc.length=k→p_law22_PairRuns_l1 z F acc (k:Int)=some (acc++z.drop k,(z.length:Int))
 | 0,k,F + 1,acc,hk,hF,ha=>by
  have e:k=z.length:=by omega
  rw [p_law22_PairRuns_l1,lt_ff (by omega),e,List.drop_length,List.append_nil];rfl
 | n + 1,k,F + 1,acc,hk,hF,ha=>by
  have hlt:k < z.length:=by omega
  rw [p_law22_PairRuns_l1,lt_tt hlt,cond_true,at_lt hlt,Option.bind_some,app_ok (by simp;omega),Option.bind_some,w64_succ (by omega),acts_l z hn n (k + 1) F _ (by omega) (by omega) (by simp;omega),drop_at hlt]
  simp
theorem done_l (z:List PairDone) (hn:z.length≤1000):∀ (n k F:Nat) (acc:List PairDone),k + n=z.length→n < F→acc.length=k→p_law22_done_l1 z F acc (k:Int)=some (acc++z.drop k,(z.length:Int))
 | 0,k,F + 1,acc,hk,hF,ha=>by
  have e:k=z.length:=by omega
  rw [p_law22_done_l1,lt_ff (by omega),e,List.drop_length,List.append_nil];rfl
 | n + 1,k,F + 1,acc,hk,hF,ha=>by
  have hlt:k < z.length:=by omega
  rw [p_law22_done_l1,lt_tt hlt,cond_true,at_lt hlt,Option.bind_some,app_ok (by simp;omega),Option.bind_some,w64_succ (by omega),done_l z hn n (k + 1) F _ (by omega) (by omega) (by simp;omega),drop_at hlt]
  simp
theorem sdone_l (z:List PairDone) (hn:z.length≤1000):∀ (n k F:Nat),k + n=z.length→n < F→p_ref22_SameDone_l1 z z F (k:Int)=some (.inr (z.length:Int))
 | 0,k,F + 1,hk,hF=>by
  have e:k=z.length:=by omega
  rw [p_ref22_SameDone_l1,lt_ff (by omega),e];rfl
 | n + 1,k,F + 1,hk,hF=>by
  have hlt:k < z.length:=by omega
  rw [p_ref22_SameDone_l1,lt_tt hlt,cond_true,at_lt hlt]
  simp only [Option.bind_some,beq_self_eq_true,Bool.and_self,cond_true]
  rw [w64_succ (by omega)]
  exact sdone_l z hn n (k + 1) F (by omega) (by omega)
theorem pairRuns_pure (haw:p_law22_awake=some true) (n:Ref22Names) (st:Ref22State) (l:List PairAct):p_law22_PairRuns n st l=some true:=by
 unfold p_law22_PairRuns
 obtain ⟨b,hb,hl⟩:=fits_p n st
 rw [hb,Option.bind_some,haw]
 cases b with
 | false=>rfl
 | true =>
  have h:=hl rfl
  by_cases g:(40:Int) < (l.length:Int)
  ·rw [decide_eq_true g];rfl
  have hll:l.length≤40:=by omega
  rw [decide_eq_false g]
  have ha:p_law22_PairRuns_l1 l fuel [] 0=some (l,(l.length:Int)):=acts_l l (by omega) l.length 0 fuel [] (by omega) (by have:=fuel_pos;omega) rfl
  obtain ⟨o,s,p,q,lp,c⟩:=run_p (acts:=l) (by omega) h
  have hd:p_law22_done_l1 o fuel [] 0=some (o,(o.length:Int)):=done_l o (by omega) o.length 0 fuel [] (by omega) (by have:=fuel_pos;omega) rfl
  have hs:p_ref22_SameDone_l1 o o fuel 0=some (.inr (o.length:Int)):=sdone_l o (by omega) o.length 0 fuel (by omega) (by have:=fuel_pos;omega)
  unfold p_law22_done p_ref22_SameDone
  simp only [cond_true,cond_false,ha,Option.bind_some,pown_p h,p,q,pback_p lp,psame_p lp,hd,bne_self_eq_false,hs]
end Go.Proofs.YtpmoioopjbfhkaaGreat

namespace Go.Proofs.YtpmoioopjbfhkaaGreat
open Go.RowKit Go.Lib
end Go.Proofs.YtpmoioopjbfhkaaGreat

namespace Go.Proofs.YtpmoioopjbfhkaaGreat
open Go.RowKit
set_option maxRecDepth 100000
set_option maxHeartbeats 4000000
def gc11:BCode:=(.seq (R_ 1 [O_ 1 (.bx (t_ 0)) 0,O_ 2 (.mv (b_ false)) 1]) (.seq (R_ 0 [O_ 3 (.fa 0 (t_ 1)) 0,O_ 4 (.ld 1 false (t_ 3)) 0,O_ 5 (.lent (t_ 4)) 0,O_ 6 (.bin .leq (t_ 5) (i_ 100)) 0,O_ 7 (.mv (t_ 6)) 0,⟨(some 8),.fa 1 (t_ 1),(some (7,true)),0⟩,⟨(some 9),.ld 1 false (t_ 8),(some (7,true)),0⟩,⟨(some 10),.lent (t_ 9),(some (7,true)),0⟩,⟨(some 11),.bin .leq (t_ 10) (i_ 100),(some (7,true)),0⟩,O_ 12 (.pick (t_ 7) (t_ 11) (b_ false)) 0,O_ 2 (.mv (t_ 12)) 0]) .ret))
theorem gc11_ok:compF Tryz.prog Tryz.f11=some (gc11.er,13,[.tmp 2]):=by unfold gc11;kernel_rfl
theorem p_ref20_Light_v (a0:ItemItem):CallsO Tryz.prog 11 [.agg [.s a0.Contact,.s a0.Name,.i a0.Sub,.i a0.Ver,.b a0.Own]] V.b (p_ref20_Light a0):=by
 refine callsO_comp mix Tryz.func11 gc11_ok fun r H=>?_
 rw [p_ref20_Light] at H
 conv=>whnf
 refine tst_c H (fun b1 H=>?_) (fun b1 H=>?_)
 ·conv=>whnf
  iterate 4 (refine Tst.T ?_;conv=>whnf)
  exact fb_ H
 conv=>whnf
 iterate 4 (refine Tst.F ?_;conv=>whnf)
 exact fb_ H
def gc86:BCode:=(.seq (R_ 0 [O_ 2 (.mv (i_ 0)) 0]) (.seq (.block 0 (.seq (.seq (R_ 0 [O_ 4 (.mv (t_ 0)) 0,O_ 5 (.bin .lss (t_ 4) (i_ 0)) 0,O_ 3 (.mv (t_ 5)) 0]) (.cond (t_ 3) .skip (R_ 0 [O_ 6 (.mv (t_ 0)) 0,O_ 7 (.bin .gtr (t_ 6) (i_ 15)) 0,O_ 3 (.mv (t_ 7)) 0]))) (.cond (t_ 3) (.seq (R_ 0 [O_ 2 (.mv (i_ 8)) 0]) .ret) (.seq (.seq (R_ 0 [O_ 9 (.mv (t_ 0)) 0,O_ 10 (.bin .and (t_ 9) (i_ 5)) 0,O_ 11 (.bin .eql (t_ 10) (i_ 5)) 0,O_ 8 (.mv (t_ 11)) 0]) (.cond (t_ 8) .skip (R_ 0 [O_ 12 (.mv (t_ 0)) 0,O_ 13 (.bin .and (t_ 12) (i_ 10)) 0,O_ 14 (.bin .eql (t_ 13) (i_ 10)) 0,O_ 8 (.mv (t_ 14)) 0]))) (.cond (t_ 8) (.seq (R_ 0 [O_ 2 (.mv (i_ 4)) 0]) .ret) .skip))))) (.seq (R_ 0 [O_ 2 (.mv (i_ 0)) 0]) .ret)))
theorem gc86_ok:compF Tryz.prog Tryz.f86=some (gc86.er,15,[.tmp 2]):=by unfold gc86;kernel_rfl
theorem p_subs_Check_v (a0:Int):CallsO Tryz.prog 86 [.i a0] V.i (p_subs_Check a0):=by
 refine callsO_comp mix Tryz.func86 gc86_ok fun r H=>?_
 rw [p_subs_Check] at H
 conv=>whnf
 refine tst_c H (fun b1 H=>?_) (fun b1 H=>?_)
 ·conv=>whnf
  refine Tst.T ?_;conv=>whnf
  exact fi_ H
 conv=>whnf
 refine tst_c H (fun b2 H=>?_) (fun b2 H=>?_)
 ·conv=>whnf
  exact fi_ H
 conv=>whnf
 refine tst_c H (fun b3 H=>?_) (fun b3 H=>?_)
 ·conv=>whnf
  refine Tst.T ?_;conv=>whnf
  exact fi_ H
 conv=>whnf
 refine tst_c H (fun b4 H=>?_) (fun b4 H=>?_)
 ·conv=>whnf
  exact fi_ H
 conv=>whnf
 exact fi_ H
def gc15:BCode:=(.seq (R_ 1 [O_ 1 (.bx (t_ 0)) 0,O_ 2 (.mv (i_ 0)) 1]) (.seq (.seq (R_ 0 [O_ 4 (.fa 0 (t_ 1)) 0,O_ 5 (.ld 1 false (t_ 4)) 0,O_ 6 (.cl 84 [(t_ 5)]) 0,O_ 7 (.un .not (t_ 6)) 0]) (.cond (t_ 7) (.seq (R_ 0 [O_ 2 (.mv (i_ 11)) 0]) .ret) .skip)) (.seq (.seq (R_ 0 [O_ 8 (.fa 1 (t_ 1)) 0,O_ 9 (.ld 1 false (t_ 8)) 0,O_ 10 (.lent (t_ 9)) 0,O_ 11 (.bin .gtr (t_ 10) (i_ 24)) 0]) (.cond (t_ 11) (.seq (R_ 0 [O_ 2 (.mv (i_ 5)) 0]) .ret) .skip)) (.seq (.seq (R_ 0 [O_ 12 (.fa 1 (t_ 1)) 0,O_ 13 (.ld 1 false (t_ 12)) 0,O_ 14 (.cl 85 [(t_ 13)]) 0,O_ 15 (.un .not (t_ 14)) 0]) (.cond (t_ 15) (.seq (R_ 0 [O_ 2 (.mv (i_ 11)) 0]) .ret) .skip)) (.seq (.seq (R_ 0 [O_ 16 (.fa 2 (t_ 1)) 0,O_ 17 (.ld 1 false (t_ 16)) 0,O_ 18 (.cl 86 [(t_ 17)]) 0,O_ 3 (.mv (t_ 18)) 0]) (.seq (R_ 0 [O_ 19 (.mv (t_ 3)) 0,O_ 20 (.bin .neq (t_ 19) (i_ 0)) 0]) (.cond (t_ 20) (.seq (R_ 0 [O_ 21 (.mv (t_ 3)) 0,O_ 2 (.mv (t_ 21)) 0]) .ret) .skip))) (.seq (.seq (R_ 0 [O_ 22 (.fa 3 (t_ 1)) 0,O_ 23 (.ld 1 false (t_ 22)) 0,O_ 24 (.bin .lss (t_ 23) (i_ 0)) 0,O_ 25 (.mv (t_ 24)) 0,⟨(some 26),.fa 3 (t_ 1),(some (25,false)),0⟩,⟨(some 27),.ld 1 false (t_ 26),(some (25,false)),0⟩,⟨(some 28),.bin .gtr (t_ 27) (i_ 1099511627776),(some (25,false)),0⟩,O_ 29 (.pick (t_ 25) (b_ true) (t_ 28)) 0]) (.cond (t_ 29) (.seq (R_ 0 [O_ 2 (.mv (i_ 8)) 0]) .ret) .skip)) (.seq (.seq (R_ 0 [O_ 30 (.fa 1 (t_ 1)) 0,O_ 31 (.ld 1 false (t_ 30)) 0,O_ 32 (.bin .neq (t_ 31) (.const (.string ⟨#[]⟩))) 0,O_ 33 (.mv (t_ 32)) 0,⟨(some 34),.fa 4 (t_ 1),(some (33,true)),0⟩,⟨(some 35),.ld 1 false (t_ 34),(some (33,true)),0⟩,⟨(some 36),.un .not (t_ 35),(some (33,true)),0⟩,O_ 37 (.pick (t_ 33) (t_ 36) (b_ false)) 0]) (.cond (t_ 37) (.seq (R_ 0 [O_ 2 (.mv (i_ 4)) 0]) .ret) .skip)) (.seq (R_ 0 [O_ 2 (.mv (i_ 0)) 0]) .ret))))))))
theorem gc15_ok:compF Tryz.prog Tryz.f15=some (gc15.er,38,[.tmp 2]):=by unfold gc15;kernel_rfl
theorem p_item_Check_v (a0:ItemItem):CallsO Tryz.prog 15 [.agg [.s a0.Contact,.s a0.Name,.i a0.Sub,.i a0.Ver,.b a0.Own]] V.i (p_item_Check a0):=by
 refine callsO_comp mix Tryz.func15 gc15_ok fun r H=>?_
 rw [p_item_Check] at H
 conv=>whnf
 refine ask_c (p_addr_IsBare_v _) H rfl rfl (fun v1 H=>?_);conv=>whnf
 refine Tst.not ?_
 refine tst_d H (fun b2 H=>?_) (fun b2 H=>?_)
 ·conv=>whnf
  exact fi_ H
 conv=>whnf
 refine tst_c H (fun b3 H=>?_) (fun b3 H=>?_)
 ·conv=>whnf
  exact fi_ H
 conv=>whnf
 refine ask_c (p_utf_Plain_v _) H rfl rfl (fun v4 H=>?_);conv=>whnf
 refine Tst.not ?_
 refine tst_d H (fun b5 H=>?_) (fun b5 H=>?_)
 ·conv=>whnf
  exact fi_ H
 conv=>whnf
 refine ask_c (p_subs_Check_v _) H rfl rfl (fun v6 H=>?_);conv=>whnf
 refine tst_c H (fun b7 H=>?_) (fun b7 H=>?_)
 ·conv=>whnf
  exact fi_ H
 conv=>whnf
 refine tst_c H (fun b8 H=>?_) (fun b8 H=>?_)
 ·conv=>whnf
  iterate 4 (refine Tst.T ?_;conv=>whnf)
  exact fi_ H
 conv=>whnf
 iterate 3 (refine Tst.F ?_;conv=>whnf)
 refine tst_c H (fun b9 H=>?_) (fun b9 H=>?_)
 ·conv=>whnf
  exact fi_ H
 conv=>whnf
 refine Tst.not ?_
 refine tst_c H (fun b10 H=>?_) (fun b10 H=>?_)
 ·conv=>whnf
  iterate 4 (refine Tst.F ?_;conv=>whnf)
  exact fi_ H
 conv=>whnf
 iterate 3 (refine Tst.T ?_;conv=>whnf)
 refine Tst.not ?_
 refine tst_c H (fun b11 H=>?_) (fun b11 H=>?_)
 ·conv=>whnf
  exact fi_ H
 conv=>whnf
 exact fi_ H
end Go.Proofs.YtpmoioopjbfhkaaGreat

namespace Go.Proofs.YtpmoioopjbfhkaaGreat
open Go.RowKit
set_option maxRecDepth 100000
set_option maxHeartbeats 4000000
def gc156:BCode:=(.seq (R_ 1 [O_ 2 (.al (.agg [(.lit (.bool false)),(.lit (.bool false)),(.lit (.bool false)),(.lit (.bool false))])) 0]) (.seq (R_ 0 [O_ 3 (.mv (t_ 0)) 0,O_ 4 (.bin .rem (t_ 3) (i_ 2)) 0,O_ 5 (.bin .eql (t_ 4) (i_ 1)) 0,O_ 6 (.mv (t_ 0)) 0,O_ 7 (.bin .quo (t_ 6) (i_ 2)) 0,O_ 8 (.bin .rem (t_ 7) (i_ 2)) 0,O_ 9 (.bin .eql (t_ 8) (i_ 1)) 0,O_ 10 (.mv (t_ 0)) 0,O_ 11 (.bin .quo (t_ 10) (i_ 4)) 0,O_ 12 (.bin .rem (t_ 11) (i_ 2)) 0,O_ 13 (.bin .eql (t_ 12) (i_ 1)) 0,O_ 14 (.mv (t_ 0)) 0,O_ 15 (.bin .quo (t_ 14) (i_ 8)) 0,O_ 16 (.bin .rem (t_ 15) (i_ 2)) 0,O_ 17 (.bin .eql (t_ 16) (i_ 1)) 0,O_ 18 (.bd [(.lit (.bool false)),(.lit (.bool false)),(.lit (.bool false)),(.lit (.bool false))] [(0,1,(t_ 5)),(1,1,(t_ 9)),(2,1,(t_ 13)),(3,1,(t_ 17))]) 0,U_ (.st 4 (t_ 2) (t_ 18)) 0]) .ret))
theorem gc156_ok:compF Tryz.prog Tryz.f156=some (gc156.er,19,[.cell 2 4 true]):=by unfold gc156;kernel_rfl
theorem p_ref19_of_v (a0:Int):CallsO Tryz.prog 156 [.i a0] Ref19Four.v (p_ref19_of a0):=by
 refine callsO_comp mix Tryz.func156 gc156_ok fun r H=>?_
 rw [p_ref19_of] at H
 conv=>whnf
 refine ⟨by decide,?_⟩;conv=>whnf
 refine ⟨by decide,Ari.w ?_⟩;conv=>whnf
 refine ⟨by decide,?_⟩;conv=>whnf
 refine ⟨by decide,Ari.w ?_⟩;conv=>whnf
 refine ⟨by decide,?_⟩;conv=>whnf
 refine ⟨by decide,Ari.w ?_⟩;conv=>whnf
 refine ⟨by decide,?_⟩;conv=>whnf
 refine lq_ ?_;conv=>whnf
 exact fin0_c (enc:=Ref19Four.v) H (.inr rfl) (.cons (.cell rfl rfl (Nat.le_of_ble_eq_true rfl)) (.nil)) rfl rfl
def gc89:BCode:=(.seq (R_ 0 [O_ 2 (.mv (i_ 0)) 0]) (.seq (.seq (R_ 0 [O_ 4 (.mv (t_ 0)) 0,O_ 5 (.bin .lss (t_ 4) (i_ 0)) 0,O_ 6 (.mv (t_ 5)) 0,⟨(some 7),.mv (t_ 0),(some (6,false)),0⟩,⟨(some 8),.bin .gtr (t_ 7) (i_ 15),(some (6,false)),0⟩,O_ 9 (.pick (t_ 6) (b_ true) (t_ 8)) 0]) (.cond (t_ 9) (.seq (R_ 0 [O_ 2 (.mv (i_ 8)) 0]) .ret) .skip)) (.seq (R_ 1 [O_ 10 (.mv (t_ 0)) 0,O_ 11 (.cl 156 [(t_ 10)]) 0,O_ 3 (.al (.agg [(.lit (.bool false)),(.lit (.bool false)),(.lit (.bool false)),(.lit (.bool false))])) 0,U_ (.st 4 (t_ 3) (t_ 11)) 1]) (.seq (.seq (R_ 0 [O_ 12 (.fa 0 (t_ 3)) 0,O_ 13 (.ld 1 false (t_ 12)) 0,O_ 14 (.mv (t_ 13)) 0,⟨(some 15),.fa 2 (t_ 3),(some (14,true)),0⟩,⟨(some 16),.ld 1 false (t_ 15),(some (14,true)),0⟩,O_ 17 (.pick (t_ 14) (t_ 16) (b_ false)) 0,O_ 18 (.mv (t_ 17)) 0,⟨(some 19),.fa 1 (t_ 3),(some (18,false)),0⟩,⟨(some 20),.ld 1 false (t_ 19),(some (18,false)),0⟩,⟨(some 21),.mv (t_ 20),(some (18,false)),0⟩,⟨(some 22),.fa 3 (t_ 3),(some (21,true)),0⟩,⟨(some 23),.ld 1 false (t_ 22),(some (21,true)),0⟩,⟨(some 24),.pick (t_ 21) (t_ 23) (b_ false),(some (18,false)),0⟩,O_ 25 (.pick (t_ 18) (b_ true) (t_ 24)) 0]) (.cond (t_ 25) (.seq (R_ 0 [O_ 2 (.mv (i_ 4)) 0]) .ret) .skip)) (.seq (R_ 0 [O_ 2 (.mv (i_ 0)) 0]) .ret)))))
theorem gc89_ok:compF Tryz.prog Tryz.f89=some (gc89.er,26,[.tmp 2]):=by unfold gc89;kernel_rfl
theorem p_ref19_Check_v (a0:Int):CallsO Tryz.prog 89 [.i a0] V.i (p_ref19_Check a0):=by
 refine callsO_comp mix Tryz.func89 gc89_ok fun r H=>?_
 rw [p_ref19_Check] at H
 conv=>whnf
 refine tst_c H (fun b1 H=>?_) (fun b1 H=>?_)
 ·conv=>whnf
  iterate 3 (refine Tst.T ?_;conv=>whnf)
  exact fi_ H
 conv=>whnf
 iterate 2 (refine Tst.F ?_;conv=>whnf)
 refine tst_c H (fun b2 H=>?_) (fun b2 H=>?_)
 ·conv=>whnf
  exact fi_ H
 conv=>whnf
 refine ask_c (p_ref19_of_v _) H rfl rfl (fun v3 H=>?_);conv=>whnf
 refine lq_ ?_;conv=>whnf
 refine tst_d H (fun b4 H=>?_) (fun b4 H=>?_)
 ·conv=>whnf
  iterate 5 (refine Tst.F ?_;conv=>whnf)
  refine tst_d H (fun b8 H=>?_) (fun b8 H=>?_)
  ·conv=>whnf
   iterate 5 (refine Tst.F ?_;conv=>whnf)
   exact fi_ H
  conv=>whnf
  refine Tst.T ?_;conv=>whnf
  refine Tst.F ?_;conv=>whnf
  refine Tst.T ?_;conv=>whnf
  refine Tst.F ?_;conv=>whnf
  refine tst_c H (fun b9 H=>?_) (fun b9 H=>?_)
  ·conv=>whnf
   exact fi_ H
  conv=>whnf
  exact fi_ H
 conv=>whnf
 iterate 2 (refine Tst.T ?_;conv=>whnf)
 refine tst_c H (fun b5 H=>?_) (fun b5 H=>?_)
 ·conv=>whnf
  iterate 5 (refine Tst.T ?_;conv=>whnf)
  exact fi_ H
 conv=>whnf
 iterate 2 (refine Tst.F ?_;conv=>whnf)
 refine tst_d H (fun b6 H=>?_) (fun b6 H=>?_)
 ·conv=>whnf
  iterate 5 (refine Tst.F ?_;conv=>whnf)
  exact fi_ H
 conv=>whnf
 refine Tst.T ?_;conv=>whnf
 refine Tst.F ?_;conv=>whnf
 refine Tst.T ?_;conv=>whnf
 refine Tst.F ?_;conv=>whnf
 refine tst_c H (fun b7 H=>?_) (fun b7 H=>?_)
 ·conv=>whnf
  exact fi_ H
 conv=>whnf
 exact fi_ H
def gc16:BCode:=(.seq (R_ 1 [O_ 1 (.bx (t_ 0)) 0,O_ 2 (.mv (i_ 0)) 1]) (.seq (.block 0 (.seq (R_ 0 [O_ 4 (.fa 0 (t_ 1)) 0,O_ 5 (.ld 1 false (t_ 4)) 0,O_ 6 (.cl 87 [(t_ 5)]) 0,O_ 7 (.un .not (t_ 6)) 0,O_ 3 (.mv (t_ 7)) 0]) (.cond (t_ 3) (.seq (R_ 0 [O_ 2 (.mv (i_ 11)) 0]) .ret) (.seq (R_ 0 [O_ 9 (.fa 1 (t_ 1)) 0,O_ 10 (.ld 1 false (t_ 9)) 0,O_ 11 (.lent (t_ 10)) 0,O_ 12 (.bin .gtr (t_ 11) (i_ 24)) 0,O_ 8 (.mv (t_ 12)) 0]) (.cond (t_ 8) (.seq (R_ 0 [O_ 2 (.mv (i_ 5)) 0]) .ret) (.seq (R_ 0 [O_ 14 (.fa 1 (t_ 1)) 0,O_ 15 (.ld 1 false (t_ 14)) 0,O_ 16 (.cl 88 [(t_ 15)]) 0,O_ 17 (.un .not (t_ 16)) 0,O_ 13 (.mv (t_ 17)) 0]) (.cond (t_ 13) (.seq (R_ 0 [O_ 2 (.mv (i_ 11)) 0]) .ret) (.seq (R_ 0 [O_ 19 (.fa 2 (t_ 1)) 0,O_ 20 (.ld 1 false (t_ 19)) 0,O_ 21 (.cl 89 [(t_ 20)]) 0,O_ 22 (.bin .neq (t_ 21) (i_ 0)) 0,O_ 18 (.mv (t_ 22)) 0]) (.cond (t_ 18) (.seq (R_ 0 [O_ 23 (.fa 2 (t_ 1)) 0,O_ 24 (.ld 1 false (t_ 23)) 0,O_ 25 (.cl 89 [(t_ 24)]) 0,O_ 2 (.mv (t_ 25)) 0]) .ret) (.seq (R_ 0 [O_ 27 (.fa 3 (t_ 1)) 0,O_ 28 (.ld 1 false (t_ 27)) 0,O_ 29 (.bin .lss (t_ 28) (i_ 0)) 0,O_ 30 (.mv (t_ 29)) 0,⟨(some 31),.fa 3 (t_ 1),(some (30,false)),0⟩,⟨(some 32),.ld 1 false (t_ 31),(some (30,false)),0⟩,⟨(some 33),.bin .gtr (t_ 32) (i_ 1099511627776),(some (30,false)),0⟩,O_ 34 (.pick (t_ 30) (b_ true) (t_ 33)) 0,O_ 26 (.mv (t_ 34)) 0]) (.cond (t_ 26) (.seq (R_ 0 [O_ 2 (.mv (i_ 8)) 0]) .ret) (.seq (R_ 0 [O_ 36 (.fa 1 (t_ 1)) 0,O_ 37 (.ld 1 false (t_ 36)) 0,O_ 38 (.bin .neq (t_ 37) (.const (.string ⟨#[]⟩))) 0,O_ 39 (.mv (t_ 38)) 0,⟨(some 40),.fa 4 (t_ 1),(some (39,true)),0⟩,⟨(some 41),.ld 1 false (t_ 40),(some (39,true)),0⟩,⟨(some 42),.un .not (t_ 41),(some (39,true)),0⟩,O_ 43 (.pick (t_ 39) (t_ 42) (b_ false)) 0,O_ 35 (.mv (t_ 43)) 0]) (.cond (t_ 35) (.seq (R_ 0 [O_ 2 (.mv (i_ 4)) 0]) .ret) .skip))))))))))))) (.seq (R_ 0 [O_ 2 (.mv (i_ 0)) 0]) .ret)))
theorem gc16_ok:compF Tryz.prog Tryz.f16=some (gc16.er,44,[.tmp 2]):=by unfold gc16;kernel_rfl
theorem p_ref20_Check_v (a0:ItemItem):CallsO Tryz.prog 16 [.agg [.s a0.Contact,.s a0.Name,.i a0.Sub,.i a0.Ver,.b a0.Own]] V.i (p_ref20_Check a0):=by
 refine callsO_comp mix Tryz.func16 gc16_ok fun r H=>?_
 rw [p_ref20_Check] at H
 conv=>whnf
 refine ask_c (p_ref09_IsBare_v _) H rfl rfl (fun v1 H=>?_);conv=>whnf
 refine Tst.not ?_
 refine tst_d H (fun b2 H=>?_) (fun b2 H=>?_)
 ·conv=>whnf
  exact fi_ H
 conv=>whnf
 refine tst_c H (fun b3 H=>?_) (fun b3 H=>?_)
 ·conv=>whnf
  exact fi_ H
 conv=>whnf
 refine ask_c (p_ref02_Plain_v _) H rfl rfl (fun v4 H=>?_);conv=>whnf
 refine Tst.not ?_
 refine tst_d H (fun b5 H=>?_) (fun b5 H=>?_)
 ·conv=>whnf
  exact fi_ H
 conv=>whnf
 refine ask_c (p_ref19_Check_v _) H rfl rfl (fun v6 H=>?_);conv=>whnf
 refine tst_c H (fun b7 H=>?_) (fun b7 H=>?_)
 ·conv=>whnf
  refine ask_c (p_ref19_Check_v _) H rfl rfl (fun v8 H=>?_);conv=>whnf
  exact fi_ H
 conv=>whnf
 refine tst_c H (fun b9 H=>?_) (fun b9 H=>?_)
 ·conv=>whnf
  iterate 4 (refine Tst.T ?_;conv=>whnf)
  exact fi_ H
 conv=>whnf
 iterate 3 (refine Tst.F ?_;conv=>whnf)
 refine tst_c H (fun b10 H=>?_) (fun b10 H=>?_)
 ·conv=>whnf
  exact fi_ H
 conv=>whnf
 refine Tst.not ?_
 refine tst_c H (fun b11 H=>?_) (fun b11 H=>?_)
 ·conv=>whnf
  iterate 4 (refine Tst.F ?_;conv=>whnf)
  exact fi_ H
 conv=>whnf
 iterate 3 (refine Tst.T ?_;conv=>whnf)
 refine Tst.not ?_
 refine tst_c H (fun b12 H=>?_) (fun b12 H=>?_)
 ·conv=>whnf
  exact fi_ H
 conv=>whnf
 exact fi_ H
end Go.Proofs.YtpmoioopjbfhkaaGreat

namespace Go.Proofs.YtpmoioopjbfhkaaGreat
open Go.RowKit
set_option maxRecDepth 100000
set_option maxHeartbeats 4000000
def gc90:BCode:=(.seq (R_ 1 [O_ 2 (.bx (t_ 0)) 0,O_ 4 (.mv (b_ false)) 1]) (.seq (R_ 0 [O_ 5 (.fa 2 (t_ 2)) 0,O_ 6 (.ld 1 false (t_ 5)) 0,O_ 7 (.cl 86 [(t_ 6)]) 0,O_ 8 (.bin .eql (t_ 7) (i_ 0)) 0,O_ 9 (.mv (t_ 8)) 0,⟨(some 10),.fa 2 (t_ 2),(some (9,true)),0⟩,⟨(some 11),.ld 1 false (t_ 10),(some (9,true)),0⟩,⟨(some 12),.mv (t_ 1),(some (9,true)),0⟩,⟨(some 13),.bin .and (t_ 11) (t_ 12),(some (9,true)),0⟩,⟨(some 14),.bin .neq (t_ 13) (i_ 0),(some (9,true)),0⟩,O_ 15 (.pick (t_ 9) (t_ 14) (b_ false)) 0,O_ 4 (.mv (t_ 15)) 0]) .ret))
theorem gc90_ok:compF Tryz.prog Tryz.f90=some (gc90.er,16,[.tmp 4]):=by unfold gc90;kernel_rfl
theorem p_item_Item_has_v (a0:ItemItem) (a1:Int):CallsO Tryz.prog 90 [.agg [.s a0.Contact,.s a0.Name,.i a0.Sub,.i a0.Ver,.b a0.Own],.i a1] V.b (p_item_Item_has a0 a1):=by
 refine callsO_comp mix Tryz.func90 gc90_ok fun r H=>?_
 rw [p_item_Item_has] at H
 conv=>whnf
 refine ask_c (p_subs_Check_v _) H rfl rfl (fun v1 H=>?_);conv=>whnf
 refine tst_c H (fun b2 H=>?_) (fun b2 H=>?_)
 ·conv=>whnf
  iterate 5 (refine Tst.T ?_;conv=>whnf)
  exact fb_ H
 conv=>whnf
 iterate 5 (refine Tst.F ?_;conv=>whnf)
 exact fb_ H
def gc17:BCode:=(.seq (R_ 1 [O_ 1 (.bx (t_ 0)) 0,O_ 2 (.mv (b_ false)) 1]) (.seq (R_ 0 [O_ 3 (.fa 4 (t_ 1)) 0,O_ 4 (.ld 1 false (t_ 3)) 0,O_ 5 (.mv (t_ 4)) 0,⟨(some 6),.ld 5 true (t_ 1),(some (5,false)),0⟩,⟨(some 7),.cl 90 [(t_ 6),(i_ 7)],(some (5,false)),0⟩,O_ 8 (.pick (t_ 5) (b_ true) (t_ 7)) 0,O_ 2 (.mv (t_ 8)) 0]) .ret))
theorem gc17_ok:compF Tryz.prog Tryz.f17=some (gc17.er,9,[.tmp 2]):=by unfold gc17;kernel_rfl
theorem p_item_Listed_v (a0:ItemItem):CallsO Tryz.prog 17 [.agg [.s a0.Contact,.s a0.Name,.i a0.Sub,.i a0.Ver,.b a0.Own]] V.b (p_item_Listed a0):=by
 refine callsO_comp mix Tryz.func17 gc17_ok fun r H=>?_
 rw [p_item_Listed] at H
 conv=>whnf
 refine tst_c H (fun b1 H=>?_) (fun b1 H=>?_)
 ·conv=>whnf
  iterate 2 (refine Tst.T ?_;conv=>whnf)
  exact fb_ H
 conv=>whnf
 refine Tst.F ?_;conv=>whnf
 refine ask_c (p_item_Item_has_v _ _) H rfl rfl (fun v2 H=>?_);conv=>whnf
 refine Tst.F ?_;conv=>whnf
 exact fb_ H
def gc91:BCode:=(.seq (R_ 1 [O_ 2 (.bx (t_ 0)) 0,O_ 4 (.mv (b_ false)) 1]) (.seq (R_ 0 [O_ 5 (.fa 2 (t_ 2)) 0,O_ 6 (.ld 1 false (t_ 5)) 0,O_ 7 (.cl 89 [(t_ 6)]) 0,O_ 8 (.bin .eql (t_ 7) (i_ 0)) 0,O_ 9 (.mv (t_ 8)) 0,⟨(some 10),.fa 2 (t_ 2),(some (9,true)),0⟩,⟨(some 11),.ld 1 false (t_ 10),(some (9,true)),0⟩,⟨(some 12),.mv (t_ 1),(some (9,true)),0⟩,⟨(some 13),.bin .quo (t_ 11) (t_ 12),(some (9,true)),0⟩,⟨(some 14),.bin .rem (t_ 13) (i_ 2),(some (9,true)),0⟩,⟨(some 15),.bin .eql (t_ 14) (i_ 1),(some (9,true)),0⟩,O_ 16 (.pick (t_ 9) (t_ 15) (b_ false)) 0,O_ 4 (.mv (t_ 16)) 0]) .ret))
theorem gc91_ok:compF Tryz.prog Tryz.f91=some (gc91.er,17,[.tmp 4]):=by unfold gc91;kernel_rfl
theorem p_ref20_has_v (a0:ItemItem) (a1:Int):CallsO Tryz.prog 91 [.agg [.s a0.Contact,.s a0.Name,.i a0.Sub,.i a0.Ver,.b a0.Own],.i a1] V.b (p_ref20_has a0 a1):=by
 refine callsO_comp mix Tryz.func91 gc91_ok fun r H=>?_
 rw [p_ref20_has] at H
 conv=>whnf
 refine ask_c (p_ref19_Check_v _) H rfl rfl (fun v1 H=>?_);conv=>whnf
 refine tst_d H (fun b2 H=>?_) (fun b2 H=>?_)
 ·conv=>whnf
  iterate 6 (refine Tst.F ?_;conv=>whnf)
  exact fb_ H
 conv=>whnf
 iterate 3 (refine Tst.T ?_;conv=>whnf)
 refine ne0_c H (fun H=>Ari.w ?_);conv=>whnf
 refine Tst.T ?_;conv=>whnf
 refine ⟨by decide,?_⟩;conv=>whnf
 iterate 2 (refine Tst.T ?_;conv=>whnf)
 exact fb_ H
def gc18:BCode:=(.seq (R_ 1 [O_ 1 (.bx (t_ 0)) 0,O_ 2 (.mv (b_ false)) 1]) (.seq (R_ 0 [O_ 3 (.fa 4 (t_ 1)) 0,O_ 4 (.ld 1 false (t_ 3)) 0,O_ 5 (.mv (t_ 4)) 0,⟨(some 6),.ld 5 true (t_ 1),(some (5,false)),0⟩,⟨(some 7),.cl 91 [(t_ 6),(i_ 1)],(some (5,false)),0⟩,O_ 8 (.pick (t_ 5) (b_ true) (t_ 7)) 0,O_ 9 (.mv (t_ 8)) 0,⟨(some 10),.ld 5 true (t_ 1),(some (9,false)),0⟩,⟨(some 11),.cl 91 [(t_ 10),(i_ 2)],(some (9,false)),0⟩,O_ 12 (.pick (t_ 9) (b_ true) (t_ 11)) 0,O_ 13 (.mv (t_ 12)) 0,⟨(some 14),.ld 5 true (t_ 1),(some (13,false)),0⟩,⟨(some 15),.cl 91 [(t_ 14),(i_ 4)],(some (13,false)),0⟩,O_ 16 (.pick (t_ 13) (b_ true) (t_ 15)) 0,O_ 2 (.mv (t_ 16)) 0]) .ret))
theorem gc18_ok:compF Tryz.prog Tryz.f18=some (gc18.er,17,[.tmp 2]):=by unfold gc18;kernel_rfl
theorem p_ref20_Listed_v (a0:ItemItem):CallsO Tryz.prog 18 [.agg [.s a0.Contact,.s a0.Name,.i a0.Sub,.i a0.Ver,.b a0.Own]] V.b (p_ref20_Listed a0):=by
 refine callsO_comp mix Tryz.func18 gc18_ok fun r H=>?_
 rw [p_ref20_Listed] at H
 conv=>whnf
 refine tst_c H (fun b1 H=>?_) (fun b1 H=>?_)
 ·conv=>whnf
  iterate 8 (refine Tst.T ?_;conv=>whnf)
  exact fb_ H
 conv=>whnf
 refine Tst.F ?_;conv=>whnf
 refine ask_c (p_ref20_has_v _ _) H rfl rfl (fun v2 H=>?_);conv=>whnf
 refine Tst.F ?_;conv=>whnf
 refine tst_c H (fun b3 H=>?_) (fun b3 H=>?_)
 ·conv=>whnf
  iterate 5 (refine Tst.T ?_;conv=>whnf)
  exact fb_ H
 conv=>whnf
 refine Tst.F ?_;conv=>whnf
 refine ask_c (p_ref20_has_v _ _) H rfl rfl (fun v4 H=>?_);conv=>whnf
 refine Tst.F ?_;conv=>whnf
 refine tst_c H (fun b5 H=>?_) (fun b5 H=>?_)
 ·conv=>whnf
  iterate 2 (refine Tst.T ?_;conv=>whnf)
  exact fb_ H
 conv=>whnf
 refine Tst.F ?_;conv=>whnf
 refine ask_c (p_ref20_has_v _ _) H rfl rfl (fun v6 H=>?_);conv=>whnf
 refine Tst.F ?_;conv=>whnf
 exact fb_ H
def gc19:BCode:=(.seq (R_ 1 [O_ 1 (.bx (t_ 0)) 0,O_ 2 (.mv (b_ false)) 1]) (.seq (R_ 0 [O_ 3 (.fa 2 (t_ 1)) 0,O_ 4 (.ld 1 false (t_ 3)) 0,O_ 5 (.bin .eql (t_ 4) (i_ 0)) 0,O_ 6 (.mv (t_ 5)) 0,⟨(some 7),.fa 4 (t_ 1),(some (6,true)),0⟩,⟨(some 8),.ld 1 false (t_ 7),(some (6,true)),0⟩,⟨(some 9),.un .not (t_ 8),(some (6,true)),0⟩,O_ 10 (.pick (t_ 6) (t_ 9) (b_ false)) 0,O_ 2 (.mv (t_ 10)) 0]) .ret))
theorem gc19_ok:compF Tryz.prog Tryz.f19=some (gc19.er,11,[.tmp 2]):=by unfold gc19;kernel_rfl
theorem p_item_Idle_v (a0:ItemItem):CallsO Tryz.prog 19 [.agg [.s a0.Contact,.s a0.Name,.i a0.Sub,.i a0.Ver,.b a0.Own]] V.b (p_item_Idle a0):=by
 refine callsO_comp mix Tryz.func19 gc19_ok fun r H=>?_
 rw [p_item_Idle] at H
 conv=>whnf
 refine tst_c H (fun b1 H=>?_) (fun b1 H=>?_)
 ·conv=>whnf
  iterate 3 (refine Tst.T ?_;conv=>whnf)
  exact fb_ H
 conv=>whnf
 iterate 3 (refine Tst.F ?_;conv=>whnf)
 exact fb_ H
def gc20:BCode:=(.seq (R_ 1 [O_ 1 (.bx (t_ 0)) 0,O_ 2 (.mv (b_ false)) 1]) (.seq (R_ 0 [O_ 3 (.fa 4 (t_ 1)) 0,O_ 4 (.ld 1 false (t_ 3)) 0,O_ 5 (.un .not (t_ 4)) 0,O_ 6 (.mv (t_ 5)) 0,⟨(some 7),.fa 2 (t_ 1),(some (6,true)),0⟩,⟨(some 8),.ld 1 false (t_ 7),(some (6,true)),0⟩,⟨(some 9),.bin .eql (t_ 8) (i_ 0),(some (6,true)),0⟩,O_ 10 (.pick (t_ 6) (t_ 9) (b_ false)) 0,O_ 2 (.mv (t_ 10)) 0]) .ret))
theorem gc20_ok:compF Tryz.prog Tryz.f20=some (gc20.er,11,[.tmp 2]):=by unfold gc20;kernel_rfl
theorem p_ref20_Idle_v (a0:ItemItem):CallsO Tryz.prog 20 [.agg [.s a0.Contact,.s a0.Name,.i a0.Sub,.i a0.Ver,.b a0.Own]] V.b (p_ref20_Idle a0):=by
 refine callsO_comp mix Tryz.func20 gc20_ok fun r H=>?_
 rw [p_ref20_Idle] at H
 conv=>whnf
 refine Tst.not ?_
 refine tst_c H (fun b1 H=>?_) (fun b1 H=>?_)
 ·conv=>whnf
  iterate 3 (refine Tst.F ?_;conv=>whnf)
  exact fb_ H
 conv=>whnf
 iterate 3 (refine Tst.T ?_;conv=>whnf)
 exact fb_ H
end Go.Proofs.YtpmoioopjbfhkaaGreat

namespace Go.Proofs.YtpmoioopjbfhkaaGreat
open Go.RowKit
end Go.Proofs.YtpmoioopjbfhkaaGreat

namespace Go.Proofs.YtpmoioopjbfhkaaGreat
open Go.RowKit
end Go.Proofs.YtpmoioopjbfhkaaGreat

namespace Go.Proofs.YtpmoioopjbfhkaaGreat
open Go.RowKit
end Go.Proofs.YtpmoioopjbfhkaaGreat

namespace Go.Proofs.YtpmoioopjbfhkaaGreat
open Go.RowKit Go.Lib
set_option maxHeartbeats 4000000
set_option maxRecDepth 100000
theorem cloS101 (A:Addr) (n c:Nat) (cs:List Value) (w:World) (hn:0 < n) (hbig:n≤1000000) (hcl:cs.length=n * 5) (hcs:∀ j v,cs[j]?=some v→w.cell? (A.add j)=some v) (h1:∀ v ∈ cs,v.oneCell'=true) :
  Calls Tryz.prog 101 #[.slice (some A) n c] w fun e w'=>∃ ZS:Array Value,e=.returned (.slice (some ⟨w.heap.size + 1,0,none⟩) n (grownCap (w.alloc (.cells #[] 26)) n 0 26))∧w'=(w.alloc (.cells #[] 26)).drew.alloc (.cells (cs.toArray++ZS) 26)∧grownCap (w.alloc (.cells #[] 26)) n 0 26 * 5≤(cs.toArray++ZS).size:=by
 have tS:Tryz.prog.underlying 47=some (.slice 26):=by kernel_rfl
 have uS:=run_underlying tS
 have qS:∀ (w:World) (a:Option Addr) (n c n' c' : Nat),(binOp .eql 47 (.slice a n c) (.slice none n' c')).run Tryz.prog w=.ok (.bool a.isNone) w:=fun w a n c n' c'=>Lib.run_eql_slice_nil w _ _ a n c n' c' tS
 have mixed:Tryz.prog.follows .mixedOrders=true:=mix
 obtain ⟨i0,z,hi0,hzs,hz0,hzc,hzb⟩:=infB_ok (P:=Tryz.prog) (e:=26) (es:=5) (by kernel_rfl)
 have hsrc:Src Tryz.prog i0.size 47 (.slice (some A) n c) n cs (w.alloc (.cells #[] 26)):=by
  rw [hzs]
  exact Src.ofSlice _ tS A n c cs (by omega) (fun j u hj=>Lib.cell?_alloc_some _ (hcs j u hj)) h1
 have hold:(Builtin.firstCells i0.size 0 (.slice (some ⟨w.heap.size,0,none⟩) 0 0)).run Tryz.prog (w.alloc (.cells #[] 26)).drew=.ok ([]:List Value).toArray (w.alloc (.cells #[] 26)).drew:=by
  rw [hzs]
  exact run_firstCells_some _ 5 0 ⟨w.heap.size,0,none⟩ 0 0 [] (by simp) (fun j v hj=>by simp at hj)
 have hrun:∀ ty,(Builtin.append_ #[47,47] ty #[.slice (some ⟨w.heap.size,0,none⟩) 0 0,.slice (some A) n c]).run Tryz.prog (w.alloc (.cells #[] 26))=_:=fun ty =>
  run_append_grow_src (w.alloc (.cells #[] 26)) 47 47 ty 26 i0 z tS hi0 hz0 (some ⟨w.heap.size,0,none⟩) 0 0 [] hold _ n cs hsrc (by omega) (by omega) (growslice_fits (by omega) (grown_bound (by omega) hzb))
 simp only [Nat.zero_add,List.nil_append,World.size_alloc] at hrun
 have hge:=grownCap_ge (w.alloc (.cells #[] 26)) n 0 26
 have hsz:grownCap (w.alloc (.cells #[] 26)) n 0 26 * 5≤(cs.toArray++Builtin.zeroCells z.cells (grownCap (w.alloc (.cells #[] 26)) n 0 26 - n)).size:=by
  simp only [Array.size_append,size_zeroCells,hzc,List.size_toArray,hcl]
  omega
 obtain ⟨ZS,hrun,hsz⟩ : ∃ ZS:Array Value,(∀ ty,(Builtin.append_ #[47,47] ty #[.slice (some ⟨w.heap.size,0,none⟩) 0 0,.slice (some A) n c]).run Tryz.prog (w.alloc (.cells #[] 26))=.ok (.slice (some ⟨w.heap.size + 1,0,none⟩) n (grownCap (w.alloc (.cells #[] 26)) n 0 26)) ((w.alloc (.cells #[] 26)).drew.alloc (.cells (cs.toArray++ZS) 26)))∧grownCap (w.alloc (.cells #[] 26)) n 0 26 * 5≤(cs.toArray++ZS).size:=⟨_,hrun,hsz⟩
 have main:Calls Tryz.prog 101 #[.slice (some A) n c] w fun e w'=>e=.returned (.slice (some ⟨w.heap.size + 1,0,none⟩) n (grownCap (w.alloc (.cells #[] 26)) n 0 26))∧w'=(w.alloc (.cells #[] 26)).drew.alloc (.cells (cs.toArray++ZS) 26):=by
  clear hsz hold hsrc hz0 hcs
  go_enter Tryz.func101,Tryz.ntmps101
  go_wp2_with (at_builtin;refine Lib.wpList_append_run _ rfl _ _ _ _ rfl _ _ rfl rfl _ _ (hrun _) ?_)
  go_ret
  exact ⟨rfl,rfl⟩
 refine main.mono ?_
 rintro e w' ⟨rfl,rfl⟩
 exact ⟨ZS,rfl,rfl,hsz⟩
theorem cloZ101 (A:Addr) (c:Nat) (w:World):Calls Tryz.prog 101 #[.slice (some A) 0 c] w fun e w'=>e=.returned (.slice (some ⟨w.heap.size,0,none⟩) 0 0)∧∃ q,w'=(w.alloc (.cells #[] 26)).drewN q:=by
 have tS:Tryz.prog.underlying 47=some (.slice 26):=by kernel_rfl
 have uS:=run_underlying tS
 have qS:∀ (w:World) (a:Option Addr) (n c n' c' : Nat),(binOp .eql 47 (.slice a n c) (.slice none n' c')).run Tryz.prog w=.ok (.bool a.isNone) w:=fun w a n c n' c'=>Lib.run_eql_slice_nil w _ _ a n c n' c' tS
 have mixed:Tryz.prog.follows .mixedOrders=true:=mix
 obtain ⟨i0,z,hi0,hzs,hz0,hzc,hzb⟩:=infB_ok (P:=Tryz.prog) (e:=26) (es:=5) (by kernel_rfl)
 have hsz:(Tryz.prog.info? 26).map (·.size)=some 5:=by rw [hi0];simp [hzs]
 have hrun:∀ ty,(Builtin.append_ #[47,47] ty #[.slice (some ⟨w.heap.size,0,none⟩) 0 0,.slice (some A) 0 c]).run Tryz.prog (w.alloc (.cells #[] 26))=.ok (.slice (some ⟨w.heap.size,0,none⟩) 0 0) (w.alloc (.cells #[] 26)):=fun ty=>by
  have hl:∀ (x:Addr) (W:World),(loadCells x 0).run Tryz.prog W=.ok #[] W:=fun x W=>by simpa using run_loadCells_list (P:=Tryz.prog) W x [] (by simp)
  simp [Builtin.append_,uS,Builtin.lenOf,Builtin.firstCells,sizeOf,typeInfo,hi0,hl,storeCells]
 have main:Calls Tryz.prog 101 #[.slice (some A) 0 c] w fun e w'=>e=.returned (.slice (some ⟨w.heap.size,0,none⟩) 0 0)∧w'=w.alloc (.cells #[] 26):=by
  go_enter Tryz.func101,Tryz.ntmps101
  go_wp2_with (at_builtin;refine Lib.wpList_append_run _ rfl _ _ _ _ rfl _ _ rfl rfl _ _ (hrun _) ?_)
  go_ret
  exact ⟨rfl,rfl⟩
 refine main.mono ?_
 rintro e w' ⟨rfl,rfl⟩
 exact ⟨rfl,0,rfl⟩
theorem cloN101 (n c:Nat) (w:World):Calls Tryz.prog 101 #[.slice none n c] w fun e w'=>e=.returned (.slice none 0 0)∧w'=w:=by
 have tS:Tryz.prog.underlying 47=some (.slice 26):=by kernel_rfl
 have uS:=run_underlying tS
 have qS:∀ (w:World) (a:Option Addr) (n c n' c' : Nat),(binOp .eql 47 (.slice a n c) (.slice none n' c')).run Tryz.prog w=.ok (.bool a.isNone) w:=fun w a n c n' c'=>Lib.run_eql_slice_nil w _ _ a n c n' c' tS
 have mixed:Tryz.prog.follows .mixedOrders=true:=mix
 go_enter Tryz.func101,Tryz.ntmps101
 go_wp2
 go_ret
 exact ⟨rfl,rfl⟩
theorem cloR101_v:CloRoads Tryz.prog 101 5 26:=⟨cloS101,cloZ101,cloN101⟩
end Go.Proofs.YtpmoioopjbfhkaaGreat

namespace Go.Proofs.YtpmoioopjbfhkaaGreat
open Go.RowKit
end Go.Proofs.YtpmoioopjbfhkaaGreat

namespace Go.Proofs.YtpmoioopjbfhkaaGreat
open Go.RowKit
end Go.Proofs.YtpmoioopjbfhkaaGreat

namespace Go.Proofs.YtpmoioopjbfhkaaGreat
open Go.RowKit
end Go.Proofs.YtpmoioopjbfhkaaGreat

