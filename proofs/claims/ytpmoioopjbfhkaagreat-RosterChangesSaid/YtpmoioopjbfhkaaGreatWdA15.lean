/- A part of the proof: 17 texts joined. -/
import Derived.Test.YtpmoioopjbfhkaaGreatWdA14
import Derived.Test.YtpmoioopjbfhkaaGreatWdA13
import Derived.Test.YtpmoioopjbfhkaaGreatWdA11
import Derived.KernelRfl
import Derived.Lib.AppendZerosOnto
import Derived.Lib.SliceRun
import Derived.Test.YtpmoioopjbfhkaaGreatWdA12
set_option linter.all false
/- Rosters in plain words: one change. -/
namespace Go.Proofs.YtpmoioopjbfhkaaGreat
open Go.RowKit
def trimR (v fl:Int) (l:List ItemItem) (g:List RosterGone):RosterState :=
 match g with
 | a :: r=>if 8≤r.length then RosterState.mk v a.Ver l r else RosterState.mk v fl l (a :: r)
 | []=>RosterState.mk v fl l []
theorem trim_p (v fl:Int) (l:List ItemItem) {g:List RosterGone} (hg:g.length≤1000):(bif decide ((8:Int) < (g.length:Int)) then (at? g (0:Int)).bind fun x=>(del? g (0:Int) (1:Int)).bind fun w=>some (RosterState.mk v x.Ver l w) else some (RosterState.mk v fl l g))=some (trimR v fl l g):=by
 unfold trimR
 cases g with
 | nil=>rfl
 | cons a r =>
  dsimp only
  by_cases h:8≤r.length
  ·rw [show decide ((8:Int) < ((a :: r).length:Int))=true by simp;omega,cond_true,if_pos h]
   have e:del? (a :: r) 0 1=some r:=by
    unfold del?
    rw [if_pos (by simp at hg ⊢;omega)];rfl
   rw [e];rfl
  ·rw [show decide ((8:Int) < ((a :: r).length:Int))=false by simp;omega,cond_false,if_neg h]
theorem rtrim_p (v fl:Int) (l:List ItemItem) (g:List RosterGone):(bif decide ((8:Int) < (g.length:Int)) then (at? g (0:Int)).bind fun x=>(cut? g (some (1:Int)) none).bind fun w=>some (RosterState.mk v x.Ver l w) else some (RosterState.mk v fl l g))=some (trimR v fl l g):=by
 unfold trimR
 cases g with
 | nil=>rfl
 | cons a r =>
  dsimp only
  by_cases h:8≤r.length
  ·rw [show decide ((8:Int) < ((a :: r).length:Int))=true by simp;omega,cond_true,if_pos h]
   have e:cut? (a :: r) (some ((1:Nat):Int)) none=some r:=cutFrom (by simp)
   rw [show (1:Int)=((1:Nat):Int) from rfl,e];rfl
  ·rw [show decide ((8:Int) < ((a :: r).length:Int))=false by simp;omega,cond_false,if_neg h]
def verI (x:ItemItem) (v:Int):ItemItem:=ItemItem.mk x.Contact x.Name x.Sub v x.Own
def itemsR (s:RosterState) (x:ItemItem) (v:Int):List ItemItem :=
 s.Items.take (posC s.Items x.Contact)++((if idleI (verI x v) then [] else [verI x v])++s.Items.drop (if fndC s.Items x.Contact then posC s.Items x.Contact + 1 else posC s.Items x.Contact))
def wasR (s:RosterState) (x:ItemItem):Bool:=match s.Items[posC s.Items x.Contact]? with | some y=>fndC s.Items x.Contact && listedI y | none=>false
def goneR (s:RosterState) (x:ItemItem) (v:Int):List RosterGone :=
 s.Gone.filter (fun g=>!(g.Contact.toList == x.Contact.toList) || !(listedI x || wasR s x))++(if wasR s x && !listedI x then [RosterGone.mk x.Contact v] else [])
def changeR (s:RosterState) (x:ItemItem):RosterState:=trimR (w64 (s.Ver + 1)) s.Floor (itemsR s x (w64 (s.Ver + 1))) (goneR s x (w64 (s.Ver + 1)))
theorem delF_y {s:RosterState} (hg:s.Gone.length≤1000) (y:ItemItem):delF? (fun x0=>p_roster_State_change_1 x0 y) s.Gone=some (s.Gone.filter fun g=>!(g.Contact.toList == y.Contact.toList)):=by
 unfold delF? p_roster_State_change_1
 rw [if_pos ⟨by omega,by simp⟩]
 simp
theorem filt_t {l:List RosterGone}:(l.filter fun _=>true)=l:=by simp
theorem keep_all {l:List RosterGone} {c:ByteArray}:(l.filter fun g=>!(g.Contact.toList == c.toList) || !false)=l:=by simp
theorem keep_some {l:List RosterGone} {c:ByteArray}:(l.filter fun g=>!(g.Contact.toList == c.toList) || !true)=l.filter fun g=>!(g.Contact.toList == c.toList):=by simp
theorem change_p {s:RosterState} (hi:s.Items.length≤20) (hg:s.Gone.length≤20) (hs:SortedC s.Items) (x:ItemItem):p_roster_State_change s x=some (changeR s x):=by
 have hle:=posC_le s.Items x.Contact
 unfold p_roster_State_change
 rw [findC_p (by omega) hs,Option.bind_some]
 simp only [listed_p,idle_p,Option.bind_some,delF_y (s:=s) (by omega)]
 unfold changeR itemsR goneR verI
 cases hf:fndC s.Items x.Contact with
 | true =>
  obtain ⟨hl,hc⟩:=fndC_some hf
  have hw:wasR s x=listedI s.Items[posC s.Items x.Contact]:=by unfold wasR;rw [List.getElem?_eq_getElem hl,hf];rfl
  have hd:del? s.Items (posC s.Items x.Contact:Int) ((posC s.Items x.Contact + 1:Nat):Int)=some (s.Items.take (posC s.Items x.Contact)++s.Items.drop (posC s.Items x.Contact + 1)):=by
   unfold del?
   rw [if_pos (by omega)];rfl
  have hset:∀ y,List.set s.Items (Int.toNat ((posC s.Items x.Contact:Nat):Int)) y=s.Items.take (posC s.Items x.Contact)++([y]++s.Items.drop (posC s.Items x.Contact + 1)):=fun y=>by
   rw [Int.toNat_natCast,List.set_eq_take_append_cons_drop,if_pos hl];rfl
  rw [hw]
  simp only [cond_true,at_lt hl,Option.bind_some,w64_succ (show posC s.Items x.Contact≤1000000 by omega),hd,hset,if_true]
  have hfl:∀ c:ByteArray,(s.Gone.filter fun g=>!(g.Contact.toList == c.toList)).length≤20:=fun c=>Nat.le_trans (List.length_filter_le _ _) hg
  have happ:∀ (c:ByteArray) (z:RosterGone),app? (s.Gone.filter fun g=>!(g.Contact.toList == c.toList)) [z]=some ((s.Gone.filter fun g=>!(g.Contact.toList == c.toList))++[z]):=fun c z=>app_ok (by have:=hfl c;simp;omega)
  have t1:∀ (c:ByteArray) (l:List ItemItem),_:=fun c l=>trim_p (w64 (s.Ver + 1)) s.Floor l (g:=s.Gone.filter fun g=>!(g.Contact.toList == c.toList)) (by have:=hfl c;omega)
  have t2:∀ (c:ByteArray) (z:RosterGone) (l:List ItemItem),_:=fun c z l=>trim_p (w64 (s.Ver + 1)) s.Floor l (g:=(s.Gone.filter fun g=>!(g.Contact.toList == c.toList))++[z]) (by have:=hfl c;simp;omega)
  have t3:∀ l:List ItemItem,_:=fun l=>trim_p (w64 (s.Ver + 1)) s.Floor l (g:=s.Gone) (by omega)
  cases hid:idleI (ItemItem.mk x.Contact x.Name x.Sub (w64 (s.Ver + 1)) x.Own) <;> cases hl1:listedI s.Items[posC s.Items x.Contact] <;> cases hl2:listedI x <;>
   simp only [cond_true,cond_false,if_true,if_false,Bool.false_eq_true,happ,t1,t2,t3,Option.bind_some,List.nil_append,Bool.or_true,Bool.or_false,Bool.true_or,Bool.false_or,Bool.and_true,Bool.and_false,Bool.true_and,Bool.false_and,Bool.not_true,Bool.not_false,keep_all,keep_some,List.append_nil,filt_t]
 | false =>
  have hw:wasR s x=false:=by unfold wasR;rw [hf];split <;> rfl
  have hins:∀ y,insAt? s.Items (posC s.Items x.Contact:Int) y=some (s.Items.take (posC s.Items x.Contact)++([y]++s.Items.drop (posC s.Items x.Contact))):=fun y=>by
   unfold insAt?
   rw [if_pos (by omega)];rfl
  rw [hw]
  have hfl:∀ c:ByteArray,(s.Gone.filter fun g=>!(g.Contact.toList == c.toList)).length≤20:=fun c=>Nat.le_trans (List.length_filter_le _ _) hg
  have t1:∀ (c:ByteArray) (l:List ItemItem),_:=fun c l=>trim_p (w64 (s.Ver + 1)) s.Floor l (g:=s.Gone.filter fun g=>!(g.Contact.toList == c.toList)) (by have:=hfl c;omega)
  have t3:∀ l:List ItemItem,_:=fun l=>trim_p (w64 (s.Ver + 1)) s.Floor l (g:=s.Gone) (by omega)
  have htd:s.Items.take (posC s.Items x.Contact)++s.Items.drop (posC s.Items x.Contact)=s.Items:=List.take_append_drop _ _
  cases hid:idleI (ItemItem.mk x.Contact x.Name x.Sub (w64 (s.Ver + 1)) x.Own) <;> cases hl2:listedI x <;>
   simp only [cond_true,cond_false,if_true,if_false,Bool.false_eq_true,hins,t1,t3,Option.bind_some,List.nil_append,Bool.or_true,Bool.or_false,Bool.true_or,Bool.false_or,Bool.and_true,Bool.and_false,Bool.true_and,Bool.false_and,Bool.not_true,Bool.not_false,keep_all,keep_some,List.append_nil,filt_t,htd]
theorem rchange_l (was now:Bool) (st:RosterState) (y:ItemItem) (hg:st.Gone.length≤1000):∀ (n k F:Nat) (out:List RosterGone),k + n=st.Gone.length→n < F→out.length≤k →
  p_ref21_change_l1 was now st y F out (k:Int)=some (out++(st.Gone.drop k).filter (fun g=>!(g.Contact.toList == y.Contact.toList) || !(now || was)),(st.Gone.length:Int))
 | 0,k,F + 1,out,hk,hF,ho=>by
  have e:k=st.Gone.length:=by omega
  rw [p_ref21_change_l1,lt_ff (by omega),e,List.drop_length];simp
 | n + 1,k,F + 1,out,hk,hF,ho=>by
  have h:k < st.Gone.length:=by omega
  rw [p_ref21_change_l1,lt_tt h,cond_true,at_lt h,drop_at h,w64_succ (by omega)]
  simp only [Option.bind_some]
  rw [app_ok (by simp;omega)]
  simp only [Option.bind_some]
  have r1:=rchange_l was now st y hg n (k + 1) F out (by omega) (by omega) (by omega)
  have r2:=rchange_l was now st y hg n (k + 1) F (out++[st.Gone[k]]) (by omega) (by omega) (by simp;omega)
  rw [r1,r2]
  rw [List.filter_cons]
  cases (st.Gone[k].Contact.toList == y.Contact.toList) <;> cases now <;> cases was <;> simp
theorem rchange_p {s:RosterState} (hi:s.Items.length≤20) (hg:s.Gone.length≤20) (x:ItemItem):p_ref21_change s x=some (changeR s x):=by
 have hle:=posC_le s.Items x.Contact
 unfold p_ref21_change
 rw [place_p (by omega),Option.bind_some]
 dsimp only
 have q6:((bif fndC s.Items x.Contact then (at? s.Items (posC s.Items x.Contact:Int)).bind fun x3=>(p_ref20_Listed x3).bind fun v4=>some v4 else some false):Option Bool)=some (wasR s x):=by
  unfold wasR
  cases hf:fndC s.Items x.Contact with
  | true =>
   obtain ⟨hl,hc⟩:=fndC_some hf
   rw [cond_true,at_lt hl,List.getElem?_eq_getElem hl]
   simp only [Option.bind_some,rlisted_p,Bool.true_and]
  | false=>rw [cond_false];split <;> rfl
 have q16:((bif fndC s.Items x.Contact then some (w64 ((posC s.Items x.Contact:Int) + (1:Int))) else some ((posC s.Items x.Contact:Nat):Int)):Option Int)=some (((if fndC s.Items x.Contact then posC s.Items x.Contact + 1 else posC s.Items x.Contact:Nat)):Int):=by
  cases hf:fndC s.Items x.Contact with
  | true=>rw [cond_true,w64_succ (by omega),if_pos rfl]
  | false=>rfl
 have hd:(if fndC s.Items x.Contact then posC s.Items x.Contact + 1 else posC s.Items x.Contact)≤s.Items.length:=by
  cases hf:fndC s.Items x.Contact with
  | true=>obtain ⟨hl,hc⟩:=fndC_some hf;rw [if_pos rfl];omega
  | false=>exact hle
 rw [q6,Option.bind_some,cutTo hle,Option.bind_some,app_ok (by simp;omega),Option.bind_some,ridle_p,Option.bind_some]
 have q13:((bif idleI (ItemItem.mk x.Contact x.Name x.Sub (w64 (s.Ver + (1:Int))) x.Own) then some ([]++s.Items.take (posC s.Items x.Contact)) else (app? ([]++s.Items.take (posC s.Items x.Contact)) [(ItemItem.mk x.Contact x.Name x.Sub (w64 (s.Ver + (1:Int))) x.Own)]).bind fun l11=>some l11):Option (List ItemItem))=some (s.Items.take (posC s.Items x.Contact)++(if idleI (verI x (w64 (s.Ver + 1))) then [] else [verI x (w64 (s.Ver + 1))])):=by
  unfold verI
  cases idleI (ItemItem.mk x.Contact x.Name x.Sub (w64 (s.Ver + (1:Int))) x.Own) with
  | true=>simp
  | false=>rw [cond_false,app_ok (by simp;omega)];simp
 rw [q13,Option.bind_some,q16,Option.bind_some,cutFrom hd,Option.bind_some,app_ok (by simp;split <;> simp <;> omega),Option.bind_some,List.append_assoc,rlisted_p,Option.bind_some]
 have hl:=rchange_l (wasR s x) (listedI x) (RosterState.mk (w64 (s.Ver + (1:Int))) s.Floor (itemsR s x (w64 (s.Ver + 1))) s.Gone) (ItemItem.mk x.Contact x.Name x.Sub (w64 (s.Ver + (1:Int))) x.Own) (by show s.Gone.length≤1000;omega) s.Gone.length 0 fuel [] (by simp) (by have:=fuel_pos;omega) (Nat.zero_le _)
 have hli:listedI (ItemItem.mk x.Contact x.Name x.Sub (w64 (s.Ver + (1:Int))) x.Own)=listedI x:=rfl
 rw [hli]
 show ((p_ref21_change_l1 (wasR s x) (listedI x) (RosterState.mk (w64 (s.Ver + (1:Int))) s.Floor (itemsR s x (w64 (s.Ver + 1))) s.Gone) (ItemItem.mk x.Contact x.Name x.Sub (w64 (s.Ver + (1:Int))) x.Own) fuel [] ((0:Nat):Int)).bind _)=_
 rw [hl,Option.bind_some]
 dsimp only
 rw [List.drop_zero,List.nil_append]
 have hfl:(s.Gone.filter fun g=>!(g.Contact.toList == x.Contact.toList) || !(listedI x || wasR s x)).length≤20:=Nat.le_trans (List.length_filter_le _ _) hg
 have q49:((bif wasR s x then bif listedI x then some (s.Gone.filter fun g=>!(g.Contact.toList == x.Contact.toList) || !(listedI x || wasR s x)) else (app? (s.Gone.filter fun g=>!(g.Contact.toList == x.Contact.toList) || !(listedI x || wasR s x)) [(RosterGone.mk x.Contact (w64 (s.Ver + (1:Int))))]).bind fun l47=>some l47 else some (s.Gone.filter fun g=>!(g.Contact.toList == x.Contact.toList) || !(listedI x || wasR s x))):Option (List RosterGone))=some (goneR s x (w64 (s.Ver + 1))):=by
  rw [app_ok (by rw [List.length_singleton];exact Nat.le_trans (Nat.add_le_add_right hfl 1) (by decide))]
  unfold goneR
  cases wasR s x <;> cases listedI x <;> simp
 rw [q49,Option.bind_some,rtrim_p];rfl
theorem changeR_len {s:RosterState} (hi:s.Items.length≤20) (hg:s.Gone.length≤20) (x:ItemItem):(changeR s x).Items.length≤50∧(changeR s x).Gone.length≤50:=by
 have h1:(itemsR s x (w64 (s.Ver + 1))).length≤50:=by
  unfold itemsR
  simp only [List.length_append,List.length_take,List.length_drop]
  have:(if idleI (verI x (w64 (s.Ver + 1))) then ([]:List ItemItem) else [verI x (w64 (s.Ver + 1))]).length≤1:=by split <;> simp
  exact Nat.le_trans (Nat.add_le_add (Nat.min_le_right _ _) (Nat.add_le_add this (Nat.sub_le _ _))) (by omega)
 have h2:(goneR s x (w64 (s.Ver + 1))).length≤50:=by
  unfold goneR
  rw [List.length_append]
  have a:=List.length_filter_le (fun g:RosterGone=>!(g.Contact.toList == x.Contact.toList) || !(listedI x || wasR s x)) s.Gone
  have:(if wasR s x && !listedI x then [RosterGone.mk x.Contact (w64 (s.Ver + 1))] else []).length≤1:=by split <;> simp
  omega
 unfold changeR trimR
 split
 ·rename_i a r e
  rw [e] at h2
  split
  ·exact ⟨h1,by rw [List.length_cons] at h2;show r.length≤50;omega⟩
  ·exact ⟨h1,h2⟩
 ·exact ⟨h1,by simp⟩
end Go.Proofs.YtpmoioopjbfhkaaGreat

/- Items, sorted: the program's sort and the document's in plain words. -/
namespace Go.Proofs.YtpmoioopjbfhkaaGreat
open Go.RowKit
theorem own_l (z:List ItemItem) (hn:z.length≤1000):∀ (n k F:Nat) (acc:List ItemItem),k + n=z.length→n < F→acc.length=k→p_law20_Own_l1 z F acc (k:Int)=some (acc++z.drop k,(z.length:Int))
 | 0,k,F + 1,acc,hk,hF,ha=>by
  have e:k=z.length:=by omega
  rw [p_law20_Own_l1,lt_ff (by omega),e,List.drop_length,List.append_nil];rfl
 | n + 1,k,F + 1,acc,hk,hF,ha=>by
  have hlt:k < z.length:=by omega
  rw [p_law20_Own_l1,lt_tt hlt,cond_true,at_lt hlt,Option.bind_some,app_ok (by simp;omega),Option.bind_some,w64_succ (by omega),own_l z hn n (k + 1) F _ (by omega) (by omega) (by simp;omega),drop_at hlt]
  simp
theorem own_p (l:List ItemItem) (hn:l.length≤1000):p_law20_Own l=some l:=by
 unfold p_law20_Own
 have h2:p_law20_Own_l1 l fuel [] 0=some (l,(l.length:Int)):=own_l l hn l.length 0 fuel [] (by omega) (by have:=fuel_pos;omega) rfl
 rw [h2];rfl
theorem back_l (z:List ItemItem) (hn:z.length≤1000):∀ (n k F:Nat) (acc:List ItemItem),k + n=z.length→n < F→acc.length=k→p_law20_Back_l1 z F acc (k:Int)=some (acc++z.drop k,(z.length:Int))
 | 0,k,F + 1,acc,hk,hF,ha=>by
  have e:k=z.length:=by omega
  rw [p_law20_Back_l1,lt_ff (by omega),e,List.drop_length,List.append_nil];rfl
 | n + 1,k,F + 1,acc,hk,hF,ha=>by
  have hlt:k < z.length:=by omega
  rw [p_law20_Back_l1,lt_tt hlt,cond_true,at_lt hlt,Option.bind_some,app_ok (by simp;omega),Option.bind_some,w64_succ (by omega),back_l z hn n (k + 1) F _ (by omega) (by omega) (by simp;omega),drop_at hlt]
  simp
theorem back_p (l:List ItemItem) (hn:l.length≤1000):p_law20_Back l=some l:=by
 unfold p_law20_Back
 have h2:p_law20_Back_l1 l fuel [] 0=some (l,(l.length:Int)):=back_l l hn l.length 0 fuel [] (by omega) (by have:=fuel_pos;omega) rfl
 rw [h2];rfl
theorem same_l (z:List ItemItem) (hn:z.length≤1000):∀ (n k F:Nat),k + n=z.length→n < F→p_ref20_SameItems_l1 z z F (k:Int)=some (.inr (z.length:Int))
 | 0,k,F + 1,hk,hF=>by
  have e:k=z.length:=by omega
  rw [p_ref20_SameItems_l1,lt_ff (by omega),e];rfl
 | n + 1,k,F + 1,hk,hF=>by
  have hlt:k < z.length:=by omega
  rw [p_ref20_SameItems_l1,lt_tt hlt,cond_true,at_lt hlt]
  simp only [Option.bind_some,eqT_refl,beq_self_eq_true,Bool.and_self,Bool.and_true,cond_true]
  rw [w64_succ (by omega),same_l z hn n (k + 1) F (by omega) (by omega)]
theorem same_p (l:List ItemItem) (hn:l.length≤1000):p_ref20_SameItems l l=some true:=by
 unfold p_ref20_SameItems
 rw [bne_self_eq_false,cond_false]
 have h2:p_ref20_SameItems_l1 l l fuel 0=some (.inr (l.length:Int)):=same_l l hn l.length 0 fuel (by omega) (by have:=fuel_pos;omega)
 rw [h2];rfl
end Go.Proofs.YtpmoioopjbfhkaaGreat

/- Rosters in plain words: Set, Sub and Drop say what the document's say. -/
namespace Go.Proofs.YtpmoioopjbfhkaaGreat
open Go.RowKit
theorem ownS_p {s:RosterState} (h:s.Items.length≤100∧s.Gone.length≤100):p_roster_State_own s=some s:=by
 unfold p_roster_State_own clone?
 rw [if_pos (by omega),Option.bind_some,if_pos (by omega)];rfl
theorem lown_l {z:RosterState} (hn:z.Gone.length≤1000):∀ (n k F:Nat) (y:RosterState),k + n=z.Gone.length→n < F→y.Gone.length≤k→p_law21_Own_l1 z F (k:Int) y=some ((z.Gone.length:Int),RosterState.mk y.Ver y.Floor y.Items (y.Gone++z.Gone.drop k))
 | 0,k,F + 1,y,hk,hF,hy=>by
  have e:k=z.Gone.length:=by omega
  rw [p_law21_Own_l1,lt_ff (by omega),e,List.drop_length,List.append_nil];rfl
 | n + 1,k,F + 1,y,hk,hF,hy=>by
  have h:k < z.Gone.length:=by omega
  rw [p_law21_Own_l1,lt_tt h,cond_true,at_lt h,Option.bind_some,app_ok (by simp;omega),Option.bind_some,w64_succ (by omega),lown_l hn n (k + 1) F _ (by omega) (by omega) (by simp;omega),drop_at h]
  simp
theorem lown_p {s:RosterState} (h:s.Items.length≤100∧s.Gone.length≤100):p_law21_Own s=some s:=by
 unfold p_law21_Own
 have:=lown_l (z:=s) (by omega) s.Gone.length 0 fuel (RosterState.mk s.Ver s.Floor s.Items []) (by omega) (by have:=fuel_pos;omega) (Nat.zero_le _)
 rw [own_p _ (by omega),Option.bind_some,show ((0:Int))=((0:Nat):Int) from rfl,this,Option.bind_some]
 rfl
theorem bgone_l (z:List RosterGone) (hn:z.length≤1000):∀ (n k F:Nat) (acc:List RosterGone),k + n=z.length→n < F→acc.length=k→p_law21_gone_l1 z F acc (k:Int)=some (acc++z.drop k,(z.length:Int))
 | 0,k,F + 1,acc,hk,hF,ha=>by
  have e:k=z.length:=by omega
  rw [p_law21_gone_l1,lt_ff (by omega),e,List.drop_length,List.append_nil];rfl
 | n + 1,k,F + 1,acc,hk,hF,ha=>by
  have hlt:k < z.length:=by omega
  rw [p_law21_gone_l1,lt_tt hlt,cond_true,at_lt hlt,Option.bind_some,app_ok (by simp;omega),Option.bind_some,w64_succ (by omega),bgone_l z hn n (k + 1) F _ (by omega) (by omega) (by simp;omega),drop_at hlt]
  simp
theorem backS_p {s:RosterState} (h:s.Items.length≤100∧s.Gone.length≤100):p_law21_Back s=some s:=by
 unfold p_law21_Back p_law21_gone
 have h2:p_law21_gone_l1 s.Gone fuel [] 0=some (s.Gone,(s.Gone.length:Int)):=bgone_l s.Gone (by omega) s.Gone.length 0 fuel [] (by omega) (by have:=fuel_pos;omega) rfl
 rw [back_p _ (by omega),h2];rfl
theorem sgone_l (z:List RosterGone) (hn:z.length≤1000):∀ (n k F:Nat),k + n=z.length→n < F→p_ref21_SameGone_l1 z z F (k:Int)=some (.inr (z.length:Int))
 | 0,k,F + 1,hk,hF=>by
  have e:k=z.length:=by omega
  rw [p_ref21_SameGone_l1,lt_ff (by omega),e];rfl
 | n + 1,k,F + 1,hk,hF=>by
  have hlt:k < z.length:=by omega
  rw [p_ref21_SameGone_l1,lt_tt hlt,cond_true,at_lt hlt]
  simp only [Option.bind_some,eqT_refl,beq_self_eq_true,Bool.and_self,cond_true]
  rw [w64_succ (by omega)]
  exact sgone_l z hn n (k + 1) F (by omega) (by omega)
theorem sameS_p {s:RosterState} (h:s.Items.length≤100∧s.Gone.length≤100):p_ref21_Same s s=some true:=by
 unfold p_ref21_Same p_ref21_SameGone
 have h2:p_ref21_SameGone_l1 s.Gone s.Gone fuel 0=some (.inr (s.Gone.length:Int)):=sgone_l s.Gone (by omega) s.Gone.length 0 fuel (by omega) (by have:=fuel_pos;omega)
 simp only [beq_self_eq_true,cond_true,same_p _ (show s.Items.length≤1000 by omega),Option.bind_some,bne_self_eq_false,cond_false,h2]
theorem FindS_p {s:RosterState} (hc0:p_roster_Check s=some 0) (f:FineS s) (c:ByteArray):p_roster_Find s c=some (if hl:posC s.Items c < s.Items.length then (if fndC s.Items c then (s.Items[posC s.Items c],true) else (ItemItem.mk ⟨#[]⟩ ⟨#[]⟩ 0 0 false,false)) else (ItemItem.mk ⟨#[]⟩ ⟨#[]⟩ 0 0 false,false)):=by
 have:=f.items
 unfold p_roster_Find
 rw [hc0,Option.bind_some,findC_p (by omega) f.rise.sorted]
 simp only [bne_self_eq_false,cond_false,Option.bind_some]
 cases hf:fndC s.Items c with
 | true =>
  obtain ⟨hl,_⟩:=fndC_some hf
  rw [cond_true,at_lt hl,dif_pos hl];rfl
 | false=>rw [cond_false];split <;> rfl
def SmallS (s:RosterState):Prop:=s.Items.length≤100∧s.Gone.length≤100
theorem LightS.small {s:RosterState} (h:LightS s):SmallS s:=⟨by have:=h.items;omega,by have:=h.gone;omega⟩
theorem small_change {s:RosterState} (h:LightS s) (x:ItemItem):SmallS (changeR s x):=by have:=changeR_len h.items h.gone x;exact ⟨by omega,by omega⟩
theorem setS_p {s:RosterState} (h:LightS s) {c n:ByteArray} (hc:c.size≤100) (hn:n.size≤100):∃ r,p_roster_Set s c n=some r∧p_ref21_Set s c n=some r∧SmallS r.1:=by
 obtain ⟨e,h1,h2,h3⟩:=checkS_p h
 have hi:=h.items
 unfold p_roster_Set p_ref21_Set
 rw [ownS_p h.small,place_p (by omega),h1,h2]
 simp only [Option.bind_some]
 by_cases g:e=0
 case neg =>
  rw [show (e != 0)=true by simpa using g,show (e == 0)=false by simpa using g]
  simp only [cond_true,cond_false]
  exact ⟨(s,e),rfl,rfl,h.small⟩
 subst g
 have f:=h3 rfl
 have k1:∀ q:Int,p_item_Check (ItemItem.mk c n q 0 true)=some (chkI (ItemItem.mk c n q 0 true)):=fun q=>check_p (by show c.size≤100000;omega) (by show n.size≤100000;omega)
 have k2:∀ q:Int,p_ref20_Check (ItemItem.mk c n q 0 true)=some (chkI (ItemItem.mk c n q 0 true)):=fun q=>rcheck_p (by show c.size≤100000;omega) (by show n.size≤100000;omega)
 have k3:=change_p h.items h.gone f.rise.sorted
 have k4:=rchange_p h.items h.gone
 have ks:=fun x=>small_change h x
 rw [FindS_p h1 f c]
 simp only [bne_self_eq_false,beq_self_eq_true,cond_true,cond_false,Option.bind_some,k1,k2,k3,k4]
 unfold p_roster_State_may
 cases hf:fndC s.Items c with
 | true =>
  obtain ⟨hl,hcc⟩:=fndC_some hf
  simp only [dif_pos hl,if_true,cond_true,at_lt hl,Option.bind_some]
  generalize hx:s.Items[posC s.Items c]=x at *
  by_cases w:chkI (ItemItem.mk c n x.Sub 0 true)=0
  case neg =>
   rw [show (chkI (ItemItem.mk c n x.Sub 0 true) != 0)=true by simpa using w]
   exact ⟨_,rfl,rfl,h.small⟩
  rw [w]
  simp only [bne_self_eq_false,cond_false]
  by_cases v:1099511627776≤s.Ver
  ·rw [decide_eq_true v]
   exact ⟨_,rfl,rfl,h.small⟩
  rw [decide_eq_false v]
  simp only [bne_self_eq_false,cond_false,Option.bind_some]
  cases x.Own with
  | false=>exact ⟨_,rfl,rfl,ks _⟩
  | true =>
   cases (x.Name.toList == n.toList) with
   | true=>exact ⟨_,rfl,rfl,h.small⟩
   | false=>exact ⟨_,rfl,rfl,ks _⟩
 | false =>
  simp only [if_false,Bool.false_eq_true,dite_eq_ite,ite_self,cond_true,cond_false,Option.bind_some]
  by_cases w:chkI (ItemItem.mk c n 0 0 true)=0
  case neg =>
   rw [show (chkI (ItemItem.mk c n 0 0 true) != 0)=true by simpa using w]
   exact ⟨_,rfl,rfl,h.small⟩
  rw [w]
  simp only [bne_self_eq_false,cond_false]
  by_cases u:(12:Int)≤(s.Items.length:Int)
  ·rw [decide_eq_true u]
   exact ⟨_,rfl,rfl,h.small⟩
  rw [decide_eq_false u]
  by_cases v:1099511627776≤s.Ver
  ·rw [decide_eq_true v]
   exact ⟨_,rfl,rfl,h.small⟩
  rw [decide_eq_false v]
  exact ⟨_,rfl,rfl,ks _⟩
theorem subS_p {s:RosterState} (h:LightS s) {c:ByteArray} (hc:c.size≤100) (q:Int):∃ r,p_roster_Sub s c q=some r∧p_ref21_Sub s c q=some r∧SmallS r.1:=by
 obtain ⟨e,h1,h2,h3⟩:=checkS_p h
 have hi:=h.items
 unfold p_roster_Sub p_ref21_Sub
 rw [ownS_p h.small,place_p (by omega),h1,h2]
 simp only [Option.bind_some]
 by_cases g:e=0
 case neg =>
  rw [show (e != 0)=true by simpa using g,show (e == 0)=false by simpa using g]
  simp only [cond_true,cond_false]
  exact ⟨(s,e),rfl,rfl,h.small⟩
 subst g
 have f:=h3 rfl
 have k1:p_addr_IsBare c=some (isBareL c.data.toList):=if_pos (by omega)
 have k2:p_ref09_IsBare c=some (isBareL c.data.toList):=if_pos (by omega)
 have k3:=change_p h.items h.gone f.rise.sorted
 have k4:=rchange_p h.items h.gone
 have ks:=fun x=>small_change h x
 rw [FindS_p h1 f c]
 simp only [bne_self_eq_false,beq_self_eq_true,cond_true,cond_false,Option.bind_some,k1,k2,subs_p,rsub_p]
 unfold p_roster_State_may
 cases isBareL c.data.toList with
 | false =>
  simp only [cond_false]
  cases hf:fndC s.Items c with
  | true =>
   obtain ⟨hl,_⟩:=fndC_some hf
   rw [cond_true,at_lt hl]
   exact ⟨_,rfl,rfl,h.small⟩
  | false=>exact ⟨_,rfl,rfl,h.small⟩
 | true =>
  simp only [cond_true]
  cases hf:fndC s.Items c with
  | true =>
   obtain ⟨hl,hcc⟩:=fndC_some hf
   simp only [dif_pos hl,if_true,cond_true,at_lt hl,Option.bind_some]
   rw [hcc]
   generalize s.Items[posC s.Items c]=x
   by_cases w:subC q=0
   case neg =>
    rw [show (subC q != 0)=true by simpa using w]
    exact ⟨_,rfl,rfl,h.small⟩
   rw [w]
   simp only [bne_self_eq_false,cond_false]
   by_cases v:1099511627776≤s.Ver
   ·rw [decide_eq_true v]
    cases (q != 0) <;> exact ⟨_,rfl,rfl,h.small⟩
   rw [decide_eq_false v]
   cases (x.Sub == q) with
   | true=>cases (q != 0) <;> exact ⟨_,rfl,rfl,h.small⟩
   | false =>
    cases (q != 0) <;> simp only [cond_true,cond_false,Option.bind_some,bne_self_eq_false,k3,k4] <;> exact ⟨_,rfl,rfl,ks _⟩
  | false =>
   simp only [if_false,Bool.false_eq_true,dite_eq_ite,ite_self,cond_true,cond_false,Option.bind_some]
   by_cases w:subC q=0
   case neg =>
    rw [show (subC q != 0)=true by simpa using w]
    exact ⟨_,rfl,rfl,h.small⟩
   rw [w]
   simp only [bne_self_eq_false,cond_false]
   by_cases u:(12:Int)≤(s.Items.length:Int) <;> by_cases v:1099511627776≤s.Ver <;> by_cases z:q=0 <;>
    simp only [decide_eq_true,decide_eq_false,u,v,z,bne_self_eq_false,beq_self_eq_true,cond_true,cond_false,Option.bind_some,k3,k4,decide_true,decide_false,not_false_eq_true,ne_eq,bne_iff_ne]
   all_goals first
    | exact ⟨_,rfl,rfl,h.small⟩
    | (rw [show (q != 0)=true by simpa using z];exact ⟨_,rfl,rfl,h.small⟩)
    | (rw [show (q != 0)=true by simpa using z,show ((0:Int) == q)=false by simpa using fun e=>z e.symm];simp only [cond_true,cond_false,bne_self_eq_false,Option.bind_some,k3,k4];exact ⟨_,rfl,rfl,ks _⟩)
theorem dropS_p {s:RosterState} (h:LightS s) (c:ByteArray):∃ r,p_roster_Drop s c=some r∧p_ref21_Drop s c=some r∧SmallS r.1:=by
 obtain ⟨e,h1,h2,h3⟩:=checkS_p h
 have hi:=h.items
 unfold p_roster_Drop p_ref21_Drop
 rw [ownS_p h.small,place_p (by omega),h1,h2]
 simp only [Option.bind_some]
 by_cases g:e=0
 case neg =>
  rw [show (e != 0)=true by simpa using g]
  simp only [cond_true]
  exact ⟨(s,e),rfl,rfl,h.small⟩
 subst g
 have f:=h3 rfl
 have ks:=fun x=>small_change h x
 rw [findC_p (by omega) f.rise.sorted]
 unfold p_roster_State_may
 simp only [bne_self_eq_false,cond_true,cond_false,Option.bind_some,change_p h.items h.gone f.rise.sorted,rchange_p h.items h.gone]
 cases fndC s.Items c with
 | false=>exact ⟨_,rfl,rfl,h.small⟩
 | true =>
  by_cases v:1099511627776≤s.Ver
  ·rw [decide_eq_true v];exact ⟨_,rfl,rfl,h.small⟩
  ·rw [decide_eq_false v];exact ⟨_,rfl,rfl,ks _⟩
theorem rosterChanges_pure (haw:p_law21_awake=some true) (s:RosterState) (x:ItemItem):p_law21_RosterChanges s x=some true:=by
 unfold p_law21_RosterChanges
 obtain ⟨b,hb,hl⟩:=rlight_p s
 rw [hb,Option.bind_some,haw]
 cases b with
 | false=>rfl
 | true =>
  have h:=hl rfl
  rw [cond_true,light_p,Option.bind_some]
  by_cases hx:x.Contact.size≤100∧x.Name.size≤100
  case neg =>
   have:(decide (x.Contact.size≤100) && decide (x.Name.size≤100))=false:=by
    rw [Bool.eq_false_iff];intro g;simp at g;exact hx g
   rw [this];rfl
  rw [decide_eq_true hx.1,decide_eq_true hx.2]
  obtain ⟨r1,a1,b1,c1⟩:=setS_p h hx.1 hx.2
  obtain ⟨r2,a2,b2,c2⟩:=subS_p h hx.1 x.Sub
  obtain ⟨r3,a3,b3,c3⟩:=dropS_p h x.Contact
  simp only [Bool.and_self,cond_true,lown_p h.small,Option.bind_some,a1,a2,a3,b1,b2,b3,backS_p c1,backS_p c2,backS_p c3,backS_p h.small,sameS_p c1,sameS_p c2,sameS_p c3,sameS_p h.small,beq_self_eq_true]
end Go.Proofs.YtpmoioopjbfhkaaGreat

/- slices.Grow of a nil slice at function 150. -/
namespace Go.Proofs.YtpmoioopjbfhkaaGreat
open Go.RowKit Go.Lib
end Go.Proofs.YtpmoioopjbfhkaaGreat

/- That the program's functions yield what the plain ones tell (written by a program of mine). -/
namespace Go.Proofs.YtpmoioopjbfhkaaGreat
open Go.RowKit
set_option maxRecDepth 100000
set_option maxHeartbeats 4000000
def gc11:BCode:=(.seq (.reg 1 [⟨(some 1),.bx (.tmp 0),none,0⟩,⟨(some 2),.mv (.const (.bool false)),none,1⟩] none 0 []) (.seq (.reg 0 [⟨(some 3),.fa 0 (.tmp 1),none,0⟩,⟨(some 4),.ld 1 false (.tmp 3),none,0⟩,⟨(some 5),.lent (.tmp 4),none,0⟩,⟨(some 6),.bin .leq (.tmp 5) (.const (.int .i64 100)),none,0⟩,⟨(some 7),.mv (.tmp 6),none,0⟩,⟨(some 8),.fa 1 (.tmp 1),(some (7,true)),0⟩,⟨(some 9),.ld 1 false (.tmp 8),(some (7,true)),0⟩,⟨(some 10),.lent (.tmp 9),(some (7,true)),0⟩,⟨(some 11),.bin .leq (.tmp 10) (.const (.int .i64 100)),(some (7,true)),0⟩,⟨(some 12),.pick (.tmp 7) (.tmp 11) (.const (.bool false)),none,0⟩,⟨(some 2),.mv (.tmp 12),none,0⟩] none 0 []) .ret))
theorem gc11_ok:compF Tryz.prog Tryz.f11=some (gc11.er,13,[.tmp 2]):=by unfold gc11;kernel_rfl
theorem p_ref20_Light_v (a0:ItemItem):CallsO Tryz.prog 11 [.agg [.s a0.Contact,.s a0.Name,.i a0.Sub,.i a0.Ver,.b a0.Own]] V.b (p_ref20_Light a0):=by
 refine callsO_comp mix Tryz.func11 gc11_ok fun r H=>?_
 rw [p_ref20_Light] at H
 conv=>whnf
 refine tst_c H (fun b1 H=>?_) (fun b1 H=>?_)
 ·conv=>whnf
  iterate 4 (refine Tst.T ?_;conv=>whnf)
  exact fb_ H
 conv=>whnf
 iterate 4 (refine Tst.F ?_;conv=>whnf)
 exact fb_ H
def gc86:BCode:=(.seq (.reg 0 [⟨(some 2),.mv (.const (.int .i64 0)),none,0⟩] none 0 []) (.seq (.block 0 (.seq (.seq (.reg 0 [⟨(some 4),.mv (.tmp 0),none,0⟩,⟨(some 5),.bin .lss (.tmp 4) (.const (.int .i64 0)),none,0⟩,⟨(some 3),.mv (.tmp 5),none,0⟩] none 0 []) (.cond (.tmp 3) .skip (.reg 0 [⟨(some 6),.mv (.tmp 0),none,0⟩,⟨(some 7),.bin .gtr (.tmp 6) (.const (.int .i64 15)),none,0⟩,⟨(some 3),.mv (.tmp 7),none,0⟩] none 0 []))) (.cond (.tmp 3) (.seq (.reg 0 [⟨(some 2),.mv (.const (.int .i64 8)),none,0⟩] none 0 []) .ret) (.seq (.seq (.reg 0 [⟨(some 9),.mv (.tmp 0),none,0⟩,⟨(some 10),.bin .and (.tmp 9) (.const (.int .i64 5)),none,0⟩,⟨(some 11),.bin .eql (.tmp 10) (.const (.int .i64 5)),none,0⟩,⟨(some 8),.mv (.tmp 11),none,0⟩] none 0 []) (.cond (.tmp 8) .skip (.reg 0 [⟨(some 12),.mv (.tmp 0),none,0⟩,⟨(some 13),.bin .and (.tmp 12) (.const (.int .i64 10)),none,0⟩,⟨(some 14),.bin .eql (.tmp 13) (.const (.int .i64 10)),none,0⟩,⟨(some 8),.mv (.tmp 14),none,0⟩] none 0 []))) (.cond (.tmp 8) (.seq (.reg 0 [⟨(some 2),.mv (.const (.int .i64 4)),none,0⟩] none 0 []) .ret) .skip))))) (.seq (.reg 0 [⟨(some 2),.mv (.const (.int .i64 0)),none,0⟩] none 0 []) .ret)))
theorem gc86_ok:compF Tryz.prog Tryz.f86=some (gc86.er,15,[.tmp 2]):=by unfold gc86;kernel_rfl
theorem p_subs_Check_v (a0:Int):CallsO Tryz.prog 86 [.i a0] V.i (p_subs_Check a0):=by
 refine callsO_comp mix Tryz.func86 gc86_ok fun r H=>?_
 rw [p_subs_Check] at H
 conv=>whnf
 refine tst_c H (fun b1 H=>?_) (fun b1 H=>?_)
 ·conv=>whnf
  refine Tst.T ?_;conv=>whnf
  exact fi_ H
 conv=>whnf
 refine tst_c H (fun b2 H=>?_) (fun b2 H=>?_)
 ·conv=>whnf
  exact fi_ H
 conv=>whnf
 refine tst_c H (fun b3 H=>?_) (fun b3 H=>?_)
 ·conv=>whnf
  refine Tst.T ?_;conv=>whnf
  exact fi_ H
 conv=>whnf
 refine tst_c H (fun b4 H=>?_) (fun b4 H=>?_)
 ·conv=>whnf
  exact fi_ H
 conv=>whnf
 exact fi_ H
def gc15:BCode:=(.seq (.reg 1 [⟨(some 1),.bx (.tmp 0),none,0⟩,⟨(some 2),.mv (.const (.int .i64 0)),none,1⟩] none 0 []) (.seq (.seq (.reg 0 [⟨(some 4),.fa 0 (.tmp 1),none,0⟩,⟨(some 5),.ld 1 false (.tmp 4),none,0⟩,⟨(some 6),.cl 84 [(.tmp 5)],none,0⟩,⟨(some 7),.un .not (.tmp 6),none,0⟩] none 0 []) (.cond (.tmp 7) (.seq (.reg 0 [⟨(some 2),.mv (.const (.int .i64 11)),none,0⟩] none 0 []) .ret) .skip)) (.seq (.seq (.reg 0 [⟨(some 8),.fa 1 (.tmp 1),none,0⟩,⟨(some 9),.ld 1 false (.tmp 8),none,0⟩,⟨(some 10),.lent (.tmp 9),none,0⟩,⟨(some 11),.bin .gtr (.tmp 10) (.const (.int .i64 24)),none,0⟩] none 0 []) (.cond (.tmp 11) (.seq (.reg 0 [⟨(some 2),.mv (.const (.int .i64 5)),none,0⟩] none 0 []) .ret) .skip)) (.seq (.seq (.reg 0 [⟨(some 12),.fa 1 (.tmp 1),none,0⟩,⟨(some 13),.ld 1 false (.tmp 12),none,0⟩,⟨(some 14),.cl 85 [(.tmp 13)],none,0⟩,⟨(some 15),.un .not (.tmp 14),none,0⟩] none 0 []) (.cond (.tmp 15) (.seq (.reg 0 [⟨(some 2),.mv (.const (.int .i64 11)),none,0⟩] none 0 []) .ret) .skip)) (.seq (.seq (.reg 0 [⟨(some 16),.fa 2 (.tmp 1),none,0⟩,⟨(some 17),.ld 1 false (.tmp 16),none,0⟩,⟨(some 18),.cl 86 [(.tmp 17)],none,0⟩,⟨(some 3),.mv (.tmp 18),none,0⟩] none 0 []) (.seq (.reg 0 [⟨(some 19),.mv (.tmp 3),none,0⟩,⟨(some 20),.bin .neq (.tmp 19) (.const (.int .i64 0)),none,0⟩] none 0 []) (.cond (.tmp 20) (.seq (.reg 0 [⟨(some 21),.mv (.tmp 3),none,0⟩,⟨(some 2),.mv (.tmp 21),none,0⟩] none 0 []) .ret) .skip))) (.seq (.seq (.reg 0 [⟨(some 22),.fa 3 (.tmp 1),none,0⟩,⟨(some 23),.ld 1 false (.tmp 22),none,0⟩,⟨(some 24),.bin .lss (.tmp 23) (.const (.int .i64 0)),none,0⟩,⟨(some 25),.mv (.tmp 24),none,0⟩,⟨(some 26),.fa 3 (.tmp 1),(some (25,false)),0⟩,⟨(some 27),.ld 1 false (.tmp 26),(some (25,false)),0⟩,⟨(some 28),.bin .gtr (.tmp 27) (.const (.int .i64 1099511627776)),(some (25,false)),0⟩,⟨(some 29),.pick (.tmp 25) (.const (.bool true)) (.tmp 28),none,0⟩] none 0 []) (.cond (.tmp 29) (.seq (.reg 0 [⟨(some 2),.mv (.const (.int .i64 8)),none,0⟩] none 0 []) .ret) .skip)) (.seq (.seq (.reg 0 [⟨(some 30),.fa 1 (.tmp 1),none,0⟩,⟨(some 31),.ld 1 false (.tmp 30),none,0⟩,⟨(some 32),.bin .neq (.tmp 31) (.const (.string ⟨#[]⟩)),none,0⟩,⟨(some 33),.mv (.tmp 32),none,0⟩,⟨(some 34),.fa 4 (.tmp 1),(some (33,true)),0⟩,⟨(some 35),.ld 1 false (.tmp 34),(some (33,true)),0⟩,⟨(some 36),.un .not (.tmp 35),(some (33,true)),0⟩,⟨(some 37),.pick (.tmp 33) (.tmp 36) (.const (.bool false)),none,0⟩] none 0 []) (.cond (.tmp 37) (.seq (.reg 0 [⟨(some 2),.mv (.const (.int .i64 4)),none,0⟩] none 0 []) .ret) .skip)) (.seq (.reg 0 [⟨(some 2),.mv (.const (.int .i64 0)),none,0⟩] none 0 []) .ret))))))))
theorem gc15_ok:compF Tryz.prog Tryz.f15=some (gc15.er,38,[.tmp 2]):=by unfold gc15;kernel_rfl
theorem p_item_Check_v (a0:ItemItem):CallsO Tryz.prog 15 [.agg [.s a0.Contact,.s a0.Name,.i a0.Sub,.i a0.Ver,.b a0.Own]] V.i (p_item_Check a0):=by
 refine callsO_comp mix Tryz.func15 gc15_ok fun r H=>?_
 rw [p_item_Check] at H
 conv=>whnf
 refine ask_c (p_addr_IsBare_v _) H rfl rfl (fun v1 H=>?_);conv=>whnf
 refine Tst.not ?_
 refine tst_d H (fun b2 H=>?_) (fun b2 H=>?_)
 ·conv=>whnf
  exact fi_ H
 conv=>whnf
 refine tst_c H (fun b3 H=>?_) (fun b3 H=>?_)
 ·conv=>whnf
  exact fi_ H
 conv=>whnf
 refine ask_c (p_utf_Plain_v _) H rfl rfl (fun v4 H=>?_);conv=>whnf
 refine Tst.not ?_
 refine tst_d H (fun b5 H=>?_) (fun b5 H=>?_)
 ·conv=>whnf
  exact fi_ H
 conv=>whnf
 refine ask_c (p_subs_Check_v _) H rfl rfl (fun v6 H=>?_);conv=>whnf
 refine tst_c H (fun b7 H=>?_) (fun b7 H=>?_)
 ·conv=>whnf
  exact fi_ H
 conv=>whnf
 refine tst_c H (fun b8 H=>?_) (fun b8 H=>?_)
 ·conv=>whnf
  iterate 4 (refine Tst.T ?_;conv=>whnf)
  exact fi_ H
 conv=>whnf
 iterate 3 (refine Tst.F ?_;conv=>whnf)
 refine tst_c H (fun b9 H=>?_) (fun b9 H=>?_)
 ·conv=>whnf
  exact fi_ H
 conv=>whnf
 refine Tst.not ?_
 refine tst_c H (fun b10 H=>?_) (fun b10 H=>?_)
 ·conv=>whnf
  iterate 4 (refine Tst.F ?_;conv=>whnf)
  exact fi_ H
 conv=>whnf
 iterate 3 (refine Tst.T ?_;conv=>whnf)
 refine Tst.not ?_
 refine tst_c H (fun b11 H=>?_) (fun b11 H=>?_)
 ·conv=>whnf
  exact fi_ H
 conv=>whnf
 exact fi_ H
end Go.Proofs.YtpmoioopjbfhkaaGreat

/- slices.Clone at function 101. -/
namespace Go.Proofs.YtpmoioopjbfhkaaGreat
open Go.RowKit Go.Lib
set_option maxHeartbeats 4000000
set_option maxRecDepth 100000
theorem cloS101 (A:Addr) (n c:Nat) (cs:List Value) (w:World) (hn:0 < n) (hbig:n≤1000000) (hcl:cs.length=n * 5) (hcs:∀ j v,cs[j]?=some v→w.cell? (A.add j)=some v) (h1:∀ v ∈ cs,v.oneCell'=true) :
  Calls Tryz.prog 101 #[.slice (some A) n c] w fun e w'=>∃ ZS:Array Value,e=.returned (.slice (some ⟨w.heap.size + 1,0,none⟩) n (grownCap (w.alloc (.cells #[] 26)) n 0 26))∧w'=(w.alloc (.cells #[] 26)).drew.alloc (.cells (cs.toArray++ZS) 26)∧grownCap (w.alloc (.cells #[] 26)) n 0 26 * 5≤(cs.toArray++ZS).size:=by
 have tS:Tryz.prog.underlying 47=some (.slice 26):=by kernel_rfl
 have uS:=run_underlying tS
 have qS:∀ (w:World) (a:Option Addr) (n c n' c' : Nat),(binOp .eql 47 (.slice a n c) (.slice none n' c')).run Tryz.prog w=.ok (.bool a.isNone) w:=fun w a n c n' c'=>Lib.run_eql_slice_nil w _ _ a n c n' c' tS
 have mixed:Tryz.prog.follows .mixedOrders=true:=mix
 obtain ⟨i0,z,hi0,hzs,hz0,hzc,hzb⟩:=infB_ok (P:=Tryz.prog) (e:=26) (es:=5) (by kernel_rfl)
 have hsrc:Src Tryz.prog i0.size 47 (.slice (some A) n c) n cs (w.alloc (.cells #[] 26)):=by
  rw [hzs]
  exact Src.ofSlice _ tS A n c cs (by omega) (fun j u hj=>Lib.cell?_alloc_some _ (hcs j u hj)) h1
 have hold:(Builtin.firstCells i0.size 0 (.slice (some ⟨w.heap.size,0,none⟩) 0 0)).run Tryz.prog (w.alloc (.cells #[] 26)).drew=.ok ([]:List Value).toArray (w.alloc (.cells #[] 26)).drew:=by
  rw [hzs]
  exact run_firstCells_some _ 5 0 ⟨w.heap.size,0,none⟩ 0 0 [] (by simp) (fun j v hj=>by simp at hj)
 have hrun:∀ ty,(Builtin.append_ #[47,47] ty #[.slice (some ⟨w.heap.size,0,none⟩) 0 0,.slice (some A) n c]).run Tryz.prog (w.alloc (.cells #[] 26))=_:=fun ty =>
  run_append_grow_src (w.alloc (.cells #[] 26)) 47 47 ty 26 i0 z tS hi0 hz0 (some ⟨w.heap.size,0,none⟩) 0 0 [] hold _ n cs hsrc (by omega) (by omega) (growslice_fits (by omega) (grown_bound (by omega) hzb))
 simp only [Nat.zero_add,List.nil_append,World.size_alloc] at hrun
 have hge:=grownCap_ge (w.alloc (.cells #[] 26)) n 0 26
 have hsz:grownCap (w.alloc (.cells #[] 26)) n 0 26 * 5≤(cs.toArray++Builtin.zeroCells z.cells (grownCap (w.alloc (.cells #[] 26)) n 0 26 - n)).size:=by
  simp only [Array.size_append,size_zeroCells,hzc,List.size_toArray,hcl]
  omega
 obtain ⟨ZS,hrun,hsz⟩ : ∃ ZS:Array Value,(∀ ty,(Builtin.append_ #[47,47] ty #[.slice (some ⟨w.heap.size,0,none⟩) 0 0,.slice (some A) n c]).run Tryz.prog (w.alloc (.cells #[] 26))=.ok (.slice (some ⟨w.heap.size + 1,0,none⟩) n (grownCap (w.alloc (.cells #[] 26)) n 0 26)) ((w.alloc (.cells #[] 26)).drew.alloc (.cells (cs.toArray++ZS) 26)))∧grownCap (w.alloc (.cells #[] 26)) n 0 26 * 5≤(cs.toArray++ZS).size:=⟨_,hrun,hsz⟩
 have main:Calls Tryz.prog 101 #[.slice (some A) n c] w fun e w'=>e=.returned (.slice (some ⟨w.heap.size + 1,0,none⟩) n (grownCap (w.alloc (.cells #[] 26)) n 0 26))∧w'=(w.alloc (.cells #[] 26)).drew.alloc (.cells (cs.toArray++ZS) 26):=by
  clear hsz hold hsrc hz0 hcs
  go_enter Tryz.func101,Tryz.ntmps101
  go_wp2_with (at_builtin;refine Lib.wpList_append_run _ rfl _ _ _ _ rfl _ _ rfl rfl _ _ (hrun _) ?_)
  go_ret
  exact ⟨rfl,rfl⟩
 refine main.mono ?_
 rintro e w' ⟨rfl,rfl⟩
 exact ⟨ZS,rfl,rfl,hsz⟩
theorem cloZ101 (A:Addr) (c:Nat) (w:World):Calls Tryz.prog 101 #[.slice (some A) 0 c] w fun e w'=>e=.returned (.slice (some ⟨w.heap.size,0,none⟩) 0 0)∧∃ q,w'=(w.alloc (.cells #[] 26)).drewN q:=by
 have tS:Tryz.prog.underlying 47=some (.slice 26):=by kernel_rfl
 have uS:=run_underlying tS
 have qS:∀ (w:World) (a:Option Addr) (n c n' c' : Nat),(binOp .eql 47 (.slice a n c) (.slice none n' c')).run Tryz.prog w=.ok (.bool a.isNone) w:=fun w a n c n' c'=>Lib.run_eql_slice_nil w _ _ a n c n' c' tS
 have mixed:Tryz.prog.follows .mixedOrders=true:=mix
 obtain ⟨i0,z,hi0,hzs,hz0,hzc,hzb⟩:=infB_ok (P:=Tryz.prog) (e:=26) (es:=5) (by kernel_rfl)
 have hsz:(Tryz.prog.info? 26).map (·.size)=some 5:=by rw [hi0];simp [hzs]
 have hrun:∀ ty,(Builtin.append_ #[47,47] ty #[.slice (some ⟨w.heap.size,0,none⟩) 0 0,.slice (some A) 0 c]).run Tryz.prog (w.alloc (.cells #[] 26))=.ok (.slice (some ⟨w.heap.size,0,none⟩) 0 0) (w.alloc (.cells #[] 26)):=fun ty=>by
  have hl:∀ (x:Addr) (W:World),(loadCells x 0).run Tryz.prog W=.ok #[] W:=fun x W=>by simpa using run_loadCells_list (P:=Tryz.prog) W x [] (by simp)
  simp [Builtin.append_,uS,Builtin.lenOf,Builtin.firstCells,sizeOf,typeInfo,hi0,hl,storeCells]
 have main:Calls Tryz.prog 101 #[.slice (some A) 0 c] w fun e w'=>e=.returned (.slice (some ⟨w.heap.size,0,none⟩) 0 0)∧w'=w.alloc (.cells #[] 26):=by
  go_enter Tryz.func101,Tryz.ntmps101
  go_wp2_with (at_builtin;refine Lib.wpList_append_run _ rfl _ _ _ _ rfl _ _ rfl rfl _ _ (hrun _) ?_)
  go_ret
  exact ⟨rfl,rfl⟩
 refine main.mono ?_
 rintro e w' ⟨rfl,rfl⟩
 exact ⟨rfl,0,rfl⟩
theorem cloN101 (n c:Nat) (w:World):Calls Tryz.prog 101 #[.slice none n c] w fun e w'=>e=.returned (.slice none 0 0)∧w'=w:=by
 have tS:Tryz.prog.underlying 47=some (.slice 26):=by kernel_rfl
 have uS:=run_underlying tS
 have qS:∀ (w:World) (a:Option Addr) (n c n' c' : Nat),(binOp .eql 47 (.slice a n c) (.slice none n' c')).run Tryz.prog w=.ok (.bool a.isNone) w:=fun w a n c n' c'=>Lib.run_eql_slice_nil w _ _ a n c n' c' tS
 have mixed:Tryz.prog.follows .mixedOrders=true:=mix
 go_enter Tryz.func101,Tryz.ntmps101
 go_wp2
 go_ret
 exact ⟨rfl,rfl⟩
theorem cloR101_v:CloRoads Tryz.prog 101 5 26:=⟨cloS101,cloZ101,cloN101⟩
end Go.Proofs.YtpmoioopjbfhkaaGreat

/- slices.Clone at function 168. -/
namespace Go.Proofs.YtpmoioopjbfhkaaGreat
open Go.RowKit Go.Lib
set_option maxHeartbeats 4000000
set_option maxRecDepth 100000
theorem cloS168 (A:Addr) (n c:Nat) (cs:List Value) (w:World) (hn:0 < n) (hbig:n≤1000000) (hcl:cs.length=n * 2) (hcs:∀ j v,cs[j]?=some v→w.cell? (A.add j)=some v) (h1:∀ v ∈ cs,v.oneCell'=true) :
  Calls Tryz.prog 168 #[.slice (some A) n c] w fun e w'=>∃ ZS:Array Value,e=.returned (.slice (some ⟨w.heap.size + 1,0,none⟩) n (grownCap (w.alloc (.cells #[] 147)) n 0 147))∧w'=(w.alloc (.cells #[] 147)).drew.alloc (.cells (cs.toArray++ZS) 147)∧grownCap (w.alloc (.cells #[] 147)) n 0 147 * 2≤(cs.toArray++ZS).size:=by
 have tS:Tryz.prog.underlying 58=some (.slice 147):=by kernel_rfl
 have uS:=run_underlying tS
 have qS:∀ (w:World) (a:Option Addr) (n c n' c' : Nat),(binOp .eql 58 (.slice a n c) (.slice none n' c')).run Tryz.prog w=.ok (.bool a.isNone) w:=fun w a n c n' c'=>Lib.run_eql_slice_nil w _ _ a n c n' c' tS
 have mixed:Tryz.prog.follows .mixedOrders=true:=mix
 obtain ⟨i0,z,hi0,hzs,hz0,hzc,hzb⟩:=infB_ok (P:=Tryz.prog) (e:=147) (es:=2) (by kernel_rfl)
 have hsrc:Src Tryz.prog i0.size 58 (.slice (some A) n c) n cs (w.alloc (.cells #[] 147)):=by
  rw [hzs]
  exact Src.ofSlice _ tS A n c cs (by omega) (fun j u hj=>Lib.cell?_alloc_some _ (hcs j u hj)) h1
 have hold:(Builtin.firstCells i0.size 0 (.slice (some ⟨w.heap.size,0,none⟩) 0 0)).run Tryz.prog (w.alloc (.cells #[] 147)).drew=.ok ([]:List Value).toArray (w.alloc (.cells #[] 147)).drew:=by
  rw [hzs]
  exact run_firstCells_some _ 2 0 ⟨w.heap.size,0,none⟩ 0 0 [] (by simp) (fun j v hj=>by simp at hj)
 have hrun:∀ ty,(Builtin.append_ #[58,58] ty #[.slice (some ⟨w.heap.size,0,none⟩) 0 0,.slice (some A) n c]).run Tryz.prog (w.alloc (.cells #[] 147))=_:=fun ty =>
  run_append_grow_src (w.alloc (.cells #[] 147)) 58 58 ty 147 i0 z tS hi0 hz0 (some ⟨w.heap.size,0,none⟩) 0 0 [] hold _ n cs hsrc (by omega) (by omega) (growslice_fits (by omega) (grown_bound (by omega) hzb))
 simp only [Nat.zero_add,List.nil_append,World.size_alloc] at hrun
 have hge:=grownCap_ge (w.alloc (.cells #[] 147)) n 0 147
 have hsz:grownCap (w.alloc (.cells #[] 147)) n 0 147 * 2≤(cs.toArray++Builtin.zeroCells z.cells (grownCap (w.alloc (.cells #[] 147)) n 0 147 - n)).size:=by
  simp only [Array.size_append,size_zeroCells,hzc,List.size_toArray,hcl]
  omega
 obtain ⟨ZS,hrun,hsz⟩ : ∃ ZS:Array Value,(∀ ty,(Builtin.append_ #[58,58] ty #[.slice (some ⟨w.heap.size,0,none⟩) 0 0,.slice (some A) n c]).run Tryz.prog (w.alloc (.cells #[] 147))=.ok (.slice (some ⟨w.heap.size + 1,0,none⟩) n (grownCap (w.alloc (.cells #[] 147)) n 0 147)) ((w.alloc (.cells #[] 147)).drew.alloc (.cells (cs.toArray++ZS) 147)))∧grownCap (w.alloc (.cells #[] 147)) n 0 147 * 2≤(cs.toArray++ZS).size:=⟨_,hrun,hsz⟩
 have main:Calls Tryz.prog 168 #[.slice (some A) n c] w fun e w'=>e=.returned (.slice (some ⟨w.heap.size + 1,0,none⟩) n (grownCap (w.alloc (.cells #[] 147)) n 0 147))∧w'=(w.alloc (.cells #[] 147)).drew.alloc (.cells (cs.toArray++ZS) 147):=by
  clear hsz hold hsrc hz0 hcs
  go_enter Tryz.func168,Tryz.ntmps168
  go_wp2_with (at_builtin;refine Lib.wpList_append_run _ rfl _ _ _ _ rfl _ _ rfl rfl _ _ (hrun _) ?_)
  go_ret
  exact ⟨rfl,rfl⟩
 refine main.mono ?_
 rintro e w' ⟨rfl,rfl⟩
 exact ⟨ZS,rfl,rfl,hsz⟩
theorem cloZ168 (A:Addr) (c:Nat) (w:World):Calls Tryz.prog 168 #[.slice (some A) 0 c] w fun e w'=>e=.returned (.slice (some ⟨w.heap.size,0,none⟩) 0 0)∧∃ q,w'=(w.alloc (.cells #[] 147)).drewN q:=by
 have tS:Tryz.prog.underlying 58=some (.slice 147):=by kernel_rfl
 have uS:=run_underlying tS
 have qS:∀ (w:World) (a:Option Addr) (n c n' c' : Nat),(binOp .eql 58 (.slice a n c) (.slice none n' c')).run Tryz.prog w=.ok (.bool a.isNone) w:=fun w a n c n' c'=>Lib.run_eql_slice_nil w _ _ a n c n' c' tS
 have mixed:Tryz.prog.follows .mixedOrders=true:=mix
 obtain ⟨i0,z,hi0,hzs,hz0,hzc,hzb⟩:=infB_ok (P:=Tryz.prog) (e:=147) (es:=2) (by kernel_rfl)
 have hsz:(Tryz.prog.info? 147).map (·.size)=some 2:=by rw [hi0];simp [hzs]
 have hrun:∀ ty,(Builtin.append_ #[58,58] ty #[.slice (some ⟨w.heap.size,0,none⟩) 0 0,.slice (some A) 0 c]).run Tryz.prog (w.alloc (.cells #[] 147))=.ok (.slice (some ⟨w.heap.size,0,none⟩) 0 0) (w.alloc (.cells #[] 147)):=fun ty=>by
  have hl:∀ (x:Addr) (W:World),(loadCells x 0).run Tryz.prog W=.ok #[] W:=fun x W=>by simpa using run_loadCells_list (P:=Tryz.prog) W x [] (by simp)
  simp [Builtin.append_,uS,Builtin.lenOf,Builtin.firstCells,sizeOf,typeInfo,hi0,hl,storeCells]
 have main:Calls Tryz.prog 168 #[.slice (some A) 0 c] w fun e w'=>e=.returned (.slice (some ⟨w.heap.size,0,none⟩) 0 0)∧w'=w.alloc (.cells #[] 147):=by
  go_enter Tryz.func168,Tryz.ntmps168
  go_wp2_with (at_builtin;refine Lib.wpList_append_run _ rfl _ _ _ _ rfl _ _ rfl rfl _ _ (hrun _) ?_)
  go_ret
  exact ⟨rfl,rfl⟩
 refine main.mono ?_
 rintro e w' ⟨rfl,rfl⟩
 exact ⟨rfl,0,rfl⟩
theorem cloN168 (n c:Nat) (w:World):Calls Tryz.prog 168 #[.slice none n c] w fun e w'=>e=.returned (.slice none 0 0)∧w'=w:=by
 have tS:Tryz.prog.underlying 58=some (.slice 147):=by kernel_rfl
 have uS:=run_underlying tS
 have qS:∀ (w:World) (a:Option Addr) (n c n' c' : Nat),(binOp .eql 58 (.slice a n c) (.slice none n' c')).run Tryz.prog w=.ok (.bool a.isNone) w:=fun w a n c n' c'=>Lib.run_eql_slice_nil w _ _ a n c n' c' tS
 have mixed:Tryz.prog.follows .mixedOrders=true:=mix
 go_enter Tryz.func168,Tryz.ntmps168
 go_wp2
 go_ret
 exact ⟨rfl,rfl⟩
theorem cloR168_v:CloRoads Tryz.prog 168 2 147:=⟨cloS168,cloZ168,cloN168⟩
end Go.Proofs.YtpmoioopjbfhkaaGreat

/- That the program's functions yield what the plain ones tell (written by a program of mine). -/
namespace Go.Proofs.YtpmoioopjbfhkaaGreat
open Go.RowKit
set_option maxRecDepth 100000
set_option maxHeartbeats 4000000
def gc107:BCode:=(.seq (.reg 2 [⟨(some 1),.bx (.tmp 0),none,0⟩,⟨(some 2),.al (.agg [(.lit (.int .i64 0)),(.lit (.int .i64 0)),(.sl [] true),(.sl [] true)]),none,1⟩] none 0 []) (.seq (.reg 0 [⟨(some 3),.fa 2 (.tmp 1),none,0⟩,⟨(some 4),.ld 1 false (.tmp 3),none,0⟩,⟨(some 5),.cl 101 [(.tmp 4)],none,0⟩,⟨(some 6),.fa 3 (.tmp 1),none,0⟩,⟨(some 7),.ld 1 false (.tmp 6),none,0⟩,⟨(some 8),.cl 168 [(.tmp 7)],none,0⟩,⟨(some 9),.fa 2 (.tmp 1),none,0⟩,⟨none,.st 1 (.tmp 9) (.tmp 5),none,0⟩,⟨(some 10),.fa 3 (.tmp 1),none,0⟩,⟨none,.st 1 (.tmp 10) (.tmp 8),none,0⟩] (some [[],[0],[0,1],[],[3],[1,0,2,3,4],[4,3,2,1,0],[5,0,1,2,3,4,6],[7,6,5,4,3,2,1,0],[0,1,2,3,4,5,6,7,8]]) 2 []) (.seq (.reg 0 [⟨(some 11),.ld 4 true (.tmp 1),none,0⟩,⟨none,.st 4 (.tmp 2) (.tmp 11),none,0⟩] none 0 []) .ret)))
theorem gc107_ok:compF Tryz.prog Tryz.f107=some (gc107.er,12,[.cell 2 4 true]):=by unfold gc107;kernel_rfl
theorem p_roster_State_own_00 {u1 u2:Bool} (a:RosterState) (h0:a.Items=[]) (h1:a.Gone=[]):CallsS Tryz.prog 107 [.agg [.i a.Ver,.i a.Floor,.sl (List.map ItemItem.v a.Items) u1,.sl (List.map RosterGone.v a.Gone) u2]] [.fresh,.fresh] (.agg [.i a.Ver,.i a.Floor,.sl (List.map ItemItem.v []) true,.sl (List.map RosterGone.v []) true]) [.fresh,.fresh]:=by
 refine callsR_c (n0:=2) mix Tryz.func107 gc107_ok rfl ?_
 conv=>whnf
 refine cloE_c cloR101_v h0 ?_;conv=>whnf
 refine cloE_c cloR168_v h1 ?_;conv=>whnf
 refine ⟨Nat.le_of_ble_eq_true rfl,?_⟩;conv=>whnf
 refine ⟨Nat.le_of_ble_eq_true rfl,?_⟩;conv=>whnf
 refine FootQ.mk ⟨rfl,?_⟩;conv=>whnf
 refine ⟨Nat.le_of_ble_eq_true rfl,?_⟩;conv=>whnf
 exact ⟨f_R [0,1] (.inr rfl) (.cons (.cell rfl rfl (Nat.le_of_ble_eq_true rfl)) .nil) rfl rfl rfl (fun i hi h=>absurd (by rcases i with _ | _ | i <;> first | rfl | (exfalso;have hi2:i + 1 + 1 < 2:=hi;omega)) h) ⟨rfl,⟨rfl,trivial⟩⟩⟩
theorem p_roster_State_own_01 {u1 u2:Bool} (a:RosterState) (h0:a.Items=[]) (h1:a.Gone≠[]) (n1:a.Gone.length≤1000000):CallsS Tryz.prog 107 [.agg [.i a.Ver,.i a.Floor,.sl (List.map ItemItem.v a.Items) u1,.sl (List.map RosterGone.v a.Gone) u2]] [.fresh,.fresh] (.agg [.i a.Ver,.i a.Floor,.sl (List.map ItemItem.v []) true,.osl 1 0 a.Gone.length 2 false]) [.fresh,.live (cellsM RosterGone.v a.Gone) 0]:=by
 refine callsR_c (n0:=2) mix Tryz.func107 gc107_ok rfl ?_
 conv=>whnf
 refine cloE_c cloR101_v h0 ?_;conv=>whnf
 refine cloN_c cloR168_v 5 (fun _=>rfl) (fun _=>rfl) rfl h1 n1 ?_;conv=>whnf
 refine ⟨Nat.le_of_ble_eq_true rfl,?_⟩;conv=>whnf
 refine ⟨Nat.le_of_ble_eq_true rfl,?_⟩;conv=>whnf
 refine FootQ.mk ⟨rfl,?_⟩;conv=>whnf
 refine ⟨Nat.le_of_ble_eq_true rfl,?_⟩;conv=>whnf
 exact ⟨f_R [0,5] (.inr rfl) (.cons (.cell rfl rfl (Nat.le_of_ble_eq_true rfl)) .nil) rfl rfl rfl (fun i hi h=>absurd (by rcases i with _ | _ | i <;> first | rfl | (exfalso;have hi2:i + 1 + 1 < 2:=hi;omega)) h) ⟨rfl,(wkB_live0 rfl (cellsM_idlt (f:=RosterGone.v) (fun _=>rfl) _) rfl trivial)⟩⟩
theorem p_roster_State_own_10 {u1 u2:Bool} (a:RosterState) (h0:a.Items≠[]) (n0:a.Items.length≤1000000) (h1:a.Gone=[]):CallsS Tryz.prog 107 [.agg [.i a.Ver,.i a.Floor,.sl (List.map ItemItem.v a.Items) u1,.sl (List.map RosterGone.v a.Gone) u2]] [.fresh,.fresh] (.agg [.i a.Ver,.i a.Floor,.osl 0 0 a.Items.length 5 false,.sl (List.map RosterGone.v []) true]) [.live (cellsM ItemItem.v a.Items) 0,.fresh]:=by
 refine callsR_c (n0:=2) mix Tryz.func107 gc107_ok rfl ?_
 conv=>whnf
 refine cloN_c cloR101_v 4 (fun _=>rfl) (fun _=>rfl) rfl h0 n0 ?_;conv=>whnf
 refine cloE_c cloR168_v h1 ?_;conv=>whnf
 refine ⟨Nat.le_of_ble_eq_true rfl,?_⟩;conv=>whnf
 refine ⟨Nat.le_of_ble_eq_true rfl,?_⟩;conv=>whnf
 refine FootQ.mk ⟨rfl,?_⟩;conv=>whnf
 refine ⟨Nat.le_of_ble_eq_true rfl,?_⟩;conv=>whnf
 exact ⟨f_R [4,1] (.inr rfl) (.cons (.cell rfl rfl (Nat.le_of_ble_eq_true rfl)) .nil) rfl rfl rfl (fun i hi h=>absurd (by rcases i with _ | _ | i <;> first | rfl | (exfalso;have hi2:i + 1 + 1 < 2:=hi;omega)) h) (wkB_live0 rfl (cellsM_idlt (f:=ItemItem.v) (fun _=>rfl) _) rfl ⟨rfl,trivial⟩)⟩
theorem p_roster_State_own_11 {u1 u2:Bool} (a:RosterState) (h0:a.Items≠[]) (n0:a.Items.length≤1000000) (h1:a.Gone≠[]) (n1:a.Gone.length≤1000000):CallsS Tryz.prog 107 [.agg [.i a.Ver,.i a.Floor,.sl (List.map ItemItem.v a.Items) u1,.sl (List.map RosterGone.v a.Gone) u2]] [.fresh,.fresh] (.agg [.i a.Ver,.i a.Floor,.osl 0 0 a.Items.length 5 false,.osl 1 0 a.Gone.length 2 false]) [.live (cellsM ItemItem.v a.Items) 0,.live (cellsM RosterGone.v a.Gone) 0]:=by
 refine callsR_c (n0:=2) mix Tryz.func107 gc107_ok rfl ?_
 conv=>whnf
 refine cloN_c cloR101_v 4 (fun _=>rfl) (fun _=>rfl) rfl h0 n0 ?_;conv=>whnf
 refine cloN_c cloR168_v 5 (fun _=>rfl) (fun _=>rfl) rfl h1 n1 ?_;conv=>whnf
 refine ⟨Nat.le_of_ble_eq_true rfl,?_⟩;conv=>whnf
 refine ⟨Nat.le_of_ble_eq_true rfl,?_⟩;conv=>whnf
 refine FootQ.mk ⟨rfl,?_⟩;conv=>whnf
 refine ⟨Nat.le_of_ble_eq_true rfl,?_⟩;conv=>whnf
 exact ⟨f_R [4,5] (.inr rfl) (.cons (.cell rfl rfl (Nat.le_of_ble_eq_true rfl)) .nil) rfl rfl rfl (fun i hi h=>absurd (by rcases i with _ | _ | i <;> first | rfl | (exfalso;have hi2:i + 1 + 1 < 2:=hi;omega)) h) (wkB_live0 rfl (cellsM_idlt (f:=ItemItem.v) (fun _=>rfl) _) rfl (wkB_live0 rfl (cellsM_idlt (f:=RosterGone.v) (fun _=>rfl) _) rfl trivial))⟩
theorem p_roster_State_own_c {β:Type} {r:β} {st:List Slot} {i j:Nat} {u1 u2:Bool} {a:RosterState} {X:RosterState→Option β} {K:V→List Nat→List Nat→List Slot→Prop} (H:(p_roster_State_own a).bind X=some r) (hij:i≠j) (hi:st[i]?=some .fresh) (hj:st[j]?=some .fresh)
  (h00:X ⟨a.Ver,a.Floor,[],[]⟩=some r→ssetK st i (.fresh) fun st1=>ssetK st1 j (.fresh) fun st2=>K (.agg [.i a.Ver,.i a.Floor,.sl (List.map ItemItem.v []) true,.sl (List.map RosterGone.v []) true]) [] [i,j] st2) (h01:∀ G:List RosterGone,X ⟨a.Ver,a.Floor,[],G⟩=some r→ssetK st i (.fresh) fun st1=>ssetK st1 j (.live (cellsM RosterGone.v G) 0) fun st2=>K (.agg [.i a.Ver,.i a.Floor,.sl (List.map ItemItem.v []) true,.osl j 0 G.length 2 false]) [] [i,j] st2) (h10:∀ I:List ItemItem,X ⟨a.Ver,a.Floor,I,[]⟩=some r→ssetK st i (.live (cellsM ItemItem.v I) 0) fun st1=>ssetK st1 j (.fresh) fun st2=>K (.agg [.i a.Ver,.i a.Floor,.osl i 0 I.length 5 false,.sl (List.map RosterGone.v []) true]) [] [i,j] st2) (h11:∀ (I:List ItemItem) (G:List RosterGone),X ⟨a.Ver,a.Floor,I,G⟩=some r→ssetK st i (.live (cellsM ItemItem.v I) 0) fun st1=>ssetK st1 j (.live (cellsM RosterGone.v G) 0) fun st2=>K (.agg [.i a.Ver,.i a.Floor,.osl i 0 I.length 5 false,.osl j 0 G.length 2 false]) [] [i,j] st2):Ask Tryz.prog 107 [.agg [.i a.Ver,.i a.Floor,.sl (List.map ItemItem.v a.Items) u1,.sl (List.map RosterGone.v a.Gone) u2]] st K:=by
 obtain ⟨s,hs,H⟩:=bind_c H
 unfold p_roster_State_own at hs
 obtain ⟨l1,k1,hs⟩:=bind_c hs
 obtain ⟨l2,k2,hs⟩:=bind_c hs
 unfold clone? at k1 k2
 split at k1
 case isFalse=>cases k1
 split at k2
 case isFalse=>cases k2
 rename_i n0 n1
 obtain rfl:=Option.some.inj k1
 obtain rfl:=Option.some.inj k2
 obtain rfl:=Option.some.inj hs
 by_cases e0:a.Items=[] <;> by_cases e1:a.Gone=[]
 ·have h:=h00 (by rw [e0,e1] at H;exact H)
  rw [ssetK_eq,ssetK_eq] at h
  exact Ask_L (rd:=[]) (ef:=[(i,.fresh),(j,.fresh)]) (fun st2 _ h2=>callsS_new (p_roster_State_own_00 a e0 e1) rfl hij ((h2 i (.inr (by simp))).trans hi) ((h2 j (.inr (by simp))).trans hj) (fun cs f h=>by rcases h with h | h <;> cases h)) h
 ·have h:=h01 a.Gone (by rw [e0] at H;exact H)
  rw [ssetK_eq,ssetK_eq] at h
  exact Ask_L (rd:=[]) (ef:=[(i,.fresh),(j,.live (cellsM RosterGone.v a.Gone) 0)]) (fun st2 _ h2=>callsS_new (p_roster_State_own_01 a e0 e1 n1) rfl hij ((h2 i (.inr (by simp))).trans hi) ((h2 j (.inr (by simp))).trans hj) (fun cs f h=>by rcases h with h | h <;> first | (cases h;done) | (simp only [Slot.live.injEq] at h;obtain ⟨rfl,rfl⟩:=h;exact litL_M (fun _=>rfl) _))) h
 ·have h:=h10 a.Items (by rw [e1] at H;exact H)
  rw [ssetK_eq,ssetK_eq] at h
  exact Ask_L (rd:=[]) (ef:=[(i,.live (cellsM ItemItem.v a.Items) 0),(j,.fresh)]) (fun st2 _ h2=>callsS_new (p_roster_State_own_10 a e0 n0 e1) rfl hij ((h2 i (.inr (by simp))).trans hi) ((h2 j (.inr (by simp))).trans hj) (fun cs f h=>by rcases h with h | h <;> first | (cases h;done) | (simp only [Slot.live.injEq] at h;obtain ⟨rfl,rfl⟩:=h;exact litL_M (fun _=>rfl) _))) h
 ·have h:=h11 a.Items a.Gone (by exact H)
  rw [ssetK_eq,ssetK_eq] at h
  exact Ask_L (rd:=[]) (ef:=[(i,.live (cellsM ItemItem.v a.Items) 0),(j,.live (cellsM RosterGone.v a.Gone) 0)]) (fun st2 _ h2=>callsS_new (p_roster_State_own_11 a e0 n0 e1 n1) rfl hij ((h2 i (.inr (by simp))).trans hi) ((h2 j (.inr (by simp))).trans hj) (fun cs f h=>by rcases h with h | h <;> (simp only [Slot.live.injEq] at h;obtain ⟨rfl,rfl⟩:=h;exact litL_M (fun _=>rfl) _))) h
end Go.Proofs.YtpmoioopjbfhkaaGreat

/- That the program's functions yield what the plain ones tell (written by a program of mine). -/
namespace Go.Proofs.YtpmoioopjbfhkaaGreat
open Go.RowKit
set_option maxRecDepth 100000
set_option maxHeartbeats 4000000
def gc156:BCode:=(.seq (.reg 1 [⟨(some 2),.al (.agg [(.lit (.bool false)),(.lit (.bool false)),(.lit (.bool false)),(.lit (.bool false))]),none,0⟩] none 0 []) (.seq (.reg 0 [⟨(some 3),.mv (.tmp 0),none,0⟩,⟨(some 4),.bin .rem (.tmp 3) (.const (.int .i64 2)),none,0⟩,⟨(some 5),.bin .eql (.tmp 4) (.const (.int .i64 1)),none,0⟩,⟨(some 6),.mv (.tmp 0),none,0⟩,⟨(some 7),.bin .quo (.tmp 6) (.const (.int .i64 2)),none,0⟩,⟨(some 8),.bin .rem (.tmp 7) (.const (.int .i64 2)),none,0⟩,⟨(some 9),.bin .eql (.tmp 8) (.const (.int .i64 1)),none,0⟩,⟨(some 10),.mv (.tmp 0),none,0⟩,⟨(some 11),.bin .quo (.tmp 10) (.const (.int .i64 4)),none,0⟩,⟨(some 12),.bin .rem (.tmp 11) (.const (.int .i64 2)),none,0⟩,⟨(some 13),.bin .eql (.tmp 12) (.const (.int .i64 1)),none,0⟩,⟨(some 14),.mv (.tmp 0),none,0⟩,⟨(some 15),.bin .quo (.tmp 14) (.const (.int .i64 8)),none,0⟩,⟨(some 16),.bin .rem (.tmp 15) (.const (.int .i64 2)),none,0⟩,⟨(some 17),.bin .eql (.tmp 16) (.const (.int .i64 1)),none,0⟩,⟨(some 18),.bd [(.lit (.bool false)),(.lit (.bool false)),(.lit (.bool false)),(.lit (.bool false))] [(0,1,(.tmp 5)),(1,1,(.tmp 9)),(2,1,(.tmp 13)),(3,1,(.tmp 17))],none,0⟩,⟨none,.st 4 (.tmp 2) (.tmp 18),none,0⟩] none 0 []) .ret))
theorem gc156_ok:compF Tryz.prog Tryz.f156=some (gc156.er,19,[.cell 2 4 true]):=by unfold gc156;kernel_rfl
theorem p_ref19_of_v (a0:Int):CallsO Tryz.prog 156 [.i a0] Ref19Four.v (p_ref19_of a0):=by
 refine callsO_comp mix Tryz.func156 gc156_ok fun r H=>?_
 rw [p_ref19_of] at H
 conv=>whnf
 refine ⟨by decide,?_⟩;conv=>whnf
 refine ⟨by decide,Ari.w ?_⟩;conv=>whnf
 refine ⟨by decide,?_⟩;conv=>whnf
 refine ⟨by decide,Ari.w ?_⟩;conv=>whnf
 refine ⟨by decide,?_⟩;conv=>whnf
 refine ⟨by decide,Ari.w ?_⟩;conv=>whnf
 refine ⟨by decide,?_⟩;conv=>whnf
 refine ⟨Nat.le_of_ble_eq_true rfl,?_⟩;conv=>whnf
 exact fin0_c (enc:=Ref19Four.v) H (.inr rfl) (.cons (.cell rfl rfl (Nat.le_of_ble_eq_true rfl)) (.nil)) rfl rfl
def gc89:BCode:=(.seq (.reg 0 [⟨(some 2),.mv (.const (.int .i64 0)),none,0⟩] none 0 []) (.seq (.seq (.reg 0 [⟨(some 4),.mv (.tmp 0),none,0⟩,⟨(some 5),.bin .lss (.tmp 4) (.const (.int .i64 0)),none,0⟩,⟨(some 6),.mv (.tmp 5),none,0⟩,⟨(some 7),.mv (.tmp 0),(some (6,false)),0⟩,⟨(some 8),.bin .gtr (.tmp 7) (.const (.int .i64 15)),(some (6,false)),0⟩,⟨(some 9),.pick (.tmp 6) (.const (.bool true)) (.tmp 8),none,0⟩] none 0 []) (.cond (.tmp 9) (.seq (.reg 0 [⟨(some 2),.mv (.const (.int .i64 8)),none,0⟩] none 0 []) .ret) .skip)) (.seq (.reg 1 [⟨(some 10),.mv (.tmp 0),none,0⟩,⟨(some 11),.cl 156 [(.tmp 10)],none,0⟩,⟨(some 3),.al (.agg [(.lit (.bool false)),(.lit (.bool false)),(.lit (.bool false)),(.lit (.bool false))]),none,0⟩,⟨none,.st 4 (.tmp 3) (.tmp 11),none,1⟩] none 0 []) (.seq (.seq (.reg 0 [⟨(some 12),.fa 0 (.tmp 3),none,0⟩,⟨(some 13),.ld 1 false (.tmp 12),none,0⟩,⟨(some 14),.mv (.tmp 13),none,0⟩,⟨(some 15),.fa 2 (.tmp 3),(some (14,true)),0⟩,⟨(some 16),.ld 1 false (.tmp 15),(some (14,true)),0⟩,⟨(some 17),.pick (.tmp 14) (.tmp 16) (.const (.bool false)),none,0⟩,⟨(some 18),.mv (.tmp 17),none,0⟩,⟨(some 19),.fa 1 (.tmp 3),(some (18,false)),0⟩,⟨(some 20),.ld 1 false (.tmp 19),(some (18,false)),0⟩,⟨(some 21),.mv (.tmp 20),(some (18,false)),0⟩,⟨(some 22),.fa 3 (.tmp 3),(some (21,true)),0⟩,⟨(some 23),.ld 1 false (.tmp 22),(some (21,true)),0⟩,⟨(some 24),.pick (.tmp 21) (.tmp 23) (.const (.bool false)),(some (18,false)),0⟩,⟨(some 25),.pick (.tmp 18) (.const (.bool true)) (.tmp 24),none,0⟩] none 0 []) (.cond (.tmp 25) (.seq (.reg 0 [⟨(some 2),.mv (.const (.int .i64 4)),none,0⟩] none 0 []) .ret) .skip)) (.seq (.reg 0 [⟨(some 2),.mv (.const (.int .i64 0)),none,0⟩] none 0 []) .ret)))))
theorem gc89_ok:compF Tryz.prog Tryz.f89=some (gc89.er,26,[.tmp 2]):=by unfold gc89;kernel_rfl
theorem p_ref19_Check_v (a0:Int):CallsO Tryz.prog 89 [.i a0] V.i (p_ref19_Check a0):=by
 refine callsO_comp mix Tryz.func89 gc89_ok fun r H=>?_
 rw [p_ref19_Check] at H
 conv=>whnf
 refine tst_c H (fun b1 H=>?_) (fun b1 H=>?_)
 ·conv=>whnf
  iterate 3 (refine Tst.T ?_;conv=>whnf)
  exact fi_ H
 conv=>whnf
 iterate 2 (refine Tst.F ?_;conv=>whnf)
 refine tst_c H (fun b2 H=>?_) (fun b2 H=>?_)
 ·conv=>whnf
  exact fi_ H
 conv=>whnf
 refine ask_c (p_ref19_of_v _) H rfl rfl (fun v3 H=>?_);conv=>whnf
 refine ⟨Nat.le_of_ble_eq_true rfl,?_⟩;conv=>whnf
 refine tst_d H (fun b4 H=>?_) (fun b4 H=>?_)
 ·conv=>whnf
  iterate 5 (refine Tst.F ?_;conv=>whnf)
  refine tst_d H (fun b8 H=>?_) (fun b8 H=>?_)
  ·conv=>whnf
   iterate 5 (refine Tst.F ?_;conv=>whnf)
   exact fi_ H
  conv=>whnf
  refine Tst.T ?_;conv=>whnf
  refine Tst.F ?_;conv=>whnf
  refine Tst.T ?_;conv=>whnf
  refine Tst.F ?_;conv=>whnf
  refine tst_c H (fun b9 H=>?_) (fun b9 H=>?_)
  ·conv=>whnf
   exact fi_ H
  conv=>whnf
  exact fi_ H
 conv=>whnf
 iterate 2 (refine Tst.T ?_;conv=>whnf)
 refine tst_c H (fun b5 H=>?_) (fun b5 H=>?_)
 ·conv=>whnf
  iterate 5 (refine Tst.T ?_;conv=>whnf)
  exact fi_ H
 conv=>whnf
 iterate 2 (refine Tst.F ?_;conv=>whnf)
 refine tst_d H (fun b6 H=>?_) (fun b6 H=>?_)
 ·conv=>whnf
  iterate 5 (refine Tst.F ?_;conv=>whnf)
  exact fi_ H
 conv=>whnf
 refine Tst.T ?_;conv=>whnf
 refine Tst.F ?_;conv=>whnf
 refine Tst.T ?_;conv=>whnf
 refine Tst.F ?_;conv=>whnf
 refine tst_c H (fun b7 H=>?_) (fun b7 H=>?_)
 ·conv=>whnf
  exact fi_ H
 conv=>whnf
 exact fi_ H
def gc16:BCode:=(.seq (.reg 1 [⟨(some 1),.bx (.tmp 0),none,0⟩,⟨(some 2),.mv (.const (.int .i64 0)),none,1⟩] none 0 []) (.seq (.block 0 (.seq (.reg 0 [⟨(some 4),.fa 0 (.tmp 1),none,0⟩,⟨(some 5),.ld 1 false (.tmp 4),none,0⟩,⟨(some 6),.cl 87 [(.tmp 5)],none,0⟩,⟨(some 7),.un .not (.tmp 6),none,0⟩,⟨(some 3),.mv (.tmp 7),none,0⟩] none 0 []) (.cond (.tmp 3) (.seq (.reg 0 [⟨(some 2),.mv (.const (.int .i64 11)),none,0⟩] none 0 []) .ret) (.seq (.reg 0 [⟨(some 9),.fa 1 (.tmp 1),none,0⟩,⟨(some 10),.ld 1 false (.tmp 9),none,0⟩,⟨(some 11),.lent (.tmp 10),none,0⟩,⟨(some 12),.bin .gtr (.tmp 11) (.const (.int .i64 24)),none,0⟩,⟨(some 8),.mv (.tmp 12),none,0⟩] none 0 []) (.cond (.tmp 8) (.seq (.reg 0 [⟨(some 2),.mv (.const (.int .i64 5)),none,0⟩] none 0 []) .ret) (.seq (.reg 0 [⟨(some 14),.fa 1 (.tmp 1),none,0⟩,⟨(some 15),.ld 1 false (.tmp 14),none,0⟩,⟨(some 16),.cl 88 [(.tmp 15)],none,0⟩,⟨(some 17),.un .not (.tmp 16),none,0⟩,⟨(some 13),.mv (.tmp 17),none,0⟩] none 0 []) (.cond (.tmp 13) (.seq (.reg 0 [⟨(some 2),.mv (.const (.int .i64 11)),none,0⟩] none 0 []) .ret) (.seq (.reg 0 [⟨(some 19),.fa 2 (.tmp 1),none,0⟩,⟨(some 20),.ld 1 false (.tmp 19),none,0⟩,⟨(some 21),.cl 89 [(.tmp 20)],none,0⟩,⟨(some 22),.bin .neq (.tmp 21) (.const (.int .i64 0)),none,0⟩,⟨(some 18),.mv (.tmp 22),none,0⟩] none 0 []) (.cond (.tmp 18) (.seq (.reg 0 [⟨(some 23),.fa 2 (.tmp 1),none,0⟩,⟨(some 24),.ld 1 false (.tmp 23),none,0⟩,⟨(some 25),.cl 89 [(.tmp 24)],none,0⟩,⟨(some 2),.mv (.tmp 25),none,0⟩] none 0 []) .ret) (.seq (.reg 0 [⟨(some 27),.fa 3 (.tmp 1),none,0⟩,⟨(some 28),.ld 1 false (.tmp 27),none,0⟩,⟨(some 29),.bin .lss (.tmp 28) (.const (.int .i64 0)),none,0⟩,⟨(some 30),.mv (.tmp 29),none,0⟩,⟨(some 31),.fa 3 (.tmp 1),(some (30,false)),0⟩,⟨(some 32),.ld 1 false (.tmp 31),(some (30,false)),0⟩,⟨(some 33),.bin .gtr (.tmp 32) (.const (.int .i64 1099511627776)),(some (30,false)),0⟩,⟨(some 34),.pick (.tmp 30) (.const (.bool true)) (.tmp 33),none,0⟩,⟨(some 26),.mv (.tmp 34),none,0⟩] none 0 []) (.cond (.tmp 26) (.seq (.reg 0 [⟨(some 2),.mv (.const (.int .i64 8)),none,0⟩] none 0 []) .ret) (.seq (.reg 0 [⟨(some 36),.fa 1 (.tmp 1),none,0⟩,⟨(some 37),.ld 1 false (.tmp 36),none,0⟩,⟨(some 38),.bin .neq (.tmp 37) (.const (.string ⟨#[]⟩)),none,0⟩,⟨(some 39),.mv (.tmp 38),none,0⟩,⟨(some 40),.fa 4 (.tmp 1),(some (39,true)),0⟩,⟨(some 41),.ld 1 false (.tmp 40),(some (39,true)),0⟩,⟨(some 42),.un .not (.tmp 41),(some (39,true)),0⟩,⟨(some 43),.pick (.tmp 39) (.tmp 42) (.const (.bool false)),none,0⟩,⟨(some 35),.mv (.tmp 43),none,0⟩] none 0 []) (.cond (.tmp 35) (.seq (.reg 0 [⟨(some 2),.mv (.const (.int .i64 4)),none,0⟩] none 0 []) .ret) .skip))))))))))))) (.seq (.reg 0 [⟨(some 2),.mv (.const (.int .i64 0)),none,0⟩] none 0 []) .ret)))
theorem gc16_ok:compF Tryz.prog Tryz.f16=some (gc16.er,44,[.tmp 2]):=by unfold gc16;kernel_rfl
theorem p_ref20_Check_v (a0:ItemItem):CallsO Tryz.prog 16 [.agg [.s a0.Contact,.s a0.Name,.i a0.Sub,.i a0.Ver,.b a0.Own]] V.i (p_ref20_Check a0):=by
 refine callsO_comp mix Tryz.func16 gc16_ok fun r H=>?_
 rw [p_ref20_Check] at H
 conv=>whnf
 refine ask_c (p_ref09_IsBare_v _) H rfl rfl (fun v1 H=>?_);conv=>whnf
 refine Tst.not ?_
 refine tst_d H (fun b2 H=>?_) (fun b2 H=>?_)
 ·conv=>whnf
  exact fi_ H
 conv=>whnf
 refine tst_c H (fun b3 H=>?_) (fun b3 H=>?_)
 ·conv=>whnf
  exact fi_ H
 conv=>whnf
 refine ask_c (p_ref02_Plain_v _) H rfl rfl (fun v4 H=>?_);conv=>whnf
 refine Tst.not ?_
 refine tst_d H (fun b5 H=>?_) (fun b5 H=>?_)
 ·conv=>whnf
  exact fi_ H
 conv=>whnf
 refine ask_c (p_ref19_Check_v _) H rfl rfl (fun v6 H=>?_);conv=>whnf
 refine tst_c H (fun b7 H=>?_) (fun b7 H=>?_)
 ·conv=>whnf
  refine ask_c (p_ref19_Check_v _) H rfl rfl (fun v8 H=>?_);conv=>whnf
  exact fi_ H
 conv=>whnf
 refine tst_c H (fun b9 H=>?_) (fun b9 H=>?_)
 ·conv=>whnf
  iterate 4 (refine Tst.T ?_;conv=>whnf)
  exact fi_ H
 conv=>whnf
 iterate 3 (refine Tst.F ?_;conv=>whnf)
 refine tst_c H (fun b10 H=>?_) (fun b10 H=>?_)
 ·conv=>whnf
  exact fi_ H
 conv=>whnf
 refine Tst.not ?_
 refine tst_c H (fun b11 H=>?_) (fun b11 H=>?_)
 ·conv=>whnf
  iterate 4 (refine Tst.F ?_;conv=>whnf)
  exact fi_ H
 conv=>whnf
 iterate 3 (refine Tst.T ?_;conv=>whnf)
 refine Tst.not ?_
 refine tst_c H (fun b12 H=>?_) (fun b12 H=>?_)
 ·conv=>whnf
  exact fi_ H
 conv=>whnf
 exact fi_ H
end Go.Proofs.YtpmoioopjbfhkaaGreat

/- That the program's functions yield what the plain ones tell (written by a program of mine). -/
namespace Go.Proofs.YtpmoioopjbfhkaaGreat
open Go.RowKit
set_option maxRecDepth 100000
set_option maxHeartbeats 4000000
def gc90:BCode:=(.seq (.reg 1 [⟨(some 2),.bx (.tmp 0),none,0⟩,⟨(some 4),.mv (.const (.bool false)),none,1⟩] none 0 []) (.seq (.reg 0 [⟨(some 5),.fa 2 (.tmp 2),none,0⟩,⟨(some 6),.ld 1 false (.tmp 5),none,0⟩,⟨(some 7),.cl 86 [(.tmp 6)],none,0⟩,⟨(some 8),.bin .eql (.tmp 7) (.const (.int .i64 0)),none,0⟩,⟨(some 9),.mv (.tmp 8),none,0⟩,⟨(some 10),.fa 2 (.tmp 2),(some (9,true)),0⟩,⟨(some 11),.ld 1 false (.tmp 10),(some (9,true)),0⟩,⟨(some 12),.mv (.tmp 1),(some (9,true)),0⟩,⟨(some 13),.bin .and (.tmp 11) (.tmp 12),(some (9,true)),0⟩,⟨(some 14),.bin .neq (.tmp 13) (.const (.int .i64 0)),(some (9,true)),0⟩,⟨(some 15),.pick (.tmp 9) (.tmp 14) (.const (.bool false)),none,0⟩,⟨(some 4),.mv (.tmp 15),none,0⟩] none 0 []) .ret))
theorem gc90_ok:compF Tryz.prog Tryz.f90=some (gc90.er,16,[.tmp 4]):=by unfold gc90;kernel_rfl
theorem p_item_Item_has_v (a0:ItemItem) (a1:Int):CallsO Tryz.prog 90 [.agg [.s a0.Contact,.s a0.Name,.i a0.Sub,.i a0.Ver,.b a0.Own],.i a1] V.b (p_item_Item_has a0 a1):=by
 refine callsO_comp mix Tryz.func90 gc90_ok fun r H=>?_
 rw [p_item_Item_has] at H
 conv=>whnf
 refine ask_c (p_subs_Check_v _) H rfl rfl (fun v1 H=>?_);conv=>whnf
 refine tst_c H (fun b2 H=>?_) (fun b2 H=>?_)
 ·conv=>whnf
  iterate 5 (refine Tst.T ?_;conv=>whnf)
  exact fb_ H
 conv=>whnf
 iterate 5 (refine Tst.F ?_;conv=>whnf)
 exact fb_ H
def gc17:BCode:=(.seq (.reg 1 [⟨(some 1),.bx (.tmp 0),none,0⟩,⟨(some 2),.mv (.const (.bool false)),none,1⟩] none 0 []) (.seq (.reg 0 [⟨(some 3),.fa 4 (.tmp 1),none,0⟩,⟨(some 4),.ld 1 false (.tmp 3),none,0⟩,⟨(some 5),.mv (.tmp 4),none,0⟩,⟨(some 6),.ld 5 true (.tmp 1),(some (5,false)),0⟩,⟨(some 7),.cl 90 [(.tmp 6),(.const (.int .i64 7))],(some (5,false)),0⟩,⟨(some 8),.pick (.tmp 5) (.const (.bool true)) (.tmp 7),none,0⟩,⟨(some 2),.mv (.tmp 8),none,0⟩] none 0 []) .ret))
theorem gc17_ok:compF Tryz.prog Tryz.f17=some (gc17.er,9,[.tmp 2]):=by unfold gc17;kernel_rfl
theorem p_item_Listed_v (a0:ItemItem):CallsO Tryz.prog 17 [.agg [.s a0.Contact,.s a0.Name,.i a0.Sub,.i a0.Ver,.b a0.Own]] V.b (p_item_Listed a0):=by
 refine callsO_comp mix Tryz.func17 gc17_ok fun r H=>?_
 rw [p_item_Listed] at H
 conv=>whnf
 refine tst_c H (fun b1 H=>?_) (fun b1 H=>?_)
 ·conv=>whnf
  iterate 2 (refine Tst.T ?_;conv=>whnf)
  exact fb_ H
 conv=>whnf
 refine Tst.F ?_;conv=>whnf
 refine ask_c (p_item_Item_has_v _ _) H rfl rfl (fun v2 H=>?_);conv=>whnf
 refine Tst.F ?_;conv=>whnf
 exact fb_ H
def gc91:BCode:=(.seq (.reg 1 [⟨(some 2),.bx (.tmp 0),none,0⟩,⟨(some 4),.mv (.const (.bool false)),none,1⟩] none 0 []) (.seq (.reg 0 [⟨(some 5),.fa 2 (.tmp 2),none,0⟩,⟨(some 6),.ld 1 false (.tmp 5),none,0⟩,⟨(some 7),.cl 89 [(.tmp 6)],none,0⟩,⟨(some 8),.bin .eql (.tmp 7) (.const (.int .i64 0)),none,0⟩,⟨(some 9),.mv (.tmp 8),none,0⟩,⟨(some 10),.fa 2 (.tmp 2),(some (9,true)),0⟩,⟨(some 11),.ld 1 false (.tmp 10),(some (9,true)),0⟩,⟨(some 12),.mv (.tmp 1),(some (9,true)),0⟩,⟨(some 13),.bin .quo (.tmp 11) (.tmp 12),(some (9,true)),0⟩,⟨(some 14),.bin .rem (.tmp 13) (.const (.int .i64 2)),(some (9,true)),0⟩,⟨(some 15),.bin .eql (.tmp 14) (.const (.int .i64 1)),(some (9,true)),0⟩,⟨(some 16),.pick (.tmp 9) (.tmp 15) (.const (.bool false)),none,0⟩,⟨(some 4),.mv (.tmp 16),none,0⟩] none 0 []) .ret))
theorem gc91_ok:compF Tryz.prog Tryz.f91=some (gc91.er,17,[.tmp 4]):=by unfold gc91;kernel_rfl
theorem p_ref20_has_v (a0:ItemItem) (a1:Int):CallsO Tryz.prog 91 [.agg [.s a0.Contact,.s a0.Name,.i a0.Sub,.i a0.Ver,.b a0.Own],.i a1] V.b (p_ref20_has a0 a1):=by
 refine callsO_comp mix Tryz.func91 gc91_ok fun r H=>?_
 rw [p_ref20_has] at H
 conv=>whnf
 refine ask_c (p_ref19_Check_v _) H rfl rfl (fun v1 H=>?_);conv=>whnf
 refine tst_d H (fun b2 H=>?_) (fun b2 H=>?_)
 ·conv=>whnf
  iterate 6 (refine Tst.F ?_;conv=>whnf)
  exact fb_ H
 conv=>whnf
 iterate 3 (refine Tst.T ?_;conv=>whnf)
 refine ne0_c H (fun H=>Ari.w ?_);conv=>whnf
 refine Tst.T ?_;conv=>whnf
 refine ⟨by decide,?_⟩;conv=>whnf
 iterate 2 (refine Tst.T ?_;conv=>whnf)
 exact fb_ H
def gc18:BCode:=(.seq (.reg 1 [⟨(some 1),.bx (.tmp 0),none,0⟩,⟨(some 2),.mv (.const (.bool false)),none,1⟩] none 0 []) (.seq (.reg 0 [⟨(some 3),.fa 4 (.tmp 1),none,0⟩,⟨(some 4),.ld 1 false (.tmp 3),none,0⟩,⟨(some 5),.mv (.tmp 4),none,0⟩,⟨(some 6),.ld 5 true (.tmp 1),(some (5,false)),0⟩,⟨(some 7),.cl 91 [(.tmp 6),(.const (.int .i64 1))],(some (5,false)),0⟩,⟨(some 8),.pick (.tmp 5) (.const (.bool true)) (.tmp 7),none,0⟩,⟨(some 9),.mv (.tmp 8),none,0⟩,⟨(some 10),.ld 5 true (.tmp 1),(some (9,false)),0⟩,⟨(some 11),.cl 91 [(.tmp 10),(.const (.int .i64 2))],(some (9,false)),0⟩,⟨(some 12),.pick (.tmp 9) (.const (.bool true)) (.tmp 11),none,0⟩,⟨(some 13),.mv (.tmp 12),none,0⟩,⟨(some 14),.ld 5 true (.tmp 1),(some (13,false)),0⟩,⟨(some 15),.cl 91 [(.tmp 14),(.const (.int .i64 4))],(some (13,false)),0⟩,⟨(some 16),.pick (.tmp 13) (.const (.bool true)) (.tmp 15),none,0⟩,⟨(some 2),.mv (.tmp 16),none,0⟩] none 0 []) .ret))
theorem gc18_ok:compF Tryz.prog Tryz.f18=some (gc18.er,17,[.tmp 2]):=by unfold gc18;kernel_rfl
theorem p_ref20_Listed_v (a0:ItemItem):CallsO Tryz.prog 18 [.agg [.s a0.Contact,.s a0.Name,.i a0.Sub,.i a0.Ver,.b a0.Own]] V.b (p_ref20_Listed a0):=by
 refine callsO_comp mix Tryz.func18 gc18_ok fun r H=>?_
 rw [p_ref20_Listed] at H
 conv=>whnf
 refine tst_c H (fun b1 H=>?_) (fun b1 H=>?_)
 ·conv=>whnf
  iterate 8 (refine Tst.T ?_;conv=>whnf)
  exact fb_ H
 conv=>whnf
 refine Tst.F ?_;conv=>whnf
 refine ask_c (p_ref20_has_v _ _) H rfl rfl (fun v2 H=>?_);conv=>whnf
 refine Tst.F ?_;conv=>whnf
 refine tst_c H (fun b3 H=>?_) (fun b3 H=>?_)
 ·conv=>whnf
  iterate 5 (refine Tst.T ?_;conv=>whnf)
  exact fb_ H
 conv=>whnf
 refine Tst.F ?_;conv=>whnf
 refine ask_c (p_ref20_has_v _ _) H rfl rfl (fun v4 H=>?_);conv=>whnf
 refine Tst.F ?_;conv=>whnf
 refine tst_c H (fun b5 H=>?_) (fun b5 H=>?_)
 ·conv=>whnf
  iterate 2 (refine Tst.T ?_;conv=>whnf)
  exact fb_ H
 conv=>whnf
 refine Tst.F ?_;conv=>whnf
 refine ask_c (p_ref20_has_v _ _) H rfl rfl (fun v6 H=>?_);conv=>whnf
 refine Tst.F ?_;conv=>whnf
 exact fb_ H
def gc19:BCode:=(.seq (.reg 1 [⟨(some 1),.bx (.tmp 0),none,0⟩,⟨(some 2),.mv (.const (.bool false)),none,1⟩] none 0 []) (.seq (.reg 0 [⟨(some 3),.fa 2 (.tmp 1),none,0⟩,⟨(some 4),.ld 1 false (.tmp 3),none,0⟩,⟨(some 5),.bin .eql (.tmp 4) (.const (.int .i64 0)),none,0⟩,⟨(some 6),.mv (.tmp 5),none,0⟩,⟨(some 7),.fa 4 (.tmp 1),(some (6,true)),0⟩,⟨(some 8),.ld 1 false (.tmp 7),(some (6,true)),0⟩,⟨(some 9),.un .not (.tmp 8),(some (6,true)),0⟩,⟨(some 10),.pick (.tmp 6) (.tmp 9) (.const (.bool false)),none,0⟩,⟨(some 2),.mv (.tmp 10),none,0⟩] none 0 []) .ret))
theorem gc19_ok:compF Tryz.prog Tryz.f19=some (gc19.er,11,[.tmp 2]):=by unfold gc19;kernel_rfl
theorem p_item_Idle_v (a0:ItemItem):CallsO Tryz.prog 19 [.agg [.s a0.Contact,.s a0.Name,.i a0.Sub,.i a0.Ver,.b a0.Own]] V.b (p_item_Idle a0):=by
 refine callsO_comp mix Tryz.func19 gc19_ok fun r H=>?_
 rw [p_item_Idle] at H
 conv=>whnf
 refine tst_c H (fun b1 H=>?_) (fun b1 H=>?_)
 ·conv=>whnf
  iterate 3 (refine Tst.T ?_;conv=>whnf)
  exact fb_ H
 conv=>whnf
 iterate 3 (refine Tst.F ?_;conv=>whnf)
 exact fb_ H
def gc20:BCode:=(.seq (.reg 1 [⟨(some 1),.bx (.tmp 0),none,0⟩,⟨(some 2),.mv (.const (.bool false)),none,1⟩] none 0 []) (.seq (.reg 0 [⟨(some 3),.fa 4 (.tmp 1),none,0⟩,⟨(some 4),.ld 1 false (.tmp 3),none,0⟩,⟨(some 5),.un .not (.tmp 4),none,0⟩,⟨(some 6),.mv (.tmp 5),none,0⟩,⟨(some 7),.fa 2 (.tmp 1),(some (6,true)),0⟩,⟨(some 8),.ld 1 false (.tmp 7),(some (6,true)),0⟩,⟨(some 9),.bin .eql (.tmp 8) (.const (.int .i64 0)),(some (6,true)),0⟩,⟨(some 10),.pick (.tmp 6) (.tmp 9) (.const (.bool false)),none,0⟩,⟨(some 2),.mv (.tmp 10),none,0⟩] none 0 []) .ret))
theorem gc20_ok:compF Tryz.prog Tryz.f20=some (gc20.er,11,[.tmp 2]):=by unfold gc20;kernel_rfl
theorem p_ref20_Idle_v (a0:ItemItem):CallsO Tryz.prog 20 [.agg [.s a0.Contact,.s a0.Name,.i a0.Sub,.i a0.Ver,.b a0.Own]] V.b (p_ref20_Idle a0):=by
 refine callsO_comp mix Tryz.func20 gc20_ok fun r H=>?_
 rw [p_ref20_Idle] at H
 conv=>whnf
 refine Tst.not ?_
 refine tst_c H (fun b1 H=>?_) (fun b1 H=>?_)
 ·conv=>whnf
  iterate 3 (refine Tst.F ?_;conv=>whnf)
  exact fb_ H
 conv=>whnf
 iterate 3 (refine Tst.T ?_;conv=>whnf)
 exact fb_ H
def gc21:BCode:=(.seq (.reg 1 [⟨(some 1),.bx (.tmp 0),none,0⟩,⟨(some 2),.mv (.const (.bool false)),none,1⟩] none 0 []) (.seq (.reg 0 [⟨(some 3),.ld 5 true (.tmp 1),none,0⟩,⟨(some 4),.cl 90 [(.tmp 3),(.const (.int .i64 1))],none,0⟩,⟨(some 2),.mv (.tmp 4),none,0⟩] none 0 []) .ret))
theorem gc21_ok:compF Tryz.prog Tryz.f21=some (gc21.er,5,[.tmp 2]):=by unfold gc21;kernel_rfl
theorem p_item_Sees_v (a0:ItemItem):CallsO Tryz.prog 21 [.agg [.s a0.Contact,.s a0.Name,.i a0.Sub,.i a0.Ver,.b a0.Own]] V.b (p_item_Sees a0):=by
 refine callsO_comp mix Tryz.func21 gc21_ok fun r H=>?_
 rw [p_item_Sees] at H
 conv=>whnf
 refine ask_c (p_item_Item_has_v _ _) H rfl rfl (fun v1 H=>?_);conv=>whnf
 exact fb_ H
def gc23:BCode:=(.seq (.reg 1 [⟨(some 1),.bx (.tmp 0),none,0⟩,⟨(some 2),.mv (.const (.bool false)),none,1⟩] none 0 []) (.seq (.reg 0 [⟨(some 3),.ld 5 true (.tmp 1),none,0⟩,⟨(some 4),.cl 90 [(.tmp 3),(.const (.int .i64 2))],none,0⟩,⟨(some 2),.mv (.tmp 4),none,0⟩] none 0 []) .ret))
theorem gc23_ok:compF Tryz.prog Tryz.f23=some (gc23.er,5,[.tmp 2]):=by unfold gc23;kernel_rfl
theorem p_item_Seen_v (a0:ItemItem):CallsO Tryz.prog 23 [.agg [.s a0.Contact,.s a0.Name,.i a0.Sub,.i a0.Ver,.b a0.Own]] V.b (p_item_Seen a0):=by
 refine callsO_comp mix Tryz.func23 gc23_ok fun r H=>?_
 rw [p_item_Seen] at H
 conv=>whnf
 refine ask_c (p_item_Item_has_v _ _) H rfl rfl (fun v1 H=>?_);conv=>whnf
 exact fb_ H
end Go.Proofs.YtpmoioopjbfhkaaGreat

/- That the program's functions yield what the plain ones tell (written by a program of mine). -/
namespace Go.Proofs.YtpmoioopjbfhkaaGreat
open Go.RowKit
end Go.Proofs.YtpmoioopjbfhkaaGreat

/- That the program's functions yield what the plain ones tell (written by a program of mine). -/
namespace Go.Proofs.YtpmoioopjbfhkaaGreat
open Go.RowKit
end Go.Proofs.YtpmoioopjbfhkaaGreat

/- That the program's functions yield what the plain ones tell (written by a program of mine). -/
namespace Go.Proofs.YtpmoioopjbfhkaaGreat
open Go.RowKit
end Go.Proofs.YtpmoioopjbfhkaaGreat

/- That the program's functions yield what the plain ones tell (written by a program of mine). -/
namespace Go.Proofs.YtpmoioopjbfhkaaGreat
open Go.RowKit
end Go.Proofs.YtpmoioopjbfhkaaGreat

/- That the program's functions yield what the plain ones tell (written by a program of mine). -/
namespace Go.Proofs.YtpmoioopjbfhkaaGreat
open Go.RowKit
end Go.Proofs.YtpmoioopjbfhkaaGreat

/- That the program's functions yield what the plain ones tell (written by a program of mine). -/
namespace Go.Proofs.YtpmoioopjbfhkaaGreat
open Go.RowKit
end Go.Proofs.YtpmoioopjbfhkaaGreat

/- That the program's functions yield what the plain ones tell (written by a program of mine). -/
namespace Go.Proofs.YtpmoioopjbfhkaaGreat
open Go.RowKit
set_option maxRecDepth 100000
set_option maxHeartbeats 4000000
def gc31:BCode:=(.seq (.reg 0 [⟨(some 2),.mv (.const (.slice none 0 0)),none,0⟩] none 0 []) (.seq (.reg 0 [⟨(some 3),.mv (.const (.slice none 0 0)),none,0⟩] none 0 []) (.seq (.seq (.reg 0 [⟨(some 4),.mv (.const (.int .i64 0)),none,0⟩] none 0 []) (.block 0 (.loop (.seq (.seq (.reg 0 [⟨(some 5),.mv (.tmp 4),none,0⟩,⟨(some 6),.mv (.tmp 0),none,0⟩,⟨(some 7),.lens (.tmp 6),none,0⟩,⟨(some 8),.bin .lss (.tmp 5) (.tmp 7),none,0⟩] none 0 []) (.cond (.tmp 8) .skip (.exit 0))) (.seq (.block 1 (.reg 2 [⟨(some 11),.mv (.tmp 3),none,0⟩,⟨(some 12),.mv (.tmp 0),none,0⟩,⟨(some 13),.mv (.tmp 4),none,0⟩,⟨(some 14),.ixs 5 (.tmp 12) (.tmp 13),none,0⟩,⟨(some 15),.ld 5 true (.tmp 14),none,0⟩,⟨(some 16),.bs 5 1 [(.lit (.string ⟨#[]⟩)),(.lit (.string ⟨#[]⟩)),(.lit (.int .i64 0)),(.lit (.int .i64 0)),(.lit (.bool false))] [(0,(.tmp 15))],none,0⟩,⟨(some 17),.ap 5 56 (.tmp 11) (.tmp 16),none,1⟩,⟨(some 3),.mv (.tmp 17),none,2⟩] none 0 [])) (.reg 0 [⟨(some 9),.mv (.tmp 4),none,0⟩,⟨(some 10),.bin .add (.tmp 9) (.const (.int .i64 1)),none,0⟩,⟨(some 4),.mv (.tmp 10),none,0⟩] none 0 [])))))) (.seq (.reg 0 [⟨(some 18),.mv (.tmp 3),none,0⟩,⟨(some 2),.mv (.tmp 18),none,0⟩] none 0 []) .ret))))
theorem gc31_ok:compF Tryz.prog Tryz.f31=some (gc31.er,19,[.tmp 2]):=by unfold gc31;kernel_rfl
theorem p_law20_Own_v {u1:Bool} (a0:List ItemItem):CallsO Tryz.prog 31 [.sl (List.map ItemItem.v a0) u1] (fun l:List ItemItem=>V.sl (l.map ItemItem.v) false) (p_law20_Own a0):=by
 refine callsO_comp mix Tryz.func31 gc31_ok fun r H=>?_
 rw [p_law20_Own] at H
 conv=>whnf
 obtain ⟨o2,HL3,HQ4⟩:=bind_c H
 refine loop_c [3,4] [5,6,7,8,9,10,11,12,13,14,15,16,17] [5,6,7,8,9,10,11,12,13,14,15,16,17] (fun n vals st=>(∃ y6,p_law20_Own_l1  a0 n [] y6=some o2∧vals=[.sl (List.map ItemItem.v []) true,.i y6]∧st=[])∨(∃ y10 y11,p_law20_Own_l1  a0 n y10 y11=some o2∧vals=[.osl 0 0 (List.length y10) 5 false,.i y11]∧st=[.live (cellsM ItemItem.v y10) (cellsM ItemItem.v y10).length])) fuel 0 [] (.inl (⟨_,HL3,rfl,rfl⟩)) (Nat.zero_le _) rfl (by kernel_rfl) (by kernel_rfl) rfl trivial ?_
 rintro (_ | n5) _ _ (⟨y6,H,rfl,rfl⟩ | ⟨y10,y11,H,rfl,rfl⟩)
 ·rw [p_law20_Own_l1] at H;cases H
 ·rw [p_law20_Own_l1] at H;cases H
 ·rw [p_law20_Own_l1] at H
  conv=>whnf
  refine LenQ.M ?_;conv=>whnf
  refine tst_d H (fun b7 H=>?_) (fun b7 H=>?_)
  ·conv=>whnf
   obtain rfl:=Option.some.inj H
   have H:=HQ4
   try dsimp only at H
   refine finR_c (enc:=(fun l:List ItemItem=>V.sl (l.map ItemItem.v) false)) H ?_;conv=>whnf
   exact ⟨_,.v (.c (.slw))⟩
  conv=>whnf
  refine ixs_c (f:=ItemItem.v) H (fun _=>rfl) (fun x8 H=>?_);conv=>whnf
  refine appN_c (f:=ItemItem.v) H (fun _=>rfl) (srcM (f:=ItemItem.v) (fun _=>rfl) _ _) rfl (.v (srcOwn (f:=ItemItem.v) (l:=[x8]) (fun _=>rfl) rfl rfl rfl)) (by decide) rfl (by simp) (fun l9 H=>?_);conv=>whnf
  refine Ari.w ?_;conv=>whnf
  exact again_c [5,6,7,8,9,10,11,12,13,14,15,16,17] n5 1 [1] (.inr (⟨_,_,H,rfl,rfl⟩)) (Nat.lt_succ_self _) (Nat.zero_le _) rfl (by kernel_rfl) (by kernel_rfl) rfl (wkB_live0 rfl (cellsM_idlt (f:=ItemItem.v) (fun _=>rfl) _) rfl trivial)
 rw [p_law20_Own_l1] at H
 conv=>whnf
 refine LenQ.M ?_;conv=>whnf
 refine tst_d H (fun b12 H=>?_) (fun b12 H=>?_)
 ·conv=>whnf
  obtain rfl:=Option.some.inj H
  have H:=HQ4
  try dsimp only at H
  refine finR_c (enc:=(fun l:List ItemItem=>V.sl (l.map ItemItem.v) false)) H ?_;conv=>whnf
  exact ⟨_,.v (.c (fzown (f:=ItemItem.v) (l:=y10) rfl rfl (fun _=>rfl) (fun _=>rfl)))⟩
 conv=>whnf
 refine ixs_c (f:=ItemItem.v) H (fun _=>rfl) (fun x13 H=>?_);conv=>whnf
 refine appO_c (f:=ItemItem.v) H (fun _=>rfl) rfl (Nat.le_refl _) (.v (srcOwn (f:=ItemItem.v) (l:=[x13]) (fun _=>rfl) rfl rfl rfl)) (by decide) rfl (by simp) (fun l14 H=>?_);conv=>whnf
 refine Ari.w ?_;conv=>whnf
 exact again_c [5,6,7,8,9,10,11,12,13,14,15,16,17] n5 1 [2] (.inr (⟨_,_,H,rfl,rfl⟩)) (Nat.lt_succ_self _) (Nat.zero_le _) rfl (by kernel_rfl) (by kernel_rfl) rfl (wkB_live0 rfl (cellsM_idlt (f:=ItemItem.v) (fun _=>rfl) _) rfl trivial)
def gc33:BCode:=(.seq (.reg 0 [⟨(some 2),.mv (.const (.slice none 0 0)),none,0⟩] none 0 []) (.seq (.reg 0 [⟨(some 3),.mv (.const (.slice none 0 0)),none,0⟩] none 0 []) (.seq (.seq (.reg 0 [⟨(some 4),.mv (.const (.int .i64 0)),none,0⟩] none 0 []) (.block 0 (.loop (.seq (.seq (.reg 0 [⟨(some 5),.mv (.tmp 4),none,0⟩,⟨(some 6),.mv (.tmp 0),none,0⟩,⟨(some 7),.lens (.tmp 6),none,0⟩,⟨(some 8),.bin .lss (.tmp 5) (.tmp 7),none,0⟩] none 0 []) (.cond (.tmp 8) .skip (.exit 0))) (.seq (.block 1 (.reg 2 [⟨(some 11),.mv (.tmp 3),none,0⟩,⟨(some 12),.mv (.tmp 0),none,0⟩,⟨(some 13),.mv (.tmp 4),none,0⟩,⟨(some 14),.ixs 5 (.tmp 12) (.tmp 13),none,0⟩,⟨(some 15),.ld 5 true (.tmp 14),none,0⟩,⟨(some 16),.bs 5 1 [(.lit (.string ⟨#[]⟩)),(.lit (.string ⟨#[]⟩)),(.lit (.int .i64 0)),(.lit (.int .i64 0)),(.lit (.bool false))] [(0,(.tmp 15))],none,0⟩,⟨(some 17),.ap 5 56 (.tmp 11) (.tmp 16),none,1⟩,⟨(some 3),.mv (.tmp 17),none,2⟩] none 0 [])) (.reg 0 [⟨(some 9),.mv (.tmp 4),none,0⟩,⟨(some 10),.bin .add (.tmp 9) (.const (.int .i64 1)),none,0⟩,⟨(some 4),.mv (.tmp 10),none,0⟩] none 0 [])))))) (.seq (.reg 0 [⟨(some 18),.mv (.tmp 3),none,0⟩,⟨(some 2),.mv (.tmp 18),none,0⟩] none 0 []) .ret))))
theorem gc33_ok:compF Tryz.prog Tryz.f33=some (gc33.er,19,[.tmp 2]):=by unfold gc33;kernel_rfl
theorem p_law20_Back_v {u1:Bool} (a0:List ItemItem):CallsO Tryz.prog 33 [.sl (List.map ItemItem.v a0) u1] (fun l:List ItemItem=>V.sl (l.map ItemItem.v) false) (p_law20_Back a0):=by
 refine callsO_comp mix Tryz.func33 gc33_ok fun r H=>?_
 rw [p_law20_Back] at H
 conv=>whnf
 obtain ⟨o2,HL3,HQ4⟩:=bind_c H
 refine loop_c [3,4] [5,6,7,8,9,10,11,12,13,14,15,16,17] [5,6,7,8,9,10,11,12,13,14,15,16,17] (fun n vals st=>(∃ y6,p_law20_Back_l1  a0 n [] y6=some o2∧vals=[.sl (List.map ItemItem.v []) true,.i y6]∧st=[])∨(∃ y10 y11,p_law20_Back_l1  a0 n y10 y11=some o2∧vals=[.osl 0 0 (List.length y10) 5 false,.i y11]∧st=[.live (cellsM ItemItem.v y10) (cellsM ItemItem.v y10).length])) fuel 0 [] (.inl (⟨_,HL3,rfl,rfl⟩)) (Nat.zero_le _) rfl (by kernel_rfl) (by kernel_rfl) rfl trivial ?_
 rintro (_ | n5) _ _ (⟨y6,H,rfl,rfl⟩ | ⟨y10,y11,H,rfl,rfl⟩)
 ·rw [p_law20_Back_l1] at H;cases H
 ·rw [p_law20_Back_l1] at H;cases H
 ·rw [p_law20_Back_l1] at H
  conv=>whnf
  refine LenQ.M ?_;conv=>whnf
  refine tst_d H (fun b7 H=>?_) (fun b7 H=>?_)
  ·conv=>whnf
   obtain rfl:=Option.some.inj H
   have H:=HQ4
   try dsimp only at H
   refine finR_c (enc:=(fun l:List ItemItem=>V.sl (l.map ItemItem.v) false)) H ?_;conv=>whnf
   exact ⟨_,.v (.c (.slw))⟩
  conv=>whnf
  refine ixs_c (f:=ItemItem.v) H (fun _=>rfl) (fun x8 H=>?_);conv=>whnf
  refine appN_c (f:=ItemItem.v) H (fun _=>rfl) (srcM (f:=ItemItem.v) (fun _=>rfl) _ _) rfl (.v (srcOwn (f:=ItemItem.v) (l:=[x8]) (fun _=>rfl) rfl rfl rfl)) (by decide) rfl (by simp) (fun l9 H=>?_);conv=>whnf
  refine Ari.w ?_;conv=>whnf
  exact again_c [5,6,7,8,9,10,11,12,13,14,15,16,17] n5 1 [1] (.inr (⟨_,_,H,rfl,rfl⟩)) (Nat.lt_succ_self _) (Nat.zero_le _) rfl (by kernel_rfl) (by kernel_rfl) rfl (wkB_live0 rfl (cellsM_idlt (f:=ItemItem.v) (fun _=>rfl) _) rfl trivial)
 rw [p_law20_Back_l1] at H
 conv=>whnf
 refine LenQ.M ?_;conv=>whnf
 refine tst_d H (fun b12 H=>?_) (fun b12 H=>?_)
 ·conv=>whnf
  obtain rfl:=Option.some.inj H
  have H:=HQ4
  try dsimp only at H
  refine finR_c (enc:=(fun l:List ItemItem=>V.sl (l.map ItemItem.v) false)) H ?_;conv=>whnf
  exact ⟨_,.v (.c (fzown (f:=ItemItem.v) (l:=y10) rfl rfl (fun _=>rfl) (fun _=>rfl)))⟩
 conv=>whnf
 refine ixs_c (f:=ItemItem.v) H (fun _=>rfl) (fun x13 H=>?_);conv=>whnf
 refine appO_c (f:=ItemItem.v) H (fun _=>rfl) rfl (Nat.le_refl _) (.v (srcOwn (f:=ItemItem.v) (l:=[x13]) (fun _=>rfl) rfl rfl rfl)) (by decide) rfl (by simp) (fun l14 H=>?_);conv=>whnf
 refine Ari.w ?_;conv=>whnf
 exact again_c [5,6,7,8,9,10,11,12,13,14,15,16,17] n5 1 [2] (.inr (⟨_,_,H,rfl,rfl⟩)) (Nat.lt_succ_self _) (Nat.zero_le _) rfl (by kernel_rfl) (by kernel_rfl) rfl (wkB_live0 rfl (cellsM_idlt (f:=ItemItem.v) (fun _=>rfl) _) rfl trivial)
end Go.Proofs.YtpmoioopjbfhkaaGreat

