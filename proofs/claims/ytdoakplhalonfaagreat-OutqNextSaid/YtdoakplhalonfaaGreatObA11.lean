/- A part of the proof: 5 texts joined. -/
import Derived.Test.YtdoakplhalonfaaGreatObA10
set_option linter.all false
namespace Go.Proofs.YtdoakplhalonfaaGreat
open Go.RowKit
instance:Inhabited MailEntry:=⟨⟨⟨#[]⟩,⟨false,0,0,0⟩⟩⟩
def keyM (x:MailEntry):Bool:=(splitE x.Key).2.2 == 0
def smM (l:List MailEntry):Prop:=l.length≤1000∧∀ x ∈ l,x.Key.size≤100000
def offM (l:List MailEntry):Nat:=(l.filter fun x=>!x.P.On).length
def fndM (k:ByteArray):List MailEntry→Nat→Int
 | [],_=>-1
 | x :: t,i=>if (x.Key.toList == k.toList)=true then (i:Int) else fndM k t (i + 1)
def preE:List MailEntry→Int
 | []=>0
 | x :: t=>if presCheckL x.P≠0 then presCheckL x.P else preE t
def ordP (l:List MailEntry):Nat→Nat→Bool
 | 0,_=>true
 | n + 1,k=>!((l.getD k default).P.On != decide ((offM l:Int)≤(k:Int))) && !(fndM (l.getD k default).Key l 0 != (k:Int)) && ordP l n (k + 1)
def ordR (l:List MailEntry):Nat→Nat→Bool
 | 0,_=>true
 | n + 1,k=>!(decide (0 < k) && (l.getD (k - 1) default).P.On && !(l.getD k default).P.On) && !(fndM (l.getD k default).Key l 0 != (k:Int)) && ordR l n (k + 1)
theorem mkey_p {x:MailEntry} (h:x.Key.size≤100000):p_mail_key x.Key=some (keyM x)∧p_ref25_key x.Key=some (keyM x):=by
 unfold p_mail_key p_ref25_key keyM
 rw [split_p h,rsplit_p h];exact ⟨rfl,rfl⟩
theorem moff_l (l:List MailEntry) (hn:l.length≤1000):∀ (n k F a:Nat),k + n=l.length→n < F→a≤k→p_mail_Off_l1 l (l.length:Int) F (a:Int) (k:Int)=some (((a + offM (l.drop k):Nat):Int),(l.length:Int))
 | 0,k,F + 1,a,hk,hF,ha=>by
  rw [p_mail_Off_l1,lt_ff (by omega),show k=l.length by omega,List.drop_length];rfl
 | n + 1,k,F + 1,a,hk,hF,ha=>by
  have hlt:k < l.length:=by omega
  rw [p_mail_Off_l1,lt_tt hlt,cond_true,at_lt hlt,Option.bind_some,w64_succ (by omega),w64_succ (by omega),moff_l l hn n (k + 1) F a (by omega) (by omega) (by omega),moff_l l hn n (k + 1) F (a + 1) (by omega) (by omega) (by omega),drop_at hlt]
  unfold offM
  rw [List.filter_cons]
  cases l[k].P.On with
  | true=>rfl
  | false=>simp;omega
theorem moff_p (l:List MailEntry) (hn:l.length≤1000):p_mail_Off l=some ((offM l:Nat):Int):=by
 have e:p_mail_Off_l1 l (l.length:Int) fuel (0:Int) (0:Int)=_:=moff_l l hn l.length 0 fuel 0 (by omega) (by have:=fuel_pos;omega) (Nat.le_refl _)
 unfold p_mail_Off
 rw [e,List.drop_zero,Nat.zero_add];rfl
theorem fndM_bd (k:ByteArray):∀ (l:List MailEntry) (i:Nat),fndM k l i=-1∨((i:Int)≤fndM k l i∧fndM k l i < i + l.length)
 | [],i=>.inl rfl
 | x :: t,i=>by
  rw [fndM]
  cases (x.Key.toList == k.toList) with
  | true=>right;simp;omega
  | false =>
   rw [if_neg (by simp)]
   rcases fndM_bd k t (i + 1) with h | h
   ·exact .inl h
   ·right;simp;omega
theorem mfind_l (l:List MailEntry) (key:ByteArray) (hn:l.length≤1000):∀ (n k F:Nat),k + n=l.length→n < F→∃ i,p_mail_Find_l1 key l (l.length:Int) F (-1:Int) (k:Int)=some (fndM key (l.drop k) k,i)∧p_ref25_Find_l1 l key F (k:Int)=some (if fndM key (l.drop k) k < 0 then .inr (l.length:Int) else .inl (fndM key (l.drop k) k))
 | 0,k,F + 1,hk,hF=>by
  rw [p_mail_Find_l1,p_ref25_Find_l1,lt_ff (by omega),show k=l.length by omega,List.drop_length];exact ⟨_,rfl,rfl⟩
 | n + 1,k,F + 1,hk,hF=>by
  have hlt:k < l.length:=by omega
  obtain ⟨i,h1,h2⟩:=mfind_l l key hn n (k + 1) F (by omega) (by omega)
  rw [p_mail_Find_l1,p_ref25_Find_l1,lt_tt hlt,cond_true,cond_true,at_lt hlt,Option.bind_some,Option.bind_some,w64_succ (by omega),h1,h2,drop_at hlt,fndM]
  cases (l[k].Key.toList == key.toList) with
  | true =>
   simp only [cond_true,if_true]
   rw [if_neg (show ¬ ((k:Int) < 0) by omega)]
   exact ⟨_,rfl,rfl⟩
  | false=>exact ⟨i,rfl,rfl⟩
theorem mfind_p (l:List MailEntry) (key:ByteArray) (hn:l.length≤1000):p_mail_Find l key=some (fndM key l 0)∧p_ref25_Find l key=some (fndM key l 0):=by
 obtain ⟨i,h1,h2⟩:=mfind_l l key hn l.length 0 fuel (by omega) (by have:=fuel_pos;omega)
 have h1' : p_mail_Find_l1 key l (l.length:Int) fuel (-1:Int) (0:Int)=_:=h1
 have h2' : p_ref25_Find_l1 l key fuel (0:Int)=_:=h2
 unfold p_mail_Find p_ref25_Find
 rw [h1',h2',List.drop_zero]
 refine ⟨rfl,?_⟩
 rcases fndM_bd key l 0 with h | h
 ·rw [h];rfl
 ·rw [if_neg (by omega)];rfl
theorem gD {l:List MailEntry} {k:Nat} (h:k < l.length):l.getD k default=l[k]:=by rw [List.getD_eq_getElem?_getD,List.getElem?_eq_getElem h,Option.getD_some]
theorem mord_l (l:List MailEntry) (hn:l.length≤1000):∀ (n k F:Nat),k + n=l.length→n < F→p_mail_State_ordered_l1 l ((offM l:Nat):Int) l (l.length:Int) F (k:Int)=some (if ordP l n k=true then .inr (l.length:Int) else .inl false)
 | 0,k,F + 1,hk,hF=>by
  rw [p_mail_State_ordered_l1,lt_ff (by omega),show k=l.length by omega];rfl
 | n + 1,k,F + 1,hk,hF=>by
  have hlt:k < l.length:=by omega
  rw [p_mail_State_ordered_l1,lt_tt hlt,cond_true,at_lt hlt,Option.bind_some,(mfind_p l _ hn).1,Option.bind_some,w64_succ (by omega),mord_l l hn n (k + 1) F (by omega) (by omega),ordP,gD hlt]
  cases (l[k].P.On != decide ((offM l:Int)≤(k:Int))) with
  | true=>rfl
  | false=>cases (fndM l[k].Key l 0 != (k:Int)) <;> rfl
theorem rord_l (l:List MailEntry) (hn:l.length≤1000):∀ (n k F:Nat),k + n=l.length→n < F→p_ref25_Check_l3 l F (k:Int)=some (if ordR l n k=true then .inr (l.length:Int) else .inl 10)
 | 0,k,F + 1,hk,hF=>by
  rw [p_ref25_Check_l3,lt_ff (by omega),show k=l.length by omega];rfl
 | n + 1,k,F + 1,hk,hF=>by
  have hlt:k < l.length:=by omega
  have hk1:w64 ((k:Int) - 1)=((k:Int) - 1):=w64_id (by omega)
  rw [p_ref25_Check_l3,lt_tt hlt,cond_true,at_lt hlt]
  simp only [Option.bind_some,(mfind_p l _ hn).2]
  rw [w64_succ (by omega),rord_l l hn n (k + 1) F (by omega) (by omega),ordR,gD hlt,hk1]
  by_cases h0:0 < k
  ·rw [decide_eq_true (show (0:Int) < (k:Int) by omega),decide_eq_true h0,cond_true,show (k:Int) - 1=((k - 1:Nat):Int) by omega,at_lt (show k - 1 < l.length by omega),Option.bind_some,gD (show k - 1 < l.length by omega)]
   cases l[k - 1].P.On <;> cases l[k].P.On <;> cases (fndM l[k].Key l 0 != (k:Int)) <;> rfl
  ·rw [decide_eq_false (show ¬ (0:Int) < (k:Int) by omega),decide_eq_false h0]
   cases (fndM l[k].Key l 0 != (k:Int)) <;> rfl
theorem mc1_l (l:List MailEntry) (h:smM l):∀ (n k F:Nat),k + n=l.length→n < F→p_mail_Check_l1 l (l.length:Int) F (k:Int)=some (if (l.drop k).all keyM=true then .inr (l.length:Int) else .inl 11)∧p_ref25_Check_l1 l F (k:Int)=some (if (l.drop k).all keyM=true then .inr (l.length:Int) else .inl 11)
 | 0,k,F + 1,hk,hF=>by
  rw [p_mail_Check_l1,p_ref25_Check_l1,lt_ff (by omega),show k=l.length by omega,List.drop_length];exact ⟨rfl,rfl⟩
 | n + 1,k,F + 1,hk,hF=>by
  have hlt:k < l.length:=by omega
  have hn:=h.1
  obtain ⟨i1,i2⟩:=mc1_l l h n (k + 1) F (by omega) (by omega)
  obtain ⟨k1,k2⟩:=mkey_p (h.2 _ (List.getElem_mem hlt))
  rw [p_mail_Check_l1,p_ref25_Check_l1,lt_tt hlt,cond_true,cond_true,at_lt hlt,Option.bind_some,Option.bind_some,k1,k2,Option.bind_some,Option.bind_some,w64_succ (by omega),i1,i2,drop_at hlt,List.all_cons]
  cases keyM l[k] <;> exact ⟨rfl,rfl⟩
theorem pc_p (p:PresPres):p_pres_Check p=some (presCheckL p):=presCheck_p p
theorem mc2_l (l:List MailEntry) (h:smM l):∀ (n k F:Nat),k + n=l.length→n < F→p_mail_Check_l2 l (l.length:Int) F (k:Int)=some (if preE (l.drop k)=0 then .inr (l.length:Int) else .inl (preE (l.drop k)))∧p_ref25_Check_l2 l F (k:Int)=some (if preE (l.drop k)=0 then .inr (l.length:Int) else .inl (preE (l.drop k)))
 | 0,k,F + 1,hk,hF=>by
  rw [p_mail_Check_l2,p_ref25_Check_l2,lt_ff (by omega),show k=l.length by omega,List.drop_length];exact ⟨rfl,rfl⟩
 | n + 1,k,F + 1,hk,hF=>by
  have hlt:k < l.length:=by omega
  have hn:=h.1
  obtain ⟨i1,i2⟩:=mc2_l l h n (k + 1) F (by omega) (by omega)
  rw [p_mail_Check_l2,p_ref25_Check_l2,lt_tt hlt,cond_true,cond_true,at_lt hlt]
  simp only [Option.bind_some,pc_p,rpresCheck_p]
  rw [w64_succ (by omega),i1,i2,drop_at hlt,preE]
  by_cases he:presCheckL l[k].P=0
  ·rw [he];exact ⟨rfl,rfl⟩
  ·rw [show (presCheckL l[k].P != 0)=true by simpa using he,if_pos he,if_neg he];exact ⟨rfl,rfl⟩
def chkM (l:List MailEntry) (o:Bool):Int:=if 16 < l.length then 5 else if l.all keyM=false then 11 else if preE l≠0 then preE l else if o=true then 0 else 10
theorem mcheck_p {l:List MailEntry} (h:smM l):p_mail_Check l=some (chkM l (ordP l l.length 0))∧p_ref25_Check l=some (chkM l (ordR l l.length 0)):=by
 have hn:=h.1
 have hf:=fuel_pos
 obtain ⟨a1,a2⟩:=mc1_l l h l.length 0 fuel (by omega) (by omega)
 obtain ⟨b1,b2⟩:=mc2_l l h l.length 0 fuel (by omega) (by omega)
 have a1' : p_mail_Check_l1 l (l.length:Int) fuel (0:Int)=_:=a1
 have a2' : p_ref25_Check_l1 l fuel (0:Int)=_:=a2
 have b1' : p_mail_Check_l2 l (l.length:Int) fuel (0:Int)=_:=b1
 have b2' : p_ref25_Check_l2 l fuel (0:Int)=_:=b2
 have c1:p_mail_State_ordered_l1 l ((offM l:Nat):Int) l (l.length:Int) fuel (0:Int)=_:=mord_l l hn l.length 0 fuel (by omega) (by omega)
 have c2:p_ref25_Check_l3 l fuel (0:Int)=_:=rord_l l hn l.length 0 fuel (by omega) (by omega)
 rw [List.drop_zero] at a1' a2' b1' b2'
 unfold p_mail_Check p_ref25_Check p_mail_State_ordered chkM
 by_cases h1:16 < l.length
 ·rw [if_pos h1,if_pos h1,decide_eq_true (show (16:Int) < (l.length:Int) by omega)];exact ⟨rfl,rfl⟩
 rw [if_neg h1,if_neg h1,decide_eq_false (show ¬ (16:Int) < (l.length:Int) by omega),cond_false,cond_false,a1',a2',moff_p l hn]
 cases l.all keyM with
 | false=>exact ⟨rfl,rfl⟩
 | true =>
  simp only [if_true,Option.bind_some,b1',b2',Bool.true_eq_false,if_false]
  by_cases h2:preE l=0
  ·simp only [if_pos h2,Option.bind_some,c1,c2,h2,ne_eq,not_true_eq_false,if_false]
   refine ⟨?_,?_⟩
   ·cases ordP l l.length 0 <;> rfl
   ·cases ordR l l.length 0 <;> rfl
  ·rw [if_pos (show preE l≠0 from h2)]
   simp only [if_neg h2,Option.bind_some]
   refine ⟨?_,?_⟩ <;> first | rfl | trivial | rw [if_pos (show preE l≠0 from h2)]
theorem offM_cons (x:MailEntry) (t:List MailEntry):offM (x :: t)=(if x.P.On then 0 else 1) + offM t:=by
 unfold offM
 rw [List.filter_cons]
 cases x.P.On <;> simp;omega
theorem offM_on {l:List MailEntry} (h:∀ x ∈ l,x.P.On=true):offM l=0:=by
 unfold offM
 rw [List.filter_eq_nil_iff.2 fun x hx=>by rw [h x hx];simp];rfl
def stepM (l:List MailEntry):Prop:=∀ k (h:k + 1 < l.length),l[k].P.On=true→l[k + 1].P.On=true
theorem stepM_on {x:MailEntry}:∀ {t:List MailEntry},stepM (x :: t)→x.P.On=true→∀ y ∈ t,y.P.On=true
 | [],_,_=>fun y hy=>by cases hy
 | z :: t,h,hx=>by
  have hz:z.P.On=true:=h 0 (by simp) hx
  have ht:stepM (z :: t):=fun k hk hh=>h (k + 1) (by simp at hk ⊢;omega) (by simpa using hh)
  intro y hy
  rcases List.mem_cons.1 hy with rfl | hy
  ·exact hz
  ·exact stepM_on ht hz y hy
theorem step_off:∀ {l:List MailEntry},stepM l→∀ k (h:k < l.length),l[k].P.On=decide (offM l≤k)
 | [],_,k,h=>by simp at h
 | x :: t,hs,k,h=>by
  rw [offM_cons]
  have ht:stepM t:=fun k hk hh=>hs (k + 1) (by simp;omega) (by simpa using hh)
  cases hx:x.P.On with
  | true =>
   have ha:=stepM_on hs hx
   rw [offM_on ha,if_pos rfl]
   cases k with
   | zero=>simpa using hx
   | succ k=>simpa using ha _ (List.getElem_mem (by simpa using h))
  | false =>
   rw [if_neg (by simp)]
   cases k with
   | zero=>simp [hx]
   | succ k =>
    have:=step_off ht k (by simpa using h)
    simp only [List.getElem_cons_succ,this]
    congr 1
    exact propext ⟨fun h=>by omega,fun h=>by omega⟩
theorem off_step {l:List MailEntry} (h:∀ k (h:k < l.length),l[k].P.On=decide (offM l≤k)):stepM l:=fun k hk hh=>by
 rw [h k (by omega)] at hh
 rw [h (k + 1) hk]
 simp only [decide_eq_true_eq] at hh ⊢
 omega
theorem ordP_iff {l:List MailEntry}:∀ {n k:Nat},k + n=l.length→(ordP l n k=true ↔ ∀ j,k≤j→(h:j < l.length)→l[j].P.On=decide (offM l≤j)∧fndM l[j].Key l 0=(j:Int))
 | 0,k,hk=>⟨fun _ j h1 h2=>by omega,fun _=>rfl⟩
 | n + 1,k,hk=>by
  have hlt:k < l.length:=by omega
  have e:(decide ((offM l:Int)≤(k:Int)))=decide (offM l≤k):=by congr 1;exact propext ⟨fun h=>by omega,fun h=>by omega⟩
  rw [ordP,gD hlt,Bool.and_eq_true,Bool.and_eq_true,ordP_iff (by omega),e]
  simp only [Bool.not_eq_true',bne_eq_false_iff_eq]
  constructor
  ·rintro ⟨⟨h1,h2⟩,h3⟩ j hj hl
   rcases Nat.lt_or_eq_of_le hj with g | rfl
   ·exact h3 j g hl
   ·exact ⟨h1,h2⟩
  ·intro h
   exact ⟨h k (Nat.le_refl _) hlt,fun j hj hl=>h j (by omega) hl⟩
theorem ordR_iff {l:List MailEntry}:∀ {n k:Nat},k + n=l.length→(ordR l n k=true ↔ ∀ j,k≤j→(h:j < l.length)→((h0:0 < j)→l[j - 1].P.On=true→l[j].P.On=true)∧fndM l[j].Key l 0=(j:Int))
 | 0,k,hk=>⟨fun _ j h1 h2=>by omega,fun _=>rfl⟩
 | n + 1,k,hk=>by
  have hlt:k < l.length:=by omega
  rw [ordR,gD hlt,gD (show k - 1 < l.length by omega),Bool.and_eq_true,Bool.and_eq_true,ordR_iff (by omega)]
  have e1:(!(decide (0 < k) && l[k - 1].P.On && !l[k].P.On))=true ↔ (0 < k→l[k - 1].P.On=true→l[k].P.On=true):=by
   by_cases h0:0 < k
   ·rw [decide_eq_true h0]
    cases l[k - 1].P.On <;> cases l[k].P.On <;> simp [h0]
   ·rw [decide_eq_false h0];simp [h0]
  rw [e1]
  simp only [Bool.not_eq_true',bne_eq_false_iff_eq]
  constructor
  ·rintro ⟨⟨h1,h2⟩,h3⟩ j hj hl
   rcases Nat.lt_or_eq_of_le hj with g | rfl
   ·exact h3 j g hl
   ·exact ⟨h1,h2⟩
  ·intro h
   exact ⟨h k (Nat.le_refl _) hlt,fun j hj hl=>h j (by omega) hl⟩
theorem ord_same (l:List MailEntry):ordP l l.length 0=ordR l l.length 0:=by
 have a:=ordP_iff (l:=l) (n:=l.length) (k:=0) (by omega)
 have b:=ordR_iff (l:=l) (n:=l.length) (k:=0) (by omega)
 rw [Bool.eq_iff_iff,a,b]
 constructor
 ·intro h j hj hl
  refine ⟨fun h0 hh=>?_,(h j hj hl).2⟩
  have:=off_step (fun k hk=>(h k (Nat.zero_le _) hk).1) (j - 1) (by omega) hh
  simpa [Nat.sub_add_cancel h0] using this
 ·intro h j hj hl
  refine ⟨step_off (fun k hk hh=>(h (k + 1) (Nat.zero_le _) hk).1 (by omega) (by simpa using hh)) j hl,(h j hj hl).2⟩
def mailC (l:List MailEntry):Int:=chkM l (ordP l l.length 0)
theorem mailC_p {l:List MailEntry} (h:smM l):p_mail_Check l=some (mailC l)∧p_ref25_Check l=some (mailC l):=by
 obtain ⟨h1,h2⟩:=mcheck_p h
 unfold mailC
 refine ⟨h1,?_⟩
 rw [ord_same];exact h2
end Go.Proofs.YtdoakplhalonfaaGreat

namespace Go.Proofs.YtdoakplhalonfaaGreat
open Go.RowKit
theorem idx_is {α:Type} {p:α→Bool} {l:List α} {m:Nat} (hm:m≤l.length) (h1:∀ i (h:i < l.length),i < m→p l[i]=false) (h2:∀ h:m < l.length,p l[m]=true):l.findIdx p=m:=by
 rcases Nat.lt_trichotomy (l.findIdx p) m with h | h | h
 ·have hx:=List.findIdx_getElem (p:=p) (xs:=l) (w:=by omega)
  rw [h1 _ (by omega) h] at hx;cases hx
 ·exact h
 ·have hml:m < l.length:=Nat.lt_of_lt_of_le h List.findIdx_le_length
  have:=List.not_of_lt_findIdx h
  rw [h2 hml] at this;simp at this
theorem next_idx {seq:Int} {rows:List BookRow} (hc:bookCheck seq rows=0) (key:ByteArray):(rows.findIdx fun r=>decide (0 < cmpR r key))=if foundB rows key (posL rows key)=true then posL rows key + 1 else posL rows key:=by
 have hs:=ord_sorted (check_ord hc)
 have hp:=stands hs key
 have hle:=hp.le
 have at_pos:∀ h:posL rows key < rows.length,foundB rows key (posL rows key)=(cmpR rows[posL rows key] key == 0):=fun h=>by
  unfold foundB;rw [List.getElem?_eq_getElem h]
 cases hf:foundB rows key (posL rows key) with
 | true =>
  have hlt:=found_lt hf
  have e:=at_pos hlt
  rw [hf] at e
  have e0:cmpR rows[posL rows key] key=0:=by simpa using e.symm
  rw [if_pos rfl]
  refine idx_is hlt (fun i h hi=>?_) fun h=>?_
  ·rcases Nat.lt_or_ge i (posL rows key) with h1 | h1
   ·have:=hp.lt i h h1;simp;omega
   ·have:i=posL rows key:=by omega
    subst this;simp [e0]
  ·have h1:=hs (posL rows key) (posL rows key + 1) h (by omega)
   have e1:=cmp_eq0 (show Lib.compareBytes (keyR rows[posL rows key]).data.toList key.data.toList=0 from e0)
   have h2:Lib.compareBytes (keyR rows[posL rows key]).data.toList (keyR rows[posL rows key + 1]).data.toList < 0:=h1
   rw [e1] at h2
   have h3:=cmp_anti key.data.toList (keyR rows[posL rows key + 1]).data.toList
   have h4:0 < Lib.compareBytes (keyR rows[posL rows key + 1]).data.toList key.data.toList:=by omega
   exact decide_eq_true h4
 | false =>
  rw [if_neg (by simp)]
  refine idx_is hle (fun i h hi=>?_) fun h=>?_
  ·have:=hp.lt i h hi;simp;omega
  ·have h1:=hp.ge _ h (Nat.le_refl _)
   have e:=at_pos h
   rw [hf] at e
   have e0:cmpR rows[posL rows key] key≠0:=by simpa using e.symm
   simp;omega
def aftL (rows:List BookRow) (a:ByteArray):Nat:=rows.findIdx fun r=>decide (0 < cmpR r a)
theorem nxt_at {seq:Int} {rows:List BookRow} (hc:bookCheck seq rows=0) (a:ByteArray):nxtL seq rows a=rowAt rows (aftL rows a):=by
 unfold nxtL aftL
 rw [if_neg (by simpa using hc),next_idx hc a]
theorem aft_le (rows:List BookRow) (a:ByteArray):aftL rows a≤rows.length:=List.findIdx_le_length
theorem aft_lt {rows:List BookRow} {a:ByteArray} {i:Nat} (hi:i < rows.length) (h:i < aftL rows a):¬ 0 < cmpR rows[i] a:=by
 have:=List.not_of_lt_findIdx h
 simpa using this
theorem aft_ge {seq:Int} {rows:List BookRow} (hc:bookCheck seq rows=0) {a:ByteArray} {i:Nat} (hi:i < rows.length) (h:aftL rows a≤i):0 < cmpR rows[i] a:=by
 have hs:=ord_sorted (check_ord hc)
 have hj:aftL rows a < rows.length:=by omega
 have h0:0 < cmpR (rows[aftL rows a]'hj) a:=by
  have:=List.findIdx_getElem (p:=fun r:BookRow=>decide (0 < cmpR r a)) (xs:=rows) (w:=hj)
  exact of_decide_eq_true this
 rcases Nat.lt_or_ge (aftL rows a) i with h1 | h1
 ·have h2:=hs (aftL rows a) i hi h1
  have h3:Lib.compareBytes a.data.toList (keyR (rows[aftL rows a]'hj)).data.toList < 0:=by
   have:=cmp_anti (keyR (rows[aftL rows a]'hj)).data.toList a.data.toList
   have h4:0 < Lib.compareBytes (keyR (rows[aftL rows a]'hj)).data.toList a.data.toList:=h0
   omega
  have h5:Lib.compareBytes (keyR (rows[aftL rows a]'hj)).data.toList (keyR rows[i]).data.toList < 0:=h2
  have h6:=cmp_trans h3 h5
  have h7:=cmp_anti a.data.toList (keyR rows[i]).data.toList
  show 0 < Lib.compareBytes (keyR rows[i]).data.toList a.data.toList
  omega
 ·have:i=aftL rows a:=by omega
  subst this;exact h0
end Go.Proofs.YtdoakplhalonfaaGreat

namespace Go.Proofs.YtdoakplhalonfaaGreat
open Go.RowKit
theorem toListE {a:ByteArray} (h:a.toList=(⟨#[]⟩ : ByteArray).toList):a=⟨#[]⟩:=by
 rw [tl_data,tl_data] at h
 obtain ⟨d⟩:=a
 congr 1
 exact Array.toList_inj.1 h
theorem bnd_t (t:Int):(bif decide (t < (0:Int)) then some (8:Int) else bif decide ((1099511627776:Int) < t) then some (8:Int) else some (0:Int))=some (if t < 0 then 8 else if 1099511627776 < t then 8 else 0):=by
 by_cases h:t < 0
 ·rw [decide_eq_true h,if_pos h];rfl
 ·rw [decide_eq_false h,if_neg h,cond_false]
  by_cases g:(1099511627776:Int) < t
  ·rw [decide_eq_true g,if_pos g];rfl
  ·rw [decide_eq_false g,if_neg g];rfl
def snapE (s:SnapState):Int :=
 if s.On=true then (if s.Begun=true then (if s.Told < 0 then 8 else if 1099511627776 < s.Told then 8 else 0) else if (s.After.toList == (⟨#[]⟩ : ByteArray).toList)=true then (if s.Told=0 then 0 else 4) else 4)
 else if s.Begun=true then 4 else if (s.After.toList == (⟨#[]⟩ : ByteArray).toList)=true then (if s.Told=0 then 0 else 4) else 4
theorem snapC_p (s:SnapState):p_snap_Check s=some (snapE s)∧p_ref26_Check s=some (snapE s):=by
 unfold p_snap_Check p_ref26_Check snapE
 rw [bnd_t]
 have e0:((⟨#[]⟩ : ByteArray).toList == (⟨#[]⟩ : ByteArray).toList)=true:=eqT_refl _
 by_cases ht:s.Told=0
 ·cases s.On <;> cases s.Begun <;> cases (s.After.toList == (⟨#[]⟩ : ByteArray).toList) <;> simp [ht,e0]
 ·have q1:(s.Told == 0)=false:=by simpa using ht
  have q2:(s.Told != 0)=true:=by simpa using ht
  cases s.On <;> cases s.Begun <;> cases (s.After.toList == (⟨#[]⟩ : ByteArray).toList) <;> simp [ht,q1,q2,e0]
theorem snapE_on {s:SnapState} (h:snapE s=0) (ho:s.On=true):s=⟨true,true,s.After,s.Told⟩∧0≤s.Told∧s.Told≤1099511627776∨s=⟨true,false,⟨#[]⟩,0⟩:=by
 obtain ⟨on,bg,a,t⟩:=s
 simp only at ho
 subst ho
 cases bg with
 | true =>
  left
  unfold snapE at h
  simp only [if_true] at h
  by_cases h1:t < 0
  ·rw [if_pos h1] at h;omega
  rw [if_neg h1] at h
  by_cases h2:(1099511627776:Int) < t
  ·rw [if_pos h2] at h;omega
  exact ⟨rfl,by simp;omega,by simp;omega⟩
 | false =>
  right
  unfold snapE at h
  simp only [if_true,Bool.false_eq_true,if_false] at h
  split at h
  ·rename_i h1
   split at h
   ·rename_i h2
    have ha:a=⟨#[]⟩:=toListE (by simpa using h1)
    rw [ha,h2]
   ·omega
  ·omega
def tnx (t:Int):Int:=if 1099511627776 < t + 1 then 1099511627776 else t + 1
theorem tnx_bd {t:Int} (h0:0≤t) (h1:t≤1099511627776):0≤tnx t∧tnx t≤1099511627776:=by unfold tnx;split <;> omega
theorem tnx_p {t:Int} (h0:0≤t) (h1:t≤1099511627776):(if (1099511627776:Int) < w64 (t + 1) then (1099511627776:Int) else w64 (t + 1))=tnx t∧(if w64 (t + 1) < (1099511627776:Int) then w64 (t + 1) else (1099511627776:Int))=tnx t:=by
 rw [w64_id (by omega)]
 unfold tnx
 constructor
 ·rfl
 ·by_cases h:t + 1 < 1099511627776
  ·rw [if_pos h,if_neg (by omega)]
  ·rw [if_neg h]
   by_cases g:(1099511627776:Int) < t + 1
   ·rw [if_pos g]
   ·rw [if_neg g];omega
theorem next_rowT {e:SnapEyes} {b:BookState} {a:ByteArray} {t:Int} {j:Nat} (he:fewE e) (hn:b.Rows.length≤1000) (hs:smallB b.Rows) (hc:bookCheck b.Seq b.Rows=0) (h0:0≤t) (h1:t≤1099511627776) (hj:j≤b.Rows.length) (hk:nxtL b.Seq b.Rows a=rowAt b.Rows j) :
  p_snap_Next ⟨true,true,a,t⟩ e b=some (match (b.Rows.drop j).filter (seesL e) with
   | []=>(snap0,doneS,true)
   | x :: _=>(⟨true,true,keyR x,tnx t⟩,sayR x,true)):=by
 unfold p_snap_Next
 simp only [cond_true]
 rw [snapCheck_on a t h0 (by omega)]
 simp only [Option.bind_some,bne_self_eq_false,cond_false]
 rw [check_p b hn hs,hc]
 simp only [Option.bind_some,bne_self_eq_false,cond_false]
 rw [items_p he hn hs hc hj hk]
 simp only [Option.bind_some]
 cases hf:(b.Rows.drop j).filter (seesL e) with
 | nil=>rfl
 | cons x r =>
  have hx:smallR x:=hs x (List.mem_of_mem_drop (List.mem_filter.1 (by rw [hf];exact List.mem_cons_self)).1)
  simp only [List.map_cons,itemS]
  rw [say_p _ hx.1 hx.2,(tnx_p h0 h1).1]
  rfl
theorem rnextT_l (l:List BookRow) (hl:l.length≤1000) (hs:∀ r ∈ l,smallR r) (a:ByteArray) (t:Int) (h0:0≤t) (h1:t≤1099511627776):∀ (n k F:Nat),k + n=l.length→n < F →
  p_ref26_Next_l1 l ⟨true,true,a,t⟩ F k=some (match (l.drop k).find? (fun x=>decide (0 < cmpR x a)) with | none=>.inr (l.length:Int) | some x=>.inl (⟨true,true,keyR x,tnx t⟩,sayR x,true))
 | 0,k,F + 1,hk,hF=>by
  have e0:l.drop k=[]:=List.drop_of_length_le (by omega)
  have:k=l.length:=by omega
  rw [p_ref26_Next_l1,lt_ff (by omega),e0,this];rfl
 | n + 1,k,F + 1,hk,hF=>by
  have hlt:k < l.length:=by omega
  have hx:=hs _ (List.getElem_mem hlt)
  rw [p_ref26_Next_l1,lt_tt hlt,at_lt hlt,drop_at hlt]
  simp only [cond_true,Option.bind_some]
  rw [rkey_p hx.1 hx.2]
  simp only [Option.bind_some]
  have ht:=le_test l[k] a
  have hkk:keyL l[k].User l[k].Res=keyR l[k]:=rfl
  rw [hkk,ht]
  cases hg:decide (0 < cmpR l[k] a) with
  | false =>
   rw [List.find?_cons_of_neg (by simp [hg])]
   simp only [Bool.not_false,cond_true]
   rw [w64_succ (by omega)]
   exact rnextT_l l hl hs a t h0 h1 n (k + 1) F (by omega) (by omega)
  | true =>
   rw [List.find?_cons_of_pos (by simp [hg])]
   simp only [Bool.not_true,cond_false]
   rw [rsay_p _ hx.1 hx.2,(tnx_p h0 h1).2]
   rfl
theorem find_head {α:Type} {p:α→Bool}:∀ {l:List α},(∀ x ∈ l,p x=true)→l.find? p=l.head?
 | [],_=>rfl
 | x :: l,h=>by rw [List.find?_cons_of_pos (h x (List.mem_cons_self ..))];rfl
theorem find_none {α:Type} {p:α→Bool} {l:List α} (h:∀ x ∈ l,p x=false):l.find? p=none:=List.find?_eq_none.2 fun x hx=>by rw [h x hx];simp
theorem view_find {e:SnapEyes} {b:BookState} (hc:bookCheck b.Seq b.Rows=0) (a:ByteArray):(viewL e b).find? (fun x=>decide (0 < cmpR x a))=((b.Rows.drop (aftL b.Rows a)).filter (seesL e)).head?:=by
 have hv:viewL e b=(b.Rows.take (aftL b.Rows a)).filter (seesL e)++(b.Rows.drop (aftL b.Rows a)).filter (seesL e):=by
  unfold viewL
  rw [if_neg (by simpa using hc),← List.filter_append,List.take_append_drop]
 rw [hv,List.find?_append,find_none (l:=(b.Rows.take (aftL b.Rows a)).filter (seesL e)) (fun x hx=>?_),Option.none_or]
 ·refine find_head fun x hx=>?_
  obtain ⟨i,hi,rfl⟩:=List.getElem_of_mem (List.mem_filter.1 hx).1
  rw [List.getElem_drop]
  exact decide_eq_true (aft_ge hc _ (Nat.le_add_right ..))
 ·obtain ⟨i,hi,rfl⟩:=List.getElem_of_mem (List.mem_filter.1 hx).1
  rw [List.length_take] at hi
  rw [List.getElem_take]
  exact decide_eq_false (aft_lt _ (by omega))
theorem snext_p {st:SnapState} {e:SnapEyes} {b:BookState} (he:fewE e) (hn:b.Rows.length≤1000) (hs:smallB b.Rows):∃ x,p_snap_Next st e b=some x∧p_ref26_Next st e b=some x∧(snapE st=0→snapE x.1=0)∧(x.2.2=false→x.1=st):=by
 cases ho:st.On with
 | false =>
  refine ⟨_,next_off ho,?_,fun h=>h,fun _=>rfl⟩
  unfold p_ref26_Next;rw [ho];rfl
 | true =>
  obtain ⟨c1,c2⟩:=snapC_p st
  by_cases hz:snapE st=0
  ·by_cases hc:bookCheck b.Seq b.Rows=0
   ·rcases snapE_on hz ho with ⟨h1,h2,h3⟩ | h1
    ·generalize st.After=a at h1
     generalize st.Told=t at h1 h2 h3
     subst h1
     have n1:=next_rowT he hn hs hc h2 h3 (aft_le b.Rows a) (nxt_at hc a)
     have hvl:=viewL_len e b
     have n2:=rnextT_l (viewL e b) (by omega) (fun r hr=>hs r (view_mem hr)) a t h2 h3 (viewL e b).length 0 fuel (by omega) (by have:=fuel_pos;omega)
     have n2' : p_ref26_Next_l1 (viewL e b) ⟨true,true,a,t⟩ fuel (0:Int)=_:=n2
     rw [List.drop_zero,view_find hc] at n2'
     have n3:p_ref26_Next ⟨true,true,a,t⟩ e b=some (match (b.Rows.drop (aftL b.Rows a)).filter (seesL e) with
       | []=>(snap0,doneS,true)
       | x :: _=>(⟨true,true,keyR x,tnx t⟩,sayR x,true)):=by
      unfold p_ref26_Next
      simp only [cond_true,c2,hz,Option.bind_some,bne_self_eq_false,cond_false,ref_check_p b hn hs,hc,rview_p he hn hs,n2']
      cases (b.Rows.drop (aftL b.Rows a)).filter (seesL e) <;> rfl
     refine ⟨_,n1,n3,fun _=>?_,?_⟩
     ·cases (b.Rows.drop (aftL b.Rows a)).filter (seesL e) with
      | nil =>
       show snapE snap0=0
       unfold snapE snap0;simp
      | cons x r =>
       obtain ⟨g1,g2⟩:=tnx_bd h2 h3
       show snapE ⟨true,true,keyR x,tnx t⟩=0
       unfold snapE
       simp only [if_true]
       rw [if_neg (by omega),if_neg (by omega)]
     ·cases (b.Rows.drop (aftL b.Rows a)).filter (seesL e) with
      | nil=>intro h;cases h
      | cons x r=>intro h;cases h
    ·subst h1
     refine ⟨_,next_begin he hn hs hc,?_,fun _=>rfl,fun h=>by cases h⟩
     unfold p_ref26_Next
     simp only [cond_true,c2,hz,Option.bind_some,bne_self_eq_false,cond_false,ref_check_p b hn hs,hc,rcount_p he hn hs]
     rfl
   ·refine ⟨_,next_bad hn hs hc ⟨_,c1⟩,?_,fun h=>h,fun _=>rfl⟩
    have h2:(bookCheck b.Seq b.Rows != 0)=true:=by simpa using hc
    unfold p_ref26_Next
    simp only [ho,cond_true,c2,hz,Option.bind_some,bne_self_eq_false,cond_false,ref_check_p b hn hs,h2]
    rfl
  ·have h2:(snapE st != 0)=true:=by simpa using hz
   refine ⟨(st,stz0,false),?_,?_,fun h=>h,fun _=>rfl⟩
   ·unfold p_snap_Next
    simp only [ho,cond_true,c1,Option.bind_some,h2]
    rfl
   ·unfold p_ref26_Next
    simp only [ho,cond_true,c2,Option.bind_some,h2]
    rfl
end Go.Proofs.YtdoakplhalonfaaGreat

namespace Go.Proofs.YtdoakplhalonfaaGreat
open Go.RowKit
theorem fndM_sh (k:ByteArray):∀ (l:List MailEntry) (i:Nat),fndM k l (i + 1)=if fndM k l i < 0 then -1 else fndM k l i + 1
 | [],i=>rfl
 | x :: t,i=>by
  rw [fndM,fndM]
  cases (x.Key.toList == k.toList) with
  | true=>simp only [if_true];rw [if_neg (by omega)];omega
  | false=>simp only [Bool.false_eq_true,if_false];exact fndM_sh k t (i + 1)
theorem mailC_0 {l:List MailEntry}:mailC l=0 ↔ l.length≤16∧l.all keyM=true∧preE l=0∧ordR l l.length 0=true:=by
 unfold mailC chkM
 rw [ord_same]
 by_cases h1:16 < l.length
 ·rw [if_pos h1];exact ⟨fun h=>by omega,fun h=>by omega⟩
 rw [if_neg h1]
 cases h2:l.all keyM with
 | false=>rw [if_pos rfl];exact ⟨fun h=>by omega,fun h=>by cases h.2.1⟩
 | true =>
  rw [if_neg (by simp)]
  by_cases h3:preE l=0
  ·rw [if_neg (by simpa using h3)]
   cases ordR l l.length 0 with
   | true=>exact ⟨fun _=>⟨by omega,rfl,h3,rfl⟩,fun _=>rfl⟩
   | false=>rw [if_neg (by simp)];exact ⟨fun h=>by omega,fun h=>by cases h.2.2.2⟩
  ·rw [if_pos h3];exact ⟨fun h=>absurd h h3,fun h=>absurd h.2.2.1 h3⟩
theorem mailC_tail {x:MailEntry} {r:List MailEntry} (h:mailC (x :: r)=0):mailC r=0:=by
 obtain ⟨h1,h2,h3,h4⟩:=mailC_0.1 h
 simp only [List.length_cons] at h1
 rw [List.all_cons,Bool.and_eq_true] at h2
 have h3' : preE r=0:=by
  rw [preE] at h3
  by_cases hp:presCheckL x.P=0
  ·rwa [if_neg (by simpa using hp)] at h3
  ·rw [if_pos hp] at h3;exact absurd h3 hp
 refine mailC_0.2 ⟨by omega,h2.2,h3',(ordR_iff (by omega)).2 fun j _ hl=>?_⟩
 have g:=(ordR_iff (l:=x :: r) (n:=(x :: r).length) (k:=0) (by omega)).1 h4 (j + 1) (by omega) (by simp;omega)
 simp only [List.getElem_cons_succ] at g
 refine ⟨fun h0 hh=>g.1 (by omega) ?_,?_⟩
 ·obtain ⟨m,rfl⟩ : ∃ m,j=m + 1:=⟨j - 1,by omega⟩
  simpa using hh
 ·have e:=g.2
  rw [fndM] at e
  split at e
  ·simp at e;omega
  ·rw [fndM_sh] at e
   split at e
   ·simp at e;omega
   ·simp at e;omega
def outC (s:Ref27State):Int:=if mailC s.Mail≠0 then mailC s.Mail else if snapE s.Snap≠0 then snapE s.Snap else if (0≤s.Sent∧s.Sent≤1099511627776)∧0≤s.Lost∧s.Lost≤1099511627776 then 0 else 8
theorem outC_p {s:Ref27State} (h:smM s.Mail):p_outq_Check s=some (outC s)∧p_ref27_Check s=some (outC s):=by
 obtain ⟨m1,m2⟩:=mailC_p h
 obtain ⟨s1,s2⟩:=snapC_p s.Snap
 unfold p_outq_Check p_ref27_Check p_outq_in outC
 rw [m1,m2,Option.bind_some,Option.bind_some,s1,s2]
 by_cases h1:mailC s.Mail=0
 ·rw [h1]
  simp only [bne_self_eq_false,cond_false,Option.bind_some,ne_eq,not_true_eq_false,if_false]
  by_cases h2:snapE s.Snap=0
  ·rw [h2]
   simp only [bne_self_eq_false,cond_false,Option.bind_some,ne_eq,not_true_eq_false,if_false]
   by_cases a:0≤s.Sent <;> by_cases b:s.Sent≤1099511627776 <;> by_cases c:0≤s.Lost <;> by_cases d:s.Lost≤1099511627776 <;>
    simp [a,b,c,d,Int.not_lt.2,Int.not_le.1,show (s.Sent < 0)=¬ (0≤s.Sent) by simp,show ((1099511627776:Int) < s.Sent)=¬ (s.Sent≤1099511627776) by simp,show (s.Lost < 0)=¬ (0≤s.Lost) by simp,show ((1099511627776:Int) < s.Lost)=¬ (s.Lost≤1099511627776) by simp]
  ·have q:(snapE s.Snap != 0)=true:=by simpa using h2
   simp only [q,cond_true,ne_eq,h2,not_false_eq_true,if_true,Option.bind_some]
   exact ⟨trivial,trivial⟩
 ·have q:(mailC s.Mail != 0)=true:=by simpa using h1
  simp only [q,cond_true,ne_eq,h1,not_false_eq_true,if_true,Option.bind_some]
  exact ⟨trivial,trivial⟩
structure OkT (T:OutqTeller):Prop where
 sm:smM T.st.Mail
 mail:mailC T.st.Mail=0
 snap:snapE T.st.Snap=0
 sent:0≤T.counter.sent∧T.counter.sent≤1099511627776
 lost:0≤T.st.Lost∧T.st.Lost≤1099511627776
 eyes:fewE T.eyes
 rows:T.book.Rows.length≤1000
 small:smallB T.book.Rows
def refOf (T:OutqTeller):Ref27State:=⟨T.st.Mail,T.st.Snap,T.counter.sent,T.st.Lost⟩
theorem OkT.chk {T:OutqTeller} (h:OkT T):p_ref27_Check (refOf T)=some 0:=by
 rw [(outC_p (s:=refOf T) h.sm).2]
 unfold outC refOf
 simp only [h.mail,h.snap,ne_eq,not_true_eq_false,if_false]
 rw [if_pos ⟨h.sent,h.lost⟩]
theorem split_szs {k:ByteArray} (h:k.size≤100000):(splitE k).1.size≤100000∧(splitE k).2.1.size≤100000:=by
 have h1:=front_sz k
 have h2:=back_sz k
 have e:(⟨#[]⟩ : ByteArray).size=0:=rfl
 unfold splitE
 split
 ·split
  ·split
   ·exact ⟨by simp only;omega,by simp only;omega⟩
   ·exact ⟨by simp only;omega,by simp only;omega⟩
  ·exact ⟨by simp only;omega,by simp only;omega⟩
 ·exact ⟨by simp only;omega,by simp only;omega⟩
theorem tnext_p {T:OutqTeller} (h:OkT T):∃ x y,p_outq_teller_next T=some x∧p_ref27_Next (refOf T) T.eyes T.book=some y ∧
  (x.2.2=true∧y=(refOf x.1,x.2.1,true)∧OkT x.1∧x.1.eyes=T.eyes∧x.1.book=T.book∨x.2.2=false∧x.1=T∧y=(refOf T,stz0,false)):=by
 obtain ⟨t1,t2⟩:=tnx_p h.sent.1 h.sent.2
 have tb:=tnx_bd h.sent.1 h.sent.2
 unfold p_outq_teller_next p_ref27_Next p_ref27_Wants
 rw [h.chk]
 have eM:(refOf T).Mail=T.st.Mail:=rfl
 have eS:(refOf T).Snap=T.st.Snap:=rfl
 have eN:(refOf T).Sent=T.counter.sent:=rfl
 have eL:(refOf T).Lost=T.st.Lost:=rfl
 rw [eM,eS,eN,eL,t2]
 simp only [Option.bind_some,bne_self_eq_false,cond_false]
 cases ho:T.st.Snap.On with
 | true =>
  obtain ⟨x,x1,x2,x3,x4⟩:=snext_p (st:=T.st.Snap) h.eyes h.rows h.small
  simp only [cond_true,x1,x2,Option.bind_some]
  cases hx:x.2.2 with
  | true =>
   unfold p_outq_counter_told
   simp only [cond_true,Option.bind_some,t1]
   exact ⟨_,_,rfl,rfl,.inl ⟨rfl,rfl,⟨h.sm,h.mail,x3 h.snap,tb,h.lost,h.eyes,h.rows,h.small⟩,rfl,rfl⟩⟩
  | false=>exact ⟨_,_,rfl,rfl,.inr ⟨rfl,rfl,rfl⟩⟩
 | false =>
  obtain ⟨c1,c2⟩:=mailC_p h.sm
  rw [h.mail] at c1 c2
  unfold p_mail_Take p_ref25_Take
  rw [c1,c2]
  cases hm:T.st.Mail with
  | nil=>exact ⟨_,_,rfl,rfl,.inr ⟨rfl,rfl,rfl⟩⟩
  | cons e r =>
   have hl:(((e :: r).length:Int) == 0)=false:=by first | (simp;done) | (simp;omega)
   have hl2:decide ((0:Int) < ((e :: r).length:Int))=true:=by first | (simp;done) | (simp;omega)
   have hcut:cut? (e :: r) (some (1:Int)) none=some r:=by
    have:=cutFrom (l:=e :: r) (k:=1) (by simp)
    simpa using this
   have hat:at? (e :: r) (0:Int)=some e:=rfl
   have he:e.Key.size≤100000:=h.sm.2 e (by rw [hm];exact List.mem_cons_self ..)
   obtain ⟨z1,z2⟩:=split_szs he
   unfold p_outq_counter_told
   simp only [cond_false,cond_true,hl,hl2,Option.bind_some,bne_self_eq_false,hcut,hat,split_p he,rsplit_p he,say_p _ z1 z2,rsay_p _ z1 z2,t1]
   have hsm:=h.sm
   have hmc:=h.mail
   rw [hm] at hsm hmc
   exact ⟨_,_,rfl,rfl,.inl ⟨rfl,rfl,⟨⟨by show r.length≤1000;have:=hsm.1;simp at this;omega,fun y hy=>hsm.2 y (List.mem_cons_of_mem _ hy)⟩,mailC_tail hmc,h.snap,tb,h.lost,h.eyes,h.rows,h.small⟩,rfl,rfl⟩⟩
theorem flush_l (z:Int):∀ (n F G:Nat) (acc:List StanzaStanza) (T:OutqTeller),OkT T→acc.length + n=1000→n < F→n + 1 < G→∃ out T' fl,p_outq_Flush_l1 z F acc T=some (out,T')∧p_ref27_Flush_l1 z T.eyes T.book G acc true (refOf T)=some (out,fl,refOf T')∧out.length≤1000∧OkT T'
 | 0,F + 1,G + 1,acc,T,h,hn,hF,hG=>by
  have hf:decide ((acc.length:Int) < (if (1000:Int) < z then (1000:Int) else z))=false:=decide_eq_false (by split <;> omega)
  rw [p_outq_Flush_l1,p_ref27_Flush_l1,hf]
  exact ⟨acc,T,true,rfl,rfl,by omega,h⟩
 | n + 1,F + 1,G + 2,acc,T,h,hn,hF,hG=>by
  rw [p_outq_Flush_l1,p_ref27_Flush_l1]
  cases decide ((acc.length:Int) < (if (1000:Int) < z then (1000:Int) else z)) with
  | false=>exact ⟨acc,T,true,rfl,rfl,by omega,h⟩
  | true =>
   obtain ⟨x,y,x1,y1,hxy⟩:=tnext_p h
   simp only [cond_true,x1,y1,Option.bind_some]
   rcases hxy with ⟨a1,rfl,a3,a4,a5⟩ | ⟨a1,a2,rfl⟩
   ·rw [a1]
    obtain ⟨out,T',fl,r1,r2,r3⟩:=flush_l z n F (G + 1) (acc++[x.2.1]) x.1 a3 (by simp;omega) (by omega) (by omega)
    rw [a4,a5] at r2
    simp only [cond_true]
    rw [app_ok (by simp;omega),Option.bind_some,r1,Option.bind_some,r2]
    exact ⟨out,T',fl,rfl,rfl,r3⟩
   ·rw [a1,a2,cond_false,cond_false,p_ref27_Flush_l1]
    exact ⟨acc,T,false,rfl,rfl,by omega,h⟩
end Go.Proofs.YtdoakplhalonfaaGreat

namespace Go.Proofs.YtdoakplhalonfaaGreat
open Go.RowKit
theorem mown_l (z:List MailEntry) (hn:z.length≤1000):∀ (n k F:Nat) (acc:List MailEntry),k + n=z.length→n < F→acc.length=k→p_law25_Own_l1 z F acc (k:Int)=some (acc++z.drop k,(z.length:Int))∧p_law25_Back_l1 z F acc (k:Int)=some (acc++z.drop k,(z.length:Int))
 | 0,k,F + 1,acc,hk,hF,ha=>by
  rw [p_law25_Own_l1,p_law25_Back_l1,lt_ff (by omega),show k=z.length by omega,List.drop_length,List.append_nil];exact ⟨rfl,rfl⟩
 | n + 1,k,F + 1,acc,hk,hF,ha=>by
  have hlt:k < z.length:=by omega
  obtain ⟨i1,i2⟩:=mown_l z hn n (k + 1) F (acc++[z[k]]) (by omega) (by omega) (by simp;omega)
  rw [p_law25_Own_l1,p_law25_Back_l1,lt_tt hlt,cond_true,cond_true,at_lt hlt]
  simp only [Option.bind_some]
  have e:MailEntry.mk z[k].Key z[k].P=z[k]:=rfl
  rw [e,app_ok (by simp;omega),Option.bind_some,Option.bind_some,w64_succ (by omega),i1,i2,drop_at hlt]
  simp
theorem mown_p {z:List MailEntry} (hn:z.length≤1000):p_law25_Own z=some z∧p_law25_Back z=some z:=by
 obtain ⟨h1,h2⟩:=mown_l z hn z.length 0 fuel [] (by omega) (by have:=fuel_pos;omega) rfl
 have h1' : p_law25_Own_l1 z fuel [] (0:Int)=_:=h1
 have h2' : p_law25_Back_l1 z fuel [] (0:Int)=_:=h2
 unfold p_law25_Own p_law25_Back
 rw [h1',h2'];exact ⟨rfl,rfl⟩
theorem oown_p {s:Ref27State} (hn:s.Mail.length≤1000):p_law27_own s=some s∧p_law27_Back s=some s:=by
 unfold p_law27_own p_law27_Back
 rw [(mown_p hn).1,(mown_p hn).2];exact ⟨rfl,rfl⟩
theorem msame_l (a b:List MailEntry) (hn:a.length≤1000) (hab:a.length=b.length):∀ (n k F:Nat),k + n=a.length→n < F→∃ r,p_ref25_Same_l1 a b F (k:Int)=some r∧p_slices_Equal_mail_State_mail_Entry__l1 a b (a.length:Int) F (k:Int)=some r
 | 0,k,F + 1,hk,hF=>by
  rw [p_ref25_Same_l1,p_slices_Equal_mail_State_mail_Entry__l1,lt_ff (by omega)];exact ⟨_,rfl,rfl⟩
 | n + 1,k,F + 1,hk,hF=>by
  have hlt:k < a.length:=by omega
  obtain ⟨r,i1,i2⟩:=msame_l a b hn hab n (k + 1) F (by omega) (by omega)
  rw [p_ref25_Same_l1,p_slices_Equal_mail_State_mail_Entry__l1,lt_tt hlt,cond_true,cond_true,at_lt hlt,at_lt (show k < b.length by omega)]
  simp only [Option.bind_some]
  rw [w64_succ (by omega),i1,i2]
  generalize ((a[k].Key.toList == (b[k]'(by omega)).Key.toList) && _)=q
  cases q
  ·exact ⟨_,rfl,rfl⟩
  ·exact ⟨r,rfl,rfl⟩
theorem msame_p {a b:List MailEntry} (hn:a.length≤1000):∃ v,p_ref25_Same a b=some v∧p_mail_Same a b=some v:=by
 unfold p_ref25_Same p_mail_Same p_slices_Equal_mail_State_mail_Entry_
 by_cases hab:a.length=b.length
 ·obtain ⟨r,e1,e2⟩:=msame_l a b hn hab a.length 0 fuel (by omega) (by have:=fuel_pos;omega)
  have e1' : p_ref25_Same_l1 a b fuel (0:Int)=_:=e1
  have e2' : p_slices_Equal_mail_State_mail_Entry__l1 a b (a.length:Int) fuel (0:Int)=_:=e2
  rw [show ((a.length:Int) != (b.length:Int))=false by simp;omega,cond_false,cond_false,e1',e2']
  cases r with
  | inl v=>exact ⟨v,rfl,rfl⟩
  | inr v=>exact ⟨true,rfl,rfl⟩
 ·rw [show ((a.length:Int) != (b.length:Int))=true by simp;omega]
  exact ⟨false,rfl,rfl⟩
theorem osame_p {a b:Ref27State} (hn:a.Mail.length≤1000):∃ v,p_ref27_Same a b=some v∧p_outq_Same a b=some v:=by
 obtain ⟨v,h1,h2⟩:=msame_p (b:=b.Mail) hn
 unfold p_ref27_Same p_outq_Same
 rw [h1,h2]
 simp only [Option.bind_some]
 cases v with
 | false=>exact ⟨false,rfl,rfl⟩
 | true =>
  simp only [cond_true]
  generalize ((a.Snap.On == b.Snap.On) && _)=q
  cases q with
  | false=>exact ⟨false,rfl,rfl⟩
  | true=>cases (a.Sent == b.Sent) <;> exact ⟨_,rfl,rfl⟩
theorem mself_l (z:List MailEntry) (hn:z.length≤1000):∀ (n k F:Nat),k + n=z.length→n < F→p_ref25_Same_l1 z z F (k:Int)=some (.inr (z.length:Int))
 | 0,k,F + 1,hk,hF=>by
  rw [p_ref25_Same_l1,lt_ff (by omega),show k=z.length by omega];rfl
 | n + 1,k,F + 1,hk,hF=>by
  have hlt:k < z.length:=by omega
  rw [p_ref25_Same_l1,lt_tt hlt,cond_true,at_lt hlt]
  simp only [Option.bind_some,eqT_refl,beq_self_eq_true,Bool.and_self,cond_true]
  rw [w64_succ (by omega)];exact mself_l z hn n (k + 1) F (by omega) (by omega)
theorem oself_p {s:Ref27State} (hn:s.Mail.length≤1000):p_ref27_Same s s=some true:=by
 have e:p_ref25_Same_l1 s.Mail s.Mail fuel (0:Int)=_:=mself_l s.Mail hn s.Mail.length 0 fuel (by omega) (by have:=fuel_pos;omega)
 unfold p_ref27_Same p_ref25_Same
 rw [bne_self_eq_false,cond_false,e]
 simp only [Option.bind_some,cond_true,eqT_refl,beq_self_eq_true,Bool.and_self]
theorem mlight_l (z:List MailEntry) (hn:z.length≤1000):∀ (n k F:Nat),k + n=z.length→n < F→p_ref25_Light_l1 z F (k:Int)=some (.inl false)∨(p_ref25_Light_l1 z F (k:Int)=some (.inr (z.length:Int))∧∀ c ∈ z.drop k,c.Key.size≤100)
 | 0,k,F + 1,hk,hF=>by
  right
  rw [p_ref25_Light_l1,lt_ff (by omega),show k=z.length by omega]
  exact ⟨rfl,fun c hc=>by rw [List.drop_length] at hc;cases hc⟩
 | n + 1,k,F + 1,hk,hF=>by
  have hlt:k < z.length:=by omega
  have ih:=mlight_l z hn n (k + 1) F (by omega) (by omega)
  rw [p_ref25_Light_l1,lt_tt hlt,cond_true,at_lt hlt,Option.bind_some,w64_succ (by omega)]
  by_cases h1:(100:Int) < (z[k].Key.size:Int)
  ·rw [decide_eq_true h1];exact .inl rfl
  rw [decide_eq_false h1,cond_false]
  rcases ih with g | ⟨g,g2⟩
  ·exact .inl g
  ·refine .inr ⟨g,fun c hc=>?_⟩
   rw [drop_at hlt] at hc
   rcases List.mem_cons.1 hc with rfl | hc
   ·omega
   ·exact g2 c hc
theorem mlight_p (z:List MailEntry):p_ref25_Light z (20:Int)=some false∨(p_ref25_Light z (20:Int)=some true∧z.length≤20∧smM z):=by
 unfold p_ref25_Light
 by_cases h1:(20:Int) < (z.length:Int)
 ·rw [decide_eq_true h1];exact .inl rfl
 rw [decide_eq_false h1,cond_false]
 have e:=mlight_l z (by omega) z.length 0 fuel (by omega) (by have:=fuel_pos;omega)
 rw [List.drop_zero,show ((0:Nat):Int)=0 from rfl] at e
 rcases e with e | ⟨e,g⟩
 ·rw [e];exact .inl rfl
 ·rw [e];exact .inr ⟨rfl,by omega,by omega,fun x hx=>by have:=g x hx;omega⟩
theorem flush_p {s:Ref27State} {e:SnapEyes} {b:BookState} (hm:smM s.Mail) (he:fewE e) (hn:b.Rows.length≤1000) (hs:smallB b.Rows) (z:Int):∃ x,p_outq_Flush s e b z=some x∧p_ref27_Flush s e b z=some x∧x.2.length≤1000∧x.1.Mail.length≤1000:=by
 obtain ⟨c1,c2⟩:=outC_p hm
 have hf:=fuel_pos
 unfold p_outq_Flush p_ref27_Flush
 rw [c1,Option.bind_some]
 by_cases hc:outC s=0
 ·rw [hc,bne_self_eq_false,cond_false]
  have hT:OkT (OutqTeller.mk (OutqCounter.mk s.Sent) s e b):=by
   unfold outC at hc
   by_cases h1:mailC s.Mail=0
   ·rw [if_neg (by simpa using h1)] at hc
    by_cases h2:snapE s.Snap=0
    ·rw [if_neg (by simpa using h2)] at hc
     by_cases h3:(0≤s.Sent∧s.Sent≤1099511627776)∧0≤s.Lost∧s.Lost≤1099511627776
     ·exact ⟨hm,h1,h2,h3.1,h3.2,he,hn,hs⟩
     ·rw [if_neg h3] at hc;omega
    ·rw [if_pos h2] at hc;exact absurd hc h2
   ·rw [if_pos h1] at hc;exact absurd hc h1
  obtain ⟨out,T',fl,r1,r2,r3,r4⟩:=flush_l z 1000 fuel fuel [] _ hT rfl (by omega) (by omega)
  have r2' : p_ref27_Flush_l1 z e b fuel [] true s=_:=r2
  rw [r1,r2']
  exact ⟨_,rfl,rfl,r3,r4.sm.1⟩
 ·have q:(outC s != 0)=true:=by simpa using hc
  rw [q,cond_true]
  refine ⟨_,rfl,?_,Nat.zero_le _,hm.1⟩
  obtain ⟨F,hF⟩ : ∃ F,fuel=F + 2:=⟨fuel - 2,by omega⟩
  rw [hF,p_ref27_Flush_l1,cond_true]
  cases decide ((([]:List StanzaStanza).length:Int) < (if (1000:Int) < z then (1000:Int) else z)) with
  | false=>rfl
  | true =>
   unfold p_ref27_Next
   rw [c2]
   simp only [cond_true,Option.bind_some,q,cond_false]
   rw [p_ref27_Flush_l1];rfl
theorem onext_p {s:Ref27State} {e:SnapEyes} {b:BookState} (hm:smM s.Mail) (he:fewE e) (hn:b.Rows.length≤1000) (hs:smallB b.Rows):∃ x,p_outq_Next s e b=some x∧p_ref27_Next s e b=some x∧x.1.Mail.length≤1000:=by
 obtain ⟨c1,c2⟩:=outC_p hm
 have hf:=fuel_pos
 unfold p_outq_Next p_outq_Flush
 rw [c1,Option.bind_some]
 by_cases hc:outC s=0
 ·rw [hc,bne_self_eq_false,cond_false]
  have hT:OkT (OutqTeller.mk (OutqCounter.mk s.Sent) s e b):=by
   unfold outC at hc
   by_cases h1:mailC s.Mail=0
   ·rw [if_neg (by simpa using h1)] at hc
    by_cases h2:snapE s.Snap=0
    ·rw [if_neg (by simpa using h2)] at hc
     by_cases h3:(0≤s.Sent∧s.Sent≤1099511627776)∧0≤s.Lost∧s.Lost≤1099511627776
     ·exact ⟨hm,h1,h2,h3.1,h3.2,he,hn,hs⟩
     ·rw [if_neg h3] at hc;omega
    ·rw [if_pos h2] at hc;exact absurd hc h2
   ·rw [if_pos h1] at hc;exact absurd hc h1
  obtain ⟨x,y,x1,y1,hxy⟩:=tnext_p hT
  have y1' : p_ref27_Next s e b=some y:=y1
  obtain ⟨F,hF⟩ : ∃ F,fuel=F + 2:=⟨fuel - 2,by omega⟩
  have d1:decide ((([]:List StanzaStanza).length:Int) < (if (1000:Int) < (1:Int) then (1000:Int) else (1:Int)))=true:=rfl
  have d2:∀ q:StanzaStanza,decide ((([q]:List StanzaStanza).length:Int) < (if (1000:Int) < (1:Int) then (1000:Int) else (1:Int)))=false:=fun q=>rfl
  rw [hF,p_outq_Flush_l1,d1,cond_true,x1,Option.bind_some,y1']
  rcases hxy with ⟨a1,rfl,a3,a4,a5⟩ | ⟨a1,a2,rfl⟩
  ·rw [a1,cond_true,app_ok (by simp),Option.bind_some,List.nil_append,p_outq_Flush_l1,d2,cond_false]
   exact ⟨_,rfl,rfl,a3.sm.1⟩
  ·rw [a1,cond_false]
   exact ⟨_,rfl,rfl,hm.1⟩
 ·have q:(outC s != 0)=true:=by simpa using hc
  rw [q,cond_true]
  refine ⟨_,rfl,?_,hm.1⟩
  unfold p_ref27_Next
  rw [c2,Option.bind_some,q];rfl
theorem outqNext_pure (haw:p_law27_awake=some true) (s:Ref27State) (e:SnapEyes) (b:BookState):p_law27_OutqNext s e b=some true:=by
 unfold p_law27_OutqNext
 rcases mlight_p s.Mail with g | ⟨g,_,hm⟩
 ·rw [g,haw];rfl
 rw [g]
 simp only [Option.bind_some,cond_true,haw]
 by_cases h1:(100:Int) < (s.Snap.After.size:Int)
 ·rw [decide_eq_true h1];rfl
 rw [decide_eq_false h1,cond_false]
 rcases elight_p e with g | ⟨g,he⟩
 ·rw [g];rfl
 rw [g]
 rcases light_p b with g | ⟨g,hb,hs⟩
 ·rw [g];rfl
 rw [g]
 obtain ⟨x,x1,x2,x3⟩:=onext_p (e:=e) (b:=b) hm he (by omega) hs
 obtain ⟨y,y1,y2,y3,y4⟩:=flush_p (e:=e) (b:=b) hm he (by omega) hs (w64 ((e.Users.length:Int) * (3:Int)))
 obtain ⟨v,v1,v2⟩:=osame_p (a:=s) (b:=x.1) hm.1
 simp only [Option.bind_some,cond_true,(oown_p hm.1).1,book26_p b (by omega),x1,x2,y1,y2,(oown_p x3).2,(oown_p y4).2,oself_p x3,oself_p y4,v1,v2,back10_p y.2 y3,same10_p y.2 y3,eqT_refl,beq_self_eq_true,Bool.and_self,haw]
end Go.Proofs.YtdoakplhalonfaaGreat

