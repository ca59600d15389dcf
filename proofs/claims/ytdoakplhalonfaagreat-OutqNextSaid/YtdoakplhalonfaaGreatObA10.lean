/- A part of the proof: 11 texts joined. -/
import Derived.Test.YtdoakplhalonfaaGreatObA6
import Derived.Test.YtdoakplhalonfaaGreatObA9
import Derived.Test.YtdoakplhalonfaaGreatObA8
import Derived.Test.YtdoakplhalonfaaGreatObA7
import Derived.KernelRfl
set_option linter.all false
namespace Go.Proofs.YtdoakplhalonfaaGreat
open Go.RowKit
theorem named_p {u r:ByteArray} (hu:u.size≤100000) (hr:r.size≤100000):p_pres_named u r=some (namedL u r):=by
 unfold p_pres_named p_addr_Resource p_addr_IsBare namedL
 rw [if_pos hr,if_pos hu]
 by_cases h:resL r.data.toList=0
 ·simp [h]
 ·have e:(resL r.data.toList == 0)=false:=by simpa using h
  simp [h,e]
theorem key_p {u r:ByteArray} (hu:u.size≤100000) (hr:r.size≤100000):p_pres_Key u r=some (keyL u r):=by
 unfold p_pres_Key cat? keyL
 rw [named_p hu hr]
 obtain ⟨h1,h2⟩:=cat_sz u r hu hr
 cases namedL u r
 ·rfl
 ·simp only [Option.bind_some,cond_true,if_pos h1,if_pos h2,if_true]
theorem keyR_p {x:BookRow} (h:smallR x):p_book_Row_key x=some (keyR x):=by
 unfold p_book_Row_key;rw [key_p h.1 h.2];rfl
theorem check1_p {x:BookRow} (h:smallR x):p_book_Check_1 x=some ((keyR x).toList == (⟨#[]⟩ : ByteArray).toList):=by
 unfold p_book_Check_1;rw [keyR_p h];rfl
theorem index_l (f:BookRow→Option Bool) (p:BookRow→Bool) (rows:List BookRow) (hn:rows.length≤1000) (hf:∀ x ∈ rows,f x=some (p x)):∀ (n k F:Nat),k + n=rows.length→n < F →
  p_slices_IndexFunc_book_Row_l1 f rows rows.length F k=some (if (rows.drop k).any p=true then .inl ((k + (rows.drop k).findIdx p:Nat):Int) else .inr (rows.length:Int))
 | 0,k,F + 1,hk,hF=>by
  have e:rows.drop k=[]:=List.drop_of_length_le (by omega)
  have:k=rows.length:=by omega
  rw [p_slices_IndexFunc_book_Row_l1,lt_ff (by omega),e,this];rfl
 | n + 1,k,F + 1,hk,hF=>by
  have hlt:k < rows.length:=by omega
  rw [p_slices_IndexFunc_book_Row_l1,lt_tt hlt,at_lt hlt,drop_at hlt]
  simp only [cond_true,Option.bind_some,hf _ (List.getElem_mem hlt)]
  cases hp:p rows[k] with
  | true=>rw [List.any_cons,hp,List.findIdx_cons,hp];rfl
  | false =>
   simp only [cond_false]
   rw [w64_succ (by omega),index_l f p rows hn hf n (k + 1) F (by omega) (by omega)]
   simp only [List.any_cons,hp,Bool.false_or,List.findIdx_cons,cond_false]
   split
   ·congr 3;omega
   ·rfl
theorem index_p {f:BookRow→Option Bool} (p:BookRow→Bool) {rows:List BookRow} (hn:rows.length≤1000) (hf:∀ x ∈ rows,f x=some (p x)):p_slices_IndexFunc_book_Row rows f=some (idxL p rows):=by
 unfold p_slices_IndexFunc_book_Row
 have:=index_l f p rows hn hf rows.length 0 fuel (by omega) (by have:=fuel_pos;omega)
 rw [show ((0:Int))=((0:Nat):Int) from rfl,this]
 unfold idxL
 rw [List.drop_zero]
 split <;> simp
theorem contains_p {f:BookRow→Option Bool} (p:BookRow→Bool) {rows:List BookRow} (hn:rows.length≤1000) (hf:∀ x ∈ rows,f x=some (p x)):p_slices_ContainsFunc_book_Row rows f=some (rows.any p):=by
 unfold p_slices_ContainsFunc_book_Row
 rw [index_p p hn hf]
 unfold idxL
 cases rows.any p <;> simp
theorem in_p (n a b:Int):p_pres_in n a b=some (decide (a≤n) && decide (n≤b)):=by
 unfold p_pres_in
 cases decide (a≤n) <;> rfl
theorem presCheck_p (x:PresPres):p_pres_Check x=some (presCheckL x):=by
 unfold p_pres_Check presCheckL
 simp only [in_p,Option.bind_some]
 cases h1:(decide (0≤x.Show) && decide (x.Show≤4)) with
 | false =>
  have:x.Show < 0∨4 < x.Show:=by simp at h1;omega
  rw [if_pos (by omega)];rfl
 | true =>
  cases h2:(decide (-128≤x.Prio) && decide (x.Prio≤127)) with
  | false =>
   have:x.Prio < -128∨127 < x.Prio:=by simp at h2;omega
   rw [if_pos (by omega)];rfl
  | true =>
   cases h3:(decide (0≤x.Seq) && decide (x.Seq≤1099511627776)) with
   | false =>
    have:x.Seq < 0∨1099511627776 < x.Seq:=by simp at h3;omega
    rw [if_pos (by omega)];rfl
   | true =>
    simp at h1 h2 h3
    rw [if_neg (by omega)]
    cases ho:x.On with
    | true=>simp
    | false =>
     by_cases hs:x.Show=0 <;> by_cases hq:x.Prio=0
     ·simp [hs,hq]
     ·have e:(x.Prio == 0)=false:=by simpa using hq
      simp [hs,hq,e]
     ·have e:(x.Show == 0)=false:=by simpa using hs
      simp [hs,hq,e]
     ·have e:(x.Show == 0)=false:=by simpa using hs
      simp [hs,hq,e]
theorem errors_l (rows:List BookRow) (hn:rows.length≤1000):∀ (n k F:Nat),k + n=rows.length→n < F →
  p_book_State_errors_l1 rows rows.length F k=some (if errL (rows.drop k)≠0 then .inl (errL (rows.drop k)) else .inr (rows.length:Int))
 | 0,k,F + 1,hk,hF=>by
  have e:rows.drop k=[]:=List.drop_of_length_le (by omega)
  have:k=rows.length:=by omega
  rw [p_book_State_errors_l1,lt_ff (by omega),e,this];rfl
 | n + 1,k,F + 1,hk,hF=>by
  have hlt:k < rows.length:=by omega
  rw [p_book_State_errors_l1,lt_tt hlt,at_lt hlt,err_at rows k hlt]
  simp only [cond_true,Option.bind_some,presCheck_p]
  by_cases h:presCheckL rows[k].P=0
  ·simp only [h,bne_self_eq_false,cond_false]
   cases ho:rows[k].P.On with
   | false=>simp
   | true =>
    simp only [cond_true]
    rw [w64_succ (by omega),errors_l rows hn n (k + 1) F (by omega) (by omega)]
    simp
  ·have:(presCheckL rows[k].P != 0)=true:=by simpa using h
   simp [this,h]
theorem errors_p (st:BookState) (hn:st.Rows.length≤1000):p_book_State_errors st=some (errL st.Rows):=by
 unfold p_book_State_errors
 have:=errors_l st.Rows hn st.Rows.length 0 fuel (by omega) (by have:=fuel_pos;omega)
 rw [show ((0:Int))=((0:Nat):Int) from rfl,this]
 rw [List.drop_zero]
 by_cases h:errL st.Rows=0 <;> simp [h]
theorem ord1_p (x:BookRow):∀ o:BookRow,p_book_State_ordered_1 o x=some (o.P.Seq == x.P.Seq):=fun _=>rfl
theorem ordered_l (st:BookState) (hn:st.Rows.length≤1000) (hs:smallB st.Rows):∀ (n k F:Nat),k + n=st.Rows.length→n < F →
  p_book_State_ordered_l1 st.Rows st.Rows.length st F k=some (if ((List.range st.Rows.length).drop k).all (okAt st.Seq st.Rows)=true then .inr (st.Rows.length:Int) else .inl false)
 | 0,k,F + 1,hk,hF=>by
  have e:(List.range st.Rows.length).drop k=[]:=List.drop_of_length_le (by simp;omega)
  have:k=st.Rows.length:=by omega
  rw [p_book_State_ordered_l1,lt_ff (by omega),e,this];rfl
 | n + 1,k,F + 1,hk,hF=>by
  have hlt:k < st.Rows.length:=by omega
  have hd:(List.range st.Rows.length).drop k=k :: (List.range st.Rows.length).drop (k + 1):=by
   rw [drop_at (by simpa using hlt)];simp
  rw [p_book_State_ordered_l1,lt_tt hlt,at_lt hlt,hd,List.all_cons]
  simp only [cond_true,Option.bind_some]
  have hc:=contains_p (f:=fun x0=>p_book_State_ordered_1 x0 st.Rows[k]) (fun o=>o.P.Seq == st.Rows[k].P.Seq) (rows:=st.Rows.take k) (by rw [List.length_take];omega) (fun o _=>ord1_p _ o)
  have ih:=ordered_l st hn hs n (k + 1) F (by omega) (by omega)
  rw [w64_succ (by omega),ih,cutTo (by omega)]
  simp only [Option.bind_some,hc]
  cases k with
  | zero =>
   rw [okAt_0 hlt]
   by_cases h1:st.Rows[0].P.Seq < 1
   ·simp only [decide_eq_true h1,cond_true]
    rw [if_neg (by simp <;> omega)]
   ·by_cases h2:st.Seq < st.Rows[0].P.Seq
    ·simp only [decide_eq_false h1,cond_false,decide_eq_true h2,cond_true]
     rw [if_neg (by simp <;> omega)]
    ·simp only [decide_eq_false h1,cond_false,decide_eq_false h2,show decide ((0:Int) < ((0:Nat):Int))=false from rfl]
     rw [decide_eq_true (show (1:Int)≤st.Rows[0].P.Seq by omega),decide_eq_true (show st.Rows[0].P.Seq≤st.Seq by omega)]
     cases (List.take 0 st.Rows).any fun o=>o.P.Seq == st.Rows[0].P.Seq
     ·simp only [cond_false,Bool.not_false,Bool.and_true,Bool.true_and]
     ·simp
  | succ j =>
   rw [okAt_s j hlt]
   have hj:j < st.Rows.length:=by omega
   have e0:w64 (((j + 1:Nat):Int) - 1)=(j:Int):=by rw [w64_id (by omega)];omega
   rw [e0,at_lt hj]
   simp only [Option.bind_some,keyR_p (hs _ (List.getElem_mem hj)),keyR_p (hs _ (List.getElem_mem hlt))]
   by_cases h1:st.Rows[j + 1].P.Seq < 1
   ·simp only [decide_eq_true h1,cond_true]
    rw [if_neg (by simp <;> omega)]
   ·by_cases h2:st.Seq < st.Rows[j + 1].P.Seq
    ·simp only [decide_eq_false h1,cond_false,decide_eq_true h2,cond_true]
     rw [if_neg (by simp <;> omega)]
    ·have h3:decide ((0:Int) < ((j + 1:Nat):Int))=true:=decide_eq_true (by omega)
     simp only [decide_eq_false h1,cond_false,decide_eq_false h2,h3,cond_true]
     rw [decide_eq_true (show (1:Int)≤st.Rows[j + 1].P.Seq by omega),decide_eq_true (show st.Rows[j + 1].P.Seq≤st.Seq by omega)]
     have hl:lessR st.Rows[j] st.Rows[j + 1]=Op.bytesLess (keyR st.Rows[j]).toList (keyR st.Rows[j + 1]).toList:=rfl
     rw [hl]
     cases Op.bytesLess (keyR st.Rows[j]).toList (keyR st.Rows[j + 1]).toList
     ·simp
     ·cases (List.take (j + 1) st.Rows).any fun o=>o.P.Seq == st.Rows[j + 1].P.Seq
      ·simp only [cond_true,cond_false,Bool.not_false,Bool.and_true,Bool.true_and]
      ·simp
theorem ordered_p (st:BookState) (hn:st.Rows.length≤1000) (hs:smallB st.Rows):p_book_State_ordered st=some (ordL st.Seq st.Rows):=by
 unfold p_book_State_ordered
 have:=ordered_l st hn hs st.Rows.length 0 fuel (by omega) (by have:=fuel_pos;omega)
 rw [show ((0:Int))=((0:Nat):Int) from rfl,this]
 rw [List.drop_zero]
 unfold ordL
 cases (List.range st.Rows.length).all (okAt st.Seq st.Rows) <;> simp
theorem many_l (u:ByteArray) (rows:List BookRow) (hn:rows.length≤1000):∀ (n k F a:Nat),k + n=rows.length→n < F→a≤k →
  p_book_State_many_l1 u rows rows.length F a k=some (((a + manyL (rows.drop k) u:Nat):Int),(rows.length:Int))
 | 0,k,F + 1,a,hk,hF,ha=>by
  have e:rows.drop k=[]:=List.drop_of_length_le (by omega)
  have:k=rows.length:=by omega
  rw [p_book_State_many_l1,lt_ff (by omega),e,this];rfl
 | n + 1,k,F + 1,a,hk,hF,ha=>by
  have hlt:k < rows.length:=by omega
  rw [p_book_State_many_l1,lt_tt hlt,at_lt hlt,drop_at hlt]
  simp only [cond_true,Option.bind_some]
  rw [w64_succ (show k≤1000000 by omega),w64_succ (show a≤1000000 by omega)]
  have hm:manyL (rows[k] :: rows.drop (k + 1)) u=manyL (rows.drop (k + 1)) u + if (rows[k].User.toList == u.toList)=true then 1 else 0:=by
   unfold manyL;rw [List.countP_cons]
  rw [hm]
  cases h:rows[k].User.toList == u.toList with
  | true =>
   simp only [cond_true,if_true]
   rw [many_l u rows hn n (k + 1) F (a + 1) (by omega) (by omega) (by omega)]
   congr 3;omega
  | false =>
   simp only [cond_false]
   rw [many_l u rows hn n (k + 1) F a (by omega) (by omega) (by omega)]
   simp
theorem many_p (st:BookState) (u:ByteArray) (hn:st.Rows.length≤1000):p_book_State_many st u=some ((manyL st.Rows u:Nat):Int):=by
 unfold p_book_State_many
 have:=many_l u st.Rows hn st.Rows.length 0 fuel 0 (by omega) (by have:=fuel_pos;omega) (by omega)
 rw [show ((0:Int))=((0:Nat):Int) from rfl,this]
 simp
theorem check2_p (st:BookState) (hn:st.Rows.length≤1000) (x:BookRow):p_book_Check_2 x st=some (decide (3 < manyL st.Rows x.User)):=by
 unfold p_book_Check_2
 rw [many_p st x.User hn]
 simp only [Option.bind_some,Option.some.injEq,decide_eq_decide]
 omega
theorem check_p (st:BookState) (hn:st.Rows.length≤1000) (hs:smallB st.Rows):p_book_Check st=some (bookCheck st.Seq st.Rows):=by
 unfold p_book_Check bookCheck
 by_cases h0:16 < st.Rows.length
 ·rw [decide_eq_true (show (16:Int) < (st.Rows.length:Int) by omega),if_pos h0];rfl
 rw [decide_eq_false (show ¬ (16:Int) < (st.Rows.length:Int) by omega),if_neg h0]
 by_cases h1:st.Seq < 0
 ·rw [decide_eq_true h1,if_pos (.inl h1)];rfl
 rw [decide_eq_false h1]
 by_cases h2:1099511627776 < st.Seq
 ·rw [decide_eq_true h2,if_pos (.inr h2)];rfl
 rw [decide_eq_false h2,if_neg (by omega)]
 simp only [cond_false]
 rw [contains_p (fun r=>(keyR r).toList == (⟨#[]⟩ : ByteArray).toList) hn (fun x hx=>check1_p (hs x hx))]
 have he:emptyL st.Rows=st.Rows.any fun r=>(keyR r).toList == (⟨#[]⟩ : ByteArray).toList:=rfl
 rw [← he]
 cases emptyL st.Rows with
 | true=>rfl
 | false =>
  simp only [Option.bind_some,cond_false,errors_p st hn,ordered_p st hn hs]
  by_cases h3:errL st.Rows=0
  ·simp only [h3,bne_self_eq_false,cond_false]
   cases ordL st.Seq st.Rows with
   | false=>rfl
   | true =>
    simp only [cond_true]
    rw [contains_p (fun r=>decide (3 < manyL st.Rows r.User)) hn (fun x _=>check2_p st hn x)]
    have hf:fullL st.Rows=st.Rows.any fun r=>decide (3 < manyL st.Rows r.User):=rfl
    rw [← hf]
    cases fullL st.Rows <;> rfl
  ·have:(errL st.Rows != 0)=true:=by simpa using h3
   simp [this,h3]
end Go.Proofs.YtdoakplhalonfaaGreat

namespace Go.Proofs.YtdoakplhalonfaaGreat
open Go.RowKit
theorem find1_p {x:BookRow} (h:smallR x) (k:ByteArray):p_book_State_find_1 x k=some (cmpR x k):=by
 unfold p_book_State_find_1 p_strings_Compare
 rw [keyR_p h];rfl
theorem search_l {rows:List BookRow} {key:ByteArray} {pos:Nat} (hn:rows.length≤1000) (hs:smallB rows) (hp:StandsAt rows key pos):∀ (d i j F:Nat),i + d=j→j≤rows.length→i≤pos→pos≤j→d < F →
  p_slices_BinarySearchFunc_book_Row_l1 (fun x0 x1=>p_book_State_find_1 x0 x1) rows key F i j=some ((pos:Int),(pos:Int)):=by
 intro d
 induction d using Nat.strongRecOn with
 | ind d ih =>
  intro i j F hd hj h1 h2 hF
  obtain ⟨F,rfl⟩ : ∃ G,F=G + 1:=⟨F - 1,by omega⟩
  rw [p_slices_BinarySearchFunc_book_Row_l1]
  rcases Nat.lt_or_ge i j with hij | hij
  ·rw [lt_tt hij,half_p (by omega),w64_succ (show (i + j) / 2≤1000000 by omega)]
   have hm:(i + j) / 2 < rows.length:=by omega
   simp only [cond_true,at_lt hm,Option.bind_some,find1_p (hs _ (List.getElem_mem hm))]
   rcases Nat.lt_or_ge ((i + j) / 2) pos with hlt | hge
   ·rw [decide_eq_true (hp.lt _ hm hlt),cond_true]
    exact ih (j - ((i + j) / 2 + 1)) (by omega) _ _ F (by omega) hj (by omega) h2 (by omega)
   ·have:=hp.ge _ hm hge
    rw [decide_eq_false (by omega),cond_false]
    exact ih ((i + j) / 2 - i) (by omega) _ _ F (by omega) (by omega) h1 hge (by omega)
  ·rw [lt_ff hij]
   have:i=pos:=by omega
   have:j=pos:=by omega
   subst_vars
   simp
theorem find_p {st:BookState} {k:ByteArray} (hn:st.Rows.length≤1000) (hs:smallB st.Rows) (ho:sortedR st.Rows):p_book_State_find st k=some (((posL st.Rows k:Nat):Int),foundB st.Rows k (posL st.Rows k)):=by
 have hp:=stands ho k
 have hl:=search_l hn hs hp st.Rows.length 0 st.Rows.length fuel (by omega) (Nat.le_refl _) (Nat.zero_le _) hp.le (by have:=fuel_pos;omega)
 unfold p_book_State_find p_slices_BinarySearchFunc_book_Row
 rw [show ((0:Int))=((0:Nat):Int) from rfl,hl]
 simp only [Option.bind_some]
 unfold foundB
 rcases Nat.lt_or_ge (posL st.Rows k) st.Rows.length with h | h
 ·rw [lt_tt h,at_lt h,List.getElem?_eq_getElem h]
  simp only [cond_true,Option.bind_some,find1_p (hs _ (List.getElem_mem h))];rfl
 ·rw [lt_ff h,List.getElem?_eq_none h];rfl
theorem next_p {st:BookState} {k:ByteArray} (hn:st.Rows.length≤1000) (hs:smallB st.Rows):p_book_Next st k=some (nxtL st.Seq st.Rows k):=by
 unfold p_book_Next nxtL
 rw [check_p st hn hs]
 by_cases hc:bookCheck st.Seq st.Rows=0
 ·have ho:=ord_sorted (check_ord hc)
  simp only [hc,bne_self_eq_false,cond_false,Option.bind_some,ne_eq,not_true_eq_false,if_false]
  rw [find_p hn hs ho]
  have hle:posL st.Rows k≤st.Rows.length:=List.findIdx_le_length
  simp only [Option.bind_some]
  have go:∀ p:Nat,p≤st.Rows.length→(bif ((p:Int) == (st.Rows.length:Int)) then some ((BookRow.mk (⟨#[]⟩ : ByteArray) (⟨#[]⟩ : ByteArray) (PresPres.mk false (0:Int) (0:Int) (0:Int))),false) else (at? st.Rows (p:Int)).bind fun x6=>some (x6,true))=some (rowAt st.Rows p):=by
   intro p hp
   rcases Nat.lt_or_ge p st.Rows.length with h | h
   ·have e:((p:Int) == (st.Rows.length:Int))=false:=by simp;omega
    rw [e,at_lt h,rowAt_lt h];rfl
   ·have e:((p:Int) == (st.Rows.length:Int))=true:=by simp;omega
    rw [e,rowAt_ge h];rfl
  cases hf:foundB st.Rows k (posL st.Rows k) with
  | false =>
   simp only [cond_false,Bool.false_eq_true,if_false]
   exact go _ hle
  | true =>
   have hlt:=found_lt hf
   simp only [cond_true,if_true]
   rw [w64_succ (by omega)]
   exact go _ hlt
 ·have:(bookCheck st.Seq st.Rows != 0)=true:=by simpa using hc
  simp [this,hc]
end Go.Proofs.YtdoakplhalonfaaGreat

namespace Go.Proofs.YtdoakplhalonfaaGreat
open Go.RowKit
def frontB (s:ByteArray):ByteArray:=ba (s.data.toList.take (findL s.data.toList 32))
def backB (s:ByteArray):ByteArray:=ba (s.data.toList.drop (findL s.data.toList 32 + 1))
def splitE (s:ByteArray):ByteArray × ByteArray × Int :=
 if findL s.data.toList 32 < s.data.toList.length then
  if isBareL (frontB s).data.toList=true then
   if resL (backB s).data.toList=0 then (frontB s,backB s,0) else (⟨#[]⟩,⟨#[]⟩,resL (backB s).data.toList)
  else (⟨#[]⟩,⟨#[]⟩,11)
 else (⟨#[]⟩,⟨#[]⟩,4)
theorem ba_sz (l:List UInt8):(ba l).size=l.length:=by unfold ba;simp [ByteArray.size]
theorem front_sz (s:ByteArray):(frontB s).size≤s.size:=by
 unfold frontB;rw [ba_sz,List.length_take];simp;omega
theorem back_sz (s:ByteArray):(backB s).size≤s.size:=by
 unfold backB;rw [ba_sz,List.length_drop];simp
theorem split_p {s:ByteArray} (h:s.size≤100000):p_pres_Split s=some (splitE s):=by
 unfold p_pres_Split p_strings_Cut splitE
 have e:(⟨#[32]⟩ : ByteArray).data.toList=[32]:=rfl
 have h1:=front_sz s
 have h2:=back_sz s
 simp only [e,if_pos h,Option.bind_some]
 by_cases hf:findL s.data.toList 32 < s.data.toList.length
 ·rw [decide_eq_true hf,if_pos hf,cond_true]
  have f1:ba (List.take (findL s.data.toList 32) s.data.toList)=frontB s:=rfl
  have f2:ba (List.drop (findL s.data.toList 32 + 1) s.data.toList)=backB s:=rfl
  rw [f1,f2]
  unfold p_addr_IsBare p_addr_Resource
  rw [if_pos (show (frontB s).size≤100000 by omega),if_pos (show (backB s).size≤100000 by omega)]
  simp only [Option.bind_some]
  change (bif isBareL (frontB s).data.toList then _ else _)=_
  cases isBareL (frontB s).data.toList with
  | true =>
   simp only [cond_true,if_true]
   change (bif resL (backB s).data.toList != 0 then _ else _)=_
   by_cases hr:resL (backB s).data.toList=0
   ·rw [if_pos hr,hr];rfl
   ·have:(resL (backB s).data.toList != 0)=true:=by simpa using hr
    rw [if_neg hr,this];rfl
  | false=>rfl
 ·rw [decide_eq_false hf,if_neg hf];rfl
theorem rsplit_l (s:ByteArray) (hs:s.size≤100000):∀ (n k F:Nat),k + n=s.size→n < F→p_ref23_Split_l1 s F k=some ((k + findL (s.data.toList.drop k) 32:Nat):Int)
 | 0,k,F + 1,hk,hF=>by
  have e:s.data.toList.drop k=[]:=List.drop_of_length_le (by simp;have:s.data.size=s.size:=rfl;omega)
  rw [p_ref23_Split_l1,lt_ff (by omega),e];rfl
 | n + 1,k,F + 1,hk,hF=>by
  have hlt:k < s.size:=by omega
  have hd:s.data.toList.drop k=s[k] :: s.data.toList.drop (k + 1):=by
   rw [List.drop_eq_getElem_cons (by rw [bl_len];exact hlt),bl_get s k hlt]
  rw [p_ref23_Split_l1,lt_tt hlt,byte_at hlt,hd,findL_cons]
  simp only [cond_true,Option.bind_some]
  have hb:=byte_ne s[k] 32
  have e32:(((32:UInt8).toNat:Nat):Int)=32:=rfl
  rw [e32] at hb
  rw [hb]
  cases hc:(s[k] == 32) with
  | true=>simp
  | false =>
   simp only [Bool.not_false,cond_true]
   rw [w64_succ (by omega),rsplit_l s hs n (k + 1) F (by omega) (by omega)]
   simp
   omega
theorem rsplit_p {s:ByteArray} (h:s.size≤100000):p_ref23_Split s=some (splitE s):=by
 have h1:=front_sz s
 have h2:=back_sz s
 have hl:=rsplit_l s h s.size 0 fuel (by omega) (by have:=fuel_pos;omega)
 have z0:((0:Nat):Int)=0:=rfl
 rw [z0,List.drop_zero,Nat.zero_add] at hl
 unfold p_ref23_Split splitE
 rw [hl]
 simp only [Option.bind_some]
 have hle:=findL_le s.data.toList 32
 have hbl:s.data.toList.length=s.size:=bl_len s
 by_cases hf:findL s.data.toList 32 < s.data.toList.length
 ·have hne:((findL s.data.toList 32:Int) == (s.size:Int))=false:=by
   simp;omega
  rw [hne,if_pos hf,cond_false]
  have s1:sub? s none (some (findL s.data.toList 32:Int))=some (frontB s):=by
   unfold sub?
   simp only [Option.getD_none,Option.getD_some]
   rw [if_pos (by omega)]
   congr 1
   rw [show ((0:Int).toNat)=0 from rfl,Int.toNat_natCast,cut_take];rfl
  have s2:sub? s (some (w64 ((findL s.data.toList 32:Int) + 1))) none=some (backB s):=by
   rw [w64_succ (by omega)]
   unfold sub?
   simp only [Option.getD_none,Option.getD_some]
   rw [if_pos (by omega)]
   congr 1
   rw [Int.toNat_natCast,Int.toNat_natCast,cut_drop];rfl
  rw [s1,s2]
  simp only [Option.bind_some]
  unfold p_ref09_IsBare p_ref09_Resource
  rw [if_pos (show (frontB s).size≤100000 by omega),if_pos (show (backB s).size≤100000 by omega)]
  simp only [Option.bind_some]
  cases isBareL (frontB s).data.toList with
  | true =>
   simp only [cond_true,if_true]
   by_cases hr:resL (backB s).data.toList=0
   ·rw [if_pos hr,hr];rfl
   ·have:(resL (backB s).data.toList != 0)=true:=by simpa using hr
    rw [if_neg hr,this];rfl
  | false=>rfl
 ·have hne:((findL s.data.toList 32:Int) == (s.size:Int))=true:=by
   simp;omega
  rw [hne,if_neg hf];rfl
end Go.Proofs.YtdoakplhalonfaaGreat

namespace Go.Proofs.YtdoakplhalonfaaGreat
open Go.RowKit
theorem nxt_key {seq:Int} {rows:List BookRow} (hc:bookCheck seq rows=0) {i:Nat} (hi:i < rows.length):nxtL seq rows (keyR rows[i])=rowAt rows (i + 1):=by
 have hs:=ord_sorted (check_ord hc)
 have hp:posL rows (keyR rows[i])=i:=pos_of ⟨by omega,fun j hj hji=>hs j i hi hji,fun j hj hij=>by
  rcases Nat.lt_or_ge i j with h | h
  ·have h1:=hs i j hj h
   have h2:=cmp_anti (keyR rows[i]).data.toList (keyR rows[j]).data.toList
   have h1' : Lib.compareBytes (keyR rows[i]).data.toList (keyR rows[j]).data.toList < 0:=h1
   show 0≤Lib.compareBytes (keyR rows[j]).data.toList (keyR rows[i]).data.toList
   omega
  ·have:j=i:=by omega
   subst this
   show 0≤Lib.compareBytes _ _
   rw [cmp_refl];omega⟩
 have hf:foundB rows (keyR rows[i]) i=true:=by
  unfold foundB
  rw [List.getElem?_eq_getElem hi]
  show (Lib.compareBytes _ _ == 0)=true
  rw [cmp_refl];rfl
 unfold nxtL
 rw [if_neg (by simpa using hc),hp,hf,if_pos rfl]
theorem cmp_empty {a:List UInt8} (h:a≠[]):0 < Lib.compareBytes a []:=by
 cases a with
 | nil=>exact absurd rfl h
 | cons x xs=>simp [Lib.compareBytes]
theorem nxt_empty {seq:Int} {rows:List BookRow} (hc:bookCheck seq rows=0) (hk:∀ r ∈ rows,((keyR r).toList == (⟨#[]⟩ : ByteArray).toList)=false):nxtL seq rows ⟨#[]⟩=rowAt rows 0:=by
 have pos:∀ r ∈ rows,0 < cmpR r ⟨#[]⟩:=fun r hr=>cmp_empty (fun e=>by
  have:=hk r hr
  rw [ByteArray.toList_eq,ByteArray.toList_eq,e] at this
  simp at this)
 have hp:posL rows ⟨#[]⟩=0:=pos_of ⟨Nat.zero_le _,fun j hj hji=>by omega,fun j hj _=>Int.le_of_lt (pos _ (List.getElem_mem hj))⟩
 have hf:foundB rows ⟨#[]⟩ 0=false:=by
  unfold foundB
  cases rows with
  | nil=>rfl
  | cons r l =>
   have:=pos r (by simp)
   simp;omega
 unfold nxtL
 rw [if_neg (by simpa using hc),hp,hf,if_neg (by simp)]
end Go.Proofs.YtdoakplhalonfaaGreat

namespace Go.Proofs.YtdoakplhalonfaaGreat
open Go.RowKit
theorem idxS_l (l:List ByteArray) (s:ByteArray) (hn:l.length≤1000):∀ (n k F:Nat),k + n=l.length→n < F →
  p_slices_Index_string_l1 l s l.length F k=some (if (l.drop k).any (fun y=>s.toList == y.toList)=true then .inl ((k + (l.drop k).findIdx (fun y=>s.toList == y.toList):Nat):Int) else .inr (l.length:Int))
 | 0,k,F + 1,hk,hF=>by
  have e:l.drop k=[]:=List.drop_of_length_le (by omega)
  have:k=l.length:=by omega
  rw [p_slices_Index_string_l1,lt_ff (by omega),e,this];rfl
 | n + 1,k,F + 1,hk,hF=>by
  have hlt:k < l.length:=by omega
  rw [p_slices_Index_string_l1,lt_tt hlt,at_lt hlt,drop_at hlt]
  simp only [cond_true,Option.bind_some]
  cases hp:s.toList == l[k].toList with
  | true=>rw [List.any_cons,hp,List.findIdx_cons,hp];rfl
  | false =>
   simp only [cond_false]
   rw [w64_succ (by omega),idxS_l l s hn n (k + 1) F (by omega) (by omega)]
   simp only [List.any_cons,hp,Bool.false_or,List.findIdx_cons,cond_false]
   split
   ·congr 3;omega
   ·rfl
theorem containsS_p (l:List ByteArray) (s:ByteArray) (hn:l.length≤1000):p_slices_Contains_string l s=some (l.any fun y=>s.toList == y.toList):=by
 unfold p_slices_Contains_string p_slices_Index_string
 have:=idxS_l l s hn l.length 0 fuel (by omega) (by have:=fuel_pos;omega)
 rw [show ((0:Int))=((0:Nat):Int) from rfl,this,List.drop_zero]
 cases l.any (fun y=>s.toList == y.toList) <;> simp
def seesL (e:SnapEyes) (x:BookRow):Bool:=(e.Users.any fun y=>x.User.toList == y.toList) || (e.Keys.any fun y=>(keyR x).toList == y.toList)
def fewE (e:SnapEyes):Prop:=e.Users.length≤1000∧e.Keys.length≤1000
theorem sees_p {e:SnapEyes} {x:BookRow} (he:fewE e) (hx:smallR x):p_snap_Sees e x=some (seesL e x):=by
 unfold p_snap_Sees seesL
 rw [containsS_p _ _ he.1]
 simp only [Option.bind_some]
 cases e.Users.any (fun y=>x.User.toList == y.toList) with
 | true=>rfl
 | false =>
  rw [key_p hx.1 hx.2]
  simp only [cond_false,Option.bind_some]
  rw [containsS_p _ _ he.2]
  rfl
def itemS (x:BookRow):ItmS:=(keyR x,x)
theorem items_l {e:SnapEyes} {b:BookState} (he:fewE e) (hn:b.Rows.length≤1000) (hs:smallB b.Rows) (hc:bookCheck b.Seq b.Rows=0):∀ (n j F:Nat) (key:ByteArray),j + n=b.Rows.length→n < F→nxtL b.Seq b.Rows key=rowAt b.Rows j →
  rowsI p_book_Next p_pres_Key p_snap_Sees e b F key=some (((b.Rows.drop j).filter (seesL e)).map itemS)
 | 0,j,F + 1,key,hj,hF,hk=>by
  have e0:b.Rows.drop j=[]:=List.drop_of_length_le (by omega)
  rw [rowsI,next_p hn hs,hk,rowAt_ge (by omega),e0];rfl
 | n + 1,j,F + 1,key,hj,hF,hk=>by
  have hlt:j < b.Rows.length:=by omega
  have hx:=hs _ (List.getElem_mem hlt)
  rw [rowsI,next_p hn hs,hk,rowAt_lt hlt]
  simp only [Option.bind_some,cond_true]
  rw [key_p hx.1 hx.2]
  simp only [Option.bind_some]
  rw [sees_p he hx]
  simp only [Option.bind_some]
  have ih:=items_l he hn hs hc n (j + 1) F (keyL b.Rows[j].User b.Rows[j].Res) (by omega) (by omega) (nxt_key hc hlt)
  rw [ih]
  simp only [Option.bind_some]
  rw [drop_at hlt]
  cases h:seesL e b.Rows[j] with
  | true=>rw [List.filter_cons_of_pos h];rfl
  | false=>rw [List.filter_cons_of_neg (by simp [h])];rfl
theorem items_p {e:SnapEyes} {b:BookState} {key:ByteArray} {j:Nat} (he:fewE e) (hn:b.Rows.length≤1000) (hs:smallB b.Rows) (hc:bookCheck b.Seq b.Rows=0) (hj:j≤b.Rows.length) (hk:nxtL b.Seq b.Rows key=rowAt b.Rows j) :
  p_snap_items e b key=some (((b.Rows.drop j).filter (seesL e)).map itemS) :=
 items_l he hn hs hc (b.Rows.length - j) j fuel key (by omega) (by have:=fuel_pos;omega) hk
theorem items_bad {e:SnapEyes} {b:BookState} {key:ByteArray} (hn:b.Rows.length≤1000) (hs:smallB b.Rows) (hc:bookCheck b.Seq b.Rows≠0):p_snap_items e b key=some []:=by
 unfold p_snap_items
 obtain ⟨F,hF⟩ : ∃ F,fuel=F + 1:=⟨fuel - 1,by have:=fuel_pos;omega⟩
 rw [hF,rowsI,next_p hn hs]
 have:nxtL b.Seq b.Rows key=(⟨⟨#[]⟩,⟨#[]⟩,⟨false,0,0,0⟩⟩,false):=by unfold nxtL;rw [if_pos hc]
 rw [this];rfl
theorem keys_full {b:BookState} (hc:bookCheck b.Seq b.Rows=0):∀ r ∈ b.Rows,((keyR r).toList == (⟨#[]⟩ : ByteArray).toList)=false:=fun r hr=>by
 cases hk:((keyR r).toList == (⟨#[]⟩ : ByteArray).toList) with
 | false=>rfl
 | true =>
  have he:emptyL b.Rows=true:=by unfold emptyL;exact List.any_eq_true.2 ⟨r,hr,hk⟩
  have h:=hc
  unfold bookCheck at h
  rw [if_pos he] at h
  split at h
  ·omega
  ·split at h <;> omega
def viewL (e:SnapEyes) (b:BookState):List BookRow:=if bookCheck b.Seq b.Rows≠0 then [] else b.Rows.filter (seesL e)
theorem viewL_len (e:SnapEyes) (b:BookState):(viewL e b).length≤b.Rows.length:=by
 unfold viewL;split
 ·simp
 ·exact List.length_filter_le _ _
theorem view_p {e:SnapEyes} {b:BookState} (he:fewE e) (hn:b.Rows.length≤1000) (hs:smallB b.Rows):p_snap_View e b=some (viewL e b):=by
 unfold p_snap_View viewL
 by_cases hc:bookCheck b.Seq b.Rows=0
 ·rw [items_p he hn hs hc (Nat.zero_le _) (nxt_empty hc (keys_full hc)),List.drop_zero,if_neg (by simpa using hc)]
  simp only [Option.bind_some,List.length_map]
  have hl:(b.Rows.filter (seesL e)).length≤1000000:=Nat.le_trans (List.length_filter_le _ _) (by omega)
  rw [decide_eq_true hl,cond_true,List.map_map]
  have:(fun x:ItmS=>x.2) ∘ itemS=id:=rfl
  rw [this,List.map_id]
 ·rw [items_bad hn hs hc,if_pos hc];rfl
theorem count_p {e:SnapEyes} {b:BookState} (he:fewE e) (hn:b.Rows.length≤1000) (hs:smallB b.Rows):p_snap_Count e b=some ((viewL e b).length:Int):=by
 unfold p_snap_Count
 rw [view_p he hn hs];rfl
end Go.Proofs.YtdoakplhalonfaaGreat


namespace Go.Proofs.YtdoakplhalonfaaGreat
open Go.RowKit
def stz0:StanzaStanza:=⟨0,⟨#[]⟩,⟨#[]⟩,⟨#[]⟩,0,0,0,0⟩
def sayL (u r:ByteArray) (p:PresPres):StanzaStanza :=
 if presCheckL p≠0 then stz0 else if namedL u r=true then (if p.On=true then ⟨34,u,r,⟨#[]⟩,p.Show,p.Prio,0,p.Seq⟩ else ⟨35,u,r,⟨#[]⟩,0,0,0,p.Seq⟩) else stz0
theorem say_p {u r:ByteArray} (p:PresPres) (hu:u.size≤100000) (hr:r.size≤100000):p_pres_Say u r p=some (sayL u r p):=by
 unfold p_pres_Say sayL
 rw [presCheck_p]
 simp only [Option.bind_some]
 by_cases h:presCheckL p=0
 ·rw [h,if_neg (by simp)]
  simp only [bne_self_eq_false,cond_false]
  rw [named_p hu hr]
  simp only [Option.bind_some]
  cases namedL u r with
  | true=>cases p.On <;> rfl
  | false=>rfl
 ·have h2:(presCheckL p != 0)=true:=by simpa using h
  rw [h2,if_pos h];rfl
def sayR (x:BookRow):StanzaStanza:=sayL x.User x.Res x.P
def snap0:SnapState:=⟨false,false,⟨#[]⟩,0⟩
def doneS:StanzaStanza:=⟨37,⟨#[]⟩,⟨#[]⟩,⟨#[]⟩,0,0,0,0⟩
def snapS (n:Int):StanzaStanza:=⟨36,⟨#[]⟩,⟨#[]⟩,⟨#[]⟩,0,0,0,n⟩
theorem next_off {st:SnapState} {e:SnapEyes} {b:BookState} (h:st.On=false):p_snap_Next st e b=some (st,stz0,false):=by
 unfold p_snap_Next;rw [h];rfl
theorem snapCheck_on (a:ByteArray) (t:Int) (h0:0≤t) (h1:t≤1099511627776):p_snap_Check ⟨true,true,a,t⟩=some 0:=by
 have e1:decide (t < 0)=false:=by simpa using h0
 have e2:decide ((1099511627776:Int) < t)=false:=by simpa using h1
 unfold p_snap_Check
 simp [e1,e2]
theorem next_begin {e:SnapEyes} {b:BookState} (he:fewE e) (hn:b.Rows.length≤1000) (hs:smallB b.Rows) (hc:bookCheck b.Seq b.Rows=0) :
  p_snap_Next ⟨true,false,⟨#[]⟩,0⟩ e b=some (⟨true,true,⟨#[]⟩,0⟩,snapS ((viewL e b).length:Int),true):=by
 unfold p_snap_Next
 have h1:p_snap_Check ⟨true,false,⟨#[]⟩,0⟩=some 0:=by kernel_rfl
 simp only [cond_true]
 rw [h1]
 simp only [Option.bind_some,bne_self_eq_false,cond_false]
 rw [check_p b hn hs,hc]
 simp only [Option.bind_some,bne_self_eq_false,cond_false]
 rw [count_p he hn hs]
 rfl
theorem next_bad {st:SnapState} {e:SnapEyes} {b:BookState} (hn:b.Rows.length≤1000) (hs:smallB b.Rows) (hc:bookCheck b.Seq b.Rows≠0) (h:∃ c,p_snap_Check st=some c):p_snap_Next st e b=some (st,stz0,false):=by
 obtain ⟨c,h⟩:=h
 unfold p_snap_Next
 cases ho:st.On with
 | false=>rfl
 | true =>
  simp only [cond_true]
  rw [h]
  simp only [Option.bind_some]
  cases hcc:c != (0:Int) with
  | true=>rfl
  | false =>
   simp only [cond_false]
   rw [check_p b hn hs]
   have h2:(bookCheck b.Seq b.Rows != 0)=true:=by simpa using hc
   simp only [Option.bind_some,h2,cond_true]
   rfl
end Go.Proofs.YtdoakplhalonfaaGreat


namespace Go.Proofs.YtdoakplhalonfaaGreat
open Go.RowKit
theorem rnamed_p {u r:ByteArray} (hu:u.size≤100000) (hr:r.size≤100000):p_ref23_named u r=some (namedL u r):=by
 unfold p_ref23_named p_ref09_Resource p_ref09_IsBare namedL
 rw [if_pos hr,if_pos hu]
 by_cases h:resL r.data.toList=0
 ·cases isBareL u.data.toList <;> simp [h]
 ·have e:(resL r.data.toList == 0)=false:=by simpa using h
  cases isBareL u.data.toList <;> simp [h,e]
theorem rkey_p {u r:ByteArray} (hu:u.size≤100000) (hr:r.size≤100000):p_ref23_Key u r=some (keyL u r):=by
 unfold p_ref23_Key cat? keyL
 rw [rnamed_p hu hr]
 obtain ⟨h1,h2⟩:=cat_sz u r hu hr
 cases namedL u r
 ·rfl
 ·simp only [Option.bind_some,cond_true,if_pos h1,if_pos h2,if_true]
theorem rkeyR_p {x:BookRow} (h:smallR x):p_ref24_key x=some (keyR x):=by
 unfold p_ref24_key;rw [rkey_p h.1 h.2];rfl
theorem rpresCheck_p (x:PresPres):p_ref23_Check x=some (presCheckL x):=by
 unfold p_ref23_Check presCheckL
 by_cases h1:x.Show < 0
 ·rw [decide_eq_true h1,if_pos (by omega)];rfl
 rw [decide_eq_false h1]
 by_cases h2:4 < x.Show
 ·rw [decide_eq_true h2,if_pos (by omega)];rfl
 rw [decide_eq_false h2]
 by_cases h3:x.Prio < -128
 ·rw [decide_eq_true h3,if_pos (by omega)];rfl
 rw [decide_eq_false h3]
 by_cases h4:127 < x.Prio
 ·rw [decide_eq_true h4,if_pos (by omega)];rfl
 rw [decide_eq_false h4]
 by_cases h5:x.Seq < 0
 ·rw [decide_eq_true h5,if_pos (by omega)];rfl
 rw [decide_eq_false h5]
 by_cases h6:1099511627776 < x.Seq
 ·rw [decide_eq_true h6,if_pos (by omega)];rfl
 rw [decide_eq_false h6,if_neg (by omega)]
 cases ho:x.On with
 | true=>simp
 | false =>
  by_cases h7:x.Show=0
  ·by_cases h8:x.Prio=0
   ·simp [h7,h8]
   ·have:(x.Prio != 0)=true:=by simpa using h8
    simp [h7,h8,this]
  ·have:(x.Show != 0)=true:=by simpa using h7
   simp [h7,this]
theorem light_l (st:BookState) (hn:st.Rows.length≤20):∀ (n k F:Nat),k + n=st.Rows.length→n < F →
  p_ref24_Light_l1 st F k=some (if ((st.Rows.drop k).all fun x=>decide (x.User.size≤100) && decide (x.Res.size≤100))=true then .inr (st.Rows.length:Int) else .inl false)
 | 0,k,F + 1,hk,hF=>by
  have e:st.Rows.drop k=[]:=List.drop_of_length_le (by omega)
  have:k=st.Rows.length:=by omega
  rw [p_ref24_Light_l1,lt_ff (by omega),e,this];rfl
 | n + 1,k,F + 1,hk,hF=>by
  have hlt:k < st.Rows.length:=by omega
  rw [p_ref24_Light_l1,lt_tt hlt,at_lt hlt,drop_at hlt,List.all_cons]
  simp only [cond_true,Option.bind_some]
  by_cases h1:st.Rows[k].User.size≤100
  ·rw [decide_eq_false (show ¬ (100:Int) < (st.Rows[k].User.size:Int) by omega),decide_eq_true h1]
   by_cases h2:st.Rows[k].Res.size≤100
   ·rw [decide_eq_false (show ¬ (100:Int) < (st.Rows[k].Res.size:Int) by omega),decide_eq_true h2]
    simp only [cond_false,Bool.true_and]
    rw [w64_succ (by omega),light_l st hn n (k + 1) F (by omega) (by omega)]
   ·rw [decide_eq_true (show (100:Int) < (st.Rows[k].Res.size:Int) by omega),decide_eq_false h2];rfl
  ·rw [decide_eq_true (show (100:Int) < (st.Rows[k].User.size:Int) by omega),decide_eq_false h1];rfl
theorem light_p (st:BookState):p_ref24_Light st=some false∨(p_ref24_Light st=some true∧st.Rows.length≤20∧smallB st.Rows):=by
 unfold p_ref24_Light
 by_cases h0:20 < st.Rows.length
 ·left;rw [decide_eq_true (show (20:Int) < (st.Rows.length:Int) by omega)];rfl
 rw [decide_eq_false (show ¬ (20:Int) < (st.Rows.length:Int) by omega)]
 have:=light_l st (by omega) st.Rows.length 0 fuel (by omega) (by have:=fuel_pos;omega)
 have z0:((0:Nat):Int)=0:=rfl
 rw [z0,List.drop_zero] at this
 simp only [cond_false]
 rw [this]
 cases h:st.Rows.all fun x=>decide (x.User.size≤100) && decide (x.Res.size≤100) with
 | false=>left;rfl
 | true =>
  right
  refine ⟨rfl,by omega,fun r hr=>?_⟩
  have:=List.all_eq_true.1 h r hr
  simp at this
  exact ⟨by omega,by omega⟩
theorem ref_many_l (u:ByteArray) (st:BookState) (hn:st.Rows.length≤1000):∀ (n k F a:Nat),k + n=st.Rows.length→n < F→a≤k →
  p_ref24_many_l1 u st F a k=some (((a + manyL (st.Rows.drop k) u:Nat):Int),(st.Rows.length:Int))
 | 0,k,F + 1,a,hk,hF,ha=>by
  have e:st.Rows.drop k=[]:=List.drop_of_length_le (by omega)
  have:k=st.Rows.length:=by omega
  rw [p_ref24_many_l1,lt_ff (by omega),e,this];rfl
 | n + 1,k,F + 1,a,hk,hF,ha=>by
  have hlt:k < st.Rows.length:=by omega
  rw [p_ref24_many_l1,lt_tt hlt,at_lt hlt,drop_at hlt]
  simp only [cond_true,Option.bind_some]
  rw [w64_succ (show k≤1000000 by omega),w64_succ (show a≤1000000 by omega)]
  have hm:manyL (st.Rows[k] :: st.Rows.drop (k + 1)) u=manyL (st.Rows.drop (k + 1)) u + if (st.Rows[k].User.toList == u.toList)=true then 1 else 0:=by
   unfold manyL;rw [List.countP_cons]
  rw [hm]
  cases h:st.Rows[k].User.toList == u.toList with
  | true =>
   simp only [cond_true,if_true]
   rw [ref_many_l u st hn n (k + 1) F (a + 1) (by omega) (by omega) (by omega)]
   congr 3;omega
  | false =>
   simp only [cond_false]
   rw [ref_many_l u st hn n (k + 1) F a (by omega) (by omega) (by omega)]
   simp
theorem ref_many_p (st:BookState) (u:ByteArray) (hn:st.Rows.length≤1000):p_ref24_many st u=some ((manyL st.Rows u:Nat):Int):=by
 unfold p_ref24_many
 have:=ref_many_l u st hn st.Rows.length 0 fuel 0 (by omega) (by have:=fuel_pos;omega) (by omega)
 rw [show ((0:Int))=((0:Nat):Int) from rfl,this]
 simp
theorem ref_dup_l (st:BookState) (hn:st.Rows.length≤1000) (x:BookRow) (m:Nat) (hm:m≤st.Rows.length):∀ (n k F:Nat),k + n=m→n < F →
  p_ref24_ordered_l2 m st x F k=some (if ((st.Rows.take m).drop k).any (fun o=>o.P.Seq == x.P.Seq)=true then .inl false else .inr (m:Int))
 | 0,k,F + 1,hk,hF=>by
  have e:(st.Rows.take m).drop k=[]:=List.drop_of_length_le (by rw [List.length_take];omega)
  have:k=m:=by omega
  rw [p_ref24_ordered_l2,lt_ff (by omega),e,this];rfl
 | n + 1,k,F + 1,hk,hF=>by
  have hlt:k < m:=by omega
  have hl:k < (st.Rows.take m).length:=by rw [List.length_take];omega
  have hl2:k < st.Rows.length:=by omega
  have hg:(st.Rows.take m)[k]=st.Rows[k]:=List.getElem_take
  rw [p_ref24_ordered_l2,lt_tt hlt,at_lt hl2,drop_at hl,List.any_cons,hg]
  simp only [cond_true,Option.bind_some]
  cases st.Rows[k].P.Seq == x.P.Seq with
  | true=>rfl
  | false =>
   simp only [cond_false,Bool.false_or]
   rw [w64_succ (by omega)]
   exact ref_dup_l st hn x m hm n (k + 1) F (by omega) (by omega)
theorem ref_ordered_l (st:BookState) (hn:st.Rows.length≤1000) (hs:smallB st.Rows):∀ (n k F:Nat),k + n=st.Rows.length→n < F →
  p_ref24_ordered_l1 st F k=some (if ((List.range st.Rows.length).drop k).all (okAt st.Seq st.Rows)=true then .inr (st.Rows.length:Int) else .inl false)
 | 0,k,F + 1,hk,hF=>by
  have e:(List.range st.Rows.length).drop k=[]:=List.drop_of_length_le (by simp;omega)
  have:k=st.Rows.length:=by omega
  rw [p_ref24_ordered_l1,lt_ff (by omega),e,this];rfl
 | n + 1,k,F + 1,hk,hF=>by
  have hlt:k < st.Rows.length:=by omega
  have hd:(List.range st.Rows.length).drop k=k :: (List.range st.Rows.length).drop (k + 1):=by
   rw [drop_at (by simpa using hlt)];simp
  have z0:((0:Nat):Int)=0:=rfl
  have hc:=ref_dup_l st hn st.Rows[k] k (by omega) k 0 fuel (by omega) (by have:=fuel_pos;omega)
  rw [z0,List.drop_zero] at hc
  have ih:=ref_ordered_l st hn hs n (k + 1) F (by omega) (by omega)
  rw [p_ref24_ordered_l1,lt_tt hlt,at_lt hlt,hd,List.all_cons]
  simp only [cond_true,Option.bind_some]
  rw [w64_succ (by omega),ih,hc]
  cases k with
  | zero =>
   rw [okAt_0 hlt]
   by_cases h1:st.Rows[0].P.Seq < 1
   ·simp only [decide_eq_true h1,cond_true]
    rw [if_neg (by simp <;> omega)]
   ·by_cases h2:st.Seq < st.Rows[0].P.Seq
    ·simp only [decide_eq_false h1,cond_false,decide_eq_true h2,cond_true]
     rw [if_neg (by simp <;> omega)]
    ·simp only [decide_eq_false h1,cond_false,decide_eq_false h2,show decide ((0:Int) < ((0:Nat):Int))=false from rfl]
     rw [decide_eq_true (show (1:Int)≤st.Rows[0].P.Seq by omega),decide_eq_true (show st.Rows[0].P.Seq≤st.Seq by omega)]
     cases (List.take 0 st.Rows).any fun o=>o.P.Seq == st.Rows[0].P.Seq
     ·simp only [Bool.false_eq_true,if_false,Option.bind_some,Bool.not_false,Bool.and_true,Bool.true_and]
     ·simp
  | succ j =>
   rw [okAt_s j hlt]
   have hj:j < st.Rows.length:=by omega
   have e0:w64 (((j + 1:Nat):Int) - 1)=(j:Int):=by rw [w64_id (by omega)];omega
   rw [e0,at_lt hj]
   simp only [Option.bind_some,rkeyR_p (hs _ (List.getElem_mem hj)),rkeyR_p (hs _ (List.getElem_mem hlt))]
   by_cases h1:st.Rows[j + 1].P.Seq < 1
   ·simp only [decide_eq_true h1,cond_true]
    rw [if_neg (by simp <;> omega)]
   ·by_cases h2:st.Seq < st.Rows[j + 1].P.Seq
    ·simp only [decide_eq_false h1,cond_false,decide_eq_true h2,cond_true]
     rw [if_neg (by simp <;> omega)]
    ·have h3:decide ((0:Int) < ((j + 1:Nat):Int))=true:=decide_eq_true (by omega)
     simp only [decide_eq_false h1,cond_false,decide_eq_false h2,h3,cond_true]
     rw [decide_eq_true (show (1:Int)≤st.Rows[j + 1].P.Seq by omega),decide_eq_true (show st.Rows[j + 1].P.Seq≤st.Seq by omega)]
     have hl:lessR st.Rows[j] st.Rows[j + 1]=Op.bytesLess (keyR st.Rows[j]).toList (keyR st.Rows[j + 1]).toList:=rfl
     rw [hl]
     cases Op.bytesLess (keyR st.Rows[j]).toList (keyR st.Rows[j + 1]).toList
     ·simp
     ·cases (List.take (j + 1) st.Rows).any fun o=>o.P.Seq == st.Rows[j + 1].P.Seq
      ·simp only [cond_true,Bool.false_eq_true,if_false,Option.bind_some,Bool.not_false,Bool.and_true,Bool.true_and]
      ·simp
theorem ref_ordered_p (st:BookState) (hn:st.Rows.length≤1000) (hs:smallB st.Rows):p_ref24_ordered st=some (ordL st.Seq st.Rows):=by
 unfold p_ref24_ordered
 have:=ref_ordered_l st hn hs st.Rows.length 0 fuel (by omega) (by have:=fuel_pos;omega)
 rw [show ((0:Int))=((0:Nat):Int) from rfl,this]
 rw [List.drop_zero]
 unfold ordL
 cases (List.range st.Rows.length).all (okAt st.Seq st.Rows) <;> simp
theorem ref_c1_l (st:BookState) (hn:st.Rows.length≤1000) (hs:smallB st.Rows):∀ (n k F:Nat),k + n=st.Rows.length→n < F →
  p_ref24_Check_l1 st F k=some (if emptyL (st.Rows.drop k)=true then .inl 11 else .inr (st.Rows.length:Int))
 | 0,k,F + 1,hk,hF=>by
  have e:st.Rows.drop k=[]:=List.drop_of_length_le (by omega)
  have:k=st.Rows.length:=by omega
  rw [p_ref24_Check_l1,lt_ff (by omega),e,this];rfl
 | n + 1,k,F + 1,hk,hF=>by
  have hlt:k < st.Rows.length:=by omega
  rw [p_ref24_Check_l1,lt_tt hlt,at_lt hlt,drop_at hlt]
  simp only [cond_true,Option.bind_some,rkeyR_p (hs _ (List.getElem_mem hlt))]
  have he:emptyL (st.Rows[k] :: st.Rows.drop (k + 1))=(((keyR st.Rows[k]).toList == (⟨#[]⟩ : ByteArray).toList) || emptyL (st.Rows.drop (k + 1))):=rfl
  rw [he]
  cases (keyR st.Rows[k]).toList == (⟨#[]⟩ : ByteArray).toList with
  | true=>rfl
  | false =>
   simp only [cond_false,Bool.false_or]
   rw [w64_succ (by omega)]
   exact ref_c1_l st hn hs n (k + 1) F (by omega) (by omega)
theorem ref_c2_l (st:BookState) (hn:st.Rows.length≤1000):∀ (n k F:Nat),k + n=st.Rows.length→n < F →
  p_ref24_Check_l2 st F k=some (if errL (st.Rows.drop k)≠0 then .inl (errL (st.Rows.drop k)) else .inr (st.Rows.length:Int))
 | 0,k,F + 1,hk,hF=>by
  have e:st.Rows.drop k=[]:=List.drop_of_length_le (by omega)
  have:k=st.Rows.length:=by omega
  rw [p_ref24_Check_l2,lt_ff (by omega),e,this];rfl
 | n + 1,k,F + 1,hk,hF=>by
  have hlt:k < st.Rows.length:=by omega
  rw [p_ref24_Check_l2,lt_tt hlt,at_lt hlt,err_at st.Rows k hlt]
  simp only [cond_true,Option.bind_some,rpresCheck_p]
  by_cases h:presCheckL st.Rows[k].P=0
  ·simp only [h,bne_self_eq_false,cond_false]
   cases ho:st.Rows[k].P.On with
   | false=>simp
   | true =>
    simp only [cond_true]
    rw [w64_succ (by omega),ref_c2_l st hn n (k + 1) F (by omega) (by omega)]
    simp
  ·have:(presCheckL st.Rows[k].P != 0)=true:=by simpa using h
   simp [this,h]
theorem ref_c3_l (st:BookState) (hn:st.Rows.length≤1000):∀ (n k F:Nat),k + n=st.Rows.length→n < F →
  p_ref24_Check_l3 st F k=some (if ((st.Rows.drop k).any fun r=>decide (3 < manyL st.Rows r.User))=true then .inl 7 else .inr (st.Rows.length:Int))
 | 0,k,F + 1,hk,hF=>by
  have e:st.Rows.drop k=[]:=List.drop_of_length_le (by omega)
  have:k=st.Rows.length:=by omega
  rw [p_ref24_Check_l3,lt_ff (by omega),e,this];rfl
 | n + 1,k,F + 1,hk,hF=>by
  have hlt:k < st.Rows.length:=by omega
  rw [p_ref24_Check_l3,lt_tt hlt,at_lt hlt,drop_at hlt,List.any_cons]
  simp only [cond_true,Option.bind_some,ref_many_p st _ hn]
  by_cases h:3 < manyL st.Rows st.Rows[k].User
  ·rw [decide_eq_true (show (3:Int) < ((manyL st.Rows st.Rows[k].User:Nat):Int) by omega),decide_eq_true h];rfl
  ·rw [decide_eq_false (show ¬ (3:Int) < ((manyL st.Rows st.Rows[k].User:Nat):Int) by omega),decide_eq_false h]
   simp only [cond_false,Bool.false_or]
   rw [w64_succ (by omega)]
   exact ref_c3_l st hn n (k + 1) F (by omega) (by omega)
theorem ref_check_p (st:BookState) (hn:st.Rows.length≤1000) (hs:smallB st.Rows):p_ref24_Check st=some (bookCheck st.Seq st.Rows):=by
 have z0:((0:Nat):Int)=0:=rfl
 unfold p_ref24_Check bookCheck
 by_cases h0:16 < st.Rows.length
 ·rw [decide_eq_true (show (16:Int) < (st.Rows.length:Int) by omega),if_pos h0];rfl
 rw [decide_eq_false (show ¬ (16:Int) < (st.Rows.length:Int) by omega),if_neg h0]
 by_cases h1:st.Seq < 0
 ·rw [decide_eq_true h1,if_pos (.inl h1)];rfl
 rw [decide_eq_false h1]
 by_cases h2:1099511627776 < st.Seq
 ·rw [decide_eq_true h2,if_pos (.inr h2)];rfl
 rw [decide_eq_false h2,if_neg (by omega)]
 simp only [cond_false]
 have c1:=ref_c1_l st hn hs st.Rows.length 0 fuel (by omega) (by have:=fuel_pos;omega)
 have c2:=ref_c2_l st hn st.Rows.length 0 fuel (by omega) (by have:=fuel_pos;omega)
 have c3:=ref_c3_l st hn st.Rows.length 0 fuel (by omega) (by have:=fuel_pos;omega)
 rw [z0,List.drop_zero] at c1 c2 c3
 rw [c1]
 cases emptyL st.Rows with
 | true=>rfl
 | false =>
  simp only [Bool.false_eq_true,if_false,Option.bind_some]
  rw [c2,ref_ordered_p st hn hs]
  by_cases h3:errL st.Rows=0
  ·simp only [h3,ne_eq,not_true_eq_false,if_false,Option.bind_some]
   cases ordL st.Seq st.Rows with
   | false=>rfl
   | true =>
    simp only [cond_true,Bool.true_eq_false,if_false]
    rw [c3]
    have hf:fullL st.Rows=st.Rows.any fun r=>decide (3 < manyL st.Rows r.User):=rfl
    rw [← hf]
    cases fullL st.Rows <;> rfl
  ·simp [h3]
theorem eq_cmp (a b:ByteArray):(a.toList == b.toList)=(Lib.compareBytes a.data.toList b.data.toList == 0):=by
 rw [ByteArray.toList_eq,ByteArray.toList_eq]
 by_cases h:a.data.toList=b.data.toList
 ·rw [h,cmp_refl];simp
 ·have:Lib.compareBytes a.data.toList b.data.toList≠0:=fun e=>h (cmp_eq0 e)
  have e1:(a.data.toList == b.data.toList)=false:=by simpa using h
  have e2:(Lib.compareBytes a.data.toList b.data.toList == 0)=false:=by simpa using this
  rw [e1,e2]
end Go.Proofs.YtdoakplhalonfaaGreat

namespace Go.Proofs.YtdoakplhalonfaaGreat
open Go.RowKit
end Go.Proofs.YtdoakplhalonfaaGreat

namespace Go.Proofs.YtdoakplhalonfaaGreat
open Go.RowKit
theorem rhas_l (l:List ByteArray) (s:ByteArray) (hn:l.length≤1000):∀ (n k F:Nat),k + n=l.length→n < F →
  p_ref26_has_l1 l s F k=some (if ((l.drop k).any fun y=>s.toList == y.toList)=true then .inl true else .inr (l.length:Int))
 | 0,k,F + 1,hk,hF=>by
  have e:l.drop k=[]:=List.drop_of_length_le (by omega)
  have:k=l.length:=by omega
  rw [p_ref26_has_l1,lt_ff (by omega),e,this];rfl
 | n + 1,k,F + 1,hk,hF=>by
  have hlt:k < l.length:=by omega
  rw [p_ref26_has_l1,lt_tt hlt,at_lt hlt,drop_at hlt,List.any_cons]
  simp only [cond_true,Option.bind_some]
  have hb:(l[k].toList == s.toList)=(s.toList == l[k].toList):=by rw [Bool.eq_iff_iff,beq_iff_eq,beq_iff_eq];exact eq_comm
  rw [hb]
  cases h:s.toList == l[k].toList with
  | true=>rfl
  | false =>
   simp only [cond_false,Bool.false_or]
   rw [w64_succ (by omega),rhas_l l s hn n (k + 1) F (by omega) (by omega)]
theorem rhas_p (l:List ByteArray) (s:ByteArray) (hn:l.length≤1000):p_ref26_has l s=some (l.any fun y=>s.toList == y.toList):=by
 unfold p_ref26_has
 have:=rhas_l l s hn l.length 0 fuel (by omega) (by have:=fuel_pos;omega)
 have z0:((0:Nat):Int)=0:=rfl
 rw [z0,List.drop_zero] at this
 rw [this]
 cases l.any fun y=>s.toList == y.toList <;> rfl
theorem rsees_p {e:SnapEyes} {x:BookRow} (he:fewE e) (hx:smallR x):p_ref26_Sees e x=some (seesL e x):=by
 unfold p_ref26_Sees seesL
 rw [rhas_p _ _ he.1]
 simp only [Option.bind_some]
 cases e.Users.any fun y=>x.User.toList == y.toList with
 | true=>rfl
 | false =>
  simp only [cond_false,Bool.false_or]
  rw [rkey_p hx.1 hx.2]
  simp only [Option.bind_some]
  rw [rhas_p _ _ he.2];rfl
theorem elight1 (e:SnapEyes) (hn:e.Users.length≤20):∀ (n k F:Nat),k + n=e.Users.length→n < F →
  p_ref26_Light_l1 e F k=some (.inl false)∨p_ref26_Light_l1 e F k=some (.inr (e.Users.length:Int))
 | 0,k,F + 1,hk,hF=>by
  have:k=e.Users.length:=by omega
  right;rw [p_ref26_Light_l1,lt_ff (by omega),this];rfl
 | n + 1,k,F + 1,hk,hF=>by
  have hlt:k < e.Users.length:=by omega
  rw [p_ref26_Light_l1,lt_tt hlt,at_lt hlt]
  simp only [cond_true,Option.bind_some]
  cases decide ((100:Int) < (e.Users[k].size:Int)) with
  | true=>left;rfl
  | false =>
   simp only [cond_false]
   rw [w64_succ (by omega)]
   exact elight1 e hn n (k + 1) F (by omega) (by omega)
theorem elight2 (e:SnapEyes) (hn:e.Keys.length≤20):∀ (n k F:Nat),k + n=e.Keys.length→n < F →
  p_ref26_Light_l2 e F k=some (.inl false)∨p_ref26_Light_l2 e F k=some (.inr (e.Keys.length:Int))
 | 0,k,F + 1,hk,hF=>by
  have:k=e.Keys.length:=by omega
  right;rw [p_ref26_Light_l2,lt_ff (by omega),this];rfl
 | n + 1,k,F + 1,hk,hF=>by
  have hlt:k < e.Keys.length:=by omega
  rw [p_ref26_Light_l2,lt_tt hlt,at_lt hlt]
  simp only [cond_true,Option.bind_some]
  cases decide ((100:Int) < (e.Keys[k].size:Int)) with
  | true=>left;rfl
  | false =>
   simp only [cond_false]
   rw [w64_succ (by omega)]
   exact elight2 e hn n (k + 1) F (by omega) (by omega)
theorem elight_p (e:SnapEyes):p_ref26_Light e=some false∨(p_ref26_Light e=some true∧fewE e):=by
 unfold p_ref26_Light
 by_cases h0:20 < e.Users.length
 ·left;rw [decide_eq_true (show (20:Int) < (e.Users.length:Int) by omega)];rfl
 rw [decide_eq_false (show ¬ (20:Int) < (e.Users.length:Int) by omega)]
 by_cases h1:20 < e.Keys.length
 ·left;rw [decide_eq_true (show (20:Int) < (e.Keys.length:Int) by omega)];rfl
 rw [decide_eq_false (show ¬ (20:Int) < (e.Keys.length:Int) by omega)]
 simp only [cond_false]
 have z0:((0:Nat):Int)=0:=rfl
 have a1:=elight1 e (by omega) e.Users.length 0 fuel (by omega) (by have:=fuel_pos;omega)
 have a2:=elight2 e (by omega) e.Keys.length 0 fuel (by omega) (by have:=fuel_pos;omega)
 rw [z0] at a1 a2
 rcases a1 with a1 | a1
 ·left;rw [a1];rfl
 rcases a2 with a2 | a2
 ·left;rw [a1];simp only [Option.bind_some];rw [a2];rfl
 ·right;rw [a1];simp only [Option.bind_some];rw [a2];exact ⟨rfl,by omega,by omega⟩
theorem rview_l {e:SnapEyes} {b:BookState} (he:fewE e) (hn:b.Rows.length≤1000) (hs:smallB b.Rows) (hc:bookCheck b.Seq b.Rows=0):∀ (n k F:Nat) (acc:List BookRow),k + n=b.Rows.length→n < F→acc.length≤k →
  p_ref26_View_l1 e b F acc k=some (acc++(b.Rows.drop k).filter (seesL e),(b.Rows.length:Int))
 | 0,k,F + 1,acc,hk,hF,ha=>by
  have e0:b.Rows.drop k=[]:=List.drop_of_length_le (by omega)
  have:k=b.Rows.length:=by omega
  rw [p_ref26_View_l1,lt_ff (by omega),e0,this];simp
 | n + 1,k,F + 1,acc,hk,hF,ha=>by
  have hlt:k < b.Rows.length:=by omega
  rw [p_ref26_View_l1,lt_tt hlt,at_lt hlt,drop_at hlt,ref_check_p b hn hs,hc]
  simp only [cond_true,Option.bind_some,beq_self_eq_true]
  rw [rsees_p he (hs _ (List.getElem_mem hlt))]
  simp only [Option.bind_some]
  cases hv:seesL e b.Rows[k] with
  | true =>
   simp only [cond_true]
   rw [app_ok (by simp;omega),w64_succ (by omega)]
   simp only [Option.bind_some]
   rw [rview_l he hn hs hc n (k + 1) F _ (by omega) (by omega) (by simp;omega),List.filter_cons_of_pos hv]
   simp
  | false =>
   simp only [cond_false]
   rw [w64_succ (by omega),rview_l he hn hs hc n (k + 1) F _ (by omega) (by omega) (by omega),List.filter_cons_of_neg (by simp [hv])]
theorem rview_p {e:SnapEyes} {b:BookState} (he:fewE e) (hn:b.Rows.length≤1000) (hs:smallB b.Rows):p_ref26_View e b=some (viewL e b):=by
 unfold p_ref26_View viewL
 have z0:((0:Nat):Int)=0:=rfl
 by_cases hc:bookCheck b.Seq b.Rows=0
 ·have:=rview_l he hn hs hc b.Rows.length 0 fuel [] (by omega) (by have:=fuel_pos;omega) (Nat.zero_le _)
  rw [z0,List.drop_zero] at this
  rw [this,if_neg (by simpa using hc)];rfl
 ·rw [if_pos hc]
  obtain ⟨F,hF⟩ : ∃ F,fuel=F + 1:=⟨fuel - 1,by have:=fuel_pos;omega⟩
  rw [hF,p_ref26_View_l1]
  cases decide ((0:Int) < (b.Rows.length:Int)) with
  | false=>rfl
  | true =>
   have h2:(bookCheck b.Seq b.Rows == 0)=false:=by simpa using hc
   rw [ref_check_p b hn hs]
   simp only [cond_true,Option.bind_some,h2,cond_false]
theorem rcount_p {e:SnapEyes} {b:BookState} (he:fewE e) (hn:b.Rows.length≤1000) (hs:smallB b.Rows):p_ref26_Count e b=some ((viewL e b).length:Int):=by
 unfold p_ref26_Count
 rw [rview_p he hn hs];rfl
theorem rsay_p {u r:ByteArray} (p:PresPres) (hu:u.size≤100000) (hr:r.size≤100000):p_ref23_Say u r p=some (sayL u r p):=by
 unfold p_ref23_Say sayL
 rw [rpresCheck_p]
 simp only [Option.bind_some]
 by_cases h:presCheckL p=0
 ·rw [h,if_neg (by simp)]
  simp only [bne_self_eq_false,cond_false]
  rw [rnamed_p hu hr]
  simp only [Option.bind_some]
  cases namedL u r with
  | true=>cases p.On <;> rfl
  | false=>rfl
 ·have h2:(presCheckL p != 0)=true:=by simpa using h
  rw [h2,if_pos h];rfl
theorem le_test (x:BookRow) (a:ByteArray):(Op.bytesLess (keyR x).toList a.toList || (keyR x).toList == a.toList)=!decide (0 < cmpR x a):=by
 rw [eq_cmp,cmp_less,tl_data,tl_data]
 show (decide (cmpR x a < 0) || (cmpR x a == 0))=_
 generalize cmpR x a=c
 rcases Int.lt_trichotomy c 0 with h | h | h
 ·rw [decide_eq_true h,decide_eq_false (by omega)];rfl
 ·subst h;rfl
 ·rw [decide_eq_false (by omega),decide_eq_true h];simp;omega
theorem view_mem {e:SnapEyes} {b:BookState} {x:BookRow} (h:x ∈ viewL e b):x ∈ b.Rows:=by
 unfold viewL at h
 split at h
 ·cases h
 ·exact (List.mem_filter.1 h).1
theorem back10_l (l:List StanzaStanza) (hn:l.length≤1000):∀ (n k F:Nat) (acc:List StanzaStanza),k + n=l.length→n < F→acc.length=k →
  p_law10_Back_l1 l F acc k=some (acc++l.drop k,(l.length:Int))
 | 0,k,F + 1,acc,hk,hF,ha=>by
  have e:l.drop k=[]:=List.drop_of_length_le (by omega)
  have:k=l.length:=by omega
  rw [p_law10_Back_l1,lt_ff (by omega),e,this];simp
 | n + 1,k,F + 1,acc,hk,hF,ha=>by
  have hlt:k < l.length:=by omega
  rw [p_law10_Back_l1,lt_tt hlt,at_lt hlt,drop_at hlt]
  simp only [cond_true,Option.bind_some]
  rw [app_ok (by simp;omega),w64_succ (by omega)]
  simp only [Option.bind_some]
  rw [back10_l l hn n (k + 1) F _ (by omega) (by omega) (by simp;omega)]
  simp only [List.append_assoc];rfl
theorem back10_p (l:List StanzaStanza) (hn:l.length≤1000):p_law10_Back l=some l:=by
 unfold p_law10_Back
 have:=back10_l l hn l.length 0 fuel [] (by omega) (by have:=fuel_pos;omega) rfl
 have z0:((0:Nat):Int)=0:=rfl
 rw [z0,List.drop_zero] at this
 rw [this];rfl
theorem same10_l (l:List StanzaStanza) (hn:l.length≤1000):∀ (n k F:Nat),k + n=l.length→n < F→p_ref10_SameAll_l1 l l F k=some (.inr (l.length:Int))
 | 0,k,F + 1,hk,hF=>by
  have:k=l.length:=by omega
  rw [p_ref10_SameAll_l1,lt_ff (by omega),this];rfl
 | n + 1,k,F + 1,hk,hF=>by
  have hlt:k < l.length:=by omega
  rw [p_ref10_SameAll_l1,lt_tt hlt,at_lt hlt]
  simp only [cond_true,Option.bind_some,beq_self_eq_true,Bool.and_self]
  rw [w64_succ (by omega)]
  exact same10_l l hn n (k + 1) F (by omega) (by omega)
theorem same10_p (l:List StanzaStanza) (hn:l.length≤1000):p_ref10_SameAll l l=some true:=by
 unfold p_ref10_SameAll
 have:=same10_l l hn l.length 0 fuel (by omega) (by have:=fuel_pos;omega)
 have z0:((0:Nat):Int)=0:=rfl
 rw [z0] at this
 simp [this]
theorem book26_l (st:BookState) (hn:st.Rows.length≤1000):∀ (n k F:Nat) (acc:BookState),k + n=st.Rows.length→n < F→acc.Rows.length=k →
  p_law26_Book_l1 st F k acc=some ((st.Rows.length:Int),⟨acc.Seq,acc.Rows++st.Rows.drop k⟩)
 | 0,k,F + 1,acc,hk,hF,ha=>by
  have e:st.Rows.drop k=[]:=List.drop_of_length_le (by omega)
  have:k=st.Rows.length:=by omega
  rw [p_law26_Book_l1,lt_ff (by omega),e,this];simp
 | n + 1,k,F + 1,acc,hk,hF,ha=>by
  have hlt:k < st.Rows.length:=by omega
  rw [p_law26_Book_l1,lt_tt hlt,at_lt hlt,drop_at hlt]
  simp only [cond_true,Option.bind_some]
  rw [app_ok (by simp;omega),w64_succ (by omega)]
  simp only [Option.bind_some]
  rw [book26_l st hn n (k + 1) F _ (by omega) (by omega) (by simp;omega)]
  simp only [List.append_assoc];rfl
theorem book26_p (st:BookState) (hn:st.Rows.length≤1000):p_law26_Book st=some st:=by
 unfold p_law26_Book
 have:=book26_l st hn st.Rows.length 0 fuel ⟨st.Seq,[]⟩ (by omega) (by have:=fuel_pos;omega) rfl
 have z0:((0:Nat):Int)=0:=rfl
 rw [z0,List.drop_zero] at this
 rw [this];rfl
end Go.Proofs.YtdoakplhalonfaaGreat

