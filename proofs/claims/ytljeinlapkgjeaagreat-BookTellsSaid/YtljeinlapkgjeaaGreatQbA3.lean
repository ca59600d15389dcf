/- A part of the proof: 3 texts joined. -/
import Derived.Test.YtljeinlapkgjeaaGreatQbA2
import Derived.Test.YtljeinlapkgjeaaGreatQbA1
import Derived.Test.YtljeinlapkgjeaaGreatQaA10
import Derived.Test.YtljeinlapkgjeaaGreatQaA8
import Derived.KernelRfl
set_option linter.all false
/- BookTells in plain words. -/
namespace Go.Proofs.YtljeinlapkgjeaaGreat
open Go.RowKit
theorem better_eq (a b : PresPres) : p_ref23_Better a b = p_pres_Better a b := by
  unfold p_ref23_Better p_pres_Better p_ref23_Newer p_pres_Newer
  cases a.On <;> cases b.On <;> try rfl
  by_cases h : a.Prio = b.Prio
  · simp [h]
  · have e1 : (a.Prio == b.Prio) = false := by simpa using h
    have e2 : (a.Prio != b.Prio) = true := by simpa using h
    simp [e1, e2]
theorem bestL_eq (z : List PresPres) (hn : z.length ≤ 1000) : ∀ (n k F : Nat) (b : Int), k + n = z.length → -1 ≤ b → p_ref23_Best_l1 z F b k = p_pres_Best_l1 z z z.length F b k
  | n, k, 0, b, hk, hb => rfl
  | 0, k, F + 1, b, hk, hb => by
    rw [p_ref23_Best_l1, p_pres_Best_l1, lt_ff (by omega)]; rfl
  | n + 1, k, F + 1, b, hk, hb => by
    have hlt : k < z.length := by omega
    rw [p_ref23_Best_l1, p_pres_Best_l1, lt_tt hlt, at_lt hlt]
    simp only [cond_true, Option.bind_some]
    rw [w64_succ (by omega)]
    have i1 := bestL_eq z hn n (k + 1) F (k : Int) (by omega) (by omega)
    have i2 := bestL_eq z hn n (k + 1) F b (by omega) hb
    rw [i1, i2]
    by_cases h : b = -1
    · have e1 : (b == (-1 : Int)) = true := by simpa using h
      rw [e1, decide_eq_true (show b < 0 by omega)]
      simp only [cond_true]
    · have e1 : (b == (-1 : Int)) = false := by simpa using h
      rw [e1, decide_eq_false (show ¬ b < 0 by omega)]
      simp only [better_eq]
theorem best_eq (z : List PresPres) (hn : z.length ≤ 1000) : p_ref23_Best z = p_pres_Best z := by
  unfold p_ref23_Best p_pres_Best
  have := bestL_eq z hn z.length 0 fuel (-1) (by omega) (by omega)
  have z0 : ((0 : Nat) : Int) = 0 := rfl
  rw [z0] at this
  rw [this]
theorem refOf_l (u : ByteArray) (st : BookState) (hn : st.Rows.length ≤ 1000) (hs : smallB st.Rows) (hc : bookCheck st.Seq st.Rows = 0) : ∀ (n k F : Nat) (acc : List BookRow), k + n = st.Rows.length → n < F → acc.length ≤ k →
    p_ref24_Of_l1 u st F acc k = some (acc ++ (st.Rows.drop k).filter (fun x => x.User.toList == u.toList), (st.Rows.length : Int))
  | 0, k, F + 1, acc, hk, hF, ha => by
    have e : st.Rows.drop k = [] := List.drop_of_length_le (by omega)
    have : k = st.Rows.length := by omega
    rw [p_ref24_Of_l1, lt_ff (by omega), e, this]; simp
  | n + 1, k, F + 1, acc, hk, hF, ha => by
    have hlt : k < st.Rows.length := by omega
    rw [p_ref24_Of_l1, lt_tt hlt, ref_check_p st hn hs, hc, at_lt hlt, drop_at hlt]
    simp only [cond_true, Option.bind_some, beq_self_eq_true]
    rw [w64_succ (show k ≤ 1000000 by omega)]
    cases h : st.Rows[k].User.toList == u.toList with
    | true =>
      simp only [cond_true]
      rw [app_ok (by simp; omega)]
      simp only [Option.bind_some]
      rw [refOf_l u st hn hs hc n (k + 1) F _ (by omega) (by omega) (by simp; omega), List.filter_cons_of_pos (by simpa using h)]
      simp
    | false =>
      simp only [cond_false]
      rw [refOf_l u st hn hs hc n (k + 1) F _ (by omega) (by omega) (by omega), List.filter_cons_of_neg (by simpa using h)]
theorem refOf_p {st : BookState} {u : ByteArray} (hn : st.Rows.length ≤ 1000) (hs : smallB st.Rows) : p_ref24_Of st u = some (ofL st.Seq st.Rows u) := by
  have z0 : ((0 : Nat) : Int) = 0 := rfl
  unfold p_ref24_Of ofL
  by_cases hc : bookCheck st.Seq st.Rows = 0
  · have := refOf_l u st hn hs hc st.Rows.length 0 fuel [] (by omega) (by have := fuel_pos; omega) (by simp)
    rw [z0, List.drop_zero] at this
    rw [this, if_neg (by simpa using hc)]; simp
  · rw [if_pos hc]
    obtain ⟨F, hF⟩ : ∃ F, fuel = F + 1 := ⟨99999999, rfl⟩
    rw [hF, p_ref24_Of_l1]
    have e : (bookCheck st.Seq st.Rows == 0) = false := by simpa using hc
    by_cases h : 0 < st.Rows.length
    · rw [decide_eq_true (show (0 : Int) < (st.Rows.length : Int) by omega), ref_check_p st hn hs]
      simp only [cond_true, Option.bind_some, e, cond_false]
    · rw [decide_eq_false (show ¬ (0 : Int) < (st.Rows.length : Int) by omega)]; rfl
theorem refBestRows_l (rows : List BookRow) (hn : rows.length ≤ 1000) : ∀ (n k F : Nat) (acc : List PresPres), k + n = rows.length → n < F → acc.length = k →
    p_ref24_Best_l1 rows F acc k = some (acc ++ (rows.drop k).map BookRow.P, (rows.length : Int))
  | 0, k, F + 1, acc, hk, hF, ha => by
    have e : rows.drop k = [] := List.drop_of_length_le (by omega)
    have : k = rows.length := by omega
    rw [p_ref24_Best_l1, lt_ff (by omega), e, this]; simp
  | n + 1, k, F + 1, acc, hk, hF, ha => by
    have hlt : k < rows.length := by omega
    rw [p_ref24_Best_l1, lt_tt hlt, at_lt hlt, drop_at hlt]
    simp only [cond_true, Option.bind_some]
    rw [w64_succ (show k ≤ 1000000 by omega), app_ok (by simp; omega)]
    simp only [Option.bind_some]
    rw [refBestRows_l rows hn n (k + 1) F _ (by omega) (by omega) (by simp; omega), List.map_cons, List.append_assoc]; rfl
theorem ofL_len (seq : Int) (rows : List BookRow) (u : ByteArray) : (ofL seq rows u).length ≤ rows.length := by
  unfold ofL
  split
  · simp
  · exact List.length_filter_le _ _
theorem refBest_p {st : BookState} {u : ByteArray} (hn : st.Rows.length ≤ 1000) (hs : smallB st.Rows) : p_ref24_Best st u = p_book_Best st u := by
  have z0 : ((0 : Nat) : Int) = 0 := rfl
  have hl := ofL_len st.Seq st.Rows u
  unfold p_ref24_Best p_book_Best
  rw [refOf_p hn hs, of_p hn hs]
  simp only [Option.bind_some]
  generalize ofL st.Seq st.Rows u = L at *
  have h1 := refBestRows_l L (by omega) L.length 0 fuel [] (by omega) (by have := fuel_pos; omega) rfl
  have h2 := bestRows_l L (by omega) L.length 0 fuel [] (by omega) (by have := fuel_pos; omega) rfl
  rw [z0, List.drop_zero] at h1 h2
  rw [h1, h2]
  simp only [Option.bind_some, List.nil_append]
  rw [best_eq _ (by rw [List.length_map]; omega)]
/-- p_book_Best tells something. -/
theorem best_some (z : List PresPres) (hn : z.length ≤ 1000) : ∀ (n k F : Nat) (b : Int), k + n = z.length → n < F → -1 ≤ b ∧ b < k → ∃ b' : Int, p_pres_Best_l1 z z z.length F b k = some (b', (z.length : Int)) ∧ -1 ≤ b' ∧ b' < z.length
  | 0, k, F + 1, b, hk, hF, hb => by
    have : k = z.length := by omega
    subst this
    rw [p_pres_Best_l1, lt_ff (Nat.le_refl _)]
    exact ⟨b, rfl, hb.1, hb.2⟩
  | n + 1, k, F + 1, b, hk, hF, hb => by
    have hlt : k < z.length := by omega
    rw [p_pres_Best_l1, lt_tt hlt, at_lt hlt]
    simp only [cond_true, Option.bind_some]
    rw [w64_succ (show k ≤ 1000000 by omega)]
    have new := best_some z hn n (k + 1) F (k : Int) (by omega) (by omega) (by omega)
    have old := best_some z hn n (k + 1) F b (by omega) (by omega) (by omega)
    cases z[k].On with
    | false => exact old
    | true =>
      simp only [cond_true]
      cases hb1 : (b == (-1 : Int)) with
      | true => exact new
      | false =>
        have hb2 : b ≠ -1 := by simpa using hb1
        obtain ⟨m, rfl⟩ := Int.eq_ofNat_of_zero_le (show 0 ≤ b by omega)
        simp only [cond_false]
        rw [at_lt (show m < z.length by omega)]
        simp only [Option.bind_some]
        obtain ⟨v, hv⟩ : ∃ v, p_pres_Better z[k] z[m] = some v := by
          unfold p_pres_Better p_pres_Newer
          cases z[k].On <;> cases z[m].On <;> cases (z[k].Prio == z[m].Prio) <;> exact ⟨_, rfl⟩
        rw [hv]
        simp only [Option.bind_some]
        cases v with
        | true => exact new
        | false => exact old
theorem best_any {st : BookState} {u : ByteArray} (hn : st.Rows.length ≤ 1000) (hs : smallB st.Rows) : ∃ r, p_book_Best st u = some r := by
  have z0 : ((0 : Nat) : Int) = 0 := rfl
  have hl := ofL_len st.Seq st.Rows u
  unfold p_book_Best
  rw [of_p hn hs]
  simp only [Option.bind_some]
  generalize ofL st.Seq st.Rows u = L at *
  have h2 := bestRows_l L (by omega) L.length 0 fuel [] (by omega) (by have := fuel_pos; omega) rfl
  rw [z0, List.drop_zero] at h2
  rw [h2]
  simp only [Option.bind_some, List.nil_append]
  unfold p_pres_Best
  obtain ⟨b, e, h3, h4⟩ := best_some (L.map BookRow.P) (by rw [List.length_map]; omega) (L.map BookRow.P).length 0 fuel (-1) (by omega) (by rw [List.length_map]; have := fuel_pos; omega) (by omega)
  rw [z0] at e
  rw [e]
  rw [List.length_map] at h4
  simp only [Option.bind_some]
  by_cases hb : b < 0
  · rw [decide_eq_true hb]; exact ⟨_, rfl⟩
  · obtain ⟨m, rfl⟩ := Int.eq_ofNat_of_zero_le (show 0 ≤ b by omega)
    rw [decide_eq_false hb, at_lt (show m < L.length by omega)]; exact ⟨_, rfl⟩
/-- the next row. -/
theorem refNext_l (key : ByteArray) (st : BookState) (hn : st.Rows.length ≤ 1000) (hs : smallB st.Rows) (hc : bookCheck st.Seq st.Rows = 0) : ∀ (n k F : Nat), k + n = st.Rows.length → n < F →
    p_ref24_Next_l1 key st F k = some (match st.Rows[k + (st.Rows.drop k).findIdx (fun r => decide (0 < cmpR r key))]? with | some x => .inl (x, true) | none => .inr (st.Rows.length : Int))
  | 0, k, F + 1, hk, hF => by
    have e : st.Rows.drop k = [] := List.drop_of_length_le (by omega)
    have : k = st.Rows.length := by omega
    rw [p_ref24_Next_l1, lt_ff (by omega), e, this]; simp
  | n + 1, k, F + 1, hk, hF => by
    have hlt : k < st.Rows.length := by omega
    rw [p_ref24_Next_l1, lt_tt hlt, ref_check_p st hn hs, hc, at_lt hlt, drop_at hlt, List.findIdx_cons]
    simp only [cond_true, Option.bind_some, beq_self_eq_true, rkeyR_p (hs _ (List.getElem_mem hlt))]
    rw [eq_cmp, cmp_less, ByteArray.toList_eq, ByteArray.toList_eq]
    have hcm : cmpR st.Rows[k] key = Lib.compareBytes (keyR st.Rows[k]).data.toList key.data.toList := rfl
    rw [hcm]
    generalize Lib.compareBytes (keyR st.Rows[k]).data.toList key.data.toList = c
    by_cases h : 0 < c
    · have e1 : (decide (c < 0) || c == 0) = false := by
        rw [decide_eq_false (show ¬ c < 0 by omega)]
        have : c ≠ 0 := by omega
        simpa using this
      rw [e1, decide_eq_true h]
      simp only [cond_false, cond_true, Nat.add_zero]
      rw [List.getElem?_eq_getElem hlt]
    · have e1 : (decide (c < 0) || c == 0) = true := by
        rcases Int.lt_trichotomy c 0 with g | g | g
        · rw [decide_eq_true g]; rfl
        · rw [g]; rfl
        · exact absurd g h
      rw [e1, decide_eq_false h]
      simp only [cond_false, cond_true]
      rw [w64_succ (by omega), refNext_l key st hn hs hc n (k + 1) F (by omega) (by omega)]
      rw [show k + 1 + (st.Rows.drop (k + 1)).findIdx (fun r => decide (0 < cmpR r key)) = k + ((st.Rows.drop (k + 1)).findIdx (fun r => decide (0 < cmpR r key)) + 1) by omega]
theorem idx_is {α : Type} {p : α → Bool} {l : List α} {m : Nat} (hm : m ≤ l.length) (h1 : ∀ i (h : i < l.length), i < m → p l[i] = false) (h2 : ∀ h : m < l.length, p l[m] = true) : l.findIdx p = m := by
  rcases Nat.lt_trichotomy (l.findIdx p) m with h | h | h
  · have hx := List.findIdx_getElem (p := p) (xs := l) (w := by omega)
    rw [h1 _ (by omega) h] at hx; cases hx
  · exact h
  · have hml : m < l.length := Nat.lt_of_lt_of_le h List.findIdx_le_length
    have := List.not_of_lt_findIdx h
    rw [h2 hml] at this; simp at this
theorem next_idx {seq : Int} {rows : List BookRow} (hc : bookCheck seq rows = 0) (key : ByteArray) : (rows.findIdx fun r => decide (0 < cmpR r key)) = if foundB rows key (posL rows key) = true then posL rows key + 1 else posL rows key := by
  have hs := ord_sorted (check_ord hc)
  have hp := stands hs key
  have hle := hp.le
  have at_pos : ∀ h : posL rows key < rows.length, foundB rows key (posL rows key) = (cmpR rows[posL rows key] key == 0) := fun h => by
    unfold foundB; rw [List.getElem?_eq_getElem h]
  cases hf : foundB rows key (posL rows key) with
  | true =>
    have hlt := found_lt hf
    have e := at_pos hlt
    rw [hf] at e
    have e0 : cmpR rows[posL rows key] key = 0 := by simpa using e.symm
    rw [if_pos rfl]
    refine idx_is hlt (fun i h hi => ?_) fun h => ?_
    · rcases Nat.lt_or_ge i (posL rows key) with h1 | h1
      · have := hp.lt i h h1; simp; omega
      · have : i = posL rows key := by omega
        subst this; simp [e0]
    · have h1 := hs (posL rows key) (posL rows key + 1) h (by omega)
      have e1 := cmp_eq0 (show Lib.compareBytes (keyR rows[posL rows key]).data.toList key.data.toList = 0 from e0)
      have h2 : Lib.compareBytes (keyR rows[posL rows key]).data.toList (keyR rows[posL rows key + 1]).data.toList < 0 := h1
      rw [e1] at h2
      have h3 := cmp_anti key.data.toList (keyR rows[posL rows key + 1]).data.toList
      have h4 : 0 < Lib.compareBytes (keyR rows[posL rows key + 1]).data.toList key.data.toList := by omega
      exact decide_eq_true h4
  | false =>
    rw [if_neg (by simp)]
    refine idx_is hle (fun i h hi => ?_) fun h => ?_
    · have := hp.lt i h hi; simp; omega
    · have h1 := hp.ge _ h (Nat.le_refl _)
      have e := at_pos h
      rw [hf] at e
      have e0 : cmpR rows[posL rows key] key ≠ 0 := by simpa using e.symm
      simp; omega
theorem refNext_p {st : BookState} {key : ByteArray} (hn : st.Rows.length ≤ 1000) (hs : smallB st.Rows) : p_ref24_Next st key = some (nxtL st.Seq st.Rows key) := by
  have z0 : ((0 : Nat) : Int) = 0 := rfl
  unfold p_ref24_Next nxtL
  by_cases hc : bookCheck st.Seq st.Rows = 0
  · have := refNext_l key st hn hs hc st.Rows.length 0 fuel (by omega) (by have := fuel_pos; omega)
    rw [z0, List.drop_zero, Nat.zero_add, next_idx hc] at this
    have hc' : ¬ (bookCheck st.Seq st.Rows ≠ 0) := by simpa using hc
    rw [this, if_neg hc']
    unfold rowAt
    cases st.Rows[if foundB st.Rows key (posL st.Rows key) = true then posL st.Rows key + 1 else posL st.Rows key]? <;> rfl
  · rw [if_pos hc]
    obtain ⟨F, hF⟩ : ∃ F, fuel = F + 1 := ⟨99999999, rfl⟩
    rw [hF, p_ref24_Next_l1]
    have e : (bookCheck st.Seq st.Rows == 0) = false := by simpa using hc
    by_cases h : 0 < st.Rows.length
    · rw [decide_eq_true (show (0 : Int) < (st.Rows.length : Int) by omega), ref_check_p st hn hs]
      simp only [cond_true, Option.bind_some, e, cond_false]
    · rw [decide_eq_false (show ¬ (0 : Int) < (st.Rows.length : Int) by omega)]; rfl
/-- users. -/
def uzs (rows : List BookRow) : List ByteArray := (Lib.compact (rows.map fun r => r.User.data.toList)).map fun l => ⟨l.toArray⟩
theorem uzs_snoc (rows : List BookRow) (x : BookRow) : uzs (rows ++ [x]) = uzs rows ++ (if (rows.map fun r => r.User.data.toList).getLast? = some x.User.data.toList then [] else [x.User]) := by
  unfold uzs
  rw [List.map_append, List.map_singleton, compact_snoc, List.map_append]
  congr 1
  split
  · rfl
  · rfl
theorem refUsers_l (st : BookState) (hn : st.Rows.length ≤ 1000) (hs : smallB st.Rows) (hc : bookCheck st.Seq st.Rows = 0) : ∀ (n k F : Nat), k + n = st.Rows.length → n < F →
    p_ref24_Users_l1 st F (uzs (st.Rows.take k)) k = some (uzs st.Rows, (st.Rows.length : Int))
  | 0, k, F + 1, hk, hF => by
    have : k = st.Rows.length := by omega
    subst this
    rw [p_ref24_Users_l1, lt_ff (Nat.le_refl _), List.take_length]; rfl
  | n + 1, k, F + 1, hk, hF => by
    have hlt : k < st.Rows.length := by omega
    have ih := refUsers_l st hn hs hc n (k + 1) F (by omega) (by omega)
    have hlen : (uzs (st.Rows.take k)).length ≤ k := by
      unfold uzs
      rw [List.length_map]
      have := Lib.compact_length_le ((st.Rows.take k).map fun r => r.User.data.toList)
      rw [List.length_map, List.length_take] at this; omega
    rw [List.take_succ_eq_append_getElem hlt, uzs_snoc] at ih
    rw [p_ref24_Users_l1, lt_tt hlt, ref_check_p st hn hs, hc]
    simp only [cond_true, Option.bind_some, beq_self_eq_true]
    rw [w64_succ (by omega)]
    cases k with
    | zero =>
      have e0 : (((0 : Nat) : Int) == 0) = true := rfl
      rw [e0, at_lt hlt]
      simp only [cond_true, Option.bind_some]
      have hz : uzs (List.take 0 st.Rows) = [] := rfl
      rw [app_ok (by rw [hz]; simp)]
      simp only [Option.bind_some]
      simp only [List.take_zero, List.map_nil, List.getLast?_nil, reduceCtorEq, if_false] at ih
      exact ih
    | succ j =>
      have e0 : (((j + 1 : Nat) : Int) == 0) = false := by
        have : ((j + 1 : Nat) : Int) ≠ 0 := by omega
        simpa using this
      have hj : j < st.Rows.length := by omega
      have e1 : w64 (((j + 1 : Nat) : Int) - 1) = (j : Int) := by rw [w64_id (by omega)]; omega
      have hlast : ((st.Rows.take (j + 1)).map fun r => r.User.data.toList).getLast? = some st.Rows[j].User.data.toList := by
        rw [List.take_succ_eq_append_getElem hj, List.map_append, List.map_singleton, List.getLast?_concat]
      rw [hlast] at ih
      rw [e0, e1, at_lt hj, at_lt hlt]
      simp only [cond_false, Option.bind_some]
      rw [ByteArray.toList_eq, ByteArray.toList_eq]
      by_cases h : st.Rows[j].User.data.toList = st.Rows[j + 1].User.data.toList
      · rw [if_pos (by rw [h]), List.append_nil] at ih
        have : (st.Rows[j].User.data.toList == st.Rows[j + 1].User.data.toList) = true := by rw [h]; simp
        rw [this]
        exact ih
      · rw [if_neg (fun e => h (by injection e))] at ih
        have : (st.Rows[j].User.data.toList == st.Rows[j + 1].User.data.toList) = false := by simpa using h
        rw [this]
        simp only [cond_false]
        rw [app_ok (by simp; omega)]
        exact ih
theorem refUsers_p {st : BookState} (hn : st.Rows.length ≤ 1000) (hs : smallB st.Rows) : p_ref24_Users st = p_book_Users st := by
  have z0 : ((0 : Nat) : Int) = 0 := rfl
  by_cases hc : bookCheck st.Seq st.Rows = 0
  · rw [users_p hn hs hc]
    unfold p_ref24_Users
    have := refUsers_l st hn hs hc st.Rows.length 0 fuel (by omega) (by have := fuel_pos; omega)
    rw [z0, List.take_zero] at this
    have hz : uzs [] = [] := rfl
    rw [hz] at this
    rw [this]; rfl
  · unfold p_ref24_Users p_book_Users
    rw [check_p st hn hs]
    have hb : (bookCheck st.Seq st.Rows != 0) = true := by simpa using hc
    obtain ⟨F, hF⟩ : ∃ F, fuel = F + 1 := ⟨99999999, rfl⟩
    rw [hF, p_ref24_Users_l1]
    have e : (bookCheck st.Seq st.Rows == 0) = false := by simpa using hc
    by_cases h : 0 < st.Rows.length
    · rw [decide_eq_true (show (0 : Int) < (st.Rows.length : Int) by omega), ref_check_p st hn hs]
      simp only [cond_true, Option.bind_some, e, cond_false, hb]
    · rw [decide_eq_false (show ¬ (0 : Int) < (st.Rows.length : Int) by omega)]
      simp only [cond_false, Option.bind_some, hb, cond_true]
theorem users_any {st : BookState} (hn : st.Rows.length ≤ 1000) (hs : smallB st.Rows) : ∃ l, p_book_Users st = some l ∧ l.length ≤ 1000 := by
  by_cases hc : bookCheck st.Seq st.Rows = 0
  · refine ⟨_, users_p hn hs hc, ?_⟩
    rw [List.length_map]
    have := Lib.compact_length_le (zsU st.Rows)
    unfold zsU at this ⊢
    rw [List.length_map] at this; omega
  · refine ⟨[], ?_, by simp⟩
    unfold p_book_Users
    rw [check_p st hn hs]
    have hb : (bookCheck st.Seq st.Rows != 0) = true := by simpa using hc
    simp [hb]
theorem texts_l (l : List ByteArray) (hn : l.length ≤ 1000) : ∀ (n k F : Nat), k + n = l.length → n < F → p_ref01_SameTexts_l1 l l F k = some (.inr (l.length : Int))
  | 0, k, F + 1, hk, hF => by
    have : k = l.length := by omega
    rw [p_ref01_SameTexts_l1, lt_ff (by omega), this]; rfl
  | n + 1, k, F + 1, hk, hF => by
    have hlt : k < l.length := by omega
    rw [p_ref01_SameTexts_l1, lt_tt hlt, at_lt hlt]
    simp only [cond_true, Option.bind_some, beq_self_eq_true]
    rw [w64_succ (by omega)]
    exact texts_l l hn n (k + 1) F (by omega) (by omega)
theorem texts_p (l : List ByteArray) (hn : l.length ≤ 1000) : p_ref01_SameTexts l l = some true := by
  unfold p_ref01_SameTexts
  have := texts_l l hn l.length 0 fuel (by omega) (by have := fuel_pos; omega)
  have z0 : ((0 : Nat) : Int) = 0 := rfl
  rw [z0] at this
  simp [this]
/-- Same. -/
theorem eqRows_l (a b : List BookRow) : ∀ (F : Nat) (k : Int), p_ref24_SameRows_l1 a b F k = p_slices_Equal_book_Row_l1 a b a.length F k
  | 0, k => rfl
  | F + 1, k => by
    rw [p_ref24_SameRows_l1, p_slices_Equal_book_Row_l1]
    simp only [eqRows_l a b F]
theorem same_eq (a b : BookState) : p_ref24_Same a b = p_book_Same a b := by
  unfold p_ref24_Same p_book_Same p_ref24_SameRows p_slices_Equal_book_Row
  simp only [eqRows_l]
  all_goals rfl
theorem equal_some_l (a b : List BookRow) (h : a.length = b.length) (hn : a.length ≤ 1000) : ∀ (n k F : Nat), k + n = a.length → n < F → ∃ r, p_slices_Equal_book_Row_l1 a b a.length F k = some r
  | 0, k, F + 1, hk, hF => by
    rw [p_slices_Equal_book_Row_l1, lt_ff (by omega)]; exact ⟨_, rfl⟩
  | n + 1, k, F + 1, hk, hF => by
    have hlt : k < a.length := by omega
    rw [p_slices_Equal_book_Row_l1, lt_tt hlt, at_lt hlt, at_lt (show k < b.length by omega)]
    simp only [cond_true, Option.bind_some]
    rw [w64_succ (by omega)]
    obtain ⟨r, hr⟩ := equal_some_l a b h hn n (k + 1) F (by omega) (by omega)
    rw [hr]
    have go : ∀ t : Bool, ∃ r_1, (bif t then some r else some (Sum.inl false)) = some r_1 := fun t => by cases t <;> exact ⟨_, rfl⟩
    exact go _
theorem same_any {a b : BookState} (hn : a.Rows.length ≤ 1000) : ∃ r, p_book_Same a b = some r := by
  unfold p_book_Same p_slices_Equal_book_Row
  have z0 : ((0 : Nat) : Int) = 0 := rfl
  by_cases h : a.Rows.length = b.Rows.length
  · obtain ⟨r, hr⟩ := equal_some_l a.Rows b.Rows h hn a.Rows.length 0 fuel (by omega) (by have := fuel_pos; omega)
    rw [z0] at hr
    rw [hr]
    cases (a.Seq == b.Seq) <;> cases ((a.Rows.length : Int) != (b.Rows.length : Int)) <;> cases r <;> exact ⟨_, rfl⟩
  · have e : ((a.Rows.length : Int) != (b.Rows.length : Int)) = true := by simp; omega
    rw [e]
    cases (a.Seq == b.Seq) <;> exact ⟨_, rfl⟩
theorem bookTells_pure (st q : BookState) (n : Ar3_ByteArray) : p_law24_BookTells st q n = some true := by
  unfold p_law24_BookTells
  rcases light_p st with hl | ⟨hl, hn, hs⟩
  · rw [hl, aw24]; rfl
  rcases light_p q with hl2 | ⟨hl2, hn2, hs2⟩
  · rw [hl, hl2, aw24]; rfl
  rw [hl, hl2]
  simp only [Option.bind_some, cond_true]
  by_cases h1 : n.a0.size ≤ 100
  · by_cases h2 : n.a1.size ≤ 100
    · by_cases h3 : n.a2.size ≤ 100
      · rw [decide_eq_false (show ¬ (100 : Int) < (n.a0.size : Int) by omega), decide_eq_false (show ¬ (100 : Int) < (n.a1.size : Int) by omega), decide_eq_false (show ¬ (100 : Int) < (n.a2.size : Int) by omega)]
        simp only [cond_false]
        obtain ⟨b, hb⟩ := best_any (st := st) (u := n.a0) (by omega) hs
        obtain ⟨us, hu, hul⟩ := users_any (st := st) (by omega) hs
        obtain ⟨sm, hsm⟩ := same_any (a := st) (b := q) (by omega)
        have hol := ofL_len st.Seq st.Rows n.a0
        rw [own_p st (by omega), own_p q (by omega)]
        simp only [Option.bind_some]
        rw [get_p (by omega) hs (by omega) (by omega), ref_get_p (by omega) hs (by omega) (by omega), refBest_p (by omega) hs, hb, next_p (by omega) hs, refNext_p (by omega) hs, check_p st (by omega) hs, ref_check_p st (by omega) hs, of_p (by omega) hs, refOf_p (by omega) hs, refUsers_p (by omega) hs, hu, same_eq, hsm]
        simp only [Option.bind_some]
        rw [rows_p _ (by simp), rows_p _ (by omega)]
        simp only [Option.bind_some]
        rw [sameRows_p _ (by omega), texts_p us hul]
        have g0 : ∀ x y : BookRow, at? [x, y] (0 : Int) = some x := fun _ _ => rfl
        have g1 : ∀ x y : BookRow, at? [x, y] (1 : Int) = some y := fun _ _ => rfl
        simp only [g0, g1, Option.bind_some, beq_self_eq_true, Bool.and_self, cond_true, aw24]
      · rw [decide_eq_false (show ¬ (100 : Int) < (n.a0.size : Int) by omega), decide_eq_false (show ¬ (100 : Int) < (n.a1.size : Int) by omega), decide_eq_true (show (100 : Int) < (n.a2.size : Int) by omega), aw24]; rfl
    · rw [decide_eq_false (show ¬ (100 : Int) < (n.a0.size : Int) by omega), decide_eq_true (show (100 : Int) < (n.a1.size : Int) by omega), aw24]; rfl
  · rw [decide_eq_true (show (100 : Int) < (n.a0.size : Int) by omega), aw24]; rfl
end Go.Proofs.YtljeinlapkgjeaaGreat
/- That the program's functions yield what the plain ones tell (written by a program of mine). -/
namespace Go.Proofs.YtljeinlapkgjeaaGreat
open Go.RowKit
def gc7 : BCode := (.seq (.reg 1 [⟨(some 1), .bx (.tmp 0), none, 0⟩, ⟨(some 2), .mv (.const (.bool false)), none, 1⟩] none 0 []) (.seq (.seq (.reg 0 [⟨(some 4), .fa 1 (.tmp 1), none, 0⟩, ⟨(some 5), .ld 1 false (.tmp 4), none, 0⟩, ⟨(some 6), .lens (.tmp 5), none, 0⟩, ⟨(some 7), .bin .gtr (.tmp 6) (.const (.int .i64 20)), none, 0⟩] none 0 []) (.cond (.tmp 7) (.seq (.reg 0 [⟨(some 2), .mv (.const (.bool false)), none, 0⟩] none 0 []) .ret) .skip)) (.seq (.seq (.reg 0 [⟨(some 3), .mv (.const (.int .i64 0)), none, 0⟩] none 0 []) (.block 0 (.loop (.seq (.seq (.reg 0 [⟨(some 8), .mv (.tmp 3), none, 0⟩, ⟨(some 9), .fa 1 (.tmp 1), none, 0⟩, ⟨(some 10), .ld 1 false (.tmp 9), none, 0⟩, ⟨(some 11), .lens (.tmp 10), none, 0⟩, ⟨(some 12), .bin .lss (.tmp 8) (.tmp 11), none, 0⟩] none 0 []) (.cond (.tmp 12) .skip (.exit 0))) (.seq (.block 1 (.seq (.reg 0 [⟨(some 15), .fa 1 (.tmp 1), none, 0⟩, ⟨(some 16), .ld 1 false (.tmp 15), none, 0⟩, ⟨(some 17), .mv (.tmp 3), none, 0⟩, ⟨(some 18), .ixs 6 (.tmp 16) (.tmp 17), none, 0⟩, ⟨(some 19), .fa 0 (.tmp 18), none, 0⟩, ⟨(some 20), .ld 1 false (.tmp 19), none, 0⟩, ⟨(some 21), .lent (.tmp 20), none, 0⟩, ⟨(some 22), .bin .gtr (.tmp 21) (.const (.int .i64 100)), none, 0⟩, ⟨(some 23), .mv (.tmp 22), none, 0⟩, ⟨(some 24), .fa 1 (.tmp 1), (some (23, false)), 0⟩, ⟨(some 25), .ld 1 false (.tmp 24), (some (23, false)), 0⟩, ⟨(some 26), .mv (.tmp 3), (some (23, false)), 0⟩, ⟨(some 27), .ixs 6 (.tmp 25) (.tmp 26), (some (23, false)), 0⟩, ⟨(some 28), .fa 1 (.tmp 27), (some (23, false)), 0⟩, ⟨(some 29), .ld 1 false (.tmp 28), (some (23, false)), 0⟩, ⟨(some 30), .lent (.tmp 29), (some (23, false)), 0⟩, ⟨(some 31), .bin .gtr (.tmp 30) (.const (.int .i64 100)), (some (23, false)), 0⟩, ⟨(some 32), .pick (.tmp 23) (.const (.bool true)) (.tmp 31), none, 0⟩] none 0 []) (.cond (.tmp 32) (.seq (.reg 0 [⟨(some 2), .mv (.const (.bool false)), none, 0⟩] none 0 []) .ret) .skip))) (.reg 0 [⟨(some 13), .mv (.tmp 3), none, 0⟩, ⟨(some 14), .bin .add (.tmp 13) (.const (.int .i64 1)), none, 0⟩, ⟨(some 3), .mv (.tmp 14), none, 0⟩] none 0 [])))))) (.seq (.reg 0 [⟨(some 2), .mv (.const (.bool true)), none, 0⟩] none 0 []) .ret))))
theorem gc7_ok : compF Tryz.prog Tryz.f7 = some (gc7.er, 33, [.tmp 2]) := by unfold gc7; kernel_rfl
set_option maxRecDepth 100000 in
set_option maxHeartbeats 4000000 in
theorem p_ref24_Light_v {u1 : Bool} (a0 : BookState) : CallsO Tryz.prog 7 [.agg [.i a0.Seq, .sl (List.map BookRow.v a0.Rows) u1]] V.b (p_ref24_Light a0) := by
  refine callsO_comp mix Tryz.func7 gc7_ok fun r H => ?_
  rw [p_ref24_Light] at H
  conv => whnf
  refine LenQ.M ?_; conv => whnf
  refine tst_c H (fun b1 H => ?_) (fun b1 H => ?_)
  · conv => whnf
    exact fin0_c (enc := V.b) H (.inr rfl) (.cons (.tmp rfl) (.nil)) rfl rfl
  conv => whnf
  obtain ⟨o3, HL4, HQ5⟩ := bind_c H
  refine loop_c [2, 3] [8, 9, 10, 11, 12, 13, 14, 15, 16, 17, 18, 19, 20, 21, 22, 23, 24, 25, 26, 27, 28, 29, 30, 31, 32, 4] [8, 9, 10, 11, 12, 13, 14, 15, 16, 17, 18, 19, 20, 21, 22, 23, 24, 25, 26, 27, 28, 29, 30, 31, 32, 4] (fun n vals st => (∃ y7, p_ref24_Light_l1  a0 n y7 = some o3 ∧ vals = [.b false, .i y7] ∧ st = [.live [.i a0.Seq, .sl (List.map BookRow.v a0.Rows) u1] 0])) fuel 1 [] (⟨_, HL4, rfl, rfl⟩) (Nat.zero_le _) rfl (by kernel_rfl) (by kernel_rfl) rfl ⟨⟨rfl, rfl, rfl⟩, trivial⟩ ?_
  rintro (_ | n6) _ _ (⟨y7, H, rfl, rfl⟩)
  · rw [p_ref24_Light_l1] at H; cases H
  rw [p_ref24_Light_l1] at H
  conv => whnf
  refine LenQ.M ?_; conv => whnf
  refine tst_d H (fun b8 H => ?_) (fun b8 H => ?_)
  · conv => whnf
    obtain rfl := Option.some.inj H
    have H := HQ5
    try dsimp only at H
    exact fin0_c (enc := V.b) H (.inr rfl) (.cons (.tmp rfl) (.nil)) rfl rfl
  conv => whnf
  refine ixs_c (f := BookRow.v) H (fun _ => rfl) (fun x9 H => ?_); conv => whnf
  refine ⟨Nat.le_of_ble_eq_true rfl, ?_⟩; conv => whnf
  refine tst_c H (fun b10 H => ?_) (fun b10 H => ?_)
  · conv => whnf
    iterate 9 (refine Tst.T ?_; conv => whnf)
    obtain rfl := Option.some.inj H
    have H := HQ5
    try dsimp only at H
    exact fin0_c (enc := V.b) H (.inr rfl) (.cons (.tmp rfl) (.nil)) rfl rfl
  conv => whnf
  iterate 3 (refine Tst.F ?_; conv => whnf)
  refine ixs_c (f := BookRow.v) H (fun _ => rfl) (fun x11 H => ?_); conv => whnf
  refine Tst.F ?_; conv => whnf
  refine ⟨Nat.le_of_ble_eq_true rfl, ?_⟩; conv => whnf
  iterate 4 (refine Tst.F ?_; conv => whnf)
  refine tst_c H (fun b12 H => ?_) (fun b12 H => ?_)
  · conv => whnf
    obtain rfl := Option.some.inj H
    have H := HQ5
    try dsimp only at H
    exact fin0_c (enc := V.b) H (.inr rfl) (.cons (.tmp rfl) (.nil)) rfl rfl
  conv => whnf
  refine Ari.w ?_; conv => whnf
  exact again_c [8, 9, 10, 11, 12, 13, 14, 15, 16, 17, 18, 19, 20, 21, 22, 23, 24, 25, 26, 27, 28, 29, 30, 31, 32, 4] n6 1 [] (⟨_, H, rfl, rfl⟩) (Nat.lt_succ_self _) (Nat.zero_le _) rfl (by kernel_rfl) (by kernel_rfl) rfl ⟨⟨rfl, rfl, rfl⟩, trivial⟩
def gc74 : BCode := (.seq (.reg 0 [⟨(some 4), .mv (.const (.bool false)), none, 0⟩] none 0 []) (.seq (.reg 0 [⟨(some 5), .mv (.tmp 1), none, 0⟩, ⟨(some 6), .cl 87 [(.tmp 5)], none, 0⟩, ⟨(some 7), .bin .eql (.tmp 6) (.const (.int .i64 0)), none, 0⟩, ⟨(some 8), .mv (.tmp 7), none, 0⟩, ⟨(some 9), .mv (.tmp 0), (some (8, true)), 0⟩, ⟨(some 10), .cl 88 [(.tmp 9)], (some (8, true)), 0⟩, ⟨(some 11), .pick (.tmp 8) (.tmp 10) (.const (.bool false)), none, 0⟩, ⟨(some 4), .mv (.tmp 11), none, 0⟩] none 0 []) .ret))
theorem gc74_ok : compF Tryz.prog Tryz.f74 = some (gc74.er, 12, [.tmp 4]) := by unfold gc74; kernel_rfl
set_option maxRecDepth 100000 in
set_option maxHeartbeats 4000000 in
theorem p_pres_named_v (a0 : ByteArray) (a1 : ByteArray) : CallsO Tryz.prog 74 [.s a0, .s a1] V.b (p_pres_named a0 a1) := by
  refine callsO_comp mix Tryz.func74 gc74_ok fun r H => ?_
  rw [p_pres_named] at H
  conv => whnf
  refine ask_c (p_addr_Resource_v _) H rfl rfl (fun v1 H => ?_); conv => whnf
  refine tst_d H (fun b2 H => ?_) (fun b2 H => ?_)
  · conv => whnf
    iterate 2 (refine Tst.F ?_; conv => whnf)
    exact fin0_c (enc := V.b) H (.inr rfl) (.cons (.tmp rfl) (.nil)) rfl rfl
  conv => whnf
  refine Tst.T ?_; conv => whnf
  refine ask_c (p_addr_IsBare_v _) H rfl rfl (fun v3 H => ?_); conv => whnf
  refine Tst.T ?_; conv => whnf
  exact fin0_c (enc := V.b) H (.inr rfl) (.cons (.tmp rfl) (.nil)) rfl rfl
def gc49 : BCode := (.seq (.reg 0 [⟨(some 4), .mv (.const (.string ⟨#[]⟩)), none, 0⟩] none 0 []) (.seq (.seq (.reg 0 [⟨(some 5), .mv (.tmp 0), none, 0⟩, ⟨(some 6), .mv (.tmp 1), none, 0⟩, ⟨(some 7), .cl 74 [(.tmp 5), (.tmp 6)], none, 0⟩, ⟨(some 8), .un .not (.tmp 7), none, 0⟩] none 0 []) (.cond (.tmp 8) (.seq (.reg 0 [⟨(some 4), .mv (.const (.string ⟨#[]⟩)), none, 0⟩] none 0 []) .ret) .skip)) (.seq (.reg 0 [⟨(some 9), .mv (.tmp 0), none, 0⟩, ⟨(some 10), .bin .add (.tmp 9) (.const (.string ⟨#[32]⟩)), none, 0⟩, ⟨(some 11), .mv (.tmp 1), none, 0⟩, ⟨(some 12), .bin .add (.tmp 10) (.tmp 11), none, 0⟩, ⟨(some 4), .mv (.tmp 12), none, 0⟩] none 0 []) .ret)))
theorem gc49_ok : compF Tryz.prog Tryz.f49 = some (gc49.er, 13, [.tmp 4]) := by unfold gc49; kernel_rfl
set_option maxRecDepth 100000 in
set_option maxHeartbeats 4000000 in
theorem p_pres_Key_v (a0 : ByteArray) (a1 : ByteArray) : CallsO Tryz.prog 49 [.s a0, .s a1] V.s (p_pres_Key a0 a1) := by
  refine callsO_comp mix Tryz.func49 gc49_ok fun r H => ?_
  rw [p_pres_Key] at H
  conv => whnf
  refine ask_c (p_pres_named_v _ _) H rfl rfl (fun v1 H => ?_); conv => whnf
  refine Tst.not ?_
  refine tst_d H (fun b2 H => ?_) (fun b2 H => ?_)
  · conv => whnf
    exact fin0_c (enc := V.s) H (.inr rfl) (.cons (.tmp rfl) (.nil)) rfl rfl
  conv => whnf
  refine cat_c H (fun s3 H => ?_); conv => whnf
  refine cat_c H (fun s4 H => ?_); conv => whnf
  exact fin0_c (enc := V.s) H (.inr rfl) (.cons (.tmp rfl) (.nil)) rfl rfl
def gc54 : BCode := (.seq (.reg 1 [⟨(some 1), .bx (.tmp 0), none, 0⟩, ⟨(some 2), .mv (.const (.string ⟨#[]⟩)), none, 1⟩] none 0 []) (.seq (.reg 0 [⟨(some 3), .fa 0 (.tmp 1), none, 0⟩, ⟨(some 4), .ld 1 false (.tmp 3), none, 0⟩, ⟨(some 5), .fa 1 (.tmp 1), none, 0⟩, ⟨(some 6), .ld 1 false (.tmp 5), none, 0⟩, ⟨(some 7), .cl 49 [(.tmp 4), (.tmp 6)], none, 0⟩, ⟨(some 2), .mv (.tmp 7), none, 0⟩] none 0 []) .ret))
theorem gc54_ok : compF Tryz.prog Tryz.f54 = some (gc54.er, 8, [.tmp 2]) := by unfold gc54; kernel_rfl
set_option maxRecDepth 100000 in
set_option maxHeartbeats 4000000 in
theorem p_book_Row_key_v (a0 : BookRow) : CallsO Tryz.prog 54 [.agg [.s a0.User, .s a0.Res, .b a0.P.On, .i a0.P.Show, .i a0.P.Prio, .i a0.P.Seq]] V.s (p_book_Row_key a0) := by
  refine callsO_comp mix Tryz.func54 gc54_ok fun r H => ?_
  rw [p_book_Row_key] at H
  conv => whnf
  refine ask_c (p_pres_Key_v _ _) H rfl rfl (fun v1 H => ?_); conv => whnf
  exact fin0_c (enc := V.s) H (.inr rfl) (.cons (.tmp rfl) (.nil)) rfl rfl
def gc65 : BCode := (.seq (.reg 1 [⟨(some 1), .bx (.tmp 0), none, 0⟩, ⟨(some 2), .mv (.const (.bool false)), none, 1⟩] none 0 []) (.seq (.reg 0 [⟨(some 3), .ld 6 true (.tmp 1), none, 0⟩, ⟨(some 4), .cl 54 [(.tmp 3)], none, 0⟩, ⟨(some 5), .bin .eql (.tmp 4) (.const (.string ⟨#[]⟩)), none, 0⟩, ⟨(some 2), .mv (.tmp 5), none, 0⟩] none 0 []) .ret))
theorem gc65_ok : compF Tryz.prog Tryz.f65 = some (gc65.er, 6, [.tmp 2]) := by unfold gc65; kernel_rfl
set_option maxRecDepth 100000 in
set_option maxHeartbeats 4000000 in
theorem p_book_Check_1_v (a0 : BookRow) : CallsO Tryz.prog 65 [.agg [.s a0.User, .s a0.Res, .b a0.P.On, .i a0.P.Show, .i a0.P.Prio, .i a0.P.Seq]] V.b (p_book_Check_1 a0) := by
  refine callsO_comp mix Tryz.func65 gc65_ok fun r H => ?_
  rw [p_book_Check_1] at H
  conv => whnf
  refine ask_c (p_book_Row_key_v _) H rfl rfl (fun v1 H => ?_); conv => whnf
  exact fin0_c (enc := V.b) H (.inr rfl) (.cons (.tmp rfl) (.nil)) rfl rfl
def gc85 : BCode := (.seq (.reg 0 [⟨(some 4), .mv (.const (.int .i64 0)), none, 0⟩] none 0 []) (.seq (.seq (.reg 0 [⟨(some 6), .mv (.tmp 0), none, 0⟩, ⟨(some 7), .lens (.tmp 6), none, 0⟩, ⟨(some 8), .mv (.const (.int .i64 0)), none, 0⟩] none 0 []) (.block 0 (.loop (.seq (.reg 0 [⟨(some 9), .bin .lss (.tmp 8) (.tmp 7), none, 0⟩] none 0 []) (.seq (.cond (.tmp 9) .skip (.exit 0)) (.seq (.block 1 (.seq (.reg 0 [⟨(some 10), .mv (.tmp 8), none, 0⟩, ⟨(some 5), .mv (.tmp 10), none, 0⟩] none 0 []) (.seq (.reg 0 [⟨(some 11), .mv (.tmp 1), none, 0⟩, ⟨(some 12), .mv (.tmp 0), none, 0⟩, ⟨(some 13), .mv (.tmp 5), none, 0⟩, ⟨(some 14), .ixs 6 (.tmp 12) (.tmp 13), none, 0⟩, ⟨(some 15), .ld 6 true (.tmp 14), none, 0⟩, ⟨(some 16), .cv (.tmp 11) [(.tmp 15)], none, 0⟩] none 0 []) (.cond (.tmp 16) (.seq (.reg 0 [⟨(some 17), .mv (.tmp 5), none, 0⟩, ⟨(some 4), .mv (.tmp 17), none, 0⟩] none 0 []) .ret) .skip)))) (.reg 0 [⟨(some 18), .bin .add (.tmp 8) (.const (.int .i64 1)), none, 0⟩, ⟨(some 8), .mv (.tmp 18), none, 0⟩] none 0 []))))))) (.seq (.reg 0 [⟨(some 4), .mv (.const (.int .i64 (-1))), none, 0⟩] none 0 []) .ret)))
theorem gc85_ok : compF Tryz.prog Tryz.f85 = some (gc85.er, 19, [.tmp 4]) := by unfold gc85; kernel_rfl
set_option maxRecDepth 100000 in
set_option maxHeartbeats 4000000 in
theorem p_slices_IndexFunc_book_Row_v {u1 : Bool} (a0 : List BookRow) (a1 : BookRow → Option Bool) {a1_g : Nat} {a1_k : List V} (a1_h : Clo1 Tryz.prog a1_g a1_k BookRow.v V.b a1) : CallsO Tryz.prog 85 [.sl (List.map BookRow.v a0) u1, .clo (.func a1_g) a1_k] V.i (p_slices_IndexFunc_book_Row a0 a1) := by
  refine callsO_comp mix Tryz.func85 gc85_ok fun r H => ?_
  rw [p_slices_IndexFunc_book_Row] at H
  conv => whnf
  refine LenQ.M ?_; conv => whnf
  obtain ⟨o2, HL3, HQ4⟩ := bind_c H
  refine loop_c [4, 8] [5, 9, 10, 11, 12, 13, 14, 15, 16, 17, 18] [5, 9, 10, 11, 12, 13, 14, 15, 16, 17, 18] (fun n vals st => (∃ y6, p_slices_IndexFunc_book_Row_l1  a1 a0 (a0.length : Int) n y6 = some o2 ∧ vals = [.i (0 : Int), .i y6] ∧ st = [])) fuel 0 [] (⟨_, HL3, rfl, rfl⟩) (Nat.zero_le _) rfl (by simp only [maskF, setF, List.set_cons_zero, List.set_cons_succ, V.ren.renL, V.ren, renL_id _ a1_h.own] <;> rfl) (by simp only [maskF, setF, List.set_cons_zero, List.set_cons_succ, V.idlt.belowL, V.idlt, fun n => idltL_up (n := n) _ a1_h.own] <;> rfl) rfl trivial ?_
  rintro (_ | n5) _ _ (⟨y6, H, rfl, rfl⟩)
  · rw [p_slices_IndexFunc_book_Row_l1] at H; cases H
  rw [p_slices_IndexFunc_book_Row_l1] at H
  conv => whnf
  refine tst_d H (fun b7 H => ?_) (fun b7 H => ?_)
  · conv => whnf
    obtain rfl := Option.some.inj H
    have H := HQ4
    try dsimp only at H
    exact fin0_c (enc := V.i) H (.inr rfl) (.cons (.tmp rfl) (.nil)) rfl rfl
  conv => whnf
  refine ixs_c (f := BookRow.v) H (fun _ => rfl) (fun x8 H => ?_); conv => whnf
  refine askC_c a1_h H (.cons (fzagg (.cons (.id rfl) (.cons (.id rfl) (.cons (.id rfl) (.cons (.id rfl) (.cons (.id rfl) (.cons (.id rfl) (.nil))))))) rfl) (.nil)) (fun v9 H => ?_); conv => whnf
  refine tst_c H (fun b10 H => ?_) (fun b10 H => ?_)
  · conv => whnf
    obtain rfl := Option.some.inj H
    have H := HQ4
    try dsimp only at H
    exact fin0_c (enc := V.i) H (.inr rfl) (.cons (.tmp rfl) (.nil)) rfl rfl
  conv => whnf
  refine Ari.w ?_; conv => whnf
  exact again_c [5, 9, 10, 11, 12, 13, 14, 15, 16, 17, 18] n5 0 [] (⟨_, H, rfl, rfl⟩) (Nat.lt_succ_self _) (Nat.zero_le _) rfl (by simp only [maskF, setF, List.set_cons_zero, List.set_cons_succ, V.ren.renL, V.ren, renL_id _ a1_h.own] <;> rfl) (by simp only [maskF, setF, List.set_cons_zero, List.set_cons_succ, V.idlt.belowL, V.idlt, fun n => idltL_up (n := n) _ a1_h.own] <;> rfl) rfl trivial
def gc64 : BCode := (.seq (.reg 0 [⟨(some 4), .mv (.const (.bool false)), none, 0⟩] none 0 []) (.seq (.reg 0 [⟨(some 5), .mv (.tmp 0), none, 0⟩, ⟨(some 6), .mv (.tmp 1), none, 0⟩, ⟨(some 7), .cl 85 [(.tmp 5), (.tmp 6)], none, 0⟩, ⟨(some 8), .bin .geq (.tmp 7) (.const (.int .i64 0)), none, 0⟩, ⟨(some 4), .mv (.tmp 8), none, 0⟩] none 0 []) .ret))
theorem gc64_ok : compF Tryz.prog Tryz.f64 = some (gc64.er, 9, [.tmp 4]) := by unfold gc64; kernel_rfl
set_option maxRecDepth 100000 in
set_option maxHeartbeats 4000000 in
theorem p_slices_ContainsFunc_book_Row_v {u1 : Bool} (a0 : List BookRow) (a1 : BookRow → Option Bool) {a1_g : Nat} {a1_k : List V} (a1_h : Clo1 Tryz.prog a1_g a1_k BookRow.v V.b a1) : CallsO Tryz.prog 64 [.sl (List.map BookRow.v a0) u1, .clo (.func a1_g) a1_k] V.b (p_slices_ContainsFunc_book_Row a0 a1) := by
  refine callsO_comp mix Tryz.func64 gc64_ok fun r H => ?_
  rw [p_slices_ContainsFunc_book_Row] at H
  conv => whnf
  refine askF_c (p_slices_IndexFunc_book_Row_v _ _ a1_h) H (.cons (.c (.slw)) (.cons (.c (.id a1_h.own)) (.nil))) (fun v1 H => ?_); conv => whnf
  exact fin0_c (enc := V.b) H (.inr rfl) (.cons (.tmp rfl) (.nil)) rfl rfl
def gc79 : BCode := (.seq (.reg 0 [⟨(some 6), .mv (.const (.bool false)), none, 0⟩] none 0 []) (.seq (.reg 0 [⟨(some 7), .mv (.tmp 1), none, 0⟩, ⟨(some 8), .mv (.tmp 0), none, 0⟩, ⟨(some 9), .bin .leq (.tmp 7) (.tmp 8), none, 0⟩, ⟨(some 10), .mv (.tmp 9), none, 0⟩, ⟨(some 11), .mv (.tmp 0), (some (10, true)), 0⟩, ⟨(some 12), .mv (.tmp 2), (some (10, true)), 0⟩, ⟨(some 13), .bin .leq (.tmp 11) (.tmp 12), (some (10, true)), 0⟩, ⟨(some 14), .pick (.tmp 10) (.tmp 13) (.const (.bool false)), none, 0⟩, ⟨(some 6), .mv (.tmp 14), none, 0⟩] none 0 []) .ret))
theorem gc79_ok : compF Tryz.prog Tryz.f79 = some (gc79.er, 15, [.tmp 6]) := by unfold gc79; kernel_rfl
set_option maxRecDepth 100000 in
set_option maxHeartbeats 4000000 in
theorem p_pres_in_v (a0 : Int) (a1 : Int) (a2 : Int) : CallsO Tryz.prog 79 [.i a0, .i a1, .i a2] V.b (p_pres_in a0 a1 a2) := by
  refine callsO_comp mix Tryz.func79 gc79_ok fun r H => ?_
  rw [p_pres_in] at H
  conv => whnf
  refine tst_c H (fun b1 H => ?_) (fun b1 H => ?_)
  · conv => whnf
    iterate 3 (refine Tst.T ?_; conv => whnf)
    exact fin0_c (enc := V.b) H (.inr rfl) (.cons (.tmp rfl) (.nil)) rfl rfl
  conv => whnf
  iterate 3 (refine Tst.F ?_; conv => whnf)
  exact fin0_c (enc := V.b) H (.inr rfl) (.cons (.tmp rfl) (.nil)) rfl rfl
def gc55 : BCode := (.seq (.reg 1 [⟨(some 1), .bx (.tmp 0), none, 0⟩, ⟨(some 2), .mv (.const (.int .i64 0)), none, 1⟩] none 0 []) (.seq (.seq (.reg 0 [⟨(some 4), .fa 1 (.tmp 1), none, 0⟩, ⟨(some 5), .ld 1 false (.tmp 4), none, 0⟩, ⟨(some 6), .cl 79 [(.tmp 5), (.const (.int .i64 0)), (.const (.int .i64 4))], none, 0⟩, ⟨(some 7), .un .not (.tmp 6), none, 0⟩, ⟨(some 8), .mv (.tmp 7), none, 0⟩, ⟨(some 9), .fa 2 (.tmp 1), (some (8, false)), 0⟩, ⟨(some 10), .ld 1 false (.tmp 9), (some (8, false)), 0⟩, ⟨(some 11), .cl 79 [(.tmp 10), (.const (.int .i64 (-128))), (.const (.int .i64 127))], (some (8, false)), 0⟩, ⟨(some 12), .un .not (.tmp 11), (some (8, false)), 0⟩, ⟨(some 13), .pick (.tmp 8) (.const (.bool true)) (.tmp 12), none, 0⟩, ⟨(some 14), .mv (.tmp 13), none, 0⟩, ⟨(some 15), .fa 3 (.tmp 1), (some (14, false)), 0⟩, ⟨(some 16), .ld 1 false (.tmp 15), (some (14, false)), 0⟩, ⟨(some 17), .cl 79 [(.tmp 16), (.const (.int .i64 0)), (.const (.int .i64 1099511627776))], (some (14, false)), 0⟩, ⟨(some 18), .un .not (.tmp 17), (some (14, false)), 0⟩, ⟨(some 19), .pick (.tmp 14) (.const (.bool true)) (.tmp 18), none, 0⟩] none 0 []) (.cond (.tmp 19) (.seq (.reg 0 [⟨(some 2), .mv (.const (.int .i64 8)), none, 0⟩] none 0 []) .ret) .skip)) (.seq (.seq (.reg 1 [⟨(some 20), .fa 3 (.tmp 1), none, 0⟩, ⟨(some 21), .ld 1 false (.tmp 20), none, 0⟩, ⟨(some 22), .bd [(.lit (.bool false)), (.lit (.int .i64 0)), (.lit (.int .i64 0)), (.lit (.int .i64 0))] [(3, 1, (.tmp 21))], none, 0⟩, ⟨(some 3), .al (.agg [(.lit (.bool false)), (.lit (.int .i64 0)), (.lit (.int .i64 0)), (.lit (.int .i64 0))]), none, 0⟩, ⟨none, .st 4 (.tmp 3) (.tmp 22), none, 1⟩] none 0 []) (.seq (.reg 0 [⟨(some 23), .fa 0 (.tmp 1), none, 0⟩, ⟨(some 24), .ld 1 false (.tmp 23), none, 0⟩, ⟨(some 25), .un .not (.tmp 24), none, 0⟩, ⟨(some 26), .mv (.tmp 25), none, 0⟩, ⟨(some 27), .ld 4 true (.tmp 1), (some (26, true)), 0⟩, ⟨(some 28), .ld 4 true (.tmp 3), (some (26, true)), 0⟩, ⟨(some 29), .eqa true [0, 1, 1, 1] (.tmp 27) (.tmp 28), (some (26, true)), 0⟩, ⟨(some 30), .pick (.tmp 26) (.tmp 29) (.const (.bool false)), none, 0⟩] none 0 []) (.cond (.tmp 30) (.seq (.reg 0 [⟨(some 2), .mv (.const (.int .i64 4)), none, 0⟩] none 0 []) .ret) .skip))) (.seq (.reg 0 [⟨(some 2), .mv (.const (.int .i64 0)), none, 0⟩] none 0 []) .ret))))
theorem gc55_ok : compF Tryz.prog Tryz.f55 = some (gc55.er, 31, [.tmp 2]) := by unfold gc55; kernel_rfl
set_option maxRecDepth 100000 in
set_option maxHeartbeats 4000000 in
theorem p_pres_Check_v (a0 : PresPres) : CallsO Tryz.prog 55 [.agg [.b a0.On, .i a0.Show, .i a0.Prio, .i a0.Seq]] V.i (p_pres_Check a0) := by
  refine callsO_comp mix Tryz.func55 gc55_ok fun r H => ?_
  rw [p_pres_Check] at H
  conv => whnf
  refine ask_c (p_pres_in_v _ _ _) H rfl rfl (fun v1 H => ?_); conv => whnf
  refine Tst.not ?_
  refine tst_d H (fun b2 H => ?_) (fun b2 H => ?_)
  · conv => whnf
    iterate 10 (refine Tst.T ?_; conv => whnf)
    exact fin0_c (enc := V.i) H (.inr rfl) (.cons (.tmp rfl) (.nil)) rfl rfl
  conv => whnf
  iterate 2 (refine Tst.F ?_; conv => whnf)
  refine ask_c (p_pres_in_v _ _ _) H rfl rfl (fun v3 H => ?_); conv => whnf
  iterate 2 (refine Tst.F ?_; conv => whnf)
  refine Tst.not ?_
  refine tst_d H (fun b4 H => ?_) (fun b4 H => ?_)
  · conv => whnf
    iterate 5 (refine Tst.T ?_; conv => whnf)
    exact fin0_c (enc := V.i) H (.inr rfl) (.cons (.tmp rfl) (.nil)) rfl rfl
  conv => whnf
  iterate 2 (refine Tst.F ?_; conv => whnf)
  refine ask_c (p_pres_in_v _ _ _) H rfl rfl (fun v5 H => ?_); conv => whnf
  iterate 2 (refine Tst.F ?_; conv => whnf)
  refine Tst.not ?_
  refine tst_d H (fun b6 H => ?_) (fun b6 H => ?_)
  · conv => whnf
    exact fin0_c (enc := V.i) H (.inr rfl) (.cons (.tmp rfl) (.nil)) rfl rfl
  conv => whnf
  refine ⟨Nat.le_of_ble_eq_true rfl, ?_⟩; conv => whnf
  refine Tst.not ?_
  refine tst_c H (fun b7 H => ?_) (fun b7 H => ?_)
  · conv => whnf
    iterate 4 (refine Tst.F ?_; conv => whnf)
    exact fin0_c (enc := V.i) H (.inr rfl) (.cons (.tmp rfl) (.nil)) rfl rfl
  conv => whnf
  iterate 3 (refine Tst.T ?_; conv => whnf)
  refine Tst.not ?_
  refine tst_c H (fun b8 H => ?_) (fun b8 H => ?_)
  · conv => whnf
    exact fin0_c (enc := V.i) H (.inr rfl) (.cons (.tmp rfl) (.nil)) rfl rfl
  conv => whnf
  exact fin0_c (enc := V.i) H (.inr rfl) (.cons (.tmp rfl) (.nil)) rfl rfl
def gc66 : BCode := (.seq (.reg 1 [⟨(some 1), .bx (.tmp 0), none, 0⟩, ⟨(some 2), .mv (.const (.int .i64 0)), none, 1⟩] none 0 []) (.seq (.seq (.reg 0 [⟨(some 6), .fa 1 (.tmp 1), none, 0⟩, ⟨(some 7), .ld 1 false (.tmp 6), none, 0⟩, ⟨(some 8), .lens (.tmp 7), none, 0⟩, ⟨(some 9), .mv (.const (.int .i64 0)), none, 0⟩] none 0 []) (.block 0 (.loop (.seq (.reg 0 [⟨(some 10), .bin .lss (.tmp 9) (.tmp 8), none, 0⟩] none 0 []) (.seq (.cond (.tmp 10) .skip (.exit 0)) (.seq (.block 1 (.seq (.reg 1 [⟨(some 11), .ixs 6 (.tmp 7) (.tmp 9), none, 0⟩, ⟨(some 12), .ld 6 true (.tmp 11), none, 0⟩, ⟨(some 4), .al (.agg [(.lit (.string ⟨#[]⟩)), (.lit (.string ⟨#[]⟩)), (.lit (.bool false)), (.lit (.int .i64 0)), (.lit (.int .i64 0)), (.lit (.int .i64 0))]), none, 0⟩, ⟨none, .st 6 (.tmp 4) (.tmp 12), none, 1⟩] none 0 []) (.seq (.seq (.reg 0 [⟨(some 13), .fa 2 (.tmp 4), none, 0⟩, ⟨(some 14), .ld 4 true (.tmp 13), none, 0⟩, ⟨(some 15), .cl 55 [(.tmp 14)], none, 0⟩, ⟨(some 5), .mv (.tmp 15), none, 0⟩] none 0 []) (.seq (.reg 0 [⟨(some 16), .mv (.tmp 5), none, 0⟩, ⟨(some 17), .bin .neq (.tmp 16) (.const (.int .i64 0)), none, 0⟩] none 0 []) (.cond (.tmp 17) (.seq (.reg 0 [⟨(some 18), .mv (.tmp 5), none, 0⟩, ⟨(some 2), .mv (.tmp 18), none, 0⟩] none 0 []) .ret) .skip))) (.seq (.reg 0 [⟨(some 19), .fa 2 (.tmp 4), none, 0⟩, ⟨(some 20), .fa 0 (.tmp 19), none, 0⟩, ⟨(some 21), .ld 1 false (.tmp 20), none, 0⟩, ⟨(some 22), .un .not (.tmp 21), none, 0⟩] none 0 []) (.cond (.tmp 22) (.seq (.reg 0 [⟨(some 2), .mv (.const (.int .i64 4)), none, 0⟩] none 0 []) .ret) .skip))))) (.reg 0 [⟨(some 23), .bin .add (.tmp 9) (.const (.int .i64 1)), none, 0⟩, ⟨(some 9), .mv (.tmp 23), none, 0⟩] none 0 []))))))) (.seq (.reg 0 [⟨(some 2), .mv (.const (.int .i64 0)), none, 0⟩] none 0 []) .ret)))
theorem gc66_ok : compF Tryz.prog Tryz.f66 = some (gc66.er, 24, [.tmp 2]) := by unfold gc66; kernel_rfl
set_option maxRecDepth 100000 in
set_option maxHeartbeats 4000000 in
theorem p_book_State_errors_v {u1 : Bool} (a0 : BookState) : CallsO Tryz.prog 66 [.agg [.i a0.Seq, .sl (List.map BookRow.v a0.Rows) u1]] V.i (p_book_State_errors a0) := by
  refine callsO_comp mix Tryz.func66 gc66_ok fun r H => ?_
  rw [p_book_State_errors] at H
  conv => whnf
  refine LenQ.M ?_; conv => whnf
  obtain ⟨o2, HL3, HQ4⟩ := bind_c H
  refine loop_c [2, 9] [4, 5, 10, 11, 12, 13, 14, 15, 16, 17, 18, 19, 20, 21, 22, 23, 1, 6] [4, 5, 10, 11, 12, 13, 14, 15, 16, 17, 18, 19, 20, 21, 22, 23, 1, 6] (fun n vals st => (∃ y6, p_book_State_errors_l1  a0.Rows (a0.Rows.length : Int) n y6 = some o2 ∧ vals = [.i (0 : Int), .i y6] ∧ st = [])) fuel 0 [] (⟨_, HL3, rfl, rfl⟩) (Nat.zero_le _) rfl (by kernel_rfl) (by kernel_rfl) rfl trivial ?_
  rintro (_ | n5) _ _ (⟨y6, H, rfl, rfl⟩)
  · rw [p_book_State_errors_l1] at H; cases H
  rw [p_book_State_errors_l1] at H
  conv => whnf
  refine tst_d H (fun b7 H => ?_) (fun b7 H => ?_)
  · conv => whnf
    obtain rfl := Option.some.inj H
    have H := HQ4
    try dsimp only at H
    exact fin0_c (enc := V.i) H (.inr rfl) (.cons (.tmp rfl) (.nil)) rfl rfl
  conv => whnf
  refine ixs_c (f := BookRow.v) H (fun _ => rfl) (fun x8 H => ?_); conv => whnf
  refine ⟨Nat.le_of_ble_eq_true rfl, ?_⟩; conv => whnf
  refine ask_c (p_pres_Check_v _) H rfl rfl (fun v9 H => ?_); conv => whnf
  refine tst_c H (fun b10 H => ?_) (fun b10 H => ?_)
  · conv => whnf
    obtain rfl := Option.some.inj H
    have H := HQ4
    try dsimp only at H
    exact fin0_c (enc := V.i) H (.inr rfl) (.cons (.tmp rfl) (.nil)) rfl rfl
  conv => whnf
  refine Tst.not ?_
  refine tst_d H (fun b11 H => ?_) (fun b11 H => ?_)
  · conv => whnf
    obtain rfl := Option.some.inj H
    have H := HQ4
    try dsimp only at H
    exact fin0_c (enc := V.i) H (.inr rfl) (.cons (.tmp rfl) (.nil)) rfl rfl
  conv => whnf
  refine Ari.w ?_; conv => whnf
  exact again_c [4, 5, 10, 11, 12, 13, 14, 15, 16, 17, 18, 19, 20, 21, 22, 23, 1, 6] n5 0 [] (⟨_, H, rfl, rfl⟩) (Nat.lt_succ_self _) (Nat.zero_le _) rfl (by kernel_rfl) (by kernel_rfl) rfl trivial
def gc86 : BCode := (.seq (.reg 1 [⟨(some 2), .bx (.tmp 0), none, 0⟩, ⟨(some 3), .mv (.const (.bool false)), none, 1⟩] none 0 []) (.seq (.reg 0 [⟨(some 4), .fa 2 (.tmp 2), none, 0⟩, ⟨(some 5), .fa 3 (.tmp 4), none, 0⟩, ⟨(some 6), .ld 1 false (.tmp 5), none, 0⟩, ⟨(some 7), .fa 2 (.tmp 1), none, 0⟩, ⟨(some 8), .fa 3 (.tmp 7), none, 0⟩, ⟨(some 9), .ld 1 false (.tmp 8), none, 0⟩, ⟨(some 10), .bin .eql (.tmp 6) (.tmp 9), none, 0⟩, ⟨(some 3), .mv (.tmp 10), none, 0⟩] none 0 []) .ret))
theorem gc86_ok : compF Tryz.prog Tryz.f86 = some (gc86.er, 11, [.tmp 3]) := by unfold gc86; kernel_rfl
set_option maxRecDepth 100000 in
set_option maxHeartbeats 4000000 in
theorem p_book_State_ordered_1_v (a0 : BookRow) (c0 : BookRow) : CallsO Tryz.prog 86 [.agg [.s a0.User, .s a0.Res, .b a0.P.On, .i a0.P.Show, .i a0.P.Prio, .i a0.P.Seq], .eptr [.s c0.User, .s c0.Res, .b c0.P.On, .i c0.P.Show, .i c0.P.Prio, .i c0.P.Seq]] V.b (p_book_State_ordered_1 a0 c0) := by
  refine callsO_comp mix Tryz.func86 gc86_ok fun r H => ?_
  rw [p_book_State_ordered_1] at H
  conv => whnf
  refine ⟨Nat.le_of_ble_eq_true rfl, ?_⟩; conv => whnf
  refine ⟨Nat.le_of_ble_eq_true rfl, ?_⟩; conv => whnf
  exact fin0_c (enc := V.b) H (.inr rfl) (.cons (.tmp rfl) (.nil)) rfl rfl
end Go.Proofs.YtljeinlapkgjeaaGreat
/- That the program's functions yield what the plain ones tell (written by a program of mine). -/
namespace Go.Proofs.YtljeinlapkgjeaaGreat
open Go.RowKit
def gc67 : BCode := (.seq (.reg 1 [⟨(some 1), .bx (.tmp 0), none, 0⟩, ⟨(some 2), .mv (.const (.bool false)), none, 1⟩] none 0 []) (.seq (.seq (.reg 0 [⟨(some 5), .fa 1 (.tmp 1), none, 0⟩, ⟨(some 6), .ld 1 false (.tmp 5), none, 0⟩, ⟨(some 7), .lens (.tmp 6), none, 0⟩, ⟨(some 8), .mv (.const (.int .i64 0)), none, 0⟩] none 0 []) (.block 0 (.loop (.seq (.reg 0 [⟨(some 9), .bin .lss (.tmp 8) (.tmp 7), none, 0⟩] none 0 []) (.seq (.cond (.tmp 9) .skip (.exit 0)) (.seq (.block 1 (.seq (.reg 1 [⟨(some 10), .mv (.tmp 8), none, 0⟩, ⟨(some 11), .ixs 6 (.tmp 6) (.tmp 8), none, 0⟩, ⟨(some 12), .ld 6 true (.tmp 11), none, 0⟩, ⟨(some 4), .al (.agg [(.lit (.string ⟨#[]⟩)), (.lit (.string ⟨#[]⟩)), (.lit (.bool false)), (.lit (.int .i64 0)), (.lit (.int .i64 0)), (.lit (.int .i64 0))]), none, 0⟩, ⟨(some 3), .mv (.tmp 10), none, 1⟩, ⟨none, .st 6 (.tmp 4) (.tmp 12), none, 1⟩] none 0 []) (.seq (.seq (.reg 0 [⟨(some 13), .fa 2 (.tmp 4), none, 0⟩, ⟨(some 14), .fa 3 (.tmp 13), none, 0⟩, ⟨(some 15), .ld 1 false (.tmp 14), none, 0⟩, ⟨(some 16), .bin .lss (.tmp 15) (.const (.int .i64 1)), none, 0⟩, ⟨(some 17), .mv (.tmp 16), none, 0⟩, ⟨(some 18), .fa 2 (.tmp 4), (some (17, false)), 0⟩, ⟨(some 19), .fa 3 (.tmp 18), (some (17, false)), 0⟩, ⟨(some 20), .ld 1 false (.tmp 19), (some (17, false)), 0⟩, ⟨(some 21), .fa 0 (.tmp 1), (some (17, false)), 0⟩, ⟨(some 22), .ld 1 false (.tmp 21), (some (17, false)), 0⟩, ⟨(some 23), .bin .gtr (.tmp 20) (.tmp 22), (some (17, false)), 0⟩, ⟨(some 24), .pick (.tmp 17) (.const (.bool true)) (.tmp 23), none, 0⟩] none 0 []) (.cond (.tmp 24) (.seq (.reg 0 [⟨(some 2), .mv (.const (.bool false)), none, 0⟩] none 0 []) .ret) .skip)) (.seq (.seq (.reg 0 [⟨(some 25), .mv (.tmp 3), none, 0⟩, ⟨(some 26), .bin .gtr (.tmp 25) (.const (.int .i64 0)), none, 0⟩, ⟨(some 27), .mv (.tmp 26), none, 0⟩, ⟨(some 28), .fa 1 (.tmp 1), (some (27, true)), 0⟩, ⟨(some 29), .ld 1 false (.tmp 28), (some (27, true)), 0⟩, ⟨(some 30), .mv (.tmp 3), (some (27, true)), 0⟩, ⟨(some 31), .bin .sub (.tmp 30) (.const (.int .i64 1)), (some (27, true)), 0⟩, ⟨(some 32), .ixs 6 (.tmp 29) (.tmp 31), (some (27, true)), 0⟩, ⟨(some 33), .ld 6 true (.tmp 32), (some (27, true)), 0⟩, ⟨(some 34), .cl 54 [(.tmp 33)], (some (27, true)), 0⟩, ⟨(some 35), .ld 6 true (.tmp 4), (some (27, true)), 0⟩, ⟨(some 36), .cl 54 [(.tmp 35)], (some (27, true)), 0⟩, ⟨(some 37), .bin .geq (.tmp 34) (.tmp 36), (some (27, true)), 0⟩, ⟨(some 38), .pick (.tmp 27) (.tmp 37) (.const (.bool false)), none, 0⟩] (some [[], [0], [0, 1], [1, 0, 2], [2, 0, 1, 3], [1, 0, 2], [2, 0, 1, 5], [5, 6, 3, 1, 0, 2, 4], [4, 2, 0, 1, 3, 6, 5, 7], [7, 5, 6, 3, 1, 0, 2, 4, 8], [1, 0, 2], [8, 4, 3, 6, 5, 7, 9, 2, 0, 1, 10], [10, 11, 8, 4, 2, 0, 1, 3, 6, 5, 7, 9], [9, 7, 5, 6, 3, 4, 8, 11, 10, 12, 1, 0, 2]]) 0 []) (.cond (.tmp 38) (.seq (.reg 0 [⟨(some 2), .mv (.const (.bool false)), none, 0⟩] none 0 []) .ret) .skip)) (.seq (.reg 0 [⟨(some 39), .fa 1 (.tmp 1), none, 0⟩, ⟨(some 40), .ld 1 false (.tmp 39), none, 0⟩, ⟨(some 41), .mv (.tmp 3), none, 0⟩, ⟨(some 42), .sls 6 (.tmp 40) none (some (.tmp 41)) none, none, 0⟩, ⟨(some 43), .mf (.func 86) [(.tmp 4)], none, 0⟩, ⟨(some 44), .cl 64 [(.tmp 42), (.tmp 43)], none, 0⟩] none 0 [4]) (.cond (.tmp 44) (.seq (.reg 0 [⟨(some 2), .mv (.const (.bool false)), none, 0⟩] none 0 []) .ret) .skip)))))) (.reg 0 [⟨(some 45), .bin .add (.tmp 8) (.const (.int .i64 1)), none, 0⟩, ⟨(some 8), .mv (.tmp 45), none, 0⟩] none 0 []))))))) (.seq (.reg 0 [⟨(some 2), .mv (.const (.bool true)), none, 0⟩] none 0 []) .ret)))
theorem gc67_ok : compF Tryz.prog Tryz.f67 = some (gc67.er, 46, [.tmp 2]) := by unfold gc67; kernel_rfl
set_option maxRecDepth 100000 in
set_option maxHeartbeats 4000000 in
theorem p_book_State_ordered_v {u1 : Bool} (a0 : BookState) : CallsO Tryz.prog 67 [.agg [.i a0.Seq, .sl (List.map BookRow.v a0.Rows) u1]] V.b (p_book_State_ordered a0) := by
  refine callsO_comp mix Tryz.func67 gc67_ok fun r H => ?_
  rw [p_book_State_ordered] at H
  conv => whnf
  refine LenQ.M ?_; conv => whnf
  obtain ⟨o2, HL3, HQ4⟩ := bind_c H
  refine loop_c [2, 8] [3, 4, 9, 10, 11, 12, 13, 14, 15, 16, 17, 18, 19, 20, 21, 22, 23, 24, 25, 26, 27, 28, 29, 30, 31, 32, 33, 34, 35, 36, 37, 38, 39, 40, 41, 42, 43, 44, 45, 5] [3, 4, 9, 10, 11, 12, 13, 14, 15, 16, 17, 18, 19, 20, 21, 22, 23, 24, 25, 26, 27, 28, 29, 30, 31, 32, 33, 34, 35, 36, 37, 38, 39, 40, 41, 42, 43, 44, 45, 5] (fun n vals st => (∃ y6, p_book_State_ordered_l1  a0.Rows (a0.Rows.length : Int) a0 n y6 = some o2 ∧ vals = [.b false, .i y6] ∧ st = [.live [.i a0.Seq, .sl (List.map BookRow.v a0.Rows) u1] 0])) fuel 1 [] (⟨_, HL3, rfl, rfl⟩) (Nat.zero_le _) rfl (by kernel_rfl) (by kernel_rfl) rfl ⟨⟨rfl, rfl, rfl⟩, trivial⟩ ?_
  rintro (_ | n5) _ _ (⟨y6, H, rfl, rfl⟩)
  · rw [p_book_State_ordered_l1] at H; cases H
  rw [p_book_State_ordered_l1] at H
  conv => whnf
  refine tst_d H (fun b7 H => ?_) (fun b7 H => ?_)
  · conv => whnf
    obtain rfl := Option.some.inj H
    have H := HQ4
    try dsimp only at H
    exact fin0_c (enc := V.b) H (.inr rfl) (.cons (.tmp rfl) (.nil)) rfl rfl
  conv => whnf
  refine ixs_c (f := BookRow.v) H (fun _ => rfl) (fun x8 H => ?_); conv => whnf
  refine ⟨Nat.le_of_ble_eq_true rfl, ?_⟩; conv => whnf
  refine tst_c H (fun b9 H => ?_) (fun b9 H => ?_)
  · conv => whnf
    iterate 7 (refine Tst.T ?_; conv => whnf)
    obtain rfl := Option.some.inj H
    have H := HQ4
    try dsimp only at H
    exact fin0_c (enc := V.b) H (.inr rfl) (.cons (.tmp rfl) (.nil)) rfl rfl
  conv => whnf
  iterate 6 (refine Tst.F ?_; conv => whnf)
  refine tst_c H (fun b10 H => ?_) (fun b10 H => ?_)
  · conv => whnf
    obtain rfl := Option.some.inj H
    have H := HQ4
    try dsimp only at H
    exact fin0_c (enc := V.b) H (.inr rfl) (.cons (.tmp rfl) (.nil)) rfl rfl
  conv => whnf
  refine tst_d H (fun b11 H => ?_) (fun b11 H => ?_)
  · conv => whnf
    iterate 10 (refine Tst.F ?_; conv => whnf)
    refine FootQ.mk ⟨rfl, ?_⟩; conv => whnf
    refine Tst.F ?_; conv => whnf
    refine ⟨Nat.zero_le _, ?_⟩; conv => whnf
    refine slsH_c (f := BookRow.v) H (fun _ => rfl) (fun x19 H => ?_); conv => whnf
    refine askF_c (p_slices_ContainsFunc_book_Row_v _ _ ⟨⟨_, Tryz.func86, by kernel_rfl, by kernel_rfl⟩, rfl, fun x0 => p_book_State_ordered_1_v _ _⟩) H (.cons (.c (.id rfl)) (.cons (.c (.clo (.cons (.ptr rfl (Nat.le_of_ble_eq_true rfl) (.cons (.id rfl) (.cons (.id rfl) (.cons (.id rfl) (.cons (.id rfl) (.cons (.id rfl) (.cons (.id rfl) (.nil)))))))) (.nil)))) (.nil))) (fun v20 H => ?_); conv => whnf
    refine tst_c H (fun b21 H => ?_) (fun b21 H => ?_)
    · conv => whnf
      obtain rfl := Option.some.inj H
      have H := HQ4
      try dsimp only at H
      exact fin0_c (enc := V.b) H (.inr rfl) (.cons (.tmp rfl) (.nil)) rfl rfl
    conv => whnf
    refine Ari.w ?_; conv => whnf
    exact again_c [3, 4, 9, 10, 11, 12, 13, 14, 15, 16, 17, 18, 19, 20, 21, 22, 23, 24, 25, 26, 27, 28, 29, 30, 31, 32, 33, 34, 35, 36, 37, 38, 39, 40, 41, 42, 43, 44, 45, 5] n5 1 [] (⟨_, H, rfl, rfl⟩) (Nat.lt_succ_self _) (Nat.zero_le _) rfl (by kernel_rfl) (by kernel_rfl) rfl ⟨⟨rfl, rfl, rfl⟩, trivial⟩
  conv => whnf
  iterate 3 (refine Tst.T ?_; conv => whnf)
  refine Ari.w ?_; conv => whnf
  refine Tst.T ?_; conv => whnf
  refine ixs_c (f := BookRow.v) H (fun _ => rfl) (fun x12 H => ?_); conv => whnf
  iterate 2 (refine Tst.T ?_; conv => whnf)
  refine ask_c (p_book_Row_key_v _) H rfl rfl (fun v13 H => ?_); conv => whnf
  iterate 2 (refine Tst.T ?_; conv => whnf)
  refine ask_c (p_book_Row_key_v _) H rfl rfl (fun v14 H => ?_); conv => whnf
  iterate 2 (refine Tst.T ?_; conv => whnf)
  refine FootQ.mk ⟨rfl, ?_⟩; conv => whnf
  refine Tst.not ?_
  refine tst_d H (fun b15 H => ?_) (fun b15 H => ?_)
  · conv => whnf
    obtain rfl := Option.some.inj H
    have H := HQ4
    try dsimp only at H
    exact fin0_c (enc := V.b) H (.inr rfl) (.cons (.tmp rfl) (.nil)) rfl rfl
  conv => whnf
  refine ⟨Nat.zero_le _, ?_⟩; conv => whnf
  refine slsH_c (f := BookRow.v) H (fun _ => rfl) (fun x16 H => ?_); conv => whnf
  refine askF_c (p_slices_ContainsFunc_book_Row_v _ _ ⟨⟨_, Tryz.func86, by kernel_rfl, by kernel_rfl⟩, rfl, fun x0 => p_book_State_ordered_1_v _ _⟩) H (.cons (.c (.id rfl)) (.cons (.c (.clo (.cons (.ptr rfl (Nat.le_of_ble_eq_true rfl) (.cons (.id rfl) (.cons (.id rfl) (.cons (.id rfl) (.cons (.id rfl) (.cons (.id rfl) (.cons (.id rfl) (.nil)))))))) (.nil)))) (.nil))) (fun v17 H => ?_); conv => whnf
  refine tst_c H (fun b18 H => ?_) (fun b18 H => ?_)
  · conv => whnf
    obtain rfl := Option.some.inj H
    have H := HQ4
    try dsimp only at H
    exact fin0_c (enc := V.b) H (.inr rfl) (.cons (.tmp rfl) (.nil)) rfl rfl
  conv => whnf
  refine Ari.w ?_; conv => whnf
  exact again_c [3, 4, 9, 10, 11, 12, 13, 14, 15, 16, 17, 18, 19, 20, 21, 22, 23, 24, 25, 26, 27, 28, 29, 30, 31, 32, 33, 34, 35, 36, 37, 38, 39, 40, 41, 42, 43, 44, 45, 5] n5 1 [] (⟨_, H, rfl, rfl⟩) (Nat.lt_succ_self _) (Nat.zero_le _) rfl (by kernel_rfl) (by kernel_rfl) rfl ⟨⟨rfl, rfl, rfl⟩, trivial⟩
def gc57 : BCode := (.seq (.reg 1 [⟨(some 2), .bx (.tmp 0), none, 0⟩, ⟨(some 4), .mv (.const (.int .i64 0)), none, 1⟩] none 0 []) (.seq (.reg 0 [⟨(some 5), .mv (.const (.int .i64 0)), none, 0⟩] none 0 []) (.seq (.seq (.reg 0 [⟨(some 8), .fa 1 (.tmp 2), none, 0⟩, ⟨(some 9), .ld 1 false (.tmp 8), none, 0⟩, ⟨(some 10), .lens (.tmp 9), none, 0⟩, ⟨(some 11), .mv (.const (.int .i64 0)), none, 0⟩] none 0 []) (.block 0 (.loop (.seq (.reg 0 [⟨(some 12), .bin .lss (.tmp 11) (.tmp 10), none, 0⟩] none 0 []) (.seq (.cond (.tmp 12) .skip (.exit 0)) (.seq (.block 1 (.seq (.reg 1 [⟨(some 13), .ixs 6 (.tmp 9) (.tmp 11), none, 0⟩, ⟨(some 14), .ld 6 true (.tmp 13), none, 0⟩, ⟨(some 7), .al (.agg [(.lit (.string ⟨#[]⟩)), (.lit (.string ⟨#[]⟩)), (.lit (.bool false)), (.lit (.int .i64 0)), (.lit (.int .i64 0)), (.lit (.int .i64 0))]), none, 0⟩, ⟨none, .st 6 (.tmp 7) (.tmp 14), none, 1⟩] none 0 []) (.seq (.reg 0 [⟨(some 15), .fa 0 (.tmp 7), none, 0⟩, ⟨(some 16), .ld 1 false (.tmp 15), none, 0⟩, ⟨(some 17), .mv (.tmp 1), none, 0⟩, ⟨(some 18), .bin .eql (.tmp 16) (.tmp 17), none, 0⟩] none 0 []) (.cond (.tmp 18) (.reg 0 [⟨(some 19), .mv (.tmp 5), none, 0⟩, ⟨(some 20), .bin .add (.tmp 19) (.const (.int .i64 1)), none, 0⟩, ⟨(some 5), .mv (.tmp 20), none, 0⟩] none 0 []) .skip)))) (.reg 0 [⟨(some 21), .bin .add (.tmp 11) (.const (.int .i64 1)), none, 0⟩, ⟨(some 11), .mv (.tmp 21), none, 0⟩] none 0 []))))))) (.seq (.reg 0 [⟨(some 22), .mv (.tmp 5), none, 0⟩, ⟨(some 4), .mv (.tmp 22), none, 0⟩] none 0 []) .ret))))
theorem gc57_ok : compF Tryz.prog Tryz.f57 = some (gc57.er, 23, [.tmp 4]) := by unfold gc57; kernel_rfl
set_option maxRecDepth 100000 in
set_option maxHeartbeats 4000000 in
theorem p_book_State_many_v {u1 : Bool} (a0 : BookState) (a1 : ByteArray) : CallsO Tryz.prog 57 [.agg [.i a0.Seq, .sl (List.map BookRow.v a0.Rows) u1], .s a1] V.i (p_book_State_many a0 a1) := by
  refine callsO_comp mix Tryz.func57 gc57_ok fun r H => ?_
  rw [p_book_State_many] at H
  conv => whnf
  refine LenQ.M ?_; conv => whnf
  obtain ⟨o2, HL3, HQ4⟩ := bind_c H
  refine loop_c [5, 11] [7, 12, 13, 14, 15, 16, 17, 18, 19, 20, 21, 2, 8] [7, 12, 13, 14, 15, 16, 17, 18, 19, 20, 21, 2, 8] (fun n vals st => (∃ y6 y7, p_book_State_many_l1  a1 a0.Rows (a0.Rows.length : Int) n y6 y7 = some o2 ∧ vals = [.i y6, .i y7] ∧ st = [])) fuel 0 [] (⟨_, _, HL3, rfl, rfl⟩) (Nat.zero_le _) rfl (by kernel_rfl) (by kernel_rfl) rfl trivial ?_
  rintro (_ | n5) _ _ (⟨y6, y7, H, rfl, rfl⟩)
  · rw [p_book_State_many_l1] at H; cases H
  rw [p_book_State_many_l1] at H
  conv => whnf
  refine tst_d H (fun b8 H => ?_) (fun b8 H => ?_)
  · conv => whnf
    obtain rfl := Option.some.inj H
    have H := HQ4
    try dsimp only at H
    exact fin0_c (enc := V.i) H (.inr rfl) (.cons (.tmp rfl) (.nil)) rfl rfl
  conv => whnf
  refine ixs_c (f := BookRow.v) H (fun _ => rfl) (fun x9 H => ?_); conv => whnf
  refine ⟨Nat.le_of_ble_eq_true rfl, ?_⟩; conv => whnf
  refine tst_d H (fun b10 H => ?_) (fun b10 H => ?_)
  · conv => whnf
    refine Ari.w ?_; conv => whnf
    exact again_c [7, 12, 13, 14, 15, 16, 17, 18, 19, 20, 21, 2, 8] n5 0 [] (⟨_, _, H, rfl, rfl⟩) (Nat.lt_succ_self _) (Nat.zero_le _) rfl (by kernel_rfl) (by kernel_rfl) rfl trivial
  conv => whnf
  iterate 2 (refine Ari.w ?_; conv => whnf)
  exact again_c [7, 12, 13, 14, 15, 16, 17, 18, 19, 20, 21, 2, 8] n5 0 [] (⟨_, _, H, rfl, rfl⟩) (Nat.lt_succ_self _) (Nat.zero_le _) rfl (by kernel_rfl) (by kernel_rfl) rfl trivial
def gc68 : BCode := (.seq (.reg 1 [⟨(some 2), .bx (.tmp 0), none, 0⟩, ⟨(some 3), .mv (.const (.bool false)), none, 1⟩] none 0 []) (.seq (.reg 0 [⟨(some 4), .ld 2 true (.tmp 1), none, 0⟩, ⟨(some 5), .fa 0 (.tmp 2), none, 0⟩, ⟨(some 6), .ld 1 false (.tmp 5), none, 0⟩, ⟨(some 7), .cl 57 [(.tmp 4), (.tmp 6)], none, 0⟩, ⟨(some 8), .bin .gtr (.tmp 7) (.const (.int .i64 3)), none, 0⟩, ⟨(some 3), .mv (.tmp 8), none, 0⟩] none 0 []) .ret))
theorem gc68_ok : compF Tryz.prog Tryz.f68 = some (gc68.er, 9, [.tmp 3]) := by unfold gc68; kernel_rfl
set_option maxRecDepth 100000 in
set_option maxHeartbeats 4000000 in
theorem p_book_Check_2_v {u1 : Bool} (a0 : BookRow) (c0 : BookState) : CallsO Tryz.prog 68 [.agg [.s a0.User, .s a0.Res, .b a0.P.On, .i a0.P.Show, .i a0.P.Prio, .i a0.P.Seq], .eptr [.i c0.Seq, .sl (List.map BookRow.v c0.Rows) u1]] V.b (p_book_Check_2 a0 c0) := by
  refine callsO_comp mix Tryz.func68 gc68_ok fun r H => ?_
  rw [p_book_Check_2] at H
  conv => whnf
  refine ask_c (p_book_State_many_v _ _) H rfl rfl (fun v1 H => ?_); conv => whnf
  exact fin0_c (enc := V.b) H (.inr rfl) (.cons (.tmp rfl) (.nil)) rfl rfl
def gc36 : BCode := (.seq (.reg 1 [⟨(some 1), .bx (.tmp 0), none, 0⟩, ⟨(some 2), .mv (.const (.int .i64 0)), none, 1⟩] none 0 []) (.seq (.block 0 (.seq (.reg 0 [⟨(some 5), .fa 1 (.tmp 1), none, 0⟩, ⟨(some 6), .ld 1 false (.tmp 5), none, 0⟩, ⟨(some 7), .lens (.tmp 6), none, 0⟩, ⟨(some 8), .bin .gtr (.tmp 7) (.const (.int .i64 16)), none, 0⟩, ⟨(some 4), .mv (.tmp 8), none, 0⟩] none 0 []) (.cond (.tmp 4) (.seq (.reg 0 [⟨(some 2), .mv (.const (.int .i64 5)), none, 0⟩] none 0 []) .ret) (.seq (.seq (.reg 0 [⟨(some 10), .fa 0 (.tmp 1), none, 0⟩, ⟨(some 11), .ld 1 false (.tmp 10), none, 0⟩, ⟨(some 12), .bin .lss (.tmp 11) (.const (.int .i64 0)), none, 0⟩, ⟨(some 9), .mv (.tmp 12), none, 0⟩] none 0 []) (.cond (.tmp 9) .skip (.reg 0 [⟨(some 13), .fa 0 (.tmp 1), none, 0⟩, ⟨(some 14), .ld 1 false (.tmp 13), none, 0⟩, ⟨(some 15), .bin .gtr (.tmp 14) (.const (.int .i64 1099511627776)), none, 0⟩, ⟨(some 9), .mv (.tmp 15), none, 0⟩] none 0 []))) (.cond (.tmp 9) (.seq (.reg 0 [⟨(some 2), .mv (.const (.int .i64 8)), none, 0⟩] none 0 []) .ret) (.seq (.reg 0 [⟨(some 17), .fa 1 (.tmp 1), none, 0⟩, ⟨(some 18), .ld 1 false (.tmp 17), none, 0⟩, ⟨(some 19), .cl 64 [(.tmp 18), (.func 65)], none, 0⟩, ⟨(some 16), .mv (.tmp 19), none, 0⟩] none 0 []) (.cond (.tmp 16) (.seq (.reg 0 [⟨(some 2), .mv (.const (.int .i64 11)), none, 0⟩] none 0 []) .ret) .skip))))))) (.seq (.seq (.reg 0 [⟨(some 20), .ld 2 true (.tmp 1), none, 0⟩, ⟨(some 21), .cl 66 [(.tmp 20)], none, 0⟩, ⟨(some 3), .mv (.tmp 21), none, 0⟩] none 0 []) (.seq (.reg 0 [⟨(some 22), .mv (.tmp 3), none, 0⟩, ⟨(some 23), .bin .neq (.tmp 22) (.const (.int .i64 0)), none, 0⟩] none 0 []) (.cond (.tmp 23) (.seq (.reg 0 [⟨(some 24), .mv (.tmp 3), none, 0⟩, ⟨(some 2), .mv (.tmp 24), none, 0⟩] none 0 []) .ret) .skip))) (.seq (.block 1 (.seq (.reg 0 [⟨(some 26), .ld 2 true (.tmp 1), none, 0⟩, ⟨(some 27), .cl 67 [(.tmp 26)], none, 0⟩, ⟨(some 28), .un .not (.tmp 27), none, 0⟩, ⟨(some 25), .mv (.tmp 28), none, 0⟩] none 0 []) (.cond (.tmp 25) (.seq (.reg 0 [⟨(some 2), .mv (.const (.int .i64 10)), none, 0⟩] none 0 []) .ret) (.seq (.reg 0 [⟨(some 30), .fa 1 (.tmp 1), none, 0⟩, ⟨(some 31), .ld 1 false (.tmp 30), none, 0⟩, ⟨(some 32), .mf (.func 68) [(.tmp 1)], none, 0⟩, ⟨(some 33), .cl 64 [(.tmp 31), (.tmp 32)], none, 0⟩, ⟨(some 29), .mv (.tmp 33), none, 0⟩] none 0 [1]) (.cond (.tmp 29) (.seq (.reg 0 [⟨(some 2), .mv (.const (.int .i64 7)), none, 0⟩] none 0 []) .ret) .skip))))) (.seq (.reg 0 [⟨(some 2), .mv (.const (.int .i64 0)), none, 0⟩] none 0 []) .ret)))))
theorem gc36_ok : compF Tryz.prog Tryz.f36 = some (gc36.er, 34, [.tmp 2]) := by unfold gc36; kernel_rfl
set_option maxRecDepth 100000 in
set_option maxHeartbeats 4000000 in
theorem p_book_Check_v {u1 : Bool} (a0 : BookState) : CallsO Tryz.prog 36 [.agg [.i a0.Seq, .sl (List.map BookRow.v a0.Rows) u1]] V.i (p_book_Check a0) := by
  refine callsO_comp mix Tryz.func36 gc36_ok fun r H => ?_
  rw [p_book_Check] at H
  conv => whnf
  refine LenQ.M ?_; conv => whnf
  refine tst_c H (fun b1 H => ?_) (fun b1 H => ?_)
  · conv => whnf
    exact fin0_c (enc := V.i) H (.inr rfl) (.cons (.tmp rfl) (.nil)) rfl rfl
  conv => whnf
  refine tst_c H (fun b2 H => ?_) (fun b2 H => ?_)
  · conv => whnf
    refine Tst.T ?_; conv => whnf
    exact fin0_c (enc := V.i) H (.inr rfl) (.cons (.tmp rfl) (.nil)) rfl rfl
  conv => whnf
  refine tst_c H (fun b3 H => ?_) (fun b3 H => ?_)
  · conv => whnf
    exact fin0_c (enc := V.i) H (.inr rfl) (.cons (.tmp rfl) (.nil)) rfl rfl
  conv => whnf
  refine askF_c (p_slices_ContainsFunc_book_Row_v _ _ ⟨⟨_, Tryz.func65, by kernel_rfl, by kernel_rfl⟩, rfl, fun x0 => p_book_Check_1_v _⟩) H (.cons (.c (.slw)) (.cons (.c (.clo (.nil))) (.nil))) (fun v4 H => ?_); conv => whnf
  refine tst_c H (fun b5 H => ?_) (fun b5 H => ?_)
  · conv => whnf
    exact fin0_c (enc := V.i) H (.inr rfl) (.cons (.tmp rfl) (.nil)) rfl rfl
  conv => whnf
  refine ask_c (p_book_State_errors_v _) H rfl rfl (fun v6 H => ?_); conv => whnf
  refine tst_c H (fun b7 H => ?_) (fun b7 H => ?_)
  · conv => whnf
    exact fin0_c (enc := V.i) H (.inr rfl) (.cons (.tmp rfl) (.nil)) rfl rfl
  conv => whnf
  refine ask_c (p_book_State_ordered_v _) H rfl rfl (fun v8 H => ?_); conv => whnf
  refine Tst.not ?_
  refine tst_d H (fun b9 H => ?_) (fun b9 H => ?_)
  · conv => whnf
    exact fin0_c (enc := V.i) H (.inr rfl) (.cons (.tmp rfl) (.nil)) rfl rfl
  conv => whnf
  refine ⟨Nat.zero_le _, ?_⟩; conv => whnf
  refine askF_c (p_slices_ContainsFunc_book_Row_v _ _ ⟨⟨_, Tryz.func68, by kernel_rfl, by kernel_rfl⟩, rfl, fun x0 => p_book_Check_2_v _ _⟩) H (.cons (.c (.slw)) (.cons (.c (.clo (.cons (.ptr rfl (Nat.le_of_ble_eq_true rfl) (.cons (.id rfl) (.cons (.id rfl) (.nil)))) (.nil)))) (.nil))) (fun v10 H => ?_); conv => whnf
  refine tst_c H (fun b11 H => ?_) (fun b11 H => ?_)
  · conv => whnf
    exact fin0_c (enc := V.i) H (.inr rfl) (.cons (.tmp rfl) (.nil)) rfl rfl
  conv => whnf
  exact fin0_c (enc := V.i) H (.inr rfl) (.cons (.tmp rfl) (.nil)) rfl rfl
def gc81 : BCode := (.seq (.reg 1 [⟨(some 2), .bx (.tmp 0), none, 0⟩, ⟨(some 4), .mv (.const (.int .i64 0)), none, 1⟩] none 0 []) (.seq (.reg 0 [⟨(some 5), .ld 6 true (.tmp 2), none, 0⟩, ⟨(some 6), .cl 54 [(.tmp 5)], none, 0⟩, ⟨(some 7), .mv (.tmp 1), none, 0⟩, ⟨(some 8), .cl 82 [(.tmp 6), (.tmp 7)], none, 0⟩, ⟨(some 4), .mv (.tmp 8), none, 0⟩] none 0 []) .ret))
theorem gc81_ok : compF Tryz.prog Tryz.f81 = some (gc81.er, 9, [.tmp 4]) := by unfold gc81; kernel_rfl
set_option maxRecDepth 100000 in
set_option maxHeartbeats 4000000 in
theorem p_book_State_find_1_v (a0 : BookRow) (a1 : ByteArray) : CallsO Tryz.prog 81 [.agg [.s a0.User, .s a0.Res, .b a0.P.On, .i a0.P.Show, .i a0.P.Prio, .i a0.P.Seq], .s a1] V.i (p_book_State_find_1 a0 a1) := by
  refine callsO_comp mix Tryz.func81 gc81_ok fun r H => ?_
  rw [p_book_State_find_1] at H
  conv => whnf
  refine ask_c (p_book_Row_key_v _) H rfl rfl (fun v1 H => ?_); conv => whnf
  refine ask_c (p_strings_Compare_v _ _) H rfl rfl (fun v2 H => ?_); conv => whnf
  exact fin0_c (enc := V.i) H (.inr rfl) (.cons (.tmp rfl) (.nil)) rfl rfl
def gc80 : BCode := (.seq (.reg 0 [⟨(some 6), .mv (.const (.int .i64 0)), none, 0⟩, ⟨(some 7), .mv (.const (.bool false)), none, 0⟩] none 0 []) (.seq (.reg 0 [⟨(some 12), .mv (.tmp 0), none, 0⟩, ⟨(some 13), .lens (.tmp 12), none, 0⟩, ⟨(some 8), .mv (.tmp 13), none, 0⟩] none 0 []) (.seq (.reg 0 [⟨(some 14), .mv (.tmp 8), none, 0⟩, ⟨(some 9), .mv (.const (.int .i64 0)), none, 0⟩, ⟨(some 10), .mv (.tmp 14), none, 0⟩] none 0 []) (.seq (.block 0 (.loop (.seq (.seq (.reg 0 [⟨(some 15), .mv (.tmp 9), none, 0⟩, ⟨(some 16), .mv (.tmp 10), none, 0⟩, ⟨(some 17), .bin .lss (.tmp 15) (.tmp 16), none, 0⟩] none 0 []) (.cond (.tmp 17) .skip (.exit 0))) (.block 1 (.seq (.reg 0 [⟨(some 18), .mv (.tmp 9), none, 0⟩, ⟨(some 19), .mv (.tmp 10), none, 0⟩, ⟨(some 20), .bin .add (.tmp 18) (.tmp 19), none, 0⟩, ⟨(some 21), .cvi .u64 (.tmp 20), none, 0⟩, ⟨(some 22), .bin .shr (.tmp 21) (.const (.int .u64 1)), none, 0⟩, ⟨(some 23), .cvi .i64 (.tmp 22), none, 0⟩, ⟨(some 11), .mv (.tmp 23), none, 0⟩] none 0 []) (.seq (.reg 0 [⟨(some 24), .mv (.tmp 2), none, 0⟩, ⟨(some 25), .mv (.tmp 0), none, 0⟩, ⟨(some 26), .mv (.tmp 11), none, 0⟩, ⟨(some 27), .ixs 6 (.tmp 25) (.tmp 26), none, 0⟩, ⟨(some 28), .ld 6 true (.tmp 27), none, 0⟩, ⟨(some 29), .mv (.tmp 1), none, 0⟩, ⟨(some 30), .cv (.tmp 24) [(.tmp 28), (.tmp 29)], none, 0⟩, ⟨(some 31), .bin .lss (.tmp 30) (.const (.int .i64 0)), none, 0⟩] none 0 []) (.cond (.tmp 31) (.reg 0 [⟨(some 32), .mv (.tmp 11), none, 0⟩, ⟨(some 33), .bin .add (.tmp 32) (.const (.int .i64 1)), none, 0⟩, ⟨(some 9), .mv (.tmp 33), none, 0⟩] none 0 []) (.reg 0 [⟨(some 34), .mv (.tmp 11), none, 0⟩, ⟨(some 10), .mv (.tmp 34), none, 0⟩] none 0 [])))))))) (.seq (.reg 0 [⟨(some 35), .mv (.tmp 9), none, 0⟩, ⟨(some 36), .mv (.tmp 9), none, 0⟩, ⟨(some 37), .mv (.tmp 8), none, 0⟩, ⟨(some 38), .bin .lss (.tmp 36) (.tmp 37), none, 0⟩, ⟨(some 39), .mv (.tmp 38), none, 0⟩, ⟨(some 40), .mv (.tmp 2), (some (39, true)), 0⟩, ⟨(some 41), .mv (.tmp 0), (some (39, true)), 0⟩, ⟨(some 42), .mv (.tmp 9), (some (39, true)), 0⟩, ⟨(some 43), .ixs 6 (.tmp 41) (.tmp 42), (some (39, true)), 0⟩, ⟨(some 44), .ld 6 true (.tmp 43), (some (39, true)), 0⟩, ⟨(some 45), .mv (.tmp 1), (some (39, true)), 0⟩, ⟨(some 46), .cv (.tmp 40) [(.tmp 44), (.tmp 45)], (some (39, true)), 0⟩, ⟨(some 47), .bin .eql (.tmp 46) (.const (.int .i64 0)), (some (39, true)), 0⟩, ⟨(some 48), .pick (.tmp 39) (.tmp 47) (.const (.bool false)), none, 0⟩, ⟨(some 6), .mv (.tmp 35), none, 0⟩, ⟨(some 7), .mv (.tmp 48), none, 0⟩] none 0 []) .ret)))))
theorem gc80_ok : compF Tryz.prog Tryz.f80 = some (gc80.er, 49, [.tmp 6, .tmp 7]) := by unfold gc80; kernel_rfl
set_option maxRecDepth 100000 in
set_option maxHeartbeats 4000000 in
theorem p_slices_BinarySearchFunc_book_Row_v {u1 : Bool} (a0 : List BookRow) (a1 : ByteArray) (a2 : BookRow → ByteArray → Option Int) {a2_g : Nat} {a2_k : List V} (a2_h : Clo2 Tryz.prog a2_g a2_k BookRow.v V.s V.i a2) : CallsO Tryz.prog 80 [.sl (List.map BookRow.v a0) u1, .s a1, .clo (.func a2_g) a2_k] (fun r : Int × Bool => .tup [V.i r.1, V.b r.2]) (p_slices_BinarySearchFunc_book_Row a0 a1 a2) := by
  refine callsO_comp mix Tryz.func80 gc80_ok fun r H => ?_
  rw [p_slices_BinarySearchFunc_book_Row] at H
  conv => whnf
  refine LenQ.M ?_; conv => whnf
  obtain ⟨o2, HL3, HQ4⟩ := bind_c H
  refine loop_c [9, 10] [11, 15, 16, 17, 18, 19, 20, 21, 22, 23, 24, 25, 26, 27, 28, 29, 30, 31, 32, 33, 34] [11, 15, 16, 17, 18, 19, 20, 21, 22, 23, 24, 25, 26, 27, 28, 29, 30, 31, 32, 33, 34] (fun n vals st => (∃ y6 y7, p_slices_BinarySearchFunc_book_Row_l1  a2 a0 a1 n y6 y7 = some o2 ∧ vals = [.i y6, .i y7] ∧ st = [])) fuel 0 [] (⟨_, _, HL3, rfl, rfl⟩) (Nat.zero_le _) rfl (by simp only [maskF, setF, List.set_cons_zero, List.set_cons_succ, V.ren.renL, V.ren, renL_id _ a2_h.own] <;> rfl) (by simp only [maskF, setF, List.set_cons_zero, List.set_cons_succ, V.idlt.belowL, V.idlt, fun n => idltL_up (n := n) _ a2_h.own] <;> rfl) rfl trivial ?_
  rintro (_ | n5) _ _ (⟨y6, y7, H, rfl, rfl⟩)
  · rw [p_slices_BinarySearchFunc_book_Row_l1] at H; cases H
  rw [p_slices_BinarySearchFunc_book_Row_l1] at H
  conv => whnf
  refine tst_d H (fun b8 H => ?_) (fun b8 H => ?_)
  · conv => whnf
    obtain rfl := Option.some.inj H
    have H := HQ4
    try dsimp only at H
    refine tst_d H (fun b12 H => ?_) (fun b12 H => ?_)
    · conv => whnf
      iterate 8 (refine Tst.F ?_; conv => whnf)
      exact fin0_c (enc := (fun r : Int × Bool => .tup [V.i r.1, V.b r.2])) H (.inr rfl) (.cons (.tmp rfl) (.cons (.tmp rfl) (.nil))) rfl rfl
    conv => whnf
    iterate 3 (refine Tst.T ?_; conv => whnf)
    refine ixs_c (f := BookRow.v) H (fun _ => rfl) (fun x13 H => ?_); conv => whnf
    iterate 3 (refine Tst.T ?_; conv => whnf)
    refine askC2_c a2_h H (.cons (fzagg (.cons (.id rfl) (.cons (.id rfl) (.cons (.id rfl) (.cons (.id rfl) (.cons (.id rfl) (.cons (.id rfl) (.nil))))))) rfl) (.cons (.c (.id rfl)) (.nil))) (fun v14 H => ?_); conv => whnf
    iterate 2 (refine Tst.T ?_; conv => whnf)
    exact fin0_c (enc := (fun r : Int × Bool => .tup [V.i r.1, V.b r.2])) H (.inr rfl) (.cons (.tmp rfl) (.cons (.tmp rfl) (.nil))) rfl rfl
  conv => whnf
  iterate 2 (refine Ari.w ?_; conv => whnf)
  refine Shr.ok (by decide) ?_; conv => whnf
  refine Ari.w ?_; conv => whnf
  refine ixs_c (f := BookRow.v) H (fun _ => rfl) (fun x9 H => ?_); conv => whnf
  refine askC2_c a2_h H (.cons (fzagg (.cons (.id rfl) (.cons (.id rfl) (.cons (.id rfl) (.cons (.id rfl) (.cons (.id rfl) (.cons (.id rfl) (.nil))))))) rfl) (.cons (.c (.id rfl)) (.nil))) (fun v10 H => ?_); conv => whnf
  refine tst_d H (fun b11 H => ?_) (fun b11 H => ?_)
  · conv => whnf
    exact again_c [11, 15, 16, 17, 18, 19, 20, 21, 22, 23, 24, 25, 26, 27, 28, 29, 30, 31, 32, 33, 34] n5 0 [] (⟨_, _, H, rfl, rfl⟩) (Nat.lt_succ_self _) (Nat.zero_le _) rfl (by simp only [maskF, setF, List.set_cons_zero, List.set_cons_succ, V.ren.renL, V.ren, renL_id _ a2_h.own] <;> rfl) (by simp only [maskF, setF, List.set_cons_zero, List.set_cons_succ, V.idlt.belowL, V.idlt, fun n => idltL_up (n := n) _ a2_h.own] <;> rfl) rfl trivial
  conv => whnf
  refine Ari.w ?_; conv => whnf
  exact again_c [11, 15, 16, 17, 18, 19, 20, 21, 22, 23, 24, 25, 26, 27, 28, 29, 30, 31, 32, 33, 34] n5 0 [] (⟨_, _, H, rfl, rfl⟩) (Nat.lt_succ_self _) (Nat.zero_le _) rfl (by simp only [maskF, setF, List.set_cons_zero, List.set_cons_succ, V.ren.renL, V.ren, renL_id _ a2_h.own] <;> rfl) (by simp only [maskF, setF, List.set_cons_zero, List.set_cons_succ, V.idlt.belowL, V.idlt, fun n => idltL_up (n := n) _ a2_h.own] <;> rfl) rfl trivial
def gc56 : BCode := (.seq (.reg 1 [⟨(some 2), .bx (.tmp 0), none, 0⟩, ⟨(some 4), .mv (.const (.int .i64 0)), none, 1⟩, ⟨(some 5), .mv (.const (.bool false)), none, 1⟩] none 0 []) (.seq (.reg 0 [⟨(some 6), .fa 1 (.tmp 2), none, 0⟩, ⟨(some 7), .ld 1 false (.tmp 6), none, 0⟩, ⟨(some 8), .mv (.tmp 1), none, 0⟩, ⟨(some 9), .cl 80 [(.tmp 7), (.tmp 8), (.func 81)], none, 0⟩, ⟨(some 10), .ex (.tmp 9) 0, none, 0⟩, ⟨(some 11), .ex (.tmp 9) 1, none, 0⟩, ⟨(some 4), .mv (.tmp 10), none, 0⟩, ⟨(some 5), .mv (.tmp 11), none, 0⟩] none 0 []) .ret))
theorem gc56_ok : compF Tryz.prog Tryz.f56 = some (gc56.er, 12, [.tmp 4, .tmp 5]) := by unfold gc56; kernel_rfl
set_option maxRecDepth 100000 in
set_option maxHeartbeats 4000000 in
theorem p_book_State_find_v {u1 : Bool} (a0 : BookState) (a1 : ByteArray) : CallsO Tryz.prog 56 [.agg [.i a0.Seq, .sl (List.map BookRow.v a0.Rows) u1], .s a1] (fun r : Int × Bool => .tup [V.i r.1, V.b r.2]) (p_book_State_find a0 a1) := by
  refine callsO_comp mix Tryz.func56 gc56_ok fun r H => ?_
  rw [p_book_State_find] at H
  conv => whnf
  refine askF_c (p_slices_BinarySearchFunc_book_Row_v _ _ _ ⟨⟨_, Tryz.func81, by kernel_rfl, by kernel_rfl⟩, rfl, fun x0 x1 => p_book_State_find_1_v _ _⟩) H (.cons (.c (.slw)) (.cons (.c (.id rfl)) (.cons (.c (.clo (.nil))) (.nil)))) (fun v1 H => ?_); conv => whnf
  exact fin0_c (enc := (fun r : Int × Bool => .tup [V.i r.1, V.b r.2])) H (.inr rfl) (.cons (.tmp rfl) (.cons (.tmp rfl) (.nil))) rfl rfl
end Go.Proofs.YtljeinlapkgjeaaGreat
