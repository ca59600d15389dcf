/- A part of the proof: 5 texts joined. -/
import Derived.Test.YtljeinlapkgjeaaGreatQaA11
set_option linter.all false
/- The book in plain words: Set, Off and Get by a table; the twenty keys of the laws. -/
namespace Go.Proofs.YtljeinlapkgjeaaGreat
open Go.RowKit
theorem tab_check {F : Fam} {seq : Int} {has : List PresPres} (h : TabOK F seq has) (hs : seq < 1000) : bookCheck seq (tabR F has) = 0 := good_check (tab_good h (by omega))
theorem tabA1_len (F : Fam) (has : List PresPres) (k : Nat) : (tabA F has [k]).length ≤ 1 := by rw [tabA_one]; split <;> simp
theorem tabA1_nil (F : Fam) (has : List PresPres) (k : Nat) : tabA F has [k] = [] ↔ onF has k = false := by
  rw [tabA_one]; split <;> simp [*]
theorem tab_set {F : Fam} {seq : Int} {has : List PresPres} {k : Nat} {sh prio : Int} (h : TabOK F seq has) (hs : seq < 1000) (hk : k < F.n) (hp : presCheckL ⟨true, sh, prio, 0⟩ = 0) :
    setL seq (tabR F has) (F.u k) (F.r k) sh prio = if onF has k = false ∧ (16 ≤ (tabR F has).length ∨ 3 ≤ manyL (tabR F has) (F.u k)) then (seq, tabR F has, ⟨false, 0, 0, 0⟩, 7) else (seq + 1, tabR F (has.set k ⟨true, sh, prio, seq + 1⟩), ⟨true, sh, prio, seq + 1⟩, 0) := by
  have hg := tab_check h hs
  have hput := tab_put_eq F has ⟨true, sh, prio, seq + 1⟩ hk h.len
  rw [if_pos rfl] at hput
  rw [hput]
  have hc := tab_cut3 F has hk
  have hsp := tab_split F has hk
  have := set_cut (seq := seq) (sh := sh) (prio := prio) (by rw [← hsp]; exact hg) (tabA1_len F has k) hc (F.ok k hk).1 hp (by omega)
  rw [← hsp] at this
  rw [this]
  simp only [tabA1_nil]
theorem tab_off {F : Fam} {seq : Int} {has : List PresPres} {k : Nat} (h : TabOK F seq has) (hs : seq < 1000) (hk : k < F.n) :
    offL seq (tabR F has) (F.u k) (F.r k) = if onF has k = false then (seq, tabR F has, ⟨false, 0, 0, 0⟩, 6) else (seq + 1, tabR F (has.set k ⟨false, 0, 0, seq + 1⟩), ⟨false, 0, 0, seq + 1⟩, 0) := by
  have hg := tab_check h hs
  have hput := tab_put_eq F has ⟨false, 0, 0, seq + 1⟩ hk h.len
  rw [if_neg (by simp)] at hput
  rw [hput]
  have hc := tab_cut3 F has hk
  have hsp := tab_split F has hk
  have := off_cut (seq := seq) (by rw [← hsp]; exact hg) (tabA1_len F has k) hc (F.ok k hk).1 (by omega)
  rw [← hsp] at this
  rw [this]
  simp only [tabA1_nil]
theorem tab_get {F : Fam} {seq : Int} {has : List PresPres} {k : Nat} (h : TabOK F seq has) (hs : seq < 1000) (hk : k < F.n) :
    getL seq (tabR F has) (F.u k) (F.r k) = if onF has k = true then (preT has k, true) else (⟨false, 0, 0, 0⟩, false) := by
  have hg := tab_check h hs
  have hc := tab_cut3 F has hk
  have hsp := tab_split F has hk
  have := get_cut (seq := seq) (by rw [← hsp]; exact hg) hc (F.ok k hk).1
  rw [← hsp] at this
  rw [this, tabA_one]
  by_cases ho : onF has k = true
  · rw [if_pos ho, if_pos ho]; rfl
  · rw [if_neg ho, if_neg ho]; rfl
theorem tab_len (F : Fam) (has : List PresPres) : (tabR F has).length = (List.range F.n).countP (onF has) := by
  unfold tabR tabA; rw [List.length_map, List.countP_eq_length_filter]
theorem many_tab (F : Fam) (has : List PresPres) (v : ByteArray) : manyL (tabR F has) v = (List.range F.n).countP fun m => onF has m && ((F.u m).toList == v.toList) := by
  unfold manyL tabR tabA
  rw [List.countP_map, List.countP_filter]
  refine List.countP_congr fun m _ => ?_
  simp [rowT, and_comm]
theorem tab_small (F : Fam) (has : List PresPres) : smallB (tabR F has) := fun r hr => by
  obtain ⟨m, hm, _, rfl⟩ := mem_tabR hr
  have := (F.ok m hm).2
  exact ⟨by show (F.u m).size ≤ 100000; omega, by show (F.r m).size ≤ 100000; omega⟩
def u20 (w : Nat) : ByteArray := ⟨#[UInt8.ofNat (97 + w)]⟩ ++ ⟨#[64, 120]⟩
def r20 (r : Nat) : ByteArray := ⟨#[UInt8.ofNat (114 + r)]⟩
theorem all_lt {n : Nat} {p : Nat → Bool} (h : (List.range n).all p = true) : ∀ m, m < n → p m = true := fun m hm => List.all_eq_true.1 h m (List.mem_range.2 hm)
theorem ok20 : (List.range 20).all (fun m => !((keyL (u20 (m / 4)) (r20 (m % 4))).toList == (⟨#[]⟩ : ByteArray).toList) && (decide ((u20 (m / 4)).size ≤ 100) && decide ((r20 (m % 4)).size ≤ 100))) = true := by kernel_rfl
theorem mono20 : (List.range 20).all (fun j => (List.range j).all fun i => decide (Lib.compareBytes (keyL (u20 (i / 4)) (r20 (i % 4))).data.toList (keyL (u20 (j / 4)) (r20 (j % 4))).data.toList < 0)) = true := by kernel_rfl
def F20 : Fam where
  n := 20
  u m := u20 (m / 4)
  r m := r20 (m % 4)
  ok m hm := by
    have := all_lt ok20 m hm
    simpa using this
  mono i j hi hj := by
    have := all_lt (all_lt mono20 j hj) i hi
    simpa using this
theorem eq20 : (List.range 20).all (fun m => (List.range 5).all fun w => ((u20 (m / 4)).toList == (u20 w).toList) == decide (m / 4 = w)) = true := by kernel_rfl
theorem many20 (has : List PresPres) (w : Nat) (hw : w < 5) : manyL (tabR F20 has) (u20 w) = (List.range 4).countP fun i => onF has (4 * w + i) := by
  rw [many_tab]
  have e : (List.range 20).countP (fun m => onF has m && ((F20.u m).toList == (u20 w).toList)) = (List.range 20).countP fun m => onF has m && decide (m / 4 = w) :=
    List.countP_congr fun m hm => by
      have := all_lt (all_lt eq20 m (List.mem_range.1 hm)) w hw
      have h2 : ((u20 (m / 4)).toList == (u20 w).toList) = decide (m / 4 = w) := by simpa using this
      show (onF has m && ((u20 (m / 4)).toList == (u20 w).toList)) = true ↔ _
      rw [h2]
  show (List.range 20).countP _ = _
  rw [e]
  have r20 : List.range 20 = [0, 1, 2, 3, 4, 5, 6, 7, 8, 9, 10, 11, 12, 13, 14, 15, 16, 17, 18, 19] := rfl
  have r4 : List.range 4 = [0, 1, 2, 3] := rfl
  rw [r20, r4]
  have : w = 0 ∨ w = 1 ∨ w = 2 ∨ w = 3 ∨ w = 4 := by omega
  rcases this with rfl | rfl | rfl | rfl | rfl <;> simp [List.countP_cons]
theorem tab20_0 : TabOK F20 0 (List.replicate 20 ⟨false, 0, 0, 0⟩) := by
  have hon : ∀ m, onF (List.replicate 20 ⟨false, 0, 0, 0⟩) m = false := fun m => by
    unfold onF preT
    rw [List.getD_eq_getElem?_getD, List.getElem?_replicate]
    split <;> rfl
  have ht : tabR F20 (List.replicate 20 ⟨false, 0, 0, 0⟩) = [] := by
    unfold tabR tabA
    rw [List.filter_eq_nil_iff.2 (fun m _ => by rw [hon m]; simp)]; rfl
  have hno : ∀ m {q : Prop}, onF (List.replicate 20 ⟨false, 0, 0, 0⟩) m = true → q := fun m q h => by rw [hon m] at h; cases h
  refine { len := by rw [List.length_replicate]; rfl, seq0 := Int.le_refl _, pres := fun m _ h => hno m h, rng := fun m _ h => hno m h, diff := fun i j _ _ h => hno i h, cnt := by rw [ht]; simp, many := fun m _ h => hno m h }
theorem tab20_rows : tabR F20 (List.replicate 20 ⟨false, 0, 0, 0⟩) = [] := by
  unfold tabR tabA
  rw [List.filter_eq_nil_iff.2]; rfl
  intro m _
  unfold onF preT
  rw [List.getD_eq_getElem?_getD, List.getElem?_replicate]
  split <;> simp
end Go.Proofs.YtljeinlapkgjeaaGreat
/- The program's book computes what the plain words say: checks. -/
namespace Go.Proofs.YtljeinlapkgjeaaGreat
open Go.RowKit
theorem at_nat {α : Type} (l : List α) (k : Nat) : at? l (k : Int) = l[k]? := by
  unfold at?; rw [if_pos (Int.natCast_nonneg k)]; rfl
theorem at_lt {α : Type} {l : List α} {k : Nat} (h : k < l.length) : at? l (k : Int) = some l[k] := by rw [at_nat, List.getElem?_eq_getElem h]
theorem w64_id {r : Int} (h : -9223372036854775808 ≤ r ∧ r ≤ 9223372036854775807) : w64 r = r := wrap_ok h
theorem w64_succ {k : Nat} (h : k ≤ 1000000) : w64 ((k : Int) + 1) = ((k + 1 : Nat) : Int) := by rw [w64_id (by omega)]; rfl
theorem lt_tt {a b : Nat} (h : a < b) : decide ((a : Int) < (b : Int)) = true := by simpa using h
theorem lt_ff {a b : Nat} (h : b ≤ a) : decide ((a : Int) < (b : Int)) = false := by simpa using h
theorem drop_at {α : Type} {l : List α} {k : Nat} (h : k < l.length) : l.drop k = l[k] :: l.drop (k + 1) := List.drop_eq_getElem_cons h
theorem fuel_pos : (1000000 : Nat) < fuel := by decide
theorem named_p {u r : ByteArray} (hu : u.size ≤ 100000) (hr : r.size ≤ 100000) : p_pres_named u r = some (namedL u r) := by
  unfold p_pres_named p_addr_Resource p_addr_IsBare namedL
  rw [if_pos hr, if_pos hu]
  by_cases h : resL r.data.toList = 0
  · simp [h]
  · have e : (resL r.data.toList == 0) = false := by simpa using h
    simp [h, e]
theorem key_p {u r : ByteArray} (hu : u.size ≤ 100000) (hr : r.size ≤ 100000) : p_pres_Key u r = some (keyL u r) := by
  unfold p_pres_Key cat? keyL
  rw [named_p hu hr]
  obtain ⟨h1, h2⟩ := cat_sz u r hu hr
  cases namedL u r
  · rfl
  · simp only [Option.bind_some, cond_true, if_pos h1, if_pos h2, if_true]
theorem keyR_p {x : BookRow} (h : smallR x) : p_book_Row_key x = some (keyR x) := by
  unfold p_book_Row_key; rw [key_p h.1 h.2]; rfl
theorem check1_p {x : BookRow} (h : smallR x) : p_book_Check_1 x = some ((keyR x).toList == (⟨#[]⟩ : ByteArray).toList) := by
  unfold p_book_Check_1; rw [keyR_p h]; rfl
theorem index_l (f : BookRow → Option Bool) (p : BookRow → Bool) (rows : List BookRow) (hn : rows.length ≤ 1000) (hf : ∀ x ∈ rows, f x = some (p x)) : ∀ (n k F : Nat), k + n = rows.length → n < F →
    p_slices_IndexFunc_book_Row_l1 f rows rows.length F k = some (if (rows.drop k).any p = true then .inl ((k + (rows.drop k).findIdx p : Nat) : Int) else .inr (rows.length : Int))
  | 0, k, F + 1, hk, hF => by
    have e : rows.drop k = [] := List.drop_of_length_le (by omega)
    have : k = rows.length := by omega
    rw [p_slices_IndexFunc_book_Row_l1, lt_ff (by omega), e, this]; rfl
  | n + 1, k, F + 1, hk, hF => by
    have hlt : k < rows.length := by omega
    rw [p_slices_IndexFunc_book_Row_l1, lt_tt hlt, at_lt hlt, drop_at hlt]
    simp only [cond_true, Option.bind_some, hf _ (List.getElem_mem hlt)]
    cases hp : p rows[k] with
    | true => rw [List.any_cons, hp, List.findIdx_cons, hp]; rfl
    | false =>
      simp only [cond_false]
      rw [w64_succ (by omega), index_l f p rows hn hf n (k + 1) F (by omega) (by omega)]
      simp only [List.any_cons, hp, Bool.false_or, List.findIdx_cons, cond_false]
      split
      · congr 3; omega
      · rfl
theorem index_p {f : BookRow → Option Bool} (p : BookRow → Bool) {rows : List BookRow} (hn : rows.length ≤ 1000) (hf : ∀ x ∈ rows, f x = some (p x)) : p_slices_IndexFunc_book_Row rows f = some (idxL p rows) := by
  unfold p_slices_IndexFunc_book_Row
  have := index_l f p rows hn hf rows.length 0 fuel (by omega) (by have := fuel_pos; omega)
  rw [show ((0 : Int)) = ((0 : Nat) : Int) from rfl, this]
  unfold idxL
  rw [List.drop_zero]
  split <;> simp
theorem contains_p {f : BookRow → Option Bool} (p : BookRow → Bool) {rows : List BookRow} (hn : rows.length ≤ 1000) (hf : ∀ x ∈ rows, f x = some (p x)) : p_slices_ContainsFunc_book_Row rows f = some (rows.any p) := by
  unfold p_slices_ContainsFunc_book_Row
  rw [index_p p hn hf]
  unfold idxL
  cases rows.any p <;> simp
theorem in_p (n a b : Int) : p_pres_in n a b = some (decide (a ≤ n) && decide (n ≤ b)) := by
  unfold p_pres_in
  cases decide (a ≤ n) <;> rfl
theorem presCheck_p (x : PresPres) : p_pres_Check x = some (presCheckL x) := by
  unfold p_pres_Check presCheckL
  simp only [in_p, Option.bind_some]
  cases h1 : (decide (0 ≤ x.Show) && decide (x.Show ≤ 4)) with
  | false =>
    have : x.Show < 0 ∨ 4 < x.Show := by simp at h1; omega
    rw [if_pos (by omega)]; rfl
  | true =>
    cases h2 : (decide (-128 ≤ x.Prio) && decide (x.Prio ≤ 127)) with
    | false =>
      have : x.Prio < -128 ∨ 127 < x.Prio := by simp at h2; omega
      rw [if_pos (by omega)]; rfl
    | true =>
      cases h3 : (decide (0 ≤ x.Seq) && decide (x.Seq ≤ 1099511627776)) with
      | false =>
        have : x.Seq < 0 ∨ 1099511627776 < x.Seq := by simp at h3; omega
        rw [if_pos (by omega)]; rfl
      | true =>
        simp at h1 h2 h3
        rw [if_neg (by omega)]
        cases ho : x.On with
        | true => simp
        | false =>
          by_cases hs : x.Show = 0 <;> by_cases hq : x.Prio = 0
          · simp [hs, hq]
          · have e : (x.Prio == 0) = false := by simpa using hq
            simp [hs, hq, e]
          · have e : (x.Show == 0) = false := by simpa using hs
            simp [hs, hq, e]
          · have e : (x.Show == 0) = false := by simpa using hs
            simp [hs, hq, e]
theorem errors_l (rows : List BookRow) (hn : rows.length ≤ 1000) : ∀ (n k F : Nat), k + n = rows.length → n < F →
    p_book_State_errors_l1 rows rows.length F k = some (if errL (rows.drop k) ≠ 0 then .inl (errL (rows.drop k)) else .inr (rows.length : Int))
  | 0, k, F + 1, hk, hF => by
    have e : rows.drop k = [] := List.drop_of_length_le (by omega)
    have : k = rows.length := by omega
    rw [p_book_State_errors_l1, lt_ff (by omega), e, this]; rfl
  | n + 1, k, F + 1, hk, hF => by
    have hlt : k < rows.length := by omega
    rw [p_book_State_errors_l1, lt_tt hlt, at_lt hlt, err_at rows k hlt]
    simp only [cond_true, Option.bind_some, presCheck_p]
    by_cases h : presCheckL rows[k].P = 0
    · simp only [h, bne_self_eq_false, cond_false]
      cases ho : rows[k].P.On with
      | false => simp
      | true =>
        simp only [cond_true]
        rw [w64_succ (by omega), errors_l rows hn n (k + 1) F (by omega) (by omega)]
        simp
    · have : (presCheckL rows[k].P != 0) = true := by simpa using h
      simp [this, h]
theorem errors_p (st : BookState) (hn : st.Rows.length ≤ 1000) : p_book_State_errors st = some (errL st.Rows) := by
  unfold p_book_State_errors
  have := errors_l st.Rows hn st.Rows.length 0 fuel (by omega) (by have := fuel_pos; omega)
  rw [show ((0 : Int)) = ((0 : Nat) : Int) from rfl, this]
  rw [List.drop_zero]
  by_cases h : errL st.Rows = 0 <;> simp [h]
theorem cutTo {α : Type} {l : List α} {k : Nat} (h : k ≤ l.length) : cut? l none (some (k : Int)) = some (l.take k) := by
  unfold cut?
  simp only [Option.getD_none, Option.getD_some]
  rw [if_pos (by omega)]
  simp
theorem cutFrom {α : Type} {l : List α} {k : Nat} (h : k ≤ l.length) : cut? l (some (k : Int)) none = some (l.drop k) := by
  unfold cut?
  simp only [Option.getD_none, Option.getD_some]
  rw [if_pos (by omega)]
  rw [List.take_of_length_le (by simp)]; rfl
theorem ord1_p (x : BookRow) : ∀ o : BookRow, p_book_State_ordered_1 o x = some (o.P.Seq == x.P.Seq) := fun _ => rfl
theorem bnot_inl {b : Bool} {α : Type} {x : Option α} {y : Option α} (h : b = true) : (bif b then x else y) = x := by rw [h]; rfl
theorem ordered_l (st : BookState) (hn : st.Rows.length ≤ 1000) (hs : smallB st.Rows) : ∀ (n k F : Nat), k + n = st.Rows.length → n < F →
    p_book_State_ordered_l1 st.Rows st.Rows.length st F k = some (if ((List.range st.Rows.length).drop k).all (okAt st.Seq st.Rows) = true then .inr (st.Rows.length : Int) else .inl false)
  | 0, k, F + 1, hk, hF => by
    have e : (List.range st.Rows.length).drop k = [] := List.drop_of_length_le (by simp; omega)
    have : k = st.Rows.length := by omega
    rw [p_book_State_ordered_l1, lt_ff (by omega), e, this]; rfl
  | n + 1, k, F + 1, hk, hF => by
    have hlt : k < st.Rows.length := by omega
    have hd : (List.range st.Rows.length).drop k = k :: (List.range st.Rows.length).drop (k + 1) := by
      rw [drop_at (by simpa using hlt)]; simp
    rw [p_book_State_ordered_l1, lt_tt hlt, at_lt hlt, hd, List.all_cons]
    simp only [cond_true, Option.bind_some]
    have hc := contains_p (f := fun x0 => p_book_State_ordered_1 x0 st.Rows[k]) (fun o => o.P.Seq == st.Rows[k].P.Seq) (rows := st.Rows.take k) (by rw [List.length_take]; omega) (fun o _ => ord1_p _ o)
    have ih := ordered_l st hn hs n (k + 1) F (by omega) (by omega)
    rw [w64_succ (by omega), ih, cutTo (by omega)]
    simp only [Option.bind_some, hc]
    cases k with
    | zero =>
      rw [okAt_0 hlt]
      by_cases h1 : st.Rows[0].P.Seq < 1
      · simp only [decide_eq_true h1, cond_true]
        rw [if_neg (by simp <;> omega)]
      · by_cases h2 : st.Seq < st.Rows[0].P.Seq
        · simp only [decide_eq_false h1, cond_false, decide_eq_true h2, cond_true]
          rw [if_neg (by simp <;> omega)]
        · simp only [decide_eq_false h1, cond_false, decide_eq_false h2, show decide ((0 : Int) < ((0 : Nat) : Int)) = false from rfl]
          rw [decide_eq_true (show (1 : Int) ≤ st.Rows[0].P.Seq by omega), decide_eq_true (show st.Rows[0].P.Seq ≤ st.Seq by omega)]
          cases (List.take 0 st.Rows).any fun o => o.P.Seq == st.Rows[0].P.Seq
          · simp only [cond_false, Bool.not_false, Bool.and_true, Bool.true_and]
          · simp
    | succ j =>
      rw [okAt_s j hlt]
      have hj : j < st.Rows.length := by omega
      have e0 : w64 (((j + 1 : Nat) : Int) - 1) = (j : Int) := by rw [w64_id (by omega)]; omega
      rw [e0, at_lt hj]
      simp only [Option.bind_some, keyR_p (hs _ (List.getElem_mem hj)), keyR_p (hs _ (List.getElem_mem hlt))]
      by_cases h1 : st.Rows[j + 1].P.Seq < 1
      · simp only [decide_eq_true h1, cond_true]
        rw [if_neg (by simp <;> omega)]
      · by_cases h2 : st.Seq < st.Rows[j + 1].P.Seq
        · simp only [decide_eq_false h1, cond_false, decide_eq_true h2, cond_true]
          rw [if_neg (by simp <;> omega)]
        · have h3 : decide ((0 : Int) < ((j + 1 : Nat) : Int)) = true := decide_eq_true (by omega)
          simp only [decide_eq_false h1, cond_false, decide_eq_false h2, h3, cond_true]
          rw [decide_eq_true (show (1 : Int) ≤ st.Rows[j + 1].P.Seq by omega), decide_eq_true (show st.Rows[j + 1].P.Seq ≤ st.Seq by omega)]
          have hl : lessR st.Rows[j] st.Rows[j + 1] = Op.bytesLess (keyR st.Rows[j]).toList (keyR st.Rows[j + 1]).toList := rfl
          rw [hl]
          cases Op.bytesLess (keyR st.Rows[j]).toList (keyR st.Rows[j + 1]).toList
          · simp
          · cases (List.take (j + 1) st.Rows).any fun o => o.P.Seq == st.Rows[j + 1].P.Seq
            · simp only [cond_true, cond_false, Bool.not_false, Bool.and_true, Bool.true_and]
            · simp
theorem ordered_p (st : BookState) (hn : st.Rows.length ≤ 1000) (hs : smallB st.Rows) : p_book_State_ordered st = some (ordL st.Seq st.Rows) := by
  unfold p_book_State_ordered
  have := ordered_l st hn hs st.Rows.length 0 fuel (by omega) (by have := fuel_pos; omega)
  rw [show ((0 : Int)) = ((0 : Nat) : Int) from rfl, this]
  rw [List.drop_zero]
  unfold ordL
  cases (List.range st.Rows.length).all (okAt st.Seq st.Rows) <;> simp
theorem many_l (u : ByteArray) (rows : List BookRow) (hn : rows.length ≤ 1000) : ∀ (n k F a : Nat), k + n = rows.length → n < F → a ≤ k →
    p_book_State_many_l1 u rows rows.length F a k = some (((a + manyL (rows.drop k) u : Nat) : Int), (rows.length : Int))
  | 0, k, F + 1, a, hk, hF, ha => by
    have e : rows.drop k = [] := List.drop_of_length_le (by omega)
    have : k = rows.length := by omega
    rw [p_book_State_many_l1, lt_ff (by omega), e, this]; rfl
  | n + 1, k, F + 1, a, hk, hF, ha => by
    have hlt : k < rows.length := by omega
    rw [p_book_State_many_l1, lt_tt hlt, at_lt hlt, drop_at hlt]
    simp only [cond_true, Option.bind_some]
    rw [w64_succ (show k ≤ 1000000 by omega), w64_succ (show a ≤ 1000000 by omega)]
    have hm : manyL (rows[k] :: rows.drop (k + 1)) u = manyL (rows.drop (k + 1)) u + if (rows[k].User.toList == u.toList) = true then 1 else 0 := by
      unfold manyL; rw [List.countP_cons]
    rw [hm]
    cases h : rows[k].User.toList == u.toList with
    | true =>
      simp only [cond_true, if_true]
      rw [many_l u rows hn n (k + 1) F (a + 1) (by omega) (by omega) (by omega)]
      congr 3; omega
    | false =>
      simp only [cond_false]
      rw [many_l u rows hn n (k + 1) F a (by omega) (by omega) (by omega)]
      simp
theorem many_p (st : BookState) (u : ByteArray) (hn : st.Rows.length ≤ 1000) : p_book_State_many st u = some ((manyL st.Rows u : Nat) : Int) := by
  unfold p_book_State_many
  have := many_l u st.Rows hn st.Rows.length 0 fuel 0 (by omega) (by have := fuel_pos; omega) (by omega)
  rw [show ((0 : Int)) = ((0 : Nat) : Int) from rfl, this]
  simp
theorem check2_p (st : BookState) (hn : st.Rows.length ≤ 1000) (x : BookRow) : p_book_Check_2 x st = some (decide (3 < manyL st.Rows x.User)) := by
  unfold p_book_Check_2
  rw [many_p st x.User hn]
  simp only [Option.bind_some, Option.some.injEq, decide_eq_decide]
  omega
theorem check_p (st : BookState) (hn : st.Rows.length ≤ 1000) (hs : smallB st.Rows) : p_book_Check st = some (bookCheck st.Seq st.Rows) := by
  unfold p_book_Check bookCheck
  by_cases h0 : 16 < st.Rows.length
  · rw [decide_eq_true (show (16 : Int) < (st.Rows.length : Int) by omega), if_pos h0]; rfl
  rw [decide_eq_false (show ¬ (16 : Int) < (st.Rows.length : Int) by omega), if_neg h0]
  by_cases h1 : st.Seq < 0
  · rw [decide_eq_true h1, if_pos (.inl h1)]; rfl
  rw [decide_eq_false h1]
  by_cases h2 : 1099511627776 < st.Seq
  · rw [decide_eq_true h2, if_pos (.inr h2)]; rfl
  rw [decide_eq_false h2, if_neg (by omega)]
  simp only [cond_false]
  rw [contains_p (fun r => (keyR r).toList == (⟨#[]⟩ : ByteArray).toList) hn (fun x hx => check1_p (hs x hx))]
  have he : emptyL st.Rows = st.Rows.any fun r => (keyR r).toList == (⟨#[]⟩ : ByteArray).toList := rfl
  rw [← he]
  cases emptyL st.Rows with
  | true => rfl
  | false =>
    simp only [Option.bind_some, cond_false, errors_p st hn, ordered_p st hn hs]
    by_cases h3 : errL st.Rows = 0
    · simp only [h3, bne_self_eq_false, cond_false]
      cases ordL st.Seq st.Rows with
      | false => rfl
      | true =>
        simp only [cond_true]
        rw [contains_p (fun r => decide (3 < manyL st.Rows r.User)) hn (fun x _ => check2_p st hn x)]
        have hf : fullL st.Rows = st.Rows.any fun r => decide (3 < manyL st.Rows r.User) := rfl
        rw [← hf]
        cases fullL st.Rows <;> rfl
    · have : (errL st.Rows != 0) = true := by simpa using h3
      simp [this, h3]
end Go.Proofs.YtljeinlapkgjeaaGreat
/- The program's book computes what the plain words say: find, Set, Off, Get, Next, Of, Best, Users, Same. -/
namespace Go.Proofs.YtljeinlapkgjeaaGreat
open Go.RowKit
theorem u64_id {r : Int} (hr : 0 ≤ r ∧ r ≤ 9223372036854775807) : IntKind.u64.wrap r = r := by
  simp only [IntKind.wrap, IntKind.signed, IntKind.bits]
  first | omega | (simp; omega)
theorem fdivN (m p : Nat) : (m : Int).fdiv (2 ^ p) = ((m / 2 ^ p : Nat) : Int) := by
  rw [show ((2 : Int) ^ p) = ((2 ^ p : Nat) : Int) by simp, Int.fdiv_eq_ediv_of_nonneg _ (Int.natCast_nonneg _)]; rfl
theorem half_p {i j : Nat} (h : i + j ≤ 100000) : w64 (shrI .u64 (IntKind.wrap .u64 (w64 ((i : Int) + (j : Int)))) (1 : Int)) = (((i + j) / 2 : Nat) : Int) := by
  have e1 : w64 ((i : Int) + (j : Int)) = ((i + j : Nat) : Int) := by rw [w64_id (by omega)]; omega
  have e2 : IntKind.wrap .u64 ((i + j : Nat) : Int) = ((i + j : Nat) : Int) := u64_id (by omega)
  have e : (min (1 : Int).toNat IntKind.u64.bits) = 1 := rfl
  have e3 : shrI .u64 ((i + j : Nat) : Int) 1 = (((i + j) / 2 : Nat) : Int) := by
    unfold shrI
    rw [e, fdivN]
  rw [e1, e2, e3]
  exact w64_id (by omega)
theorem find1_p {x : BookRow} (h : smallR x) (k : ByteArray) : p_book_State_find_1 x k = some (cmpR x k) := by
  unfold p_book_State_find_1 p_strings_Compare
  rw [keyR_p h]; rfl
theorem search_l {rows : List BookRow} {key : ByteArray} {pos : Nat} (hn : rows.length ≤ 1000) (hs : smallB rows) (hp : StandsAt rows key pos) : ∀ (d i j F : Nat), i + d = j → j ≤ rows.length → i ≤ pos → pos ≤ j → d < F →
    p_slices_BinarySearchFunc_book_Row_l1 (fun x0 x1 => p_book_State_find_1 x0 x1) rows key F i j = some ((pos : Int), (pos : Int)) := by
  intro d
  induction d using Nat.strongRecOn with
  | ind d ih =>
    intro i j F hd hj h1 h2 hF
    obtain ⟨F, rfl⟩ : ∃ G, F = G + 1 := ⟨F - 1, by omega⟩
    rw [p_slices_BinarySearchFunc_book_Row_l1]
    rcases Nat.lt_or_ge i j with hij | hij
    · rw [lt_tt hij, half_p (by omega), w64_succ (show (i + j) / 2 ≤ 1000000 by omega)]
      have hm : (i + j) / 2 < rows.length := by omega
      simp only [cond_true, at_lt hm, Option.bind_some, find1_p (hs _ (List.getElem_mem hm))]
      rcases Nat.lt_or_ge ((i + j) / 2) pos with hlt | hge
      · rw [decide_eq_true (hp.lt _ hm hlt), cond_true]
        exact ih (j - ((i + j) / 2 + 1)) (by omega) _ _ F (by omega) hj (by omega) h2 (by omega)
      · have := hp.ge _ hm hge
        rw [decide_eq_false (by omega), cond_false]
        exact ih ((i + j) / 2 - i) (by omega) _ _ F (by omega) (by omega) h1 hge (by omega)
    · rw [lt_ff hij]
      have : i = pos := by omega
      have : j = pos := by omega
      subst_vars
      simp
theorem find_p {st : BookState} {k : ByteArray} (hn : st.Rows.length ≤ 1000) (hs : smallB st.Rows) (ho : sortedR st.Rows) : p_book_State_find st k = some (((posL st.Rows k : Nat) : Int), foundB st.Rows k (posL st.Rows k)) := by
  have hp := stands ho k
  have hl := search_l hn hs hp st.Rows.length 0 st.Rows.length fuel (by omega) (Nat.le_refl _) (Nat.zero_le _) hp.le (by have := fuel_pos; omega)
  unfold p_book_State_find p_slices_BinarySearchFunc_book_Row
  rw [show ((0 : Int)) = ((0 : Nat) : Int) from rfl, hl]
  simp only [Option.bind_some]
  unfold foundB
  rcases Nat.lt_or_ge (posL st.Rows k) st.Rows.length with h | h
  · rw [lt_tt h, at_lt h, List.getElem?_eq_getElem h]
    simp only [cond_true, Option.bind_some, find1_p (hs _ (List.getElem_mem h))]; rfl
  · rw [lt_ff h, List.getElem?_eq_none h]; rfl
theorem app_ok {α : Type} {a b : List α} (h : a.length + b.length ≤ 1000000) : app? a b = some (a ++ b) := if_pos h
def stL (t : Int × List BookRow × PresPres × Int) : BookState × PresPres × Int := (⟨t.1, t.2.1⟩, t.2.2.1, t.2.2.2)
theorem set_p {st : BookState} {u r : ByteArray} {sh prio : Int} (hn : st.Rows.length ≤ 1000) (hs : smallB st.Rows) (hu : u.size ≤ 100000) (hr : r.size ≤ 100000) : p_book_Set st u r sh prio = some (stL (setL st.Seq st.Rows u r sh prio)) := by
  unfold p_book_Set setL
  rw [check_p st hn hs]
  by_cases hc : bookCheck st.Seq st.Rows = 0
  · have ho := ord_sorted (check_ord hc)
    have hsq := check_seq hc
    have hl := check_len hc
    simp only [hc, bne_self_eq_false, cond_false, Option.bind_some, ne_eq, not_true_eq_false, if_false]
    have hx : smallR (BookRow.mk u r ⟨true, sh, prio, 0⟩) := ⟨hu, hr⟩
    rw [keyR_p hx]
    simp only [Option.bind_some]
    generalize hk : keyR (BookRow.mk u r ⟨true, sh, prio, 0⟩) = k
    cases hke : k.toList == (⟨#[]⟩ : ByteArray).toList with
    | true => simp; rfl
    | false =>
      simp only [cond_false, Bool.false_eq_true, if_false, presCheck_p, Option.bind_some]
      by_cases hpc : presCheckL ⟨true, sh, prio, 0⟩ = 0
      · simp only [hpc, bne_self_eq_false, cond_false, not_true_eq_false, if_false]
        rw [find_p hn hs ho]
        simp only [Option.bind_some]
        have hle : posL st.Rows k ≤ st.Rows.length := List.findIdx_le_length
        have hw : w64 (st.Seq + 1) = st.Seq + 1 := w64_id (by omega)
        cases hf : foundB st.Rows k (posL st.Rows k) with
        | true =>
          have hlt := found_lt hf
          simp only [cond_true, Bool.true_eq_false, false_and, if_false, if_true, hw]
          by_cases h9 : 1099511627776 ≤ st.Seq
          · rw [decide_eq_true h9, if_pos h9]; rfl
          · rw [decide_eq_false h9, if_neg h9]
            simp only [cond_false]
            rw [w64_succ (by omega), cutFrom hle, cutFrom (by omega), cutTo hle]
            simp only [Option.bind_some]
            rw [app_ok (by simp; omega)]
            simp only [Option.bind_some]
            rw [app_ok (by simp; omega)]
            simp [stL]
        | false =>
          simp only [cond_false, true_and, Bool.false_eq_true, if_false, hw]
          by_cases h16 : 16 ≤ st.Rows.length
          · rw [decide_eq_true (show (16 : Int) ≤ (st.Rows.length : Int) by omega), if_pos (.inl h16)]; rfl
          · rw [decide_eq_false (show ¬ (16 : Int) ≤ (st.Rows.length : Int) by omega), many_p st u hn]
            simp only [cond_false, Option.bind_some]
            by_cases h3 : 3 ≤ manyL st.Rows u
            · rw [decide_eq_true (show (3 : Int) ≤ ((manyL st.Rows u : Nat) : Int) by omega), if_pos (.inr h3)]; rfl
            · rw [decide_eq_false (show ¬ (3 : Int) ≤ ((manyL st.Rows u : Nat) : Int) by omega), if_neg (by omega)]
              by_cases h9 : 1099511627776 ≤ st.Seq
              · rw [decide_eq_true h9, if_pos h9]; rfl
              · rw [decide_eq_false h9, if_neg h9]
                simp only [cond_false]
                rw [cutFrom hle, cutTo hle]
                simp only [Option.bind_some]
                rw [app_ok (by simp; omega)]
                simp only [Option.bind_some]
                rw [app_ok (by simp; omega)]
                simp [stL]
      · have : (presCheckL ⟨true, sh, prio, 0⟩ != 0) = true := by simpa using hpc
        simp [this, hpc, stL]
  · have : (bookCheck st.Seq st.Rows != 0) = true := by simpa using hc
    simp [this, hc, stL]
theorem off_p {st : BookState} {u r : ByteArray} (hn : st.Rows.length ≤ 1000) (hs : smallB st.Rows) (hu : u.size ≤ 100000) (hr : r.size ≤ 100000) : p_book_Off st u r = some (stL (offL st.Seq st.Rows u r)) := by
  unfold p_book_Off offL
  rw [check_p st hn hs]
  by_cases hc : bookCheck st.Seq st.Rows = 0
  · have ho := ord_sorted (check_ord hc)
    have hsq := check_seq hc
    have hl := check_len hc
    simp only [hc, bne_self_eq_false, cond_false, Option.bind_some, ne_eq, not_true_eq_false, if_false]
    rw [key_p hu hr]
    simp only [Option.bind_some]
    generalize hk : keyL u r = k
    rw [find_p hn hs ho]
    simp only [Option.bind_some]
    have hle : posL st.Rows k ≤ st.Rows.length := List.findIdx_le_length
    have hw : w64 (st.Seq + 1) = st.Seq + 1 := w64_id (by omega)
    cases hf : foundB st.Rows k (posL st.Rows k) with
    | false => simp [stL]
    | true =>
      have hlt := found_lt hf
      simp only [cond_true, Bool.true_eq_false, false_or, hw]
      cases hke : k.toList == (⟨#[]⟩ : ByteArray).toList with
      | true => simp [stL]
      | false =>
        simp only [cond_false, Bool.false_eq_true, if_false]
        by_cases h9 : 1099511627776 ≤ st.Seq
        · rw [decide_eq_true h9, if_pos h9]; rfl
        · rw [decide_eq_false h9, if_neg h9]
          simp only [cond_false]
          rw [w64_succ (by omega), cutFrom (by omega), cutTo hle]
          simp only [Option.bind_some]
          rw [app_ok (by simp; omega)]
          rfl
  · have : (bookCheck st.Seq st.Rows != 0) = true := by simpa using hc
    simp [this, hc, stL]
theorem get_p {st : BookState} {u r : ByteArray} (hn : st.Rows.length ≤ 1000) (hs : smallB st.Rows) (hu : u.size ≤ 100000) (hr : r.size ≤ 100000) : p_book_Get st u r = some (getL st.Seq st.Rows u r) := by
  unfold p_book_Get getL
  rw [key_p hu hr]
  simp only [Option.bind_some]
  generalize hk : keyL u r = k
  cases hke : k.toList == (⟨#[]⟩ : ByteArray).toList with
  | true => simp
  | false =>
    simp only [cond_false, Bool.false_eq_true, if_false, check_p st hn hs, Option.bind_some]
    by_cases hc : bookCheck st.Seq st.Rows = 0
    · have ho := ord_sorted (check_ord hc)
      simp only [hc, bne_self_eq_false, cond_false, ne_eq, not_true_eq_false, if_false]
      rw [find_p hn hs ho]
      simp only [Option.bind_some]
      cases hf : foundB st.Rows k (posL st.Rows k) with
      | false => simp
      | true =>
        have hlt := found_lt hf
        simp only [cond_true, Bool.true_eq_false, if_false]
        rw [at_lt hlt, List.getD_eq_getElem?_getD, List.getElem?_eq_getElem hlt]; rfl
    · have : (bookCheck st.Seq st.Rows != 0) = true := by simpa using hc
      simp [this, hc]
theorem next_p {st : BookState} {k : ByteArray} (hn : st.Rows.length ≤ 1000) (hs : smallB st.Rows) : p_book_Next st k = some (nxtL st.Seq st.Rows k) := by
  unfold p_book_Next nxtL
  rw [check_p st hn hs]
  by_cases hc : bookCheck st.Seq st.Rows = 0
  · have ho := ord_sorted (check_ord hc)
    simp only [hc, bne_self_eq_false, cond_false, Option.bind_some, ne_eq, not_true_eq_false, if_false]
    rw [find_p hn hs ho]
    have hle : posL st.Rows k ≤ st.Rows.length := List.findIdx_le_length
    simp only [Option.bind_some]
    have go : ∀ p : Nat, p ≤ st.Rows.length → (bif ((p : Int) == (st.Rows.length : Int)) then some ((BookRow.mk (⟨#[]⟩ : ByteArray) (⟨#[]⟩ : ByteArray) (PresPres.mk false (0 : Int) (0 : Int) (0 : Int))), false) else (at? st.Rows (p : Int)).bind fun x6 => some (x6, true)) = some (rowAt st.Rows p) := by
      intro p hp
      rcases Nat.lt_or_ge p st.Rows.length with h | h
      · have e : ((p : Int) == (st.Rows.length : Int)) = false := by simp; omega
        rw [e, at_lt h, rowAt_lt h]; rfl
      · have e : ((p : Int) == (st.Rows.length : Int)) = true := by simp; omega
        rw [e, rowAt_ge h]; rfl
    cases hf : foundB st.Rows k (posL st.Rows k) with
    | false =>
      simp only [cond_false, Bool.false_eq_true, if_false]
      exact go _ hle
    | true =>
      have hlt := found_lt hf
      simp only [cond_true, if_true]
      rw [w64_succ (by omega)]
      exact go _ hlt
  · have : (bookCheck st.Seq st.Rows != 0) = true := by simpa using hc
    simp [this, hc]
theorem of_l (u : ByteArray) (rows : List BookRow) (hn : rows.length ≤ 1000) : ∀ (n k F : Nat) (acc : List BookRow), k + n = rows.length → n < F → acc.length ≤ k →
    p_book_Of_l1 u rows rows.length F acc k = some (acc ++ (rows.drop k).filter (fun x => x.User.toList == u.toList), (rows.length : Int))
  | 0, k, F + 1, acc, hk, hF, ha => by
    have e : rows.drop k = [] := List.drop_of_length_le (by omega)
    have : k = rows.length := by omega
    rw [p_book_Of_l1, lt_ff (by omega), e, this]; simp
  | n + 1, k, F + 1, acc, hk, hF, ha => by
    have hlt : k < rows.length := by omega
    rw [p_book_Of_l1, lt_tt hlt, at_lt hlt, drop_at hlt]
    simp only [cond_true, Option.bind_some]
    rw [w64_succ (show k ≤ 1000000 by omega)]
    cases h : rows[k].User.toList == u.toList with
    | true =>
      simp only [cond_true]
      rw [app_ok (by simp; omega)]
      simp only [Option.bind_some]
      rw [of_l u rows hn n (k + 1) F _ (by omega) (by omega) (by simp; omega), List.filter_cons_of_pos (by simpa using h)]
      simp
    | false =>
      simp only [cond_false]
      rw [of_l u rows hn n (k + 1) F _ (by omega) (by omega) (by omega), List.filter_cons_of_neg (by simpa using h)]
def ofL (seq : Int) (rows : List BookRow) (u : ByteArray) : List BookRow := if bookCheck seq rows ≠ 0 then [] else rows.filter fun x => x.User.toList == u.toList
theorem of_p {st : BookState} {u : ByteArray} (hn : st.Rows.length ≤ 1000) (hs : smallB st.Rows) : p_book_Of st u = some (ofL st.Seq st.Rows u) := by
  unfold p_book_Of ofL
  rw [check_p st hn hs]
  by_cases hc : bookCheck st.Seq st.Rows = 0
  · simp only [hc, bne_self_eq_false, cond_false, Option.bind_some, ne_eq, not_true_eq_false, if_false]
    have := of_l u st.Rows hn st.Rows.length 0 fuel [] (by omega) (by have := fuel_pos; omega) (by simp)
    rw [show ((0 : Int)) = ((0 : Nat) : Int) from rfl, this]
    simp
  · have : (bookCheck st.Seq st.Rows != 0) = true := by simpa using hc
    simp [this, hc]
end Go.Proofs.YtljeinlapkgjeaaGreat
/- The document's book is the program's: checks, places, Set, Off, Get. -/
namespace Go.Proofs.YtljeinlapkgjeaaGreat
open Go.RowKit
theorem rnamed_p {u r : ByteArray} (hu : u.size ≤ 100000) (hr : r.size ≤ 100000) : p_ref23_named u r = some (namedL u r) := by
  unfold p_ref23_named p_ref09_Resource p_ref09_IsBare namedL
  rw [if_pos hr, if_pos hu]
  by_cases h : resL r.data.toList = 0
  · cases isBareL u.data.toList <;> simp [h]
  · have e : (resL r.data.toList == 0) = false := by simpa using h
    cases isBareL u.data.toList <;> simp [h, e]
theorem rkey_p {u r : ByteArray} (hu : u.size ≤ 100000) (hr : r.size ≤ 100000) : p_ref23_Key u r = some (keyL u r) := by
  unfold p_ref23_Key cat? keyL
  rw [rnamed_p hu hr]
  obtain ⟨h1, h2⟩ := cat_sz u r hu hr
  cases namedL u r
  · rfl
  · simp only [Option.bind_some, cond_true, if_pos h1, if_pos h2, if_true]
theorem rkeyR_p {x : BookRow} (h : smallR x) : p_ref24_key x = some (keyR x) := by
  unfold p_ref24_key; rw [rkey_p h.1 h.2]; rfl
theorem rpresCheck_p (x : PresPres) : p_ref23_Check x = some (presCheckL x) := by
  unfold p_ref23_Check presCheckL
  by_cases h1 : x.Show < 0
  · rw [decide_eq_true h1, if_pos (by omega)]; rfl
  rw [decide_eq_false h1]
  by_cases h2 : 4 < x.Show
  · rw [decide_eq_true h2, if_pos (by omega)]; rfl
  rw [decide_eq_false h2]
  by_cases h3 : x.Prio < -128
  · rw [decide_eq_true h3, if_pos (by omega)]; rfl
  rw [decide_eq_false h3]
  by_cases h4 : 127 < x.Prio
  · rw [decide_eq_true h4, if_pos (by omega)]; rfl
  rw [decide_eq_false h4]
  by_cases h5 : x.Seq < 0
  · rw [decide_eq_true h5, if_pos (by omega)]; rfl
  rw [decide_eq_false h5]
  by_cases h6 : 1099511627776 < x.Seq
  · rw [decide_eq_true h6, if_pos (by omega)]; rfl
  rw [decide_eq_false h6, if_neg (by omega)]
  cases ho : x.On with
  | true => simp
  | false =>
    by_cases h7 : x.Show = 0
    · by_cases h8 : x.Prio = 0
      · simp [h7, h8]
      · have : (x.Prio != 0) = true := by simpa using h8
        simp [h7, h8, this]
    · have : (x.Show != 0) = true := by simpa using h7
      simp [h7, this]
theorem light_l (st : BookState) (hn : st.Rows.length ≤ 20) : ∀ (n k F : Nat), k + n = st.Rows.length → n < F →
    p_ref24_Light_l1 st F k = some (if ((st.Rows.drop k).all fun x => decide (x.User.size ≤ 100) && decide (x.Res.size ≤ 100)) = true then .inr (st.Rows.length : Int) else .inl false)
  | 0, k, F + 1, hk, hF => by
    have e : st.Rows.drop k = [] := List.drop_of_length_le (by omega)
    have : k = st.Rows.length := by omega
    rw [p_ref24_Light_l1, lt_ff (by omega), e, this]; rfl
  | n + 1, k, F + 1, hk, hF => by
    have hlt : k < st.Rows.length := by omega
    rw [p_ref24_Light_l1, lt_tt hlt, at_lt hlt, drop_at hlt, List.all_cons]
    simp only [cond_true, Option.bind_some]
    by_cases h1 : st.Rows[k].User.size ≤ 100
    · rw [decide_eq_false (show ¬ (100 : Int) < (st.Rows[k].User.size : Int) by omega), decide_eq_true h1]
      by_cases h2 : st.Rows[k].Res.size ≤ 100
      · rw [decide_eq_false (show ¬ (100 : Int) < (st.Rows[k].Res.size : Int) by omega), decide_eq_true h2]
        simp only [cond_false, Bool.true_and]
        rw [w64_succ (by omega), light_l st hn n (k + 1) F (by omega) (by omega)]
      · rw [decide_eq_true (show (100 : Int) < (st.Rows[k].Res.size : Int) by omega), decide_eq_false h2]; rfl
    · rw [decide_eq_true (show (100 : Int) < (st.Rows[k].User.size : Int) by omega), decide_eq_false h1]; rfl
/-- a state that is small enough, or is told not to be. -/
theorem light_p (st : BookState) : p_ref24_Light st = some false ∨ (p_ref24_Light st = some true ∧ st.Rows.length ≤ 20 ∧ smallB st.Rows) := by
  unfold p_ref24_Light
  by_cases h0 : 20 < st.Rows.length
  · left; rw [decide_eq_true (show (20 : Int) < (st.Rows.length : Int) by omega)]; rfl
  rw [decide_eq_false (show ¬ (20 : Int) < (st.Rows.length : Int) by omega)]
  have := light_l st (by omega) st.Rows.length 0 fuel (by omega) (by have := fuel_pos; omega)
  have z0 : ((0 : Nat) : Int) = 0 := rfl
  rw [z0, List.drop_zero] at this
  simp only [cond_false]
  rw [this]
  cases h : st.Rows.all fun x => decide (x.User.size ≤ 100) && decide (x.Res.size ≤ 100) with
  | false => left; rfl
  | true =>
    right
    refine ⟨rfl, by omega, fun r hr => ?_⟩
    have := List.all_eq_true.1 h r hr
    simp at this
    exact ⟨by omega, by omega⟩
theorem ref_many_l (u : ByteArray) (st : BookState) (hn : st.Rows.length ≤ 1000) : ∀ (n k F a : Nat), k + n = st.Rows.length → n < F → a ≤ k →
    p_ref24_many_l1 u st F a k = some (((a + manyL (st.Rows.drop k) u : Nat) : Int), (st.Rows.length : Int))
  | 0, k, F + 1, a, hk, hF, ha => by
    have e : st.Rows.drop k = [] := List.drop_of_length_le (by omega)
    have : k = st.Rows.length := by omega
    rw [p_ref24_many_l1, lt_ff (by omega), e, this]; rfl
  | n + 1, k, F + 1, a, hk, hF, ha => by
    have hlt : k < st.Rows.length := by omega
    rw [p_ref24_many_l1, lt_tt hlt, at_lt hlt, drop_at hlt]
    simp only [cond_true, Option.bind_some]
    rw [w64_succ (show k ≤ 1000000 by omega), w64_succ (show a ≤ 1000000 by omega)]
    have hm : manyL (st.Rows[k] :: st.Rows.drop (k + 1)) u = manyL (st.Rows.drop (k + 1)) u + if (st.Rows[k].User.toList == u.toList) = true then 1 else 0 := by
      unfold manyL; rw [List.countP_cons]
    rw [hm]
    cases h : st.Rows[k].User.toList == u.toList with
    | true =>
      simp only [cond_true, if_true]
      rw [ref_many_l u st hn n (k + 1) F (a + 1) (by omega) (by omega) (by omega)]
      congr 3; omega
    | false =>
      simp only [cond_false]
      rw [ref_many_l u st hn n (k + 1) F a (by omega) (by omega) (by omega)]
      simp
theorem ref_many_p (st : BookState) (u : ByteArray) (hn : st.Rows.length ≤ 1000) : p_ref24_many st u = some ((manyL st.Rows u : Nat) : Int) := by
  unfold p_ref24_many
  have := ref_many_l u st hn st.Rows.length 0 fuel 0 (by omega) (by have := fuel_pos; omega) (by omega)
  rw [show ((0 : Int)) = ((0 : Nat) : Int) from rfl, this]
  simp
theorem ref_dup_l (st : BookState) (hn : st.Rows.length ≤ 1000) (x : BookRow) (m : Nat) (hm : m ≤ st.Rows.length) : ∀ (n k F : Nat), k + n = m → n < F →
    p_ref24_ordered_l2 m st x F k = some (if ((st.Rows.take m).drop k).any (fun o => o.P.Seq == x.P.Seq) = true then .inl false else .inr (m : Int))
  | 0, k, F + 1, hk, hF => by
    have e : (st.Rows.take m).drop k = [] := List.drop_of_length_le (by rw [List.length_take]; omega)
    have : k = m := by omega
    rw [p_ref24_ordered_l2, lt_ff (by omega), e, this]; rfl
  | n + 1, k, F + 1, hk, hF => by
    have hlt : k < m := by omega
    have hl : k < (st.Rows.take m).length := by rw [List.length_take]; omega
    have hl2 : k < st.Rows.length := by omega
    have hg : (st.Rows.take m)[k] = st.Rows[k] := List.getElem_take
    rw [p_ref24_ordered_l2, lt_tt hlt, at_lt hl2, drop_at hl, List.any_cons, hg]
    simp only [cond_true, Option.bind_some]
    cases st.Rows[k].P.Seq == x.P.Seq with
    | true => rfl
    | false =>
      simp only [cond_false, Bool.false_or]
      rw [w64_succ (by omega)]
      exact ref_dup_l st hn x m hm n (k + 1) F (by omega) (by omega)
theorem ref_ordered_l (st : BookState) (hn : st.Rows.length ≤ 1000) (hs : smallB st.Rows) : ∀ (n k F : Nat), k + n = st.Rows.length → n < F →
    p_ref24_ordered_l1 st F k = some (if ((List.range st.Rows.length).drop k).all (okAt st.Seq st.Rows) = true then .inr (st.Rows.length : Int) else .inl false)
  | 0, k, F + 1, hk, hF => by
    have e : (List.range st.Rows.length).drop k = [] := List.drop_of_length_le (by simp; omega)
    have : k = st.Rows.length := by omega
    rw [p_ref24_ordered_l1, lt_ff (by omega), e, this]; rfl
  | n + 1, k, F + 1, hk, hF => by
    have hlt : k < st.Rows.length := by omega
    have hd : (List.range st.Rows.length).drop k = k :: (List.range st.Rows.length).drop (k + 1) := by
      rw [drop_at (by simpa using hlt)]; simp
    have z0 : ((0 : Nat) : Int) = 0 := rfl
    have hc := ref_dup_l st hn st.Rows[k] k (by omega) k 0 fuel (by omega) (by have := fuel_pos; omega)
    rw [z0, List.drop_zero] at hc
    have ih := ref_ordered_l st hn hs n (k + 1) F (by omega) (by omega)
    rw [p_ref24_ordered_l1, lt_tt hlt, at_lt hlt, hd, List.all_cons]
    simp only [cond_true, Option.bind_some]
    rw [w64_succ (by omega), ih, hc]
    cases k with
    | zero =>
      rw [okAt_0 hlt]
      by_cases h1 : st.Rows[0].P.Seq < 1
      · simp only [decide_eq_true h1, cond_true]
        rw [if_neg (by simp <;> omega)]
      · by_cases h2 : st.Seq < st.Rows[0].P.Seq
        · simp only [decide_eq_false h1, cond_false, decide_eq_true h2, cond_true]
          rw [if_neg (by simp <;> omega)]
        · simp only [decide_eq_false h1, cond_false, decide_eq_false h2, show decide ((0 : Int) < ((0 : Nat) : Int)) = false from rfl]
          rw [decide_eq_true (show (1 : Int) ≤ st.Rows[0].P.Seq by omega), decide_eq_true (show st.Rows[0].P.Seq ≤ st.Seq by omega)]
          cases (List.take 0 st.Rows).any fun o => o.P.Seq == st.Rows[0].P.Seq
          · simp only [Bool.false_eq_true, if_false, Option.bind_some, Bool.not_false, Bool.and_true, Bool.true_and]
          · simp
    | succ j =>
      rw [okAt_s j hlt]
      have hj : j < st.Rows.length := by omega
      have e0 : w64 (((j + 1 : Nat) : Int) - 1) = (j : Int) := by rw [w64_id (by omega)]; omega
      rw [e0, at_lt hj]
      simp only [Option.bind_some, rkeyR_p (hs _ (List.getElem_mem hj)), rkeyR_p (hs _ (List.getElem_mem hlt))]
      by_cases h1 : st.Rows[j + 1].P.Seq < 1
      · simp only [decide_eq_true h1, cond_true]
        rw [if_neg (by simp <;> omega)]
      · by_cases h2 : st.Seq < st.Rows[j + 1].P.Seq
        · simp only [decide_eq_false h1, cond_false, decide_eq_true h2, cond_true]
          rw [if_neg (by simp <;> omega)]
        · have h3 : decide ((0 : Int) < ((j + 1 : Nat) : Int)) = true := decide_eq_true (by omega)
          simp only [decide_eq_false h1, cond_false, decide_eq_false h2, h3, cond_true]
          rw [decide_eq_true (show (1 : Int) ≤ st.Rows[j + 1].P.Seq by omega), decide_eq_true (show st.Rows[j + 1].P.Seq ≤ st.Seq by omega)]
          have hl : lessR st.Rows[j] st.Rows[j + 1] = Op.bytesLess (keyR st.Rows[j]).toList (keyR st.Rows[j + 1]).toList := rfl
          rw [hl]
          cases Op.bytesLess (keyR st.Rows[j]).toList (keyR st.Rows[j + 1]).toList
          · simp
          · cases (List.take (j + 1) st.Rows).any fun o => o.P.Seq == st.Rows[j + 1].P.Seq
            · simp only [cond_true, Bool.false_eq_true, if_false, Option.bind_some, Bool.not_false, Bool.and_true, Bool.true_and]
            · simp
theorem ref_ordered_p (st : BookState) (hn : st.Rows.length ≤ 1000) (hs : smallB st.Rows) : p_ref24_ordered st = some (ordL st.Seq st.Rows) := by
  unfold p_ref24_ordered
  have := ref_ordered_l st hn hs st.Rows.length 0 fuel (by omega) (by have := fuel_pos; omega)
  rw [show ((0 : Int)) = ((0 : Nat) : Int) from rfl, this]
  rw [List.drop_zero]
  unfold ordL
  cases (List.range st.Rows.length).all (okAt st.Seq st.Rows) <;> simp
theorem ref_c1_l (st : BookState) (hn : st.Rows.length ≤ 1000) (hs : smallB st.Rows) : ∀ (n k F : Nat), k + n = st.Rows.length → n < F →
    p_ref24_Check_l1 st F k = some (if emptyL (st.Rows.drop k) = true then .inl 11 else .inr (st.Rows.length : Int))
  | 0, k, F + 1, hk, hF => by
    have e : st.Rows.drop k = [] := List.drop_of_length_le (by omega)
    have : k = st.Rows.length := by omega
    rw [p_ref24_Check_l1, lt_ff (by omega), e, this]; rfl
  | n + 1, k, F + 1, hk, hF => by
    have hlt : k < st.Rows.length := by omega
    rw [p_ref24_Check_l1, lt_tt hlt, at_lt hlt, drop_at hlt]
    simp only [cond_true, Option.bind_some, rkeyR_p (hs _ (List.getElem_mem hlt))]
    have he : emptyL (st.Rows[k] :: st.Rows.drop (k + 1)) = (((keyR st.Rows[k]).toList == (⟨#[]⟩ : ByteArray).toList) || emptyL (st.Rows.drop (k + 1))) := rfl
    rw [he]
    cases (keyR st.Rows[k]).toList == (⟨#[]⟩ : ByteArray).toList with
    | true => rfl
    | false =>
      simp only [cond_false, Bool.false_or]
      rw [w64_succ (by omega)]
      exact ref_c1_l st hn hs n (k + 1) F (by omega) (by omega)
theorem ref_c2_l (st : BookState) (hn : st.Rows.length ≤ 1000) : ∀ (n k F : Nat), k + n = st.Rows.length → n < F →
    p_ref24_Check_l2 st F k = some (if errL (st.Rows.drop k) ≠ 0 then .inl (errL (st.Rows.drop k)) else .inr (st.Rows.length : Int))
  | 0, k, F + 1, hk, hF => by
    have e : st.Rows.drop k = [] := List.drop_of_length_le (by omega)
    have : k = st.Rows.length := by omega
    rw [p_ref24_Check_l2, lt_ff (by omega), e, this]; rfl
  | n + 1, k, F + 1, hk, hF => by
    have hlt : k < st.Rows.length := by omega
    rw [p_ref24_Check_l2, lt_tt hlt, at_lt hlt, err_at st.Rows k hlt]
    simp only [cond_true, Option.bind_some, rpresCheck_p]
    by_cases h : presCheckL st.Rows[k].P = 0
    · simp only [h, bne_self_eq_false, cond_false]
      cases ho : st.Rows[k].P.On with
      | false => simp
      | true =>
        simp only [cond_true]
        rw [w64_succ (by omega), ref_c2_l st hn n (k + 1) F (by omega) (by omega)]
        simp
    · have : (presCheckL st.Rows[k].P != 0) = true := by simpa using h
      simp [this, h]
theorem ref_c3_l (st : BookState) (hn : st.Rows.length ≤ 1000) : ∀ (n k F : Nat), k + n = st.Rows.length → n < F →
    p_ref24_Check_l3 st F k = some (if ((st.Rows.drop k).any fun r => decide (3 < manyL st.Rows r.User)) = true then .inl 7 else .inr (st.Rows.length : Int))
  | 0, k, F + 1, hk, hF => by
    have e : st.Rows.drop k = [] := List.drop_of_length_le (by omega)
    have : k = st.Rows.length := by omega
    rw [p_ref24_Check_l3, lt_ff (by omega), e, this]; rfl
  | n + 1, k, F + 1, hk, hF => by
    have hlt : k < st.Rows.length := by omega
    rw [p_ref24_Check_l3, lt_tt hlt, at_lt hlt, drop_at hlt, List.any_cons]
    simp only [cond_true, Option.bind_some, ref_many_p st _ hn]
    by_cases h : 3 < manyL st.Rows st.Rows[k].User
    · rw [decide_eq_true (show (3 : Int) < ((manyL st.Rows st.Rows[k].User : Nat) : Int) by omega), decide_eq_true h]; rfl
    · rw [decide_eq_false (show ¬ (3 : Int) < ((manyL st.Rows st.Rows[k].User : Nat) : Int) by omega), decide_eq_false h]
      simp only [cond_false, Bool.false_or]
      rw [w64_succ (by omega)]
      exact ref_c3_l st hn n (k + 1) F (by omega) (by omega)
theorem ref_check_p (st : BookState) (hn : st.Rows.length ≤ 1000) (hs : smallB st.Rows) : p_ref24_Check st = some (bookCheck st.Seq st.Rows) := by
  have z0 : ((0 : Nat) : Int) = 0 := rfl
  unfold p_ref24_Check bookCheck
  by_cases h0 : 16 < st.Rows.length
  · rw [decide_eq_true (show (16 : Int) < (st.Rows.length : Int) by omega), if_pos h0]; rfl
  rw [decide_eq_false (show ¬ (16 : Int) < (st.Rows.length : Int) by omega), if_neg h0]
  by_cases h1 : st.Seq < 0
  · rw [decide_eq_true h1, if_pos (.inl h1)]; rfl
  rw [decide_eq_false h1]
  by_cases h2 : 1099511627776 < st.Seq
  · rw [decide_eq_true h2, if_pos (.inr h2)]; rfl
  rw [decide_eq_false h2, if_neg (by omega)]
  simp only [cond_false]
  have c1 := ref_c1_l st hn hs st.Rows.length 0 fuel (by omega) (by have := fuel_pos; omega)
  have c2 := ref_c2_l st hn st.Rows.length 0 fuel (by omega) (by have := fuel_pos; omega)
  have c3 := ref_c3_l st hn st.Rows.length 0 fuel (by omega) (by have := fuel_pos; omega)
  rw [z0, List.drop_zero] at c1 c2 c3
  rw [c1]
  cases emptyL st.Rows with
  | true => rfl
  | false =>
    simp only [Bool.false_eq_true, if_false, Option.bind_some]
    rw [c2, ref_ordered_p st hn hs]
    by_cases h3 : errL st.Rows = 0
    · simp only [h3, ne_eq, not_true_eq_false, if_false, Option.bind_some]
      cases ordL st.Seq st.Rows with
      | false => rfl
      | true =>
        simp only [cond_true, Bool.true_eq_false, if_false]
        rw [c3]
        have hf : fullL st.Rows = st.Rows.any fun r => decide (3 < manyL st.Rows r.User) := rfl
        rw [← hf]
        cases fullL st.Rows <;> rfl
    · simp [h3]
/-- where a key stands. -/
theorem ref_place_l (st : BookState) (hn : st.Rows.length ≤ 1000) (hs : smallB st.Rows) (key : ByteArray) : ∀ (n k F : Nat), k + n = st.Rows.length → n < F →
    p_ref24_place_l1 key st F k = some ((k + (st.Rows.drop k).findIdx (fun r => decide (0 ≤ cmpR r key)) : Nat) : Int)
  | 0, k, F + 1, hk, hF => by
    have e : st.Rows.drop k = [] := List.drop_of_length_le (by omega)
    rw [p_ref24_place_l1, lt_ff (by omega), e]; simp
  | n + 1, k, F + 1, hk, hF => by
    have hlt : k < st.Rows.length := by omega
    rw [p_ref24_place_l1, lt_tt hlt, at_lt hlt, drop_at hlt, List.findIdx_cons]
    simp only [cond_true, Option.bind_some, rkeyR_p (hs _ (List.getElem_mem hlt))]
    rw [cmp_less, ByteArray.toList_eq, ByteArray.toList_eq]
    have hc : cmpR st.Rows[k] key = Lib.compareBytes (keyR st.Rows[k]).data.toList key.data.toList := rfl
    by_cases h : Lib.compareBytes (keyR st.Rows[k]).data.toList key.data.toList < 0
    · rw [decide_eq_true h, hc, decide_eq_false (show ¬ 0 ≤ Lib.compareBytes (keyR st.Rows[k]).data.toList key.data.toList by omega)]
      simp only [cond_true, cond_false]
      rw [w64_succ (by omega), ref_place_l st hn hs key n (k + 1) F (by omega) (by omega)]
      congr 2; omega
    · rw [decide_eq_false h, hc, decide_eq_true (show 0 ≤ Lib.compareBytes (keyR st.Rows[k]).data.toList key.data.toList by omega)]
      simp
theorem eq_cmp (a b : ByteArray) : (a.toList == b.toList) = (Lib.compareBytes a.data.toList b.data.toList == 0) := by
  rw [ByteArray.toList_eq, ByteArray.toList_eq]
  by_cases h : a.data.toList = b.data.toList
  · rw [h, cmp_refl]; simp
  · have : Lib.compareBytes a.data.toList b.data.toList ≠ 0 := fun e => h (cmp_eq0 e)
    have e1 : (a.data.toList == b.data.toList) = false := by simpa using h
    have e2 : (Lib.compareBytes a.data.toList b.data.toList == 0) = false := by simpa using this
    rw [e1, e2]
theorem ref_place_p (st : BookState) (hn : st.Rows.length ≤ 1000) (hs : smallB st.Rows) (key : ByteArray) : p_ref24_place st key = some (((posL st.Rows key : Nat) : Int), foundB st.Rows key (posL st.Rows key)) := by
  have z0 : ((0 : Nat) : Int) = 0 := rfl
  unfold p_ref24_place
  have h := ref_place_l st hn hs key st.Rows.length 0 fuel (by omega) (by have := fuel_pos; omega)
  rw [z0, List.drop_zero, Nat.zero_add] at h
  rw [h]
  have hp : (st.Rows.findIdx fun r => decide (0 ≤ cmpR r key)) = posL st.Rows key := rfl
  rw [hp]
  simp only [Option.bind_some]
  unfold foundB
  rcases Nat.lt_or_ge (posL st.Rows key) st.Rows.length with hl | hl
  · rw [lt_tt hl, at_lt hl, List.getElem?_eq_getElem hl]
    simp only [cond_true, Option.bind_some, rkeyR_p (hs _ (List.getElem_mem hl)), eq_cmp]; rfl
  · rw [lt_ff hl, List.getElem?_eq_none hl]; rfl
theorem ref_set_p {st : BookState} {u r : ByteArray} {sh prio : Int} (hn : st.Rows.length ≤ 1000) (hs : smallB st.Rows) (hu : u.size ≤ 100000) (hr : r.size ≤ 100000) : p_ref24_Set st u r sh prio = some (stL (setL st.Seq st.Rows u r sh prio)) := by
  unfold p_ref24_Set setL
  rw [rkey_p hu hr]
  simp only [Option.bind_some]
  rw [ref_place_p st hn hs, ref_check_p st hn hs]
  have hkr : keyR (BookRow.mk u r ⟨true, sh, prio, 0⟩) = keyL u r := rfl
  simp only [Option.bind_some, hkr]
  by_cases hc : bookCheck st.Seq st.Rows = 0
  · have hsq := check_seq hc
    have hl := check_len hc
    simp only [hc, bne_self_eq_false, cond_false, ne_eq, not_true_eq_false, if_false]
    generalize hk : keyL u r = k
    cases hke : k.toList == (⟨#[]⟩ : ByteArray).toList with
    | true => simp; rfl
    | false =>
      simp only [cond_false, Bool.false_eq_true, if_false, rpresCheck_p, Option.bind_some]
      by_cases hpc : presCheckL ⟨true, sh, prio, 0⟩ = 0
      · simp only [hpc, bne_self_eq_false, cond_false, not_true_eq_false, if_false]
        have hle : posL st.Rows k ≤ st.Rows.length := List.findIdx_le_length
        have hw : w64 (st.Seq + 1) = st.Seq + 1 := w64_id (by omega)
        cases hf : foundB st.Rows k (posL st.Rows k) with
        | true =>
          have hlt := found_lt hf
          simp only [cond_true, Bool.true_eq_false, false_and, if_false, if_true, hw]
          by_cases h9 : 1099511627776 ≤ st.Seq
          · rw [decide_eq_true h9, if_pos h9]; rfl
          · rw [decide_eq_false h9, if_neg h9]
            simp only [cond_false]
            rw [w64_succ (by omega), cutFrom (by omega), cutTo hle]
            simp only [Option.bind_some]
            rw [app_ok (by simp; omega)]
            simp only [Option.bind_some]
            rw [app_ok (by simp; omega)]
            simp only [Option.bind_some]
            rw [app_ok (by simp; omega)]
            simp [stL]
        | false =>
          simp only [cond_false, true_and, Bool.false_eq_true, if_false, hw]
          by_cases h16 : 16 ≤ st.Rows.length
          · rw [decide_eq_true (show (16 : Int) ≤ (st.Rows.length : Int) by omega), if_pos (.inl h16)]; rfl
          · rw [decide_eq_false (show ¬ (16 : Int) ≤ (st.Rows.length : Int) by omega), ref_many_p st u hn]
            simp only [cond_false, Option.bind_some]
            by_cases h3 : 3 ≤ manyL st.Rows u
            · rw [decide_eq_true (show (3 : Int) ≤ ((manyL st.Rows u : Nat) : Int) by omega), if_pos (.inr h3)]; rfl
            · rw [decide_eq_false (show ¬ (3 : Int) ≤ ((manyL st.Rows u : Nat) : Int) by omega), if_neg (by omega)]
              by_cases h9 : 1099511627776 ≤ st.Seq
              · rw [decide_eq_true h9, if_pos h9]; rfl
              · rw [decide_eq_false h9, if_neg h9]
                simp only [cond_false]
                rw [cutFrom hle, cutTo hle]
                simp only [Option.bind_some]
                rw [app_ok (by simp; omega)]
                simp only [Option.bind_some]
                rw [app_ok (by simp; omega)]
                simp only [Option.bind_some]
                rw [app_ok (by simp; omega)]
                simp [stL]
      · have : (presCheckL ⟨true, sh, prio, 0⟩ != 0) = true := by simpa using hpc
        simp [this, hpc, stL]
  · have : (bookCheck st.Seq st.Rows != 0) = true := by simpa using hc
    simp [this, hc, stL]
theorem ref_off_p {st : BookState} {u r : ByteArray} (hn : st.Rows.length ≤ 1000) (hs : smallB st.Rows) (hu : u.size ≤ 100000) (hr : r.size ≤ 100000) : p_ref24_Off st u r = some (stL (offL st.Seq st.Rows u r)) := by
  unfold p_ref24_Off offL
  rw [rkey_p hu hr]
  simp only [Option.bind_some]
  rw [ref_place_p st hn hs, ref_check_p st hn hs]
  simp only [Option.bind_some]
  by_cases hc : bookCheck st.Seq st.Rows = 0
  · have hsq := check_seq hc
    have hl := check_len hc
    simp only [hc, bne_self_eq_false, cond_false, ne_eq, not_true_eq_false, if_false]
    generalize hk : keyL u r = k
    have hle : posL st.Rows k ≤ st.Rows.length := List.findIdx_le_length
    have hw : w64 (st.Seq + 1) = st.Seq + 1 := w64_id (by omega)
    cases hke : k.toList == (⟨#[]⟩ : ByteArray).toList with
    | true => simp [stL]
    | false =>
      simp only [cond_false, Bool.false_eq_true, or_false]
      cases hf : foundB st.Rows k (posL st.Rows k) with
      | false => simp [stL]
      | true =>
        have hlt := found_lt hf
        simp only [cond_true, Bool.true_eq_false, if_false, hw]
        by_cases h9 : 1099511627776 ≤ st.Seq
        · rw [decide_eq_true h9, if_pos h9]; rfl
        · rw [decide_eq_false h9, if_neg h9]
          simp only [cond_false]
          rw [w64_succ (by omega), cutFrom (by omega), cutTo hle]
          simp only [Option.bind_some]
          rw [app_ok (by simp; omega)]
          simp only [Option.bind_some]
          rw [app_ok (by simp; omega)]
          simp [stL]
  · have : (bookCheck st.Seq st.Rows != 0) = true := by simpa using hc
    simp [this, hc, stL]
theorem ref_get_p {st : BookState} {u r : ByteArray} (hn : st.Rows.length ≤ 1000) (hs : smallB st.Rows) (hu : u.size ≤ 100000) (hr : r.size ≤ 100000) : p_ref24_Get st u r = some (getL st.Seq st.Rows u r) := by
  unfold p_ref24_Get getL
  rw [rkey_p hu hr]
  simp only [Option.bind_some]
  rw [ref_place_p st hn hs, ref_check_p st hn hs]
  simp only [Option.bind_some]
  generalize hk : keyL u r = k
  by_cases hc : bookCheck st.Seq st.Rows = 0
  · simp only [hc, bne_self_eq_false, cond_false, ne_eq, not_true_eq_false, if_false]
    cases hke : k.toList == (⟨#[]⟩ : ByteArray).toList with
    | true => simp
    | false =>
      simp only [cond_false, Bool.false_eq_true, if_false]
      cases hf : foundB st.Rows k (posL st.Rows k) with
      | false => simp
      | true =>
        have hlt := found_lt hf
        simp only [cond_true, Bool.true_eq_false, if_false]
        rw [at_lt hlt, List.getD_eq_getElem?_getD, List.getElem?_eq_getElem hlt]; rfl
  · have : (bookCheck st.Seq st.Rows != 0) = true := by simpa using hc
    simp [this, hc]
end Go.Proofs.YtljeinlapkgjeaaGreat
/- BookChanges in plain words. -/
namespace Go.Proofs.YtljeinlapkgjeaaGreat
open Go.RowKit
theorem aw24 : p_law24_awake = some true := by kernel_rfl
theorem own_l (st : BookState) (hn : st.Rows.length ≤ 1000) : ∀ (n k F : Nat) (acc : BookState), k + n = st.Rows.length → n < F → acc.Rows.length = k →
    p_law24_own_l1 st F k acc = some ((st.Rows.length : Int), ⟨acc.Seq, acc.Rows ++ st.Rows.drop k⟩)
  | 0, k, F + 1, acc, hk, hF, ha => by
    have e : st.Rows.drop k = [] := List.drop_of_length_le (by omega)
    have : k = st.Rows.length := by omega
    rw [p_law24_own_l1, lt_ff (by omega), e, this]; simp
  | n + 1, k, F + 1, acc, hk, hF, ha => by
    have hlt : k < st.Rows.length := by omega
    rw [p_law24_own_l1, lt_tt hlt, at_lt hlt, drop_at hlt]
    simp only [cond_true, Option.bind_some]
    rw [app_ok (by simp; omega), w64_succ (by omega)]
    simp only [Option.bind_some]
    rw [own_l st hn n (k + 1) F _ (by omega) (by omega) (by simp; omega)]
    simp only [List.append_assoc]; rfl
theorem own_p (st : BookState) (hn : st.Rows.length ≤ 1000) : p_law24_own st = some st := by
  unfold p_law24_own
  have := own_l st hn st.Rows.length 0 fuel ⟨st.Seq, []⟩ (by omega) (by have := fuel_pos; omega) rfl
  have z0 : ((0 : Nat) : Int) = 0 := rfl
  rw [z0, List.drop_zero] at this
  rw [this]; rfl
theorem rows_l (l : List BookRow) (hn : l.length ≤ 1000) : ∀ (n k F : Nat) (acc : List BookRow), k + n = l.length → n < F → acc.length = k →
    p_law24_Rows_l1 l F acc k = some (acc ++ l.drop k, (l.length : Int))
  | 0, k, F + 1, acc, hk, hF, ha => by
    have e : l.drop k = [] := List.drop_of_length_le (by omega)
    have : k = l.length := by omega
    rw [p_law24_Rows_l1, lt_ff (by omega), e, this]; simp
  | n + 1, k, F + 1, acc, hk, hF, ha => by
    have hlt : k < l.length := by omega
    rw [p_law24_Rows_l1, lt_tt hlt, at_lt hlt, drop_at hlt]
    simp only [cond_true, Option.bind_some]
    rw [app_ok (by simp; omega), w64_succ (by omega)]
    simp only [Option.bind_some]
    rw [rows_l l hn n (k + 1) F _ (by omega) (by omega) (by simp; omega)]
    simp only [List.append_assoc]; rfl
theorem rows_p (l : List BookRow) (hn : l.length ≤ 1000) : p_law24_Rows l = some l := by
  unfold p_law24_Rows
  have := rows_l l hn l.length 0 fuel [] (by omega) (by have := fuel_pos; omega) rfl
  have z0 : ((0 : Nat) : Int) = 0 := rfl
  rw [z0, List.drop_zero] at this
  rw [this]; rfl
theorem back_p (st : BookState) (hn : st.Rows.length ≤ 1000) : p_law24_Back st = some st := by
  unfold p_law24_Back
  rw [rows_p _ hn]; rfl
theorem sameRows_l (l : List BookRow) (hn : l.length ≤ 1000) : ∀ (n k F : Nat), k + n = l.length → n < F → p_ref24_SameRows_l1 l l F k = some (.inr (l.length : Int))
  | 0, k, F + 1, hk, hF => by
    have : k = l.length := by omega
    rw [p_ref24_SameRows_l1, lt_ff (by omega), this]; rfl
  | n + 1, k, F + 1, hk, hF => by
    have hlt : k < l.length := by omega
    rw [p_ref24_SameRows_l1, lt_tt hlt, at_lt hlt]
    simp only [cond_true, Option.bind_some, beq_self_eq_true, Bool.and_self]
    rw [w64_succ (by omega)]
    exact sameRows_l l hn n (k + 1) F (by omega) (by omega)
theorem sameRows_p (l : List BookRow) (hn : l.length ≤ 1000) : p_ref24_SameRows l l = some true := by
  unfold p_ref24_SameRows
  have := sameRows_l l hn l.length 0 fuel (by omega) (by have := fuel_pos; omega)
  have z0 : ((0 : Nat) : Int) = 0 := rfl
  rw [z0] at this
  simp [this]
theorem refSame_p (st : BookState) (hn : st.Rows.length ≤ 1000) : p_ref24_Same st st = some true := by
  unfold p_ref24_Same
  rw [sameRows_p _ hn]; simp
theorem set_len (seq : Int) (rows : List BookRow) (u r : ByteArray) (sh prio : Int) (hn : rows.length ≤ 100) : (stL (setL seq rows u r sh prio)).1.Rows.length ≤ 1000 := by
  unfold setL stL
  simp only
  repeat' split
  all_goals simp
  all_goals omega
theorem off_len (seq : Int) (rows : List BookRow) (u r : ByteArray) (hn : rows.length ≤ 100) : (stL (offL seq rows u r)).1.Rows.length ≤ 1000 := by
  unfold offL stL
  simp only
  repeat' split
  all_goals simp
  all_goals omega
theorem bookChanges_pure (st : BookState) (x : BookRow) : p_law24_BookChanges st x = some true := by
  unfold p_law24_BookChanges
  rcases light_p st with hl | ⟨hl, hn, hs⟩
  · rw [hl, aw24]; rfl
  rw [hl]
  simp only [Option.bind_some, cond_true]
  by_cases h1 : x.User.size ≤ 100
  · rw [decide_eq_false (show ¬ (100 : Int) < (x.User.size : Int) by omega)]
    by_cases h2 : x.Res.size ≤ 100
    · rw [decide_eq_false (show ¬ (100 : Int) < (x.Res.size : Int) by omega)]
      simp only [cond_false]
      rw [own_p st (by omega)]
      simp only [Option.bind_some]
      rw [set_p (by omega) hs (by omega) (by omega), ref_set_p (by omega) hs (by omega) (by omega), off_p (by omega) hs (by omega) (by omega), ref_off_p (by omega) hs (by omega) (by omega)]
      simp only [Option.bind_some]
      rw [back_p _ (set_len _ _ _ _ _ _ (by omega)), back_p _ (off_len _ _ _ _ (by omega)), back_p st (by omega)]
      simp only [Option.bind_some]
      rw [refSame_p _ (set_len _ _ _ _ _ _ (by omega)), refSame_p _ (off_len _ _ _ _ (by omega)), refSame_p st (by omega)]
      simp only [Option.bind_some, cond_true, beq_self_eq_true, Bool.and_self, aw24]
    · rw [decide_eq_true (show (100 : Int) < (x.Res.size : Int) by omega), aw24]; rfl
  · rw [decide_eq_true (show (100 : Int) < (x.User.size : Int) by omega), aw24]; rfl
end Go.Proofs.YtljeinlapkgjeaaGreat
