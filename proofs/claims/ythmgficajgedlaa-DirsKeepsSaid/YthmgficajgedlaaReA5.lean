/- DirsKeeps: for every input the call returns true, and its arguments read as they did. -/
import Derived.Test.YthmgficajgedlaaReA4
import Derived.Test.YthmgficajgedlaaReA1
import Derived.Test.YthmgficajgedlaaRows
set_option linter.all false
/- The arrows of the program and of the document, in plain words: what is told; DirsTells. -/
namespace Go.Proofs.Ythmgficajgedlaa
open Go.RowKit
set_option maxRecDepth 100000 in
theorem aw29 : p_law29_awake = some true := by kernel_rfl
def isA (f t : ByteArray) (x : AR) : Bool := (x.From.toList == f.toList) && ((x.To.toList == t.toList) && true)
theorem without_l (f : AR → Option Bool) (p : AR → Bool) (rows : List AR) (hn : rows.length ≤ 1000) (hf : ∀ x ∈ rows, f x = some (p x)) : ∀ (n k F : Nat) (left gone : List AR), k + n = rows.length → n < F → left.length ≤ k → gone.length ≤ k →
    p_dirs_State_without_l1 f rows rows.length F left gone k = some (left ++ (rows.drop k).filter (fun x => !p x), gone ++ (rows.drop k).filter p, (rows.length : Int))
  | 0, k, F + 1, left, gone, hk, hF, h1, h2 => by
    have e : rows.drop k = [] := List.drop_of_length_le (by omega)
    have : k = rows.length := by omega
    rw [p_dirs_State_without_l1, lt_ff (by omega), e, this]; simp
  | n + 1, k, F + 1, left, gone, hk, hF, h1, h2 => by
    have hlt : k < rows.length := by omega
    rw [p_dirs_State_without_l1, lt_tt hlt, at_lt hlt, drop_at hlt]
    simp only [cond_true, Option.bind_some, hf _ (List.getElem_mem hlt)]
    cases hp : p rows[k] with
    | true =>
      simp only [cond_true]
      rw [app_ok (by simp; omega), w64_succ (by omega)]
      simp only [Option.bind_some]
      rw [without_l f p rows hn hf n (k + 1) F _ _ (by omega) (by omega) (by omega) (by simp; omega)]
      simp only [List.filter_cons, hp, Bool.not_true, Bool.not_false, Bool.false_eq_true, if_false, if_true, List.append_assoc, List.singleton_append]
    | false =>
      simp only [cond_false]
      rw [app_ok (by simp; omega), w64_succ (by omega)]
      simp only [Option.bind_some]
      rw [without_l f p rows hn hf n (k + 1) F _ _ (by omega) (by omega) (by simp; omega) (by omega)]
      simp only [List.filter_cons, hp, Bool.not_true, Bool.not_false, Bool.false_eq_true, if_false, if_true, List.append_assoc, List.singleton_append]
theorem without_p {f : AR → Option Bool} (p : AR → Bool) {rows : List AR} (hn : rows.length ≤ 1000) (hf : ∀ x ∈ rows, f x = some (p x)) : p_dirs_State_without rows f = some (rows.filter (fun x => !p x), rows.filter p) := by
  unfold p_dirs_State_without
  have := without_l f p rows hn hf rows.length 0 fuel [] [] (by omega) (by have := fuel_pos; omega) (Nat.le_refl _) (Nat.le_refl _)
  rw [show ((0 : Int)) = ((0 : Nat) : Int) from rfl, this, List.drop_zero]
  simp
theorem tos_l (rows : List AR) (hn : rows.length ≤ 1000) : ∀ (n k F : Nat) (out : List ByteArray), k + n = rows.length → n < F → out.length ≤ k →
    p_dirs_State_tos_l1 rows rows.length F out k = some (out ++ (rows.drop k).map (·.To), (rows.length : Int))
  | 0, k, F + 1, out, hk, hF, h1 => by
    have e : rows.drop k = [] := List.drop_of_length_le (by omega)
    have : k = rows.length := by omega
    rw [p_dirs_State_tos_l1, lt_ff (by omega), e, this]; simp
  | n + 1, k, F + 1, out, hk, hF, h1 => by
    have hlt : k < rows.length := by omega
    rw [p_dirs_State_tos_l1, lt_tt hlt, at_lt hlt, drop_at hlt]
    simp only [cond_true, Option.bind_some]
    rw [app_ok (by simp; omega), w64_succ (by omega)]
    simp only [Option.bind_some]
    rw [tos_l rows hn n (k + 1) F _ (by omega) (by omega) (by simp; omega)]
    simp only [List.map_cons, List.append_assoc, List.singleton_append]
theorem tos_p {rows : List AR} (hn : rows.length ≤ 1000) : p_dirs_State_tos rows = some (rows.map (·.To)) := by
  unfold p_dirs_State_tos
  have := tos_l rows hn rows.length 0 fuel [] (by omega) (by have := fuel_pos; omega) (Nat.le_refl _)
  rw [show ((0 : Int)) = ((0 : Nat) : Int) from rfl, this, List.drop_zero]
  simp
def fromA (f : ByteArray) (x : AR) : Bool := x.From.toList == f.toList
def toA (t : ByteArray) (x : AR) : Bool := x.To.toList == t.toList
def delL (l : List AR) (f t : ByteArray) : List AR × Bool := if chkA l = 0 then (l.filter (fun x => !isA f t x), l.any (isA f t)) else (l, false)
def clearL (l : List AR) (f : ByteArray) : List AR × List ByteArray := if chkA l = 0 then (l.filter (fun x => !fromA f x), (l.filter (fromA f)).map (·.To)) else (l, [])
def keysL (l : List AR) (t : ByteArray) : List ByteArray := if chkA l = 0 then (l.filter (toA t)).map (·.From) else []
theorem pos_any (p : AR → Bool) (l : List AR) : decide ((0 : Int) < ((l.filter p).length : Int)) = l.any p := by
  rw [Bool.eq_iff_iff, decide_eq_true_iff, List.any_eq_true]
  constructor
  · intro h
    have h2 : 0 < (l.filter p).length := by omega
    obtain ⟨x, hx⟩ := List.exists_mem_of_length_pos h2
    obtain ⟨h3, h4⟩ := List.mem_filter.1 hx
    exact ⟨x, h3, h4⟩
  · rintro ⟨x, h1, h2⟩
    have : 0 < (l.filter p).length := List.length_pos_of_mem (List.mem_filter.2 ⟨h1, h2⟩)
    omega
theorem chk_ne {l : List AR} (h : chkA l ≠ 0) : (chkA l != 0) = true := by simpa using h
theorem del_p {l : List AR} (hn : l.length ≤ 1000) (hs : ∀ a ∈ l, smallA a) (f t : ByteArray) : p_dirs_Del l f t = some (delL l f t) := by
  unfold p_dirs_Del delL
  rw [check_p hn hs]
  simp only [Option.bind_some]
  by_cases h : chkA l = 0
  · rw [if_pos h, h, without_p (f := fun x0 => p_dirs_Del_1 x0 (Ref29Arrow.mk f t)) (isA f t) hn (fun _ _ => rfl)]
    simp only [bne_self_eq_false, cond_false, Option.bind_some, pos_any]
  · rw [if_neg h, chk_ne h]; rfl
theorem clear_p {l : List AR} (hn : l.length ≤ 1000) (hs : ∀ a ∈ l, smallA a) (f : ByteArray) : p_dirs_Clear l f = some (clearL l f) := by
  unfold p_dirs_Clear clearL
  rw [check_p hn hs]
  simp only [Option.bind_some]
  by_cases h : chkA l = 0
  · rw [if_pos h, h, without_p (f := fun x0 => p_dirs_Clear_1 x0 f) (fromA f) hn (fun _ _ => rfl)]
    simp only [bne_self_eq_false, cond_false, Option.bind_some]
    rw [tos_p (Nat.le_trans (List.length_filter_le _ _) hn)]; rfl
  · rw [if_neg h, chk_ne h]; rfl
theorem of_p {l : List AR} (hn : l.length ≤ 1000) (hs : ∀ a ∈ l, smallA a) (f : ByteArray) : p_dirs_Of l f = some (clearL l f).2 := by
  unfold p_dirs_Of; rw [clear_p hn hs]; rfl
theorem has_p {l : List AR} (hn : l.length ≤ 1000) (hs : ∀ a ∈ l, smallA a) (f t : ByteArray) : p_dirs_Has l f t = some (delL l f t).2 := by
  unfold p_dirs_Has; rw [del_p hn hs]; rfl
theorem keys_l (t : ByteArray) (rows : List AR) (hn : rows.length ≤ 1000) : ∀ (n k F : Nat) (out : List ByteArray), k + n = rows.length → n < F → out.length ≤ k →
    p_dirs_Keys_l1 t rows rows.length F out k = some (out ++ ((rows.drop k).filter (toA t)).map (·.From), (rows.length : Int))
  | 0, k, F + 1, out, hk, hF, h1 => by
    have e : rows.drop k = [] := List.drop_of_length_le (by omega)
    have : k = rows.length := by omega
    rw [p_dirs_Keys_l1, lt_ff (by omega), e, this]; simp
  | n + 1, k, F + 1, out, hk, hF, h1 => by
    have hlt : k < rows.length := by omega
    rw [p_dirs_Keys_l1, lt_tt hlt, at_lt hlt, drop_at hlt]
    simp only [cond_true, Option.bind_some]
    rw [w64_succ (by omega), List.filter_cons]
    change (bif toA t rows[k] then _ else _) = _
    cases toA t rows[k] with
    | true =>
      simp only [cond_true, if_true]
      rw [app_ok (by simp; omega)]
      simp only [Option.bind_some]
      rw [keys_l t rows hn n (k + 1) F _ (by omega) (by omega) (by simp; omega)]
      simp
    | false =>
      simp only [cond_false, Bool.false_eq_true, if_false]
      exact keys_l t rows hn n (k + 1) F _ (by omega) (by omega) (by omega)
theorem keys_p {l : List AR} (hn : l.length ≤ 1000) (hs : ∀ a ∈ l, smallA a) (t : ByteArray) : p_dirs_Keys l t = some (keysL l t) := by
  unfold p_dirs_Keys keysL
  rw [check_p hn hs]
  simp only [Option.bind_some]
  by_cases h : chkA l = 0
  · have := keys_l t l hn l.length 0 fuel [] (by omega) (by have := fuel_pos; omega) (Nat.le_refl _)
    rw [if_pos h, h, show ((0 : Int)) = ((0 : Nat) : Int) from rfl, this, List.drop_zero]
    simp
  · rw [if_neg h, chk_ne h]; rfl
theorem rof_l (f : ByteArray) (rows : List AR) (hn : rows.length ≤ 1000) (c : Int) (hc : p_ref29_Check rows = some c) : ∀ (n k F : Nat) (out : List ByteArray), k + n = rows.length → n < F → out.length ≤ k →
    ∃ q, p_ref29_Of_l1 rows f F out k = some (out ++ (if c = 0 then ((rows.drop k).filter (fromA f)).map (·.To) else []), q)
  | 0, k, F + 1, out, hk, hF, h1 => by
    have e : rows.drop k = [] := List.drop_of_length_le (by omega)
    refine ⟨k, ?_⟩
    rw [p_ref29_Of_l1, lt_ff (by omega), e]; simp
  | n + 1, k, F + 1, out, hk, hF, h1 => by
    have hlt : k < rows.length := by omega
    by_cases h : c = 0
    · subst h
      obtain ⟨q1, ih1⟩ := rof_l f rows hn 0 hc n (k + 1) F (out ++ [rows[k].To]) (by omega) (by omega) (by simp; omega)
      obtain ⟨q2, ih2⟩ := rof_l f rows hn 0 hc n (k + 1) F out (by omega) (by omega) (by omega)
      rw [p_ref29_Of_l1, lt_tt hlt, at_lt hlt, drop_at hlt]
      simp only [cond_true, Option.bind_some, hc, beq_self_eq_true]
      rw [w64_succ (by omega), List.filter_cons, app_ok (by simp; omega)]
      change ∃ q, (bif fromA f rows[k] then _ else _) = _
      cases fromA f rows[k] with
      | true =>
        refine ⟨q1, ?_⟩
        simp only [cond_true, Option.bind_some]
        rw [ih1]; simp
      | false =>
        refine ⟨q2, ?_⟩
        simp only [cond_false]
        rw [ih2]; simp
    · refine ⟨k, ?_⟩
      have : (c == 0) = false := by simpa using h
      rw [p_ref29_Of_l1, lt_tt hlt]
      simp only [cond_true, Option.bind_some, hc, this, cond_false, if_neg h]
      simp
theorem rof_p {l : List AR} (hn : l.length ≤ 1000) (hs : ∀ a ∈ l, smallA a) (f : ByteArray) : p_ref29_Of l f = some (clearL l f).2 := by
  unfold p_ref29_Of clearL
  obtain ⟨q, h⟩ := rof_l f l hn _ (rcheck_p hn hs) l.length 0 fuel [] (by omega) (by have := fuel_pos; omega) (Nat.le_refl _)
  rw [show ((0 : Int)) = ((0 : Nat) : Int) from rfl, h, List.drop_zero]
  simp only [Option.bind_some, List.nil_append]
  have z0 : ((0 : Nat) : Int) = 0 := rfl
  rw [z0]
  split <;> rfl
theorem rkeys_l (t : ByteArray) (rows : List AR) (hn : rows.length ≤ 1000) (c : Int) (hc : p_ref29_Check rows = some c) : ∀ (n k F : Nat) (out : List ByteArray), k + n = rows.length → n < F → out.length ≤ k →
    ∃ q, p_ref29_Keys_l1 rows t F out k = some (out ++ (if c = 0 then ((rows.drop k).filter (toA t)).map (·.From) else []), q)
  | 0, k, F + 1, out, hk, hF, h1 => by
    have e : rows.drop k = [] := List.drop_of_length_le (by omega)
    refine ⟨k, ?_⟩
    rw [p_ref29_Keys_l1, lt_ff (by omega), e]; simp
  | n + 1, k, F + 1, out, hk, hF, h1 => by
    have hlt : k < rows.length := by omega
    by_cases h : c = 0
    · subst h
      obtain ⟨q1, ih1⟩ := rkeys_l t rows hn 0 hc n (k + 1) F (out ++ [rows[k].From]) (by omega) (by omega) (by simp; omega)
      obtain ⟨q2, ih2⟩ := rkeys_l t rows hn 0 hc n (k + 1) F out (by omega) (by omega) (by omega)
      rw [p_ref29_Keys_l1, lt_tt hlt, at_lt hlt, drop_at hlt]
      simp only [cond_true, Option.bind_some, hc, beq_self_eq_true]
      rw [w64_succ (by omega), List.filter_cons, app_ok (by simp; omega)]
      change ∃ q, (bif toA t rows[k] then _ else _) = _
      cases toA t rows[k] with
      | true =>
        refine ⟨q1, ?_⟩
        simp only [cond_true, Option.bind_some]
        rw [ih1]; simp
      | false =>
        refine ⟨q2, ?_⟩
        simp only [cond_false]
        rw [ih2]; simp
    · refine ⟨k, ?_⟩
      have : (c == 0) = false := by simpa using h
      rw [p_ref29_Keys_l1, lt_tt hlt]
      simp only [cond_true, Option.bind_some, hc, this, cond_false, if_neg h]
      simp
theorem rkeys_p {l : List AR} (hn : l.length ≤ 1000) (hs : ∀ a ∈ l, smallA a) (t : ByteArray) : p_ref29_Keys l t = some (keysL l t) := by
  unfold p_ref29_Keys keysL
  obtain ⟨q, h⟩ := rkeys_l t l hn _ (rcheck_p hn hs) l.length 0 fuel [] (by omega) (by have := fuel_pos; omega) (Nat.le_refl _)
  rw [show ((0 : Int)) = ((0 : Nat) : Int) from rfl, h, List.drop_zero]
  simp only [Option.bind_some, List.nil_append]
  have z0 : ((0 : Nat) : Int) = 0 := rfl
  rw [z0]
theorem rhas_l (f t : ByteArray) (rows : List AR) (hn : rows.length ≤ 1000) (c : Int) (hc : p_ref29_Check rows = some c) : ∀ (n k F : Nat), k + n = rows.length → n < F →
    ∃ q, p_ref29_Has_l1 rows f t F k = some (if c = 0 ∧ (rows.drop k).any (isA f t) = true then .inl true else .inr q)
  | 0, k, F + 1, hk, hF => by
    have e : rows.drop k = [] := List.drop_of_length_le (by omega)
    refine ⟨k, ?_⟩
    rw [p_ref29_Has_l1, lt_ff (by omega), e]; simp
  | n + 1, k, F + 1, hk, hF => by
    have hlt : k < rows.length := by omega
    by_cases h : c = 0
    · subst h
      obtain ⟨q, ih⟩ := rhas_l f t rows hn 0 hc n (k + 1) F (by omega) (by omega)
      refine ⟨q, ?_⟩
      rw [p_ref29_Has_l1, lt_tt hlt, at_lt hlt, drop_at hlt]
      simp only [cond_true, Option.bind_some, hc, beq_self_eq_true]
      rw [w64_succ (by omega), List.any_cons, ih]
      unfold isA
      cases (rows[k].From.toList == f.toList) with
      | false => simp
      | true =>
        cases (rows[k].To.toList == t.toList) with
        | false => simp
        | true => simp
    · refine ⟨k, ?_⟩
      have : (c == 0) = false := by simpa using h
      rw [p_ref29_Has_l1, lt_tt hlt]
      simp only [cond_true, Option.bind_some, hc, this, cond_false, h]
      simp
theorem rhas_p {l : List AR} (hn : l.length ≤ 1000) (hs : ∀ a ∈ l, smallA a) (f t : ByteArray) : p_ref29_Has l f t = some (delL l f t).2 := by
  unfold p_ref29_Has delL
  obtain ⟨q, h⟩ := rhas_l f t l hn _ (rcheck_p hn hs) l.length 0 fuel (by omega) (by have := fuel_pos; omega)
  rw [show ((0 : Int)) = ((0 : Nat) : Int) from rfl, h, List.drop_zero]
  have z0 : ((0 : Nat) : Int) = 0 := rfl
  simp only [z0]
  by_cases hc : chkA l = 0
  · cases ha : l.any (isA f t) <;> simp [hc]
  · simp [hc]
theorem same_eq (a b : List AR) : ∀ (n : Nat) (y : Int), p_slices_Equal_dirs_State_dirs_Arrow__l1 a b a.length n y = p_ref29_Same_l1 a b n y
  | 0, y => rfl
  | n + 1, y => by
    rw [p_slices_Equal_dirs_State_dirs_Arrow__l1, p_ref29_Same_l1]
    simp only [same_eq a b n]
theorem same_tot (a b : List AR) (hn : a.length ≤ 1000) (he : b.length = a.length) : ∀ (n k F : Nat), k + n = a.length → n < F → ∃ r, p_ref29_Same_l1 a b F k = some r
  | 0, k, F + 1, hk, hF => by
    rw [p_ref29_Same_l1, lt_ff (by omega)]; exact ⟨_, rfl⟩
  | n + 1, k, F + 1, hk, hF => by
    have hlt : k < a.length := by omega
    rw [p_ref29_Same_l1, lt_tt hlt, at_lt hlt, at_lt (show k < b.length by omega)]
    simp only [cond_true, Option.bind_some]
    rw [w64_succ (by omega)]
    obtain ⟨r, ih⟩ := same_tot a b hn he n (k + 1) F (by omega) (by omega)
    cases (a[k].From.toList == b[k].From.toList && (a[k].To.toList == b[k].To.toList && true)) with
    | true => exact ⟨r, ih⟩
    | false => exact ⟨_, rfl⟩
theorem same_both (a b : List AR) (hn : a.length ≤ 1000) : ∃ v, p_dirs_Same a b = some v ∧ p_ref29_Same a b = some v := by
  unfold p_dirs_Same p_slices_Equal_dirs_State_dirs_Arrow_ p_ref29_Same
  by_cases he : a.length = b.length
  · have h : ((a.length : Int) != (b.length : Int)) = false := by simp [he]
    rw [h]
    simp only [cond_false]
    obtain ⟨r, hr⟩ := same_tot a b hn he.symm a.length 0 fuel (by omega) (by have := fuel_pos; omega)
    have z0 : ((0 : Nat) : Int) = 0 := rfl
    rw [z0] at hr
    rw [same_eq, hr]
    cases r <;> exact ⟨_, rfl, rfl⟩
  · have h : ((a.length : Int) != (b.length : Int)) = true := by simp; omega
    rw [h]; exact ⟨_, rfl, rfl⟩
theorem same_l (a : List AR) (hn : a.length ≤ 1000) : ∀ (n k F : Nat), k + n = a.length → n < F → p_ref29_Same_l1 a a F k = some (.inr (a.length : Int))
  | 0, k, F + 1, hk, hF => by
    have : k = a.length := by omega
    rw [p_ref29_Same_l1, lt_ff (by omega), this]; rfl
  | n + 1, k, F + 1, hk, hF => by
    have hlt : k < a.length := by omega
    rw [p_ref29_Same_l1, lt_tt hlt, at_lt hlt]
    simp only [cond_true, Option.bind_some, beq_self_eq_true, Bool.and_self]
    rw [w64_succ (by omega)]
    exact same_l a hn n (k + 1) F (by omega) (by omega)
theorem rsame_p (a : List AR) (hn : a.length ≤ 1000) : p_ref29_Same a a = some true := by
  unfold p_ref29_Same
  have := same_l a hn a.length 0 fuel (by omega) (by have := fuel_pos; omega)
  have z0 : ((0 : Nat) : Int) = 0 := rfl
  rw [z0] at this
  simp [this]
theorem same_p (a : List AR) (hn : a.length ≤ 1000) : p_dirs_Same a a = some true := by
  obtain ⟨v, h1, h2⟩ := same_both a a hn
  rw [rsame_p a hn] at h2
  cases h2; exact h1
theorem texts_l (a : List ByteArray) (hn : a.length ≤ 1000) : ∀ (n k F : Nat), k + n = a.length → n < F → p_ref01_SameTexts_l1 a a F k = some (.inr (a.length : Int))
  | 0, k, F + 1, hk, hF => by
    have : k = a.length := by omega
    rw [p_ref01_SameTexts_l1, lt_ff (by omega), this]; rfl
  | n + 1, k, F + 1, hk, hF => by
    have hlt : k < a.length := by omega
    rw [p_ref01_SameTexts_l1, lt_tt hlt, at_lt hlt]
    simp only [cond_true, Option.bind_some, beq_self_eq_true]
    rw [w64_succ (by omega)]
    exact texts_l a hn n (k + 1) F (by omega) (by omega)
theorem texts_p (a : List ByteArray) (hn : a.length ≤ 1000) : p_ref01_SameTexts a a = some true := by
  unfold p_ref01_SameTexts
  have := texts_l a hn a.length 0 fuel (by omega) (by have := fuel_pos; omega)
  have z0 : ((0 : Nat) : Int) = 0 := rfl
  rw [z0] at this
  simp [this]
theorem own29_l (l : List AR) (hn : l.length ≤ 1000) : ∀ (n k F : Nat) (acc : List AR), k + n = l.length → n < F → acc.length ≤ k → p_law29_own_l1 l F acc k = some (acc ++ l.drop k, (l.length : Int))
  | 0, k, F + 1, acc, hk, hF, ha => by
    have e : l.drop k = [] := List.drop_of_length_le (by omega)
    have : k = l.length := by omega
    rw [p_law29_own_l1, lt_ff (by omega), e, this]; simp
  | n + 1, k, F + 1, acc, hk, hF, ha => by
    have hlt : k < l.length := by omega
    rw [p_law29_own_l1, lt_tt hlt, at_lt hlt, drop_at hlt]
    simp only [cond_true, Option.bind_some]
    rw [app_ok (by simp; omega), w64_succ (by omega)]
    simp only [Option.bind_some]
    rw [own29_l l hn n (k + 1) F _ (by omega) (by omega) (by simp; omega)]
    simp only [List.append_assoc]; rfl
theorem own29_p (l : List AR) (hn : l.length ≤ 1000) : p_law29_own l = some l := by
  unfold p_law29_own
  have := own29_l l hn l.length 0 fuel [] (by omega) (by have := fuel_pos; omega) (Nat.le_refl _)
  have z0 : ((0 : Nat) : Int) = 0 := rfl
  rw [z0, List.drop_zero] at this
  rw [this]; rfl
def shortA (a : AR) : Bool := decide (a.From.size ≤ 100) && decide (a.To.size ≤ 100)
theorem light29_l (l : List AR) (hn : l.length ≤ 1000) : ∀ (n k F : Nat), k + n = l.length → n < F → p_ref29_Light_l1 l F k = some (if (l.drop k).all shortA = true then .inr (l.length : Int) else .inl false)
  | 0, k, F + 1, hk, hF => by
    have e : l.drop k = [] := List.drop_of_length_le (by omega)
    have : k = l.length := by omega
    rw [p_ref29_Light_l1, lt_ff (by omega), e, this]; rfl
  | n + 1, k, F + 1, hk, hF => by
    have hlt : k < l.length := by omega
    rw [p_ref29_Light_l1, lt_tt hlt, at_lt hlt, drop_at hlt, List.all_cons]
    simp only [cond_true, Option.bind_some]
    rw [w64_succ (by omega), light29_l l hn n (k + 1) F (by omega) (by omega)]
    unfold shortA
    by_cases h1 : l[k].From.size ≤ 100
    · rw [decide_eq_false (show ¬ (100 : Int) < (l[k].From.size : Int) by omega), decide_eq_true h1]
      by_cases h2 : l[k].To.size ≤ 100
      · rw [decide_eq_false (show ¬ (100 : Int) < (l[k].To.size : Int) by omega), decide_eq_true h2]; simp
      · rw [decide_eq_true (show (100 : Int) < (l[k].To.size : Int) by omega), decide_eq_false h2]; simp
    · rw [decide_eq_true (show (100 : Int) < (l[k].From.size : Int) by omega), decide_eq_false h1]; simp
theorem light29_p (l : List AR) : p_ref29_Light l = some false ∨ (p_ref29_Light l = some true ∧ l.length ≤ 40 ∧ ∀ a ∈ l, a.From.size ≤ 100 ∧ a.To.size ≤ 100) := by
  unfold p_ref29_Light
  by_cases h : 40 < l.length
  · rw [decide_eq_true (show (40 : Int) < (l.length : Int) by omega)]; exact .inl rfl
  · rw [decide_eq_false (show ¬ (40 : Int) < (l.length : Int) by omega)]
    have hl := light29_l l (by omega) l.length 0 fuel (by omega) (by have := fuel_pos; omega)
    have z0 : ((0 : Nat) : Int) = 0 := rfl
    rw [z0, List.drop_zero] at hl
    rw [hl]
    cases ha : l.all shortA with
    | false => exact .inl rfl
    | true =>
      refine .inr ⟨rfl, by omega, fun a hm => ?_⟩
      have := List.all_eq_true.1 ha a hm
      simpa [shortA] using this
theorem small_of {l : List AR} (h : ∀ a ∈ l, a.From.size ≤ 100 ∧ a.To.size ≤ 100) : ∀ a ∈ l, smallA a := fun a ha => ⟨by have := (h a ha).1; omega, by have := (h a ha).2; omega⟩
theorem clear_len (l : List AR) (f : ByteArray) (hn : l.length ≤ 1000) : (clearL l f).2.length ≤ 1000 ∧ (clearL l f).1.length ≤ 1000 := by
  unfold clearL
  split
  · exact ⟨by rw [List.length_map]; exact Nat.le_trans (List.length_filter_le _ _) hn, Nat.le_trans (List.length_filter_le _ _) hn⟩
  · exact ⟨Nat.zero_le _, hn⟩
theorem keys_len (l : List AR) (t : ByteArray) (hn : l.length ≤ 1000) : (keysL l t).length ≤ 1000 := by
  unfold keysL
  split
  · rw [List.length_map]; exact Nat.le_trans (List.length_filter_le _ _) hn
  · exact Nat.zero_le _
theorem dirsTells_pure (st q : List AR) (n : Ar2_ByteArray) : p_law29_DirsTells st q n = some true := by
  unfold p_law29_DirsTells
  rcases light29_p st with hl | ⟨hl, hn, hs⟩
  · rw [hl, aw29]; rfl
  rw [hl]
  simp only [Option.bind_some, cond_true]
  rcases light29_p q with hq | ⟨hq, hqn, hqs⟩
  · rw [hq, aw29]; rfl
  rw [hq]
  simp only [Option.bind_some, cond_true]
  by_cases h1 : n.a0.size ≤ 100
  · rw [decide_eq_false (show ¬ (100 : Int) < (n.a0.size : Int) by omega)]
    by_cases h2 : n.a1.size ≤ 100
    · rw [decide_eq_false (show ¬ (100 : Int) < (n.a1.size : Int) by omega)]
      have hsm := small_of hs
      have hn' : st.length ≤ 1000 := by omega
      obtain ⟨v, e1, e2⟩ := same_both st q hn'
      simp only [cond_false, own29_p st hn', own29_p q (by omega), Option.bind_some, check_p hn' hsm, rcheck_p hn' hsm, beq_self_eq_true, cond_true, of_p hn' hsm, rof_p hn' hsm, texts_p _ (clear_len st _ hn').1, keys_p hn' hsm, rkeys_p hn' hsm, texts_p _ (keys_len st _ hn'), has_p hn' hsm, rhas_p hn' hsm, e1, e2, aw29]
    · rw [decide_eq_true (show (100 : Int) < (n.a1.size : Int) by omega), aw29]; rfl
  · rw [decide_eq_true (show (100 : Int) < (n.a0.size : Int) by omega), aw29]; rfl
end Go.Proofs.Ythmgficajgedlaa
/- The arrows' order; what Add leaves. -/
namespace Go.Proofs.Ythmgficajgedlaa
open Go.RowKit
theorem ord_anti (a b : AR) : ordA b a = - ordA a b := by
  unfold ordA
  rw [cmp_anti a.From.data.toList b.From.data.toList, cmp_anti a.To.data.toList b.To.data.toList]
  by_cases h : Lib.compareBytes a.From.data.toList b.From.data.toList = 0
  · rw [if_neg (by omega), if_neg (by omega)]
  · rw [if_pos (by omega), if_pos (by omega)]
theorem bytes_ext {a b : ByteArray} (h : a.data.toList = b.data.toList) : a = b := by cases a; cases b; congr 1; exact Array.ext' h
theorem ord_eq {a b : AR} (h : ordA a b = 0) : a = b := by
  unfold ordA at h
  split at h
  · rename_i h1; exact absurd h h1
  · rename_i h1
    have e1 := bytes_ext (cmp_eq0 (Classical.not_not.1 h1))
    have e2 := bytes_ext (cmp_eq0 h)
    cases a; cases b; simp only at e1 e2; rw [e1, e2]
theorem ord_refl (a : AR) : ordA a a = 0 := by unfold ordA; rw [cmp_refl, cmp_refl]; simp
theorem ord_trans {a b c : AR} (h1 : ordA a b < 0) (h2 : ordA b c < 0) : ordA a c < 0 := by
  unfold ordA at *
  by_cases x : Lib.compareBytes a.From.data.toList b.From.data.toList = 0
  · have e := cmp_eq0 x
    rw [e]
    rw [if_neg (by omega)] at h1
    by_cases y : Lib.compareBytes b.From.data.toList c.From.data.toList = 0
    · rw [if_neg (by omega)] at h2 ⊢
      exact cmp_trans h1 h2
    · rw [if_pos y] at h2 ⊢; exact h2
  · rw [if_pos x] at h1
    by_cases y : Lib.compareBytes b.From.data.toList c.From.data.toList = 0
    · have e := cmp_eq0 y
      rw [← e, if_pos x]; exact h1
    · rw [if_pos y] at h2
      have h3 := cmp_trans h1 h2
      rw [if_pos (by omega)]; exact h3
theorem ris_pw : ∀ {l : List AR}, risL l = true ↔ l.Pairwise (fun a b => ordA a b < 0)
  | [] => by simp [risL]
  | [a] => by simp [risL]
  | a :: b :: l => by
    have ih := ris_pw (l := b :: l)
    have e : risL (a :: b :: l) = (lessA a b && risL (b :: l)) := rfl
    rw [e, Bool.and_eq_true, ih, List.pairwise_cons (a := a)]
    unfold lessA
    rw [decide_eq_true_iff]
    constructor
    · rintro ⟨h1, h2⟩
      refine ⟨fun x hx => ?_, h2⟩
      rcases List.mem_cons.1 hx with rfl | hx
      · exact h1
      · exact ord_trans h1 ((List.pairwise_cons.1 h2).1 x hx)
    · rintro ⟨h1, h2⟩
      exact ⟨h1 b (by simp), h2⟩
instance decAR : DecidableEq Ref29Arrow := fun a b =>
  if h : a.From.data.toList = b.From.data.toList ∧ a.To.data.toList = b.To.data.toList then isTrue (by cases a; cases b; simp only at h; rw [bytes_ext h.1, bytes_ext h.2])
  else isFalse (fun e => h (by rw [e]; exact ⟨rfl, rfl⟩))
structure GoodA (l : List AR) : Prop where
  len : l.length ≤ 32
  fine : ∀ a ∈ l, fineA a = true
  ord : l.Pairwise (fun a b => ordA a b < 0)
theorem chk_good {l : List AR} : chkA l = 0 ↔ GoodA l := by
  unfold chkA
  constructor
  · intro h
    split at h
    · omega
    · split at h
      · omega
      · split at h
        · rename_i h1 h2 h3
          refine ⟨by omega, fun a ha => ?_, ris_pw.1 h3⟩
          have h2' : l.any (fun a => !fineA a) = false := by simpa using h2
          have := List.any_eq_false.1 h2' a ha
          simpa using this
        · omega
  · intro h
    have h1 := h.len
    have h2 : l.any (fun a => !fineA a) = false := List.any_eq_false.2 fun a ha => by simp [h.fine a ha]
    rw [if_neg (by omega), h2, if_neg (by simp), if_pos (ris_pw.2 h.ord)]
def posA (l : List AR) (a : AR) : Nat := l.findIdx fun x => decide (0 ≤ ordA x a)
theorem pos_le (l : List AR) (a : AR) : posA l a ≤ l.length := List.findIdx_le_length
theorem pos_lt {l : List AR} {a : AR} {i : Nat} (hi : i < l.length) (h : i < posA l a) : ordA l[i] a < 0 := by
  have := List.not_of_lt_findIdx h
  simpa using this
theorem pos_ge {l : List AR} (hg : l.Pairwise (fun a b => ordA a b < 0)) {a : AR} {i : Nat} (hi : i < l.length) (h : posA l a ≤ i) : 0 ≤ ordA l[i] a := by
  have hp : posA l a < l.length := by omega
  have h0 : 0 ≤ ordA l[posA l a] a := by
    have := List.findIdx_getElem (xs := l) (p := fun x => decide (0 ≤ ordA x a)) (w := hp)
    exact of_decide_eq_true this
  rcases Nat.lt_or_ge (posA l a) i with g | g
  · have h1 := List.pairwise_iff_getElem.1 hg _ _ hp hi g
    by_cases h2 : ordA l[i] a < 0
    · have := ord_trans h1 h2; omega
    · omega
  · have e : posA l a = i := by omega
    simpa only [e] using h0
theorem searchA_l {g : AR → AR → Option Int} {l : List AR} {a : AR} (hq : ∀ x, g x a = some (ordA x a)) (hn : l.length ≤ 1000) (hg : l.Pairwise (fun a b => ordA a b < 0)) : ∀ (d i j F : Nat), i + d = j → j ≤ l.length → i ≤ posA l a → posA l a ≤ j → d < F →
    p_slices_BinarySearchFunc_dirs_State_dirs_Arrow_dirs_Arrow__l1 g l a F i j = some ((posA l a : Int), (posA l a : Int)) := by
  intro d
  induction d using Nat.strongRecOn with
  | ind d ih =>
    intro i j F hd hj h1 h2 hF
    obtain ⟨F, rfl⟩ : ∃ G, F = G + 1 := ⟨F - 1, by omega⟩
    rw [p_slices_BinarySearchFunc_dirs_State_dirs_Arrow_dirs_Arrow__l1]
    rcases Nat.lt_or_ge i j with hij | hij
    · rw [lt_tt hij, half_p (by omega), w64_succ (show (i + j) / 2 ≤ 1000000 by omega)]
      have hm : (i + j) / 2 < l.length := by omega
      simp only [cond_true, at_lt hm, Option.bind_some, hq]
      rcases Nat.lt_or_ge ((i + j) / 2) (posA l a) with hlt | hge
      · rw [decide_eq_true (pos_lt hm hlt), cond_true]
        exact ih (j - ((i + j) / 2 + 1)) (by omega) _ _ F (by omega) hj (by omega) h2 (by omega)
      · have := pos_ge hg hm hge
        rw [decide_eq_false (by omega), cond_false]
        exact ih ((i + j) / 2 - i) (by omega) _ _ F (by omega) (by omega) h1 hge (by omega)
    · rw [lt_ff hij]
      have e1 : i = posA l a := by omega
      have e2 : j = posA l a := by omega
      rw [cond_false, ← e2, ← (show i = j by omega)]
theorem found_p {l : List AR} {a : AR} (hn : l.length ≤ 1000) (hg : l.Pairwise (fun a b => ordA a b < 0)) : p_slices_BinarySearchFunc_dirs_State_dirs_Arrow_dirs_Arrow_ l a (fun x0 x1 => p_dirs_order x0 x1) = some ((posA l a : Int), decide (a ∈ l)) := by
  have hl := searchA_l (g := fun x0 x1 => p_dirs_order x0 x1) (a := a) (fun x => order_p x a) hn hg l.length 0 l.length fuel (by omega) (Nat.le_refl _) (Nat.zero_le _) (pos_le l a) (by have := fuel_pos; omega)
  unfold p_slices_BinarySearchFunc_dirs_State_dirs_Arrow_dirs_Arrow_
  rw [show ((0 : Int)) = ((0 : Nat) : Int) from rfl, hl]
  simp only [Option.bind_some]
  rcases Nat.lt_or_ge (posA l a) l.length with h | h
  · rw [lt_tt h, at_lt h]
    simp only [cond_true, Option.bind_some, order_p]
    congr 2
    by_cases hm : a ∈ l
    · rw [decide_eq_true hm]
      obtain ⟨i, hi, rfl⟩ := List.getElem_of_mem hm
      have e : posA l l[i] = i := by
        rcases Nat.lt_trichotomy i (posA l l[i]) with g | g | g
        · have := pos_lt hi g; rw [ord_refl] at this; omega
        · exact g.symm
        · have h1 := List.pairwise_iff_getElem.1 hg _ _ h hi g
          have h2 := pos_ge hg h (Nat.le_refl (posA l l[i]))
          omega
      have : ordA l[posA l l[i]] l[i] = 0 := by
        have e2 : l[posA l l[i]] = l[i] := by simp only [e]
        rw [e2, ord_refl]
      rw [this]; rfl
    · rw [decide_eq_false hm]
      have : ordA l[posA l a] a ≠ 0 := fun e => hm (by rw [← ord_eq e]; exact List.getElem_mem h)
      simpa using this
  · rw [lt_ff h]
    have hm : a ∉ l := fun hm => by
      obtain ⟨i, hi, rfl⟩ := List.getElem_of_mem hm
      have := pos_lt (a := l[i]) hi (by omega)
      rw [ord_refl] at this; omega
    rw [decide_eq_false hm]; rfl
def putA (l : List AR) (a : AR) : List AR := l.take (posA l a) ++ a :: l.drop (posA l a)
def addL (l : List AR) (a : AR) : List AR × Int := if chkA l ≠ 0 then (l, chkA l) else if fineA a = false then (l, 11) else if a ∈ l then (l, 0) else if l.length = 32 then (l, 7) else (putA l a, 0)
theorem add_p {l : List AR} (hn : l.length ≤ 1000) (hs : ∀ a ∈ l, smallA a) {f t : ByteArray} (ha : smallA ⟨f, t⟩) : p_dirs_Add l f t = some (addL l ⟨f, t⟩) := by
  unfold p_dirs_Add addL
  rw [check_p hn hs, wrong_p ha]
  simp only [Option.bind_some]
  by_cases hc : chkA l = 0
  · rw [if_neg (by simpa using hc), hc]
    have hg := chk_good.1 hc
    simp only [bne_self_eq_false, cond_false]
    cases hf : fineA ⟨f, t⟩ with
    | false => rfl
    | true =>
      simp only [Bool.not_true, cond_false, Bool.true_eq_false, if_false]
      rw [found_p hn hg.ord]
      simp only [Option.bind_some]
      by_cases hm : (⟨f, t⟩ : AR) ∈ l
      · rw [decide_eq_true hm, if_pos hm]; rfl
      · rw [decide_eq_false hm, if_neg hm, cond_false]
        by_cases h32 : l.length = 32
        · rw [if_pos h32, h32]; rfl
        · have : ((l.length : Int) == 32) = false := by simpa using (by omega : ¬ (l.length : Int) = 32)
          rw [this, if_neg h32, cond_false]
          have h1 := hg.len
          have hp := pos_le l ⟨f, t⟩
          have e1 : clone? l = some l := if_pos (by omega)
          have e2 : insAt? l (posA l ⟨f, t⟩ : Int) (⟨f, t⟩ : AR) = some (putA l ⟨f, t⟩) := by
            unfold insAt?
            rw [if_pos (by omega)]; rfl
          rw [e1]
          simp only [Option.bind_some]
          rw [e2]; rfl
  · have : (chkA l != 0) = true := by simpa using hc
    rw [if_pos hc, this]; rfl
theorem mem_put {l : List AR} {a x : AR} : x ∈ putA l a ↔ x = a ∨ x ∈ l := by
  unfold putA
  rw [List.mem_append, List.mem_cons]
  have : x ∈ l ↔ x ∈ l.take (posA l a) ∨ x ∈ l.drop (posA l a) := by rw [← List.mem_append, List.take_append_drop]
  rw [this]
  constructor
  · rintro (h | h | h) <;> simp [h]
  · rintro (h | h | h) <;> simp [h]
theorem put_good {l : List AR} {a : AR} (hg : GoodA l) (hf : fineA a = true) (hm : a ∉ l) (hl : l.length < 32) : GoodA (putA l a) where
  len := by unfold putA; simp; have := pos_le l a; omega
  fine x hx := by
    rcases mem_put.1 hx with rfl | hx
    · exact hf
    · exact hg.fine x hx
  ord := by
    unfold putA
    have hsp : (l.take (posA l a) ++ l.drop (posA l a)).Pairwise (fun a b => ordA a b < 0) := by rw [List.take_append_drop]; exact hg.ord
    obtain ⟨p1, p2, p3⟩ := List.pairwise_append.1 hsp
    have q1 : ∀ x ∈ l.take (posA l a), ordA x a < 0 := fun x hx => by
      obtain ⟨i, hi, rfl⟩ := List.getElem_of_mem hx
      rw [List.length_take] at hi
      rw [List.getElem_take]
      exact pos_lt (by omega) (by omega)
    have q2 : ∀ x ∈ l.drop (posA l a), ordA a x < 0 := fun x hx => by
      have hxl : x ∈ l := List.mem_of_mem_drop hx
      obtain ⟨i, hi, rfl⟩ := List.getElem_of_mem hx
      rw [List.length_drop] at hi
      have h0 := pos_ge hg.ord (a := a) (i := posA l a + i) (by omega) (by omega)
      rw [List.getElem_drop] at hxl ⊢
      have h1 : ordA l[posA l a + i] a ≠ 0 := fun e => hm (by rw [← ord_eq e]; exact hxl)
      have := ord_anti l[posA l a + i] a
      omega
    rw [List.pairwise_append, List.pairwise_cons]
    refine ⟨p1, ⟨q2, p2⟩, fun x hx y hy => ?_⟩
    rcases List.mem_cons.1 hy with rfl | hy
    · exact q1 x hx
    · exact p3 x hx y hy
theorem put_len (l : List AR) (a : AR) : (putA l a).length = l.length + 1 := by unfold putA; have := pos_le l a; simp; omega
theorem filter_put {l : List AR} {a : AR} (p : AR → Bool) (ha : p a = false) (hp : ∀ x ∈ l, p x = true) : (putA l a).filter p = l := by
  unfold putA
  rw [List.filter_append, List.filter_cons, ha, if_neg (by simp), ← List.filter_append, List.take_append_drop]
  exact List.filter_eq_self.2 hp
end Go.Proofs.Ythmgficajgedlaa
/- DirsBack in plain words. -/
namespace Go.Proofs.Ythmgficajgedlaa
open Go.RowKit
def byB (k : Nat) : ByteArray := ⟨#[UInt8.ofNat k]⟩
def fB (k : Nat) : ByteArray := byB (97 + k) ++ ⟨#[64, 120, 32, 114]⟩
def tB (k : Nat) : ByteArray := byB (112 + k) ++ ⟨#[64, 121]⟩
def zB (k : Nat) : ByteArray := byB (112 + k) ++ ⟨#[64, 122]⟩
def uB (k : Nat) : ByteArray := byB (97 + k) ++ ⟨#[64, 120]⟩
def ub (x : Int) : Prop := 0 ≤ x ∧ x ≤ 255
theorem letter_p {x : Int} (hx : ub x) (b m : Nat) (hm : 0 < m) (hb : b + m ≤ 200) : text? [IntKind.wrap .u8 ((b : Int) + Int.tmod x (m : Int))] = some (byB (b + x.toNat % m)) := by
  obtain ⟨n, rfl⟩ := Int.eq_ofNat_of_zero_le hx.1
  have e1 : Int.tmod (n : Int) (m : Int) = ((n % m : Nat) : Int) := (Int.ofNat_tmod n m).symm
  have hlt := Nat.mod_lt n hm
  rw [e1, Int.toNat_natCast]
  have e2 : IntKind.wrap .u8 ((b : Int) + ((n % m : Nat) : Int)) = ((b + n % m : Nat) : Int) := by
    simp only [IntKind.wrap, IntKind.signed, IntKind.bits]
    have e3 : ((b : Int) + ((n % m : Nat) : Int)) = ((b + n % m : Nat) : Int) := by omega
    rw [e3]
    generalize b + n % m = c at *
    have : c ≤ 200 := by omega
    first | omega | (simp; omega)
  rw [e2]
  unfold text?
  rw [if_pos (by simp; omega)]
  rfl
theorem cat_ok {a b : ByteArray} (h : a.size + b.size ≤ 1000) : cat? a b = some (a ++ b) := if_pos (by omega)
theorem letter5 {x : Int} (hx : ub x) : text? [IntKind.wrap .u8 ((97 : Int) + Int.tmod x (5 : Int))] = some (byB (97 + x.toNat % 5)) := letter_p hx 97 5 (by omega) (by omega)
theorem letter8 {x : Int} (hx : ub x) : text? [IntKind.wrap .u8 ((112 : Int) + Int.tmod x (8 : Int))] = some (byB (112 + x.toNat % 8)) := letter_p hx 112 8 (by omega) (by omega)
theorem by_sz (k : Nat) : (byB k).size = 1 := rfl
theorem catF (k : Nat) : cat? (byB (97 + k)) (⟨#[64, 120, 32, 114]⟩ : ByteArray) = some (fB k) := cat_ok (by rw [by_sz]; decide)
theorem catT (k : Nat) : cat? (byB (112 + k)) (⟨#[64, 121]⟩ : ByteArray) = some (tB k) := cat_ok (by rw [by_sz]; decide)
theorem catZ (k : Nat) : cat? (byB (112 + k)) (⟨#[64, 122]⟩ : ByteArray) = some (zB k) := cat_ok (by rw [by_sz]; decide)
theorem catU (k : Nat) : cat? (byB (97 + k)) (⟨#[64, 120]⟩ : ByteArray) = some (uB k) := cat_ok (by rw [by_sz]; decide)
theorem data_app (a b : ByteArray) : (a ++ b).data.toList = a.data.toList ++ b.data.toList := by simp
theorem fB_l (k : Nat) : (fB k).data.toList = [UInt8.ofNat (97 + k), 64, 120, 32, 114] := by unfold fB; rw [data_app]; rfl
theorem tB_l (k : Nat) : (tB k).data.toList = [UInt8.ofNat (112 + k), 64, 121] := by unfold tB; rw [data_app]; rfl
theorem zB_l (k : Nat) : (zB k).data.toList = [UInt8.ofNat (112 + k), 64, 122] := by unfold zB; rw [data_app]; rfl
theorem uB_l (k : Nat) : (uB k).data.toList = [UInt8.ofNat (97 + k), 64, 120] := by unfold uB; rw [data_app]; rfl
theorem sz_of {s : ByteArray} {n : Nat} (h : s.data.toList.length = n) : s.size = n := by rw [← h, bl_len]
theorem fB_sz (k : Nat) : (fB k).size = 5 := sz_of (by rw [fB_l]; rfl)
theorem tB_sz (k : Nat) : (tB k).size = 3 := sz_of (by rw [tB_l]; rfl)
theorem zB_sz (k : Nat) : (zB k).size = 3 := sz_of (by rw [zB_l]; rfl)
set_option maxRecDepth 100000 in
theorem fB_all : ((List.range 5).all fun k => (findL [UInt8.ofNat (97 + k), 64, 120, 32, 114] 32 == 3) && isBareL [UInt8.ofNat (97 + k), 64, 120] && (resL [114] == 0)) = true := by kernel_rfl
set_option maxRecDepth 100000 in
theorem tB_all : ((List.range 8).all fun k => isBareL [UInt8.ofNat (112 + k), 64, 121] && isBareL [UInt8.ofNat (112 + k), 64, 122]) = true := by kernel_rfl
theorem fB_split {k : Nat} (h : k < 5) : splitE (fB k) = (uB k, ba [114], 0) := by
  have := List.all_eq_true.1 fB_all k (List.mem_range.2 h)
  simp only [Bool.and_eq_true, beq_iff_eq] at this
  obtain ⟨⟨h1, h2⟩, h3⟩ := this
  have e1 : frontB (fB k) = ba [UInt8.ofNat (97 + k), 64, 120] := by unfold frontB; rw [fB_l, h1]; rfl
  have e2 : backB (fB k) = ba [114] := by unfold backB; rw [fB_l, h1]; rfl
  have e3 : ba [UInt8.ofNat (97 + k), 64, 120] = uB k := bytes_ext (by rw [uB_l]; rfl)
  unfold splitE
  rw [fB_l, h1, if_pos (show 3 < [UInt8.ofNat (97 + k), 64, 120, 32, 114].length by simp), e1, e2]
  have e4 : (ba [UInt8.ofNat (97 + k), 64, 120]).data.toList = [UInt8.ofNat (97 + k), 64, 120] := rfl
  have e5 : (ba [114]).data.toList = [114] := rfl
  rw [e4, h2, if_pos rfl, e5, h3, if_pos rfl, e3]
theorem tB_bare {k : Nat} (h : k < 8) : isBareL (tB k).data.toList = true ∧ isBareL (zB k).data.toList = true := by
  have := List.all_eq_true.1 tB_all k (List.mem_range.2 h)
  simp only [Bool.and_eq_true] at this
  rw [tB_l, zB_l]; exact this
theorem fine_t {i j : Nat} (hi : i < 5) (hj : j < 8) : fineA ⟨fB i, tB j⟩ = true := by
  unfold fineA; simp only [fB_split hi, (tB_bare hj).1]; rfl
theorem fine_z {i j : Nat} (hi : i < 5) (hj : j < 8) : fineA ⟨fB i, zB j⟩ = true := by
  unfold fineA; simp only [fB_split hi, (tB_bare hj).2]; rfl
theorem t_ne_z (j k : Nat) : tB j ≠ zB k := by
  intro h
  have h2 : (tB j).data.toList = (zB k).data.toList := by rw [h]
  rw [tB_l, zB_l] at h2
  simp at h2
structure InvD (l : List AR) : Prop where
  good : GoodA l
  is : ∀ a ∈ l, ∃ i j, i < 5 ∧ j < 8 ∧ a = ⟨fB i, tB j⟩
theorem InvD.small {l : List AR} (h : InvD l) : ∀ a ∈ l, smallA a := fun a ha => by
  obtain ⟨i, j, _, _, rfl⟩ := h.is a ha
  exact ⟨by show (fB i).size ≤ _; rw [fB_sz]; omega, by show (tB j).size ≤ _; rw [tB_sz]; omega⟩
theorem small_t (i j : Nat) : smallA ⟨fB i, tB j⟩ := ⟨by show (fB i).size ≤ _; rw [fB_sz]; omega, by show (tB j).size ≤ _; rw [tB_sz]; omega⟩
theorem small_z (i j : Nat) : smallA ⟨fB i, zB j⟩ := ⟨by show (fB i).size ≤ _; rw [fB_sz]; omega, by show (zB j).size ≤ _; rw [zB_sz]; omega⟩
theorem inv_add {l : List AR} (h : InvD l) {i j : Nat} (hi : i < 5) (hj : j < 8) : InvD (addL l ⟨fB i, tB j⟩).1 := by
  unfold addL
  rw [if_neg (by rw [chk_good.2 h.good]; simp), fine_t hi hj, if_neg (by simp)]
  split
  · exact h
  · rename_i hm
    split
    · exact h
    · rename_i h32
      have := h.good.len
      refine ⟨put_good h.good (fine_t hi hj) hm (by omega), fun a ha => ?_⟩
      rcases mem_put.1 ha with rfl | ha
      · exact ⟨i, j, hi, hj, rfl⟩
      · exact h.is a ha
theorem back_l (l : List Law29Deed) (hn : l.length ≤ 60) (hw : ∀ d ∈ l, ub d.From ∧ ub d.To) : ∀ (n k F : Nat) (st : List AR), k + n = l.length → n < F → InvD st → ∃ st' q, p_law29_DirsBack_l1 l F st k = some (st', q) ∧ InvD st'
  | 0, k, F + 1, st, hk, hF, h => by
    rw [p_law29_DirsBack_l1, lt_ff (by omega)]
    exact ⟨_, _, rfl, h⟩
  | n + 1, k, F + 1, st, hk, hF, h => by
    have hlt : k < l.length := by omega
    obtain ⟨h1, h2⟩ := hw _ (List.getElem_mem hlt)
    have hi := Nat.mod_lt l[k].From.toNat (show 0 < 5 by omega)
    have hj := Nat.mod_lt l[k].To.toNat (show 0 < 8 by omega)
    rw [p_law29_DirsBack_l1, lt_tt hlt, at_lt hlt]
    simp only [cond_true, Option.bind_some, letter5 h1, letter8 h2, catF, catT]
    rw [w64_succ (by omega), add_p (by have := h.good.len; omega) h.small (small_t _ _)]
    simp only [Option.bind_some]
    exact back_l l hn hw n (k + 1) F _ (by omega) (by omega) (inv_add h hi hj)
theorem only_p {l : List AR} (hn : l.length ≤ 1000) (hs : ∀ a ∈ l, smallA a) (u t : ByteArray) : p_dirs_Only l u t = some (if chkA l = 0 then (l.filter (fun x => !(((splitE x.From).1.toList == u.toList) && (x.To.toList == t.toList))), ((l.filter (fun x => ((splitE x.From).1.toList == u.toList) && (x.To.toList == t.toList))).length : Int)) else (l, 0)) := by
  unfold p_dirs_Only
  rw [check_p hn hs]
  simp only [Option.bind_some]
  by_cases h : chkA l = 0
  · rw [if_pos h, h, without_p (f := fun x0 => p_dirs_Only_1 x0 u t) (fun x => ((splitE x.From).1.toList == u.toList) && (x.To.toList == t.toList)) hn (fun x hx => by
      unfold p_dirs_Only_1 p_dirs_Arrow_user
      rw [split_p (hs x hx).1]
      simp only [Option.bind_some]
      cases ((splitE x.From).1.toList == u.toList) <;> rfl)]
    simp only [bne_self_eq_false, cond_false, Option.bind_some]
  · rw [if_neg h, chk_ne h]; rfl
theorem filter_len (p : AR → Bool) : ∀ l : List AR, (l.filter (fun x => !p x)).length + (l.filter p).length = l.length
  | [] => rfl
  | a :: l => by
    have := filter_len p l
    simp only [List.filter_cons]
    cases p a <;> simp <;> omega
theorem eqT_ne {a b : ByteArray} (h : a ≠ b) : (a.toList == b.toList) = false := by
  cases hb : (a.toList == b.toList) with
  | false => rfl
  | true => exact absurd (eqT_iff.1 hb) h
theorem dirsBack_pure (l : List Law29Deed) (from_ to : Int) (hw : ∀ d ∈ l, ub d.From ∧ ub d.To) (hf : ub from_) (ht : ub to) : p_law29_DirsBack l from_ to = some true := by
  unfold p_law29_DirsBack
  by_cases h60 : 60 < l.length
  · rw [decide_eq_true (show (60 : Int) < (l.length : Int) by omega), aw29]; rfl
  · rw [decide_eq_false (show ¬ (60 : Int) < (l.length : Int) by omega)]
    obtain ⟨st, q, h1, hinv⟩ := back_l l (by omega) hw l.length 0 fuel [] (by omega) (by have := fuel_pos; omega) ⟨⟨by simp, by simp, by simp⟩, by simp⟩
    have z0 : ((0 : Nat) : Int) = 0 := rfl
    rw [z0] at h1
    rw [h1]
    have hi := Nat.mod_lt from_.toNat (show 0 < 5 by omega)
    have hj := Nat.mod_lt to.toNat (show 0 < 8 by omega)
    have hlen := hinv.good.len
    simp only [cond_false, Option.bind_some, letter5 hf, letter8 ht, catF, catZ, catU]
    generalize from_.toNat % 5 = i at *
    generalize to.toNat % 8 = j at *
    have hn : st.length ≤ 1000 := by omega
    have hc0 := chk_good.2 hinv.good
    have hnm : (⟨fB i, zB j⟩ : AR) ∉ st := fun hm => by
      obtain ⟨i', j', _, _, e⟩ := hinv.is _ hm
      injection e with _ e2
      exact t_ne_z _ _ e2.symm
    have hto : ∀ x ∈ st, (x.To.toList == (zB j).toList) = false := fun x hx => by
      obtain ⟨i', j', _, _, rfl⟩ := hinv.is _ hx
      exact eqT_ne (t_ne_z _ _)
    rw [add_p hn hinv.small (small_z i j)]
    simp only [Option.bind_some]
    have hadd : addL st ⟨fB i, zB j⟩ = if st.length = 32 then (st, 7) else (putA st ⟨fB i, zB j⟩, 0) := by
      unfold addL
      rw [if_neg (by rw [hc0]; simp), fine_z hi hj, if_neg (by simp), if_neg hnm]
    have hx : (addL st ⟨fB i, zB j⟩).1.length ≤ 1000 ∧ ∀ a ∈ (addL st ⟨fB i, zB j⟩).1, smallA a := by
      rw [hadd]
      split
      · exact ⟨hn, hinv.small⟩
      · refine ⟨by rw [put_len]; omega, fun a ha => ?_⟩
        rcases mem_put.1 ha with rfl | ha
        · exact small_z i j
        · exact hinv.small a ha
    rw [del_p hx.1 hx.2, clear_p hn hinv.small, of_p hn hinv.small, only_p hx.1 hx.2]
    simp only [Option.bind_some]
    have e1 : (((clearL st (fB i)).2.length : Int) != ((clearL st (fB i)).2.length : Int)) = false := by simp
    rw [e1, cond_false]
    have e2 : (((clearL st (fB i)).1.length : Int) != w64 ((st.length : Int) - ((clearL st (fB i)).2.length : Int))) = false := by
      unfold clearL
      rw [if_pos hc0]
      have := filter_len (fromA (fB i)) st
      rw [List.length_map, w64_id (by omega)]
      simp
      omega
    rw [e2, cond_false]
    have hz1 : (clearL st (fB i)).1.length ≤ 1000 := (clear_len st (fB i) hn).2
    have hz2 : ∀ a ∈ (clearL st (fB i)).1, smallA a := fun a ha => by
      unfold clearL at ha
      rw [if_pos hc0] at ha
      exact hinv.small a (List.mem_filter.1 ha).1
    rw [of_p hz1 hz2]
    have e3 : (clearL (clearL st (fB i)).1 (fB i)).2 = [] := by
      have hs : (clearL st (fB i)).1.filter (fromA (fB i)) = [] := by
        unfold clearL
        rw [if_pos hc0]
        rw [List.filter_filter]
        exact List.filter_eq_nil_iff.2 fun x _ => by simp
      unfold clearL at hs ⊢
      rw [if_pos hc0] at hs ⊢
      split
      · simp only at hs ⊢
        rw [hs]; rfl
      · rfl
    simp only [Option.bind_some, e3]
    have e4 : ((([] : List ByteArray).length : Int) != 0) = false := rfl
    rw [e4, cond_false, hadd]
    by_cases h32 : st.length = 32
    · rw [if_pos h32, h32, aw29]; rfl
    · rw [if_neg h32]
      have hg := put_good hinv.good (fine_z hi hj) hnm (by omega)
      have hcp := chk_good.2 hg
      simp only [bne_self_eq_false, cond_false]
      unfold delL
      rw [if_pos hcp, if_pos hcp]
      have hisA : isA (fB i) (zB j) ⟨fB i, zB j⟩ = true := by unfold isA; simp
      have hany : (putA st ⟨fB i, zB j⟩).any (isA (fB i) (zB j)) = true := List.any_eq_true.2 ⟨_, mem_put.2 (.inl rfl), hisA⟩
      have hdel : (putA st ⟨fB i, zB j⟩).filter (fun x => !isA (fB i) (zB j) x) = st := filter_put _ (by rw [hisA]; rfl) (fun x hx => by unfold isA; rw [hto x hx]; simp)
      have hus : ((splitE (fB i)).1.toList == (uB i).toList) = true := by rw [fB_split hi]; simp
      have honly : (putA st ⟨fB i, zB j⟩).filter (fun x => !(((splitE x.From).1.toList == (uB i).toList) && (x.To.toList == (zB j).toList))) = st := filter_put _ (by simp only [hus]; simp) (fun x hx => by rw [hto x hx]; simp)
      have hone : ((putA st ⟨fB i, zB j⟩).filter (fun x => ((splitE x.From).1.toList == (uB i).toList) && (x.To.toList == (zB j).toList))).length = 1 := by
        have := filter_len (fun x => ((splitE x.From).1.toList == (uB i).toList) && (x.To.toList == (zB j).toList)) (putA st ⟨fB i, zB j⟩)
        rw [honly, put_len] at this
        omega
      simp only [hany, hdel, cond_true, same_p st hn, Option.bind_some, hone, honly, aw29]
      rfl
end Go.Proofs.Ythmgficajgedlaa
/- DirsKeeps in plain words: a table of who follows whom. -/
namespace Go.Proofs.Ythmgficajgedlaa
open Go.RowKit
def sumN (f : Nat → Nat) : Nat → Nat
  | 0 => 0
  | n + 1 => sumN f n + f n
theorem sumN_le {f : Nat → Nat} {m : Nat} (h : ∀ k, f k ≤ m) : ∀ n, sumN f n ≤ n * m
  | 0 => by simp [sumN]
  | n + 1 => by
    have := sumN_le h n
    have := h n
    rw [sumN, Nat.succ_mul]; omega
theorem sumN_congr {f g : Nat → Nat} : ∀ {n : Nat}, (∀ k, k < n → f k = g k) → sumN f n = sumN g n
  | 0, _ => rfl
  | n + 1, h => by
    rw [sumN, sumN, sumN_congr fun k hk => h k (by omega), h n (by omega)]
theorem sumN_add (f g : Nat → Nat) : ∀ n, sumN (fun k => f k + g k) n = sumN f n + sumN g n
  | 0 => rfl
  | n + 1 => by rw [sumN, sumN, sumN, sumN_add f g n]; omega
theorem sumN_one (k0 : Nat) : ∀ n, sumN (fun k => if k = k0 then 1 else 0) n = if k0 < n then 1 else 0
  | 0 => by simp [sumN]
  | n + 1 => by
    rw [sumN, sumN_one k0 n]
    by_cases h1 : k0 < n
    · rw [if_pos h1, if_neg (by omega), if_pos (by omega)]
    · rw [if_neg h1]
      by_cases h2 : n = k0
      · rw [if_pos h2, if_pos (by omega)]
      · rw [if_neg h2, if_neg (by omega)]
theorem sum_filter (p : Nat → AR → Bool) (n : Nat) : ∀ l : List AR, (∀ x ∈ l, ∃ k, k < n ∧ ∀ m, m < n → p m x = decide (m = k)) → sumN (fun k => (l.filter (p k)).length) n = l.length
  | [], _ => by
    have : ∀ n, sumN (fun k => (([] : List AR).filter (p k)).length) n = 0 := fun n => by
      induction n with
      | zero => rfl
      | succ n ih => rw [sumN, ih]; rfl
    exact this n
  | x :: l, h => by
    obtain ⟨k0, h1, h2⟩ := h x List.mem_cons_self
    have ih := sum_filter p n l fun y hy => h y (List.mem_cons_of_mem _ hy)
    have e : sumN (fun k => ((x :: l).filter (p k)).length) n = sumN (fun k => (if k = k0 then 1 else 0) + (l.filter (p k)).length) n := by
      refine sumN_congr fun k hk => ?_
      rw [List.filter_cons, h2 k hk]
      by_cases e : k = k0
      · rw [decide_eq_true e, if_pos rfl, if_pos e, List.length_cons]; omega
      · rw [decide_eq_false e, if_neg (by simp), if_neg e]; omega
    rw [e, sumN_add, sumN_one, if_pos h1, ih, List.length_cons]; omega
theorem by_inj {a b : Nat} (ha : a < 256) (hb : b < 256) (h : UInt8.ofNat a = UInt8.ofNat b) : a = b := by
  have := congrArg UInt8.toNat h
  rw [UInt8.toNat_ofNat', UInt8.toNat_ofNat'] at this
  omega
theorem fB_inj {i j : Nat} (hi : i < 5) (hj : j < 5) (h : fB i = fB j) : i = j := by
  have h2 : (fB i).data.toList = (fB j).data.toList := by rw [h]
  rw [fB_l, fB_l] at h2
  injection h2 with h3
  have := by_inj (by omega) (by omega) h3
  omega
theorem tB_inj {i j : Nat} (hi : i < 8) (hj : j < 8) (h : tB i = tB j) : i = j := by
  have h2 : (tB i).data.toList = (tB j).data.toList := by rw [h]
  rw [tB_l, tB_l] at h2
  injection h2 with h3
  have := by_inj (by omega) (by omega) h3
  omega
abbrev aA (i j : Nat) : AR := ⟨fB i, tB j⟩
theorem aA_inj {i j a b : Nat} (hi : i < 5) (hj : j < 8) (ha : a < 5) (hb : b < 8) (h : aA i j = aA a b) : i = a ∧ j = b := by
  injection h with h1 h2
  exact ⟨fB_inj hi ha h1, tB_inj hj hb h2⟩
theorem isA_dec (f t : ByteArray) (x : AR) : isA f t x = decide (x = ⟨f, t⟩) := by
  rw [Bool.eq_iff_iff, decide_eq_true_iff]
  unfold isA
  simp only [Bool.and_true, Bool.and_eq_true]
  constructor
  · rintro ⟨h1, h2⟩
    have e1 := eqT_iff.1 h1
    have e2 := eqT_iff.1 h2
    cases x; simp only at e1 e2; rw [e1, e2]
  · rintro rfl; exact ⟨eqT_refl _, eqT_refl _⟩
theorem any_isA {l : List AR} {f t : ByteArray} : l.any (isA f t) = decide ((⟨f, t⟩ : AR) ∈ l) := by
  rw [Bool.eq_iff_iff, decide_eq_true_iff, List.any_eq_true]
  constructor
  · rintro ⟨x, h1, h2⟩
    rw [isA_dec, decide_eq_true_iff] at h2
    rw [← h2]; exact h1
  · intro h
    exact ⟨_, h, by rw [isA_dec]; simp⟩
theorem inv_filter {l : List AR} (h : InvD l) (p : AR → Bool) : InvD (l.filter p) :=
  ⟨⟨Nat.le_trans (List.length_filter_le _ _) h.good.len, fun a ha => h.good.fine a (List.mem_filter.1 ha).1, h.good.ord.filter _⟩, fun a ha => h.is a (List.mem_filter.1 ha).1⟩
/-- the table says who follows whom. -/
structure TabD (st : List AR) (tab : List Bool) : Prop where
  len : tab.length = 40
  has : ∀ i j, i < 5 → j < 8 → tab[i * 8 + j]? = some (decide (aA i j ∈ st))
theorem row_ok {i : Nat} (h : i < 5) : row? 5 (i : Int) = some () := by unfold row?; rw [if_pos (by omega)]
theorem el_ok {st : List AR} {tab : List Bool} (h : TabD st tab) {i j : Nat} (hi : i < 5) (hj : j < 8) : el2? 8 tab (Int.toNat (i : Int) * 8) (j : Int) = some (decide (aA i j ∈ st)) := by
  unfold el2?; rw [if_pos (by omega), Int.toNat_natCast, Int.toNat_natCast, h.has i j hi hj]
theorem tab_set {st st' : List AR} {tab : List Bool} (h : TabD st tab) {i j : Nat} {v : Bool} (hi : i < 5) (hj : j < 8) (hv : v = decide (aA i j ∈ st')) (ho : ∀ a b, a < 5 → b < 8 → ¬ (a = i ∧ b = j) → (aA a b ∈ st' ↔ aA a b ∈ st)) : TabD st' (tab.set (i * 8 + j) v) := by
  refine ⟨by rw [List.length_set]; exact h.len, fun a b ha hb => ?_⟩
  rw [List.getElem?_set]
  by_cases e : i * 8 + j = a * 8 + b
  · have e1 : i = a := by omega
    have e2 : j = b := by omega
    subst e1 e2
    rw [if_pos rfl, if_pos (by rw [h.len]; omega), hv]
  · rw [if_neg e, h.has a b ha hb]
    congr 1
    exact decide_eq_decide.2 (ho a b ha hb (by rintro ⟨rfl, rfl⟩; exact e rfl)).symm
theorem tab_row {st st' : List AR} {tab : List Bool} (h : TabD st tab) {i : Nat} (hi : i < 5) (hn : ∀ a b, a < 5 → b < 8 → (aA a b ∈ st' ↔ aA a b ∈ st ∧ a ≠ i)) : ∃ t, setRow? tab (Int.toNat (i : Int) * 8) [false, false, false, false, false, false, false, false] = some t ∧ TabD st' t := by
  refine ⟨tab.take (i * 8) ++ [false, false, false, false, false, false, false, false] ++ tab.drop (i * 8 + 8), ?_, ?_, ?_⟩
  · unfold setRow?
    rw [Int.toNat_natCast, if_pos (by rw [h.len]; simp; omega)]; rfl
  · have := h.len; simp; omega
  · intro a b ha hb
    have hl := h.len
    rw [List.append_assoc]
    rcases Nat.lt_trichotomy a i with g | g | g
    · rw [List.getElem?_append_left (by rw [List.length_take]; omega), List.getElem?_take, if_pos (by omega), h.has a b ha hb]
      congr 1
      exact decide_eq_decide.2 ⟨fun x => (hn a b ha hb).2 ⟨x, by omega⟩, fun x => ((hn a b ha hb).1 x).1⟩
    · subst g
      rw [List.getElem?_append_right (by rw [List.length_take]; omega), List.length_take, Nat.min_eq_left (by omega), List.getElem?_append_left (by simp; omega), Nat.add_sub_cancel_left]
      rw [decide_eq_false fun x => ((hn a b ha hb).1 x).2 rfl]
      have : b = 0 ∨ b = 1 ∨ b = 2 ∨ b = 3 ∨ b = 4 ∨ b = 5 ∨ b = 6 ∨ b = 7 := by omega
      rcases this with rfl | rfl | rfl | rfl | rfl | rfl | rfl | rfl <;> rfl
    · rw [List.getElem?_append_right (by rw [List.length_take]; omega), List.length_take, Nat.min_eq_left (by omega), List.getElem?_append_right (by simp; omega), List.getElem?_drop]
      rw [show i * 8 + 8 + (a * 8 + b - i * 8 - [false, false, false, false, false, false, false, false].length) = a * 8 + b by simp; omega, h.has a b ha hb]
      congr 1
      exact decide_eq_decide.2 ⟨fun x => (hn a b ha hb).2 ⟨x, by omega⟩, fun x => ((hn a b ha hb).1 x).1⟩
def indD (st : List AR) (a b : Nat) : Nat := if aA a b ∈ st then 1 else 0
theorem filter_one {c : AR} : ∀ {l : List AR}, l.Pairwise (fun a b => ordA a b < 0) → (l.filter fun x => decide (x = c)).length = if c ∈ l then 1 else 0
  | [], _ => rfl
  | x :: l, h => by
    obtain ⟨h1, h2⟩ := List.pairwise_cons.1 h
    have ih := filter_one (c := c) h2
    rw [List.filter_cons]
    by_cases e : x = c
    · subst e
      have hn : x ∉ l := fun hm => by have := h1 x hm; rw [ord_refl] at this; omega
      rw [if_neg hn] at ih
      rw [if_pos (by simp), List.length_cons, ih, if_pos List.mem_cons_self]
    · rw [if_neg (by simpa using e), ih]
      by_cases hm : c ∈ l
      · rw [if_pos hm, if_pos (List.mem_cons_of_mem _ hm)]
      · rw [if_neg hm, if_neg]
        intro hh
        rcases List.mem_cons.1 hh with rfl | hh
        · exact e rfl
        · exact hm hh
theorem from_cls {st : List AR} (h : InvD st) : ∀ x ∈ st, ∃ k, k < 5 ∧ ∀ m, m < 5 → fromA (fB m) x = decide (m = k) := fun x hx => by
  obtain ⟨i, j, hi, hj, rfl⟩ := h.is x hx
  refine ⟨i, hi, fun m hm => ?_⟩
  unfold fromA
  by_cases e : m = i
  · subst e; rw [eqT_refl]; simp
  · rw [eqT_ne fun hh => e (fB_inj hi hm hh).symm, decide_eq_false e]
theorem to_cls {st : List AR} (h : InvD st) : ∀ x ∈ st, ∃ k, k < 8 ∧ ∀ m, m < 8 → toA (tB m) x = decide (m = k) := fun x hx => by
  obtain ⟨i, j, hi, hj, rfl⟩ := h.is x hx
  refine ⟨j, hj, fun m hm => ?_⟩
  unfold toA
  by_cases e : m = j
  · subst e; rw [eqT_refl]; simp
  · rw [eqT_ne fun hh => e (tB_inj hj hm hh).symm, decide_eq_false e]
theorem sum_from {st : List AR} (h : InvD st) : sumN (fun a => (st.filter (fromA (fB a))).length) 5 = st.length := sum_filter _ 5 st (from_cls h)
theorem sum_to {st : List AR} (h : InvD st) : sumN (fun a => (st.filter (toA (tB a))).length) 8 = st.length := sum_filter _ 8 st (to_cls h)
theorem sum_ind {st : List AR} (h : InvD st) : sumN (fun a => sumN (indD st a) 8) 5 = st.length := by
  rw [← sum_from h]
  refine sumN_congr fun a ha => ?_
  rw [← sum_filter (fun b => toA (tB b)) 8 (st.filter (fromA (fB a))) (to_cls (inv_filter h _))]
  refine sumN_congr fun b hb => ?_
  unfold indD
  rw [← filter_one h.good.ord, List.filter_filter]
  congr 1
  refine List.filter_congr fun x hx => ?_
  rw [← isA_dec]
  unfold isA toA fromA
  cases x.From.toList == (fB a).toList <;> simp
end Go.Proofs.Ythmgficajgedlaa
/- DirsKeeps in plain words: its loops. -/
namespace Go.Proofs.Ythmgficajgedlaa
open Go.RowKit
theorem u8w {k : Nat} (h : k < 256) : IntKind.wrap .u8 (k : Int) = (k : Int) := by
  simp only [IntKind.wrap, IntKind.signed, IntKind.bits]
  first | omega | (simp; omega)
theorem letF {a : Nat} (h : a < 5) : text? [IntKind.wrap .u8 ((97 : Int) + IntKind.wrap .u8 (a : Int))] = some (byB (97 + a)) := by
  have := letter_p (x := (a : Int)) ⟨by omega, by omega⟩ 97 5 (by omega) (by omega)
  rw [show Int.tmod (a : Int) ((5 : Nat) : Int) = (a : Int) by rw [Int.tmod_eq_emod_of_nonneg (by omega)]; omega, Int.toNat_natCast, Nat.mod_eq_of_lt h] at this
  rw [u8w (by omega)]; exact this
theorem letT {b : Nat} (h : b < 8) : text? [IntKind.wrap .u8 ((112 : Int) + IntKind.wrap .u8 (b : Int))] = some (byB (112 + b)) := by
  have := letter_p (x := (b : Int)) ⟨by omega, by omega⟩ 112 8 (by omega) (by omega)
  rw [show Int.tmod (b : Int) ((8 : Nat) : Int) = (b : Int) by rw [Int.tmod_eq_emod_of_nonneg (by omega)]; omega, Int.toNat_natCast, Nat.mod_eq_of_lt h] at this
  rw [u8w (by omega)]; exact this
theorem InvD.n {l : List AR} (h : InvD l) : l.length ≤ 1000 := by have := h.good.len; omega
theorem has_t {st : List AR} (h : InvD st) (a b : Nat) : p_dirs_Has st (fB a) (tB b) = some (decide (aA a b ∈ st)) := by
  rw [has_p h.n h.small]
  unfold delL
  rw [if_pos (chk_good.2 h.good), any_isA]
theorem of_t {st : List AR} (h : InvD st) (a : Nat) : ∃ l, p_dirs_Of st (fB a) = some l ∧ l.length = (st.filter (fromA (fB a))).length := by
  refine ⟨_, of_p h.n h.small _, ?_⟩
  unfold clearL
  rw [if_pos (chk_good.2 h.good), List.length_map]
theorem keys_t {st : List AR} (h : InvD st) (b : Nat) : ∃ l, p_dirs_Keys st (tB b) = some l ∧ l.length = (st.filter (toA (tB b))).length := by
  refine ⟨_, keys_p h.n h.small _, ?_⟩
  unfold keysL
  rw [if_pos (chk_good.2 h.good), List.length_map]
theorem ind_le (st : List AR) (a : Nat) : ∀ k, indD st a k ≤ 1 := fun k => by unfold indD; split <;> omega
theorem k3_l {st : List AR} {tab : List Bool} (h : InvD st) (ht : TabD st tab) {a : Nat} (ha : a < 5) (c : Nat) (hc : c ≤ 10000) : ∀ (n b F : Nat), b + n = 8 → n < F → p_law29_DirsKeeps_l3 st a tab F ((c + sumN (indD st a) b : Nat) : Int) b = some (.inr (((c + sumN (indD st a) 8 : Nat) : Int), 8))
  | 0, b, F + 1, hb, hF => by
    have : b = 8 := by omega
    subst this
    rw [p_law29_DirsKeeps_l3, decide_eq_false (by omega)]; rfl
  | n + 1, b, F + 1, hb, hF => by
    have hb8 : b < 8 := by omega
    have hle := sumN_le (ind_le st a) b
    rw [p_law29_DirsKeeps_l3, decide_eq_true (show (b : Int) < 8 by omega), letF ha, letT hb8, row_ok ha, el_ok ht ha hb8]
    simp only [cond_true, Option.bind_some, catF, catT]
    rw [has_t h, w64_succ (by omega), w64_succ (by omega)]
    simp only [Option.bind_some, bne_self_eq_false, cond_false]
    have ih := k3_l h ht ha c hc n (b + 1) F (by omega) (by omega)
    rw [sumN] at ih
    by_cases hm : aA a b ∈ st
    · rw [decide_eq_true hm, cond_true]
      rw [show indD st a b = 1 from if_pos hm] at ih
      exact ih
    · rw [decide_eq_false hm, cond_false]
      rw [show indD st a b = 0 from if_neg hm] at ih
      exact ih
theorem k2_l {st : List AR} {tab : List Bool} (h : InvD st) (ht : TabD st tab) : ∀ (n a F : Nat), a + n = 5 → n < F → p_law29_DirsKeeps_l2 st tab F ((sumN (fun a => sumN (indD st a) 8) a : Nat) : Int) a = some (.inr (((sumN (fun a => sumN (indD st a) 8) 5 : Nat) : Int), 5))
  | 0, a, F + 1, hb, hF => by
    have : a = 5 := by omega
    subst this
    rw [p_law29_DirsKeeps_l2, decide_eq_false (by omega)]; rfl
  | n + 1, a, F + 1, hb, hF => by
    have ha : a < 5 := by omega
    have hle := sumN_le (f := fun a => sumN (indD st a) 8) (m := 8) (fun k => by have := sumN_le (ind_le st k) 8; omega) a
    have h3 := k3_l h ht ha (sumN (fun a => sumN (indD st a) 8) a) (by omega) 8 0 fuel (by omega) (by have := fuel_pos; omega)
    have z0 : ((0 : Nat) : Int) = 0 := rfl
    rw [z0, show sumN (indD st a) 0 = 0 from rfl, Nat.add_zero] at h3
    rw [p_law29_DirsKeeps_l2, decide_eq_true (show (a : Int) < 5 by omega), h3]
    simp only [cond_true, Option.bind_some]
    rw [w64_succ (by omega)]
    exact k2_l h ht n (a + 1) F (by omega) (by omega)
theorem k4_l {st : List AR} (h : InvD st) : ∀ (n a F : Nat), a + n = 5 → n < F → p_law29_DirsKeeps_l4 st F ((sumN (fun a => (st.filter (fromA (fB a))).length) a : Nat) : Int) a = some (((sumN (fun a => (st.filter (fromA (fB a))).length) 5 : Nat) : Int), 5)
  | 0, a, F + 1, hb, hF => by
    have : a = 5 := by omega
    subst this
    rw [p_law29_DirsKeeps_l4, decide_eq_false (by omega)]; rfl
  | n + 1, a, F + 1, hb, hF => by
    have ha : a < 5 := by omega
    have hn := h.n
    have hle := sumN_le (f := fun a => (st.filter (fromA (fB a))).length) (m := 1000) (fun k => Nat.le_trans (List.length_filter_le _ _) hn) (a + 1)
    obtain ⟨l, hl1, hl2⟩ := of_t h a
    rw [p_law29_DirsKeeps_l4, decide_eq_true (show (a : Int) < 5 by omega), letF ha]
    simp only [cond_true, Option.bind_some, catF]
    rw [hl1]
    simp only [Option.bind_some]
    rw [w64_succ (by omega), hl2]
    have ih := k4_l h n (a + 1) F (by omega) (by omega)
    rw [sumN] at ih hle
    rw [w64_id (by omega)]
    exact ih
theorem k5_l {st : List AR} (h : InvD st) : ∀ (n a F : Nat), a + n = 8 → n < F → p_law29_DirsKeeps_l5 st F ((sumN (fun a => (st.filter (toA (tB a))).length) a : Nat) : Int) a = some (((sumN (fun a => (st.filter (toA (tB a))).length) 8 : Nat) : Int), 8)
  | 0, a, F + 1, hb, hF => by
    have : a = 8 := by omega
    subst this
    rw [p_law29_DirsKeeps_l5, decide_eq_false (by omega)]; rfl
  | n + 1, a, F + 1, hb, hF => by
    have ha : a < 8 := by omega
    have hn := h.n
    have hle := sumN_le (f := fun a => (st.filter (toA (tB a))).length) (m := 1000) (fun k => Nat.le_trans (List.length_filter_le _ _) hn) (a + 1)
    obtain ⟨l, hl1, hl2⟩ := keys_t h a
    rw [p_law29_DirsKeeps_l5, decide_eq_true (show (a : Int) < 8 by omega), letT ha]
    simp only [cond_true, Option.bind_some, catT]
    rw [hl1]
    simp only [Option.bind_some]
    rw [w64_succ (by omega), hl2]
    have ih := k5_l h n (a + 1) F (by omega) (by omega)
    rw [sumN] at ih hle
    rw [w64_id (by omega)]
    exact ih
theorem chk_t {st : List AR} (h : InvD st) : p_dirs_Check st = some 0 := by
  rw [check_p h.n h.small, chk_good.2 h.good]
theorem keeps_l (l : List Law29Deed) (hl : l.length ≤ 100) (hw : ∀ d ∈ l, ub d.From ∧ ub d.To) : ∀ (n k F : Nat) (st : List AR) (tab : List Bool), k + n = l.length → n < F → InvD st → TabD st tab → ∃ q, p_law29_DirsKeeps_l1 l F st k tab = some (.inr q)
  | 0, k, F + 1, st, tab, hk, hF, h, ht => by
    rw [p_law29_DirsKeeps_l1, lt_ff (by omega)]; exact ⟨_, rfl⟩
  | n + 1, k, F + 1, st, tab, hk, hF, h, ht => by
    have hlt : k < l.length := by omega
    obtain ⟨h1, h2⟩ := hw _ (List.getElem_mem hlt)
    obtain ⟨N, hN⟩ := Int.eq_ofNat_of_zero_le h1.1
    obtain ⟨M, hM⟩ := Int.eq_ofNat_of_zero_le h2.1
    obtain ⟨i, hi⟩ : ∃ i, i = N % 5 := ⟨_, rfl⟩
    obtain ⟨j, hj⟩ : ∃ j, j = M % 8 := ⟨_, rfl⟩
    have hi5 : i < 5 := by omega
    have hj8 : j < 8 := by omega
    have g1 := h1.2
    have g2 := h2.2
    have e1 : w64 (Int.tmod (N : Int) 5) = (i : Int) := by
      rw [Int.tmod_eq_emod_of_nonneg (by omega), w64_id (by omega)]; omega
    have e2 : w64 (Int.tmod (M : Int) 8) = (j : Int) := by
      rw [Int.tmod_eq_emod_of_nonneg (by omega), w64_id (by omega)]; omega
    have ih := fun st tab h ht => keeps_l l hl hw n (k + 1) F st tab (by omega) (by omega) h ht
    have z0 : ((0 : Nat) : Int) = 0 := rfl
    have hf := fuel_pos
    have tail : ∀ (st2 : List AR) (tab2 : List Bool), InvD st2 → TabD st2 tab2 → ∃ q, ((p_dirs_Check st2).bind fun v65 => bif (v65 != (0 : Int)) then some (.inl false) else (p_law29_DirsKeeps_l2 st2 tab2 fuel (0 : Int) (0 : Int)).bind fun o => match o with
        | .inl q => some (.inl q)
        | .inr q75 => (p_law29_DirsKeeps_l4 st2 fuel (0 : Int) (0 : Int)).bind fun q97 => (p_law29_DirsKeeps_l5 st2 fuel (0 : Int) (0 : Int)).bind fun q120 =>
          bif (q75.1 != (st2.length : Int)) then some (.inl false) else bif (q97.1 != q75.1) then some (.inl false) else bif (q120.1 != q75.1) then some (.inl false) else
          p_law29_DirsKeeps_l1 l F st2 (w64 ((k : Int) + (1 : Int))) tab2) = some (.inr q) := by
      intro st2 tab2 h2 ht2
      obtain ⟨q, hq⟩ := ih st2 tab2 h2 ht2
      have a2 := k2_l h2 ht2 5 0 fuel (by omega) (by omega)
      have a4 := k4_l h2 5 0 fuel (by omega) (by omega)
      have a5 := k5_l h2 8 0 fuel (by omega) (by omega)
      rw [sum_ind h2, z0] at a2
      rw [sum_from h2, z0] at a4
      rw [sum_to h2, z0] at a5
      change p_law29_DirsKeeps_l2 st2 tab2 fuel 0 0 = _ at a2
      change p_law29_DirsKeeps_l4 st2 fuel 0 0 = _ at a4
      change p_law29_DirsKeeps_l5 st2 fuel 0 0 = _ at a5
      refine ⟨q, ?_⟩
      rw [chk_t h2, a2, a4, a5]
      simp only [Option.bind_some, bne_self_eq_false, cond_false]
      rw [w64_succ (by omega)]
      exact hq
    rw [p_law29_DirsKeeps_l1, lt_tt hlt, at_lt hlt]
    simp only [cond_true, Option.bind_some]
    rw [hN, hM, e1, e2, letF hi5, letT hj8, row_ok hi5, el_ok ht hi5 hj8]
    simp only [Option.bind_some, catF, catT]
    rw [clear_p h.n h.small, del_p h.n h.small, add_p h.n h.small (small_t i j)]
    simp only [Option.bind_some, Int.toNat_natCast]
    cases hAll : l[k].All with
    | true =>
      simp only [cond_true]
      have hcl : clearL st (fB i) = (st.filter (fun x => !fromA (fB i) x), (st.filter (fromA (fB i))).map (·.To)) := by
        unfold clearL; rw [if_pos (chk_good.2 h.good)]
      have hlen := filter_len (fromA (fB i)) st
      have hn := h.n
      rw [hcl]
      simp only
      rw [List.length_map, w64_id (by omega), show (((st.filter (fromA (fB i))).length : Int) != (st.length : Int) - ((st.filter (fun x => !fromA (fB i) x)).length : Int)) = false by simp; omega]
      have h2 := inv_filter h (fun x => !fromA (fB i) x)
      obtain ⟨t, t1, t2⟩ := tab_row (st' := st.filter (fun x => !fromA (fB i) x)) ht hi5 (fun a b ha hb => by
        rw [List.mem_filter]
        refine and_congr_right fun _ => ?_
        unfold fromA
        by_cases e : a = i
        · subst e; rw [eqT_refl]; simp
        · rw [eqT_ne fun hh => e (fB_inj ha hi5 hh)]; simp [e])
      rw [Int.toNat_natCast] at t1
      rw [t1]
      simp only [cond_false, Option.bind_some, bne_self_eq_false]
      exact tail _ _ h2 t2
    | false =>
      simp only [cond_false]
      cases hOff : l[k].Off with
      | true =>
        simp only [cond_true]
        have hcl : delL st (fB i) (tB j) = (st.filter (fun x => !isA (fB i) (tB j) x), decide (aA i j ∈ st)) := by
          unfold delL; rw [if_pos (chk_good.2 h.good), any_isA]
        have h2 := inv_filter h (fun x => !isA (fB i) (tB j) x)
        rw [hcl]
        simp only [cond_false, Option.bind_some, bne_self_eq_false]
        refine tail _ _ h2 (tab_set ht hi5 hj8 ?_ ?_)
        · symm
          refine decide_eq_false fun hm => ?_
          have := (List.mem_filter.1 hm).2
          rw [isA_dec] at this
          simp at this
        · intro a b ha hb hne
          rw [List.mem_filter, isA_dec]
          refine and_iff_left ?_
          rw [decide_eq_false fun e => hne (aA_inj ha hb hi5 hj8 e)]; rfl
      | false =>
        simp only [cond_false]
        have hinv := inv_add h hi5 hj8
        have hadd : addL st (aA i j) = if aA i j ∈ st then (st, 0) else if st.length = 32 then (st, 7) else (putA st (aA i j), 0) := by
          unfold addL
          rw [if_neg (by rw [chk_good.2 h.good]; simp), fine_t hi5 hj8, if_neg (by simp)]
        have hlen := h.good.len
        change InvD (addL st (aA i j)).1 at hinv
        by_cases hm : aA i j ∈ st
        · rw [if_pos hm] at hadd
          rw [hadd, decide_eq_true hm]
          simp only [cond_true, beq_self_eq_true, bne_self_eq_false, cond_false, Option.bind_some]
          exact tail _ _ h (tab_set ht hi5 hj8 (decide_eq_true hm).symm fun _ _ _ _ _ => Iff.rfl)
        · rw [if_neg hm] at hadd
          by_cases h32 : st.length = 32
          · rw [if_pos h32] at hadd
            rw [hadd, decide_eq_false hm]
            simp only
            rw [show ((7 : Int) == 0) = false from rfl, decide_eq_false (show ¬ (st.length : Int) < 32 by omega)]
            simp only [Option.bind_some, bne_self_eq_false, cond_false]
            exact tail _ _ h (tab_set ht hi5 hj8 (decide_eq_false hm).symm fun _ _ _ _ _ => Iff.rfl)
          · rw [if_neg h32] at hadd
            rw [hadd] at hinv ⊢
            rw [decide_eq_false hm]
            simp only at hinv ⊢
            rw [decide_eq_true (show (st.length : Int) < 32 by omega)]
            simp only [Option.bind_some, bne_self_eq_false, cond_false, beq_self_eq_true]
            refine tail _ _ hinv (tab_set ht hi5 hj8 (decide_eq_true (mem_put.2 (.inl rfl))).symm fun a b ha hb hne => ?_)
            rw [mem_put]
            exact or_iff_right fun e => hne (aA_inj ha hb hi5 hj8 e)
theorem tabD_nil : TabD [] (List.replicate 40 false) := ⟨rfl, fun i j hi hj => by rw [List.getElem?_replicate, if_pos (by omega)]; simp⟩
theorem dirsKeeps_pure (l : List Law29Deed) (hw : ∀ d ∈ l, ub d.From ∧ ub d.To) : p_law29_DirsKeeps l = some true := by
  unfold p_law29_DirsKeeps
  by_cases hl : 100 < l.length
  · rw [decide_eq_true (show (100 : Int) < (l.length : Int) by omega), aw29]; rfl
  · rw [decide_eq_false (show ¬ (100 : Int) < (l.length : Int) by omega)]
    obtain ⟨q, hq⟩ := keeps_l l (by omega) hw l.length 0 fuel [] _ (by omega) (by have := fuel_pos; omega) ⟨⟨by simp, by simp, by simp⟩, by simp⟩ tabD_nil
    have z0 : ((0 : Nat) : Int) = 0 := rfl
    rw [z0] at hq
    rw [hq, aw29]; rfl
end Go.Proofs.Ythmgficajgedlaa
/- DirsKeeps: what is read of its arguments. -/
namespace Go.Proofs.Ythmgficajgedlaa
open Go.RowKit
theorem dirsKeeps_w (l : List Law29Deed) (w0 : ∀ z ∈ l, Law29Deed.Wf z) : p_law29_DirsKeeps l = some true :=
  dirsKeeps_pure l fun d hd => ⟨bounds_u8 (w0 d hd).From, bounds_u8 (w0 d hd).To⟩
end Go.Proofs.Ythmgficajgedlaa
/- DirsKeeps: for every input the call returns true, and its arguments read as they did. -/
namespace Go.Proofs.Ythmgficajgedlaa
open Go.ChangeShapes Go.WideShapes Go.ChangeAt Go.RowKit Go.Joins Go.Deep
set_option maxRecDepth 100000 in
theorem dirsKeeps_lifted (os : Os) (started : os.Started) (H : Type) (enc : TypeId × Value → H) :
    ReturnsInHanded {} Try.checked os 6 .any (Rows.dirsKeepsSpec.pre6 enc Try.prog Try.f6 Rows.dirsKeepsRow.domain false) (Rows.dirsKeepsSpec.post enc Try.prog Try.f6 false true false false) := by
  refine returnsInHanded_of_change_shaped (C := Try.checked) own0 started (by kernel_rfl) Try.func6
    (ChangeSpec.witness6 (enc := enc) (C := Try.checked) false ⟨#[], #[.slice none 0 0], []⟩ 8 (by kernel_rfl) (by kernel_rfl) (by kernel_rfl) (by kernel_rfl)) ?_
  intro W base args ds gs before hval0 hW hcnd _ hsh _
  have hval : ∀ (j : Nat) t v, Try.f6.params[j]? = some t → args[j]? = some v → Value.okWide Try.prog W .any base t v := hval0
  have hW' := hW
  obtain ⟨p, q, hA0, hV, rfl, hfz, hnd⟩ := hW
  have hA : DataW.TrodAll enc Try.prog W 0 (fun _ => true) true Try.f6.params.toList args.toList ds p := hA0
  rw [Try.params6] at hA hval
  have hA2 := hA
  obtain ⟨v0, d0, rfl, rfl, h0⟩ := trodAll_one hA
  obtain ⟨rfl, rfl⟩ := trodVars_none hV
  obtain ⟨fu0, hf0⟩ := h0
  obtain ⟨q0, l0, k0, rfl⟩ := okWide_slice Try.underlying76 (hval 0 _ v0 rfl rfl)
  obtain ⟨a0, w0, r0⟩ := rd_T76 hf0
  have hx0 : Rep (MW W) noBk _ _ := r0.2 0 (by simp [Value.cells]) (by simp)
  refine (rep_one (callsO_true (p_law29_DirsKeeps_v a0) (dirsKeeps_w a0 w0)) (maxLen_cell W hsh) (repA1 hx0)).mono ?_
  rintro e W' ⟨rfl, bel⟩
  refine ⟨_, rfl, _, _, _, [], p, [], hW', ?_, ?_, ?_, ?_, ?_⟩
  · exact trodAll_mk1 (shut_bool Try.underlying4 true)
  · exact trodAll_below laid0 bel (by
      intro t ht
      simp at ht
      rcases ht with rfl <;> exact ⟨by kernel_rfl, of_decide_eq_true (by kernel_rfl)⟩) hA2
  · rfl
  · exact bel.frame _
  · exact fun h => by cases h
theorem dirsKeeps_holds : Rows.DirsKeepsSaid :=
  OpenClaim.holds_of_wide 6 Try.f6 rfl rfl rfl rfl rfl rfl rfl ⟨rfl, rfl, rfl, rfl, rfl⟩ rfl rfl rfl rfl rfl (by kernel_rfl) Try.func6 (by kernel_rfl)
    (of_decide_eq_true (by kernel_rfl)) (by unfold Func.isWrapper; first | (rw [if_pos (by decide +kernel)]; kernel_rfl) | (rw [if_neg (by decide +kernel)]; exact ⟨rfl, rfl⟩))
    (fun os started H enc _ => dirsKeeps_lifted os started H enc)
#print axioms dirsKeeps_holds
end Go.Proofs.Ythmgficajgedlaa
