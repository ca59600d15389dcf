/- A part of the proof: 4 texts joined. -/
import Derived.Test.YthmgficajgedlaaRaA11
import Derived.Test.YthmgficajgedlaaRaA10
import Derived.Test.YthmgficajgedlaaRaA8
import Derived.KernelRfl
set_option linter.all false
/- The arrows of the program and of the document, in plain words: checks. -/
namespace Go.Proofs.Ythmgficajgedlaa
open Go.RowKit
abbrev AR := Ref29Arrow
def frontB (s : ByteArray) : ByteArray := ba (s.data.toList.take (findL s.data.toList 32))
def backB (s : ByteArray) : ByteArray := ba (s.data.toList.drop (findL s.data.toList 32 + 1))
def splitE (s : ByteArray) : ByteArray × ByteArray × Int :=
  if findL s.data.toList 32 < s.data.toList.length then
    if isBareL (frontB s).data.toList = true then
      if resL (backB s).data.toList = 0 then (frontB s, backB s, 0) else (⟨#[]⟩, ⟨#[]⟩, resL (backB s).data.toList)
    else (⟨#[]⟩, ⟨#[]⟩, 11)
  else (⟨#[]⟩, ⟨#[]⟩, 4)
theorem ba_sz (l : List UInt8) : (ba l).size = l.length := by unfold ba; simp [ByteArray.size]
theorem front_sz (s : ByteArray) : (frontB s).size ≤ s.size := by
  unfold frontB; rw [ba_sz, List.length_take]; simp; omega
theorem back_sz (s : ByteArray) : (backB s).size ≤ s.size := by
  unfold backB; rw [ba_sz, List.length_drop]; simp
theorem split_p {s : ByteArray} (h : s.size ≤ 100000) : p_pres_Split s = some (splitE s) := by
  unfold p_pres_Split p_strings_Cut splitE
  have e : (⟨#[32]⟩ : ByteArray).data.toList = [32] := rfl
  have h1 := front_sz s
  have h2 := back_sz s
  simp only [e, if_pos h, Option.bind_some]
  by_cases hf : findL s.data.toList 32 < s.data.toList.length
  · rw [decide_eq_true hf, if_pos hf, cond_true]
    have f1 : ba (List.take (findL s.data.toList 32) s.data.toList) = frontB s := rfl
    have f2 : ba (List.drop (findL s.data.toList 32 + 1) s.data.toList) = backB s := rfl
    rw [f1, f2]
    unfold p_addr_IsBare p_addr_Resource
    rw [if_pos (show (frontB s).size ≤ 100000 by omega), if_pos (show (backB s).size ≤ 100000 by omega)]
    simp only [Option.bind_some]
    change (bif isBareL (frontB s).data.toList then _ else _) = _
    cases isBareL (frontB s).data.toList with
    | true =>
      simp only [cond_true, if_true]
      change (bif resL (backB s).data.toList != 0 then _ else _) = _
      by_cases hr : resL (backB s).data.toList = 0
      · rw [if_pos hr, hr]; rfl
      · have : (resL (backB s).data.toList != 0) = true := by simpa using hr
        rw [if_neg hr, this]; rfl
    | false => rfl
  · rw [decide_eq_false hf, if_neg hf]; rfl
theorem rsplit_l (s : ByteArray) (hs : s.size ≤ 100000) : ∀ (n k F : Nat), k + n = s.size → n < F → p_ref23_Split_l1 s F k = some ((k + findL (s.data.toList.drop k) 32 : Nat) : Int)
  | 0, k, F + 1, hk, hF => by
    have e : s.data.toList.drop k = [] := List.drop_of_length_le (by simp; have : s.data.size = s.size := rfl; omega)
    rw [p_ref23_Split_l1, lt_ff (by omega), e]; rfl
  | n + 1, k, F + 1, hk, hF => by
    have hlt : k < s.size := by omega
    have hd : s.data.toList.drop k = s[k] :: s.data.toList.drop (k + 1) := by
      rw [List.drop_eq_getElem_cons (by rw [bl_len]; exact hlt), bl_get s k hlt]
    rw [p_ref23_Split_l1, lt_tt hlt, byte_at hlt, hd, findL_cons]
    simp only [cond_true, Option.bind_some]
    have hb := byte_ne s[k] 32
    have e32 : (((32 : UInt8).toNat : Nat) : Int) = 32 := rfl
    rw [e32] at hb
    rw [hb]
    cases hc : (s[k] == 32) with
    | true => simp
    | false =>
      simp only [Bool.not_false, cond_true]
      rw [w64_succ (by omega), rsplit_l s hs n (k + 1) F (by omega) (by omega)]
      simp
      omega
theorem rsplit_p {s : ByteArray} (h : s.size ≤ 100000) : p_ref23_Split s = some (splitE s) := by
  have h1 := front_sz s
  have h2 := back_sz s
  have hl := rsplit_l s h s.size 0 fuel (by omega) (by have := fuel_pos; omega)
  have z0 : ((0 : Nat) : Int) = 0 := rfl
  rw [z0, List.drop_zero, Nat.zero_add] at hl
  unfold p_ref23_Split splitE
  rw [hl]
  simp only [Option.bind_some]
  have hle := findL_le s.data.toList 32
  have hbl : s.data.toList.length = s.size := bl_len s
  by_cases hf : findL s.data.toList 32 < s.data.toList.length
  · have hne : ((findL s.data.toList 32 : Int) == (s.size : Int)) = false := by
      simp; omega
    rw [hne, if_pos hf, cond_false]
    have s1 : sub? s none (some (findL s.data.toList 32 : Int)) = some (frontB s) := by
      unfold sub?
      simp only [Option.getD_none, Option.getD_some]
      rw [if_pos (by omega)]
      congr 1
      rw [show ((0 : Int).toNat) = 0 from rfl, Int.toNat_natCast, cut_take]; rfl
    have s2 : sub? s (some (w64 ((findL s.data.toList 32 : Int) + 1))) none = some (backB s) := by
      rw [w64_succ (by omega)]
      unfold sub?
      simp only [Option.getD_none, Option.getD_some]
      rw [if_pos (by omega)]
      congr 1
      rw [Int.toNat_natCast, Int.toNat_natCast, cut_drop]; rfl
    rw [s1, s2]
    simp only [Option.bind_some]
    unfold p_ref09_IsBare p_ref09_Resource
    rw [if_pos (show (frontB s).size ≤ 100000 by omega), if_pos (show (backB s).size ≤ 100000 by omega)]
    simp only [Option.bind_some]
    cases isBareL (frontB s).data.toList with
    | true =>
      simp only [cond_true, if_true]
      by_cases hr : resL (backB s).data.toList = 0
      · rw [if_pos hr, hr]; rfl
      · have : (resL (backB s).data.toList != 0) = true := by simpa using hr
        rw [if_neg hr, this]; rfl
    | false => rfl
  · have hne : ((findL s.data.toList 32 : Int) == (s.size : Int)) = true := by
      simp; omega
    rw [hne, if_neg hf]; rfl
/-- an arrow of texts that are not too long. -/
def smallA (a : AR) : Prop := a.From.size ≤ 100000 ∧ a.To.size ≤ 100000
def fineA (a : AR) : Bool := ((splitE a.From).2.2 == 0) && isBareL a.To.data.toList
theorem wrong_p {a : AR} (h : smallA a) : p_dirs_Arrow_wrong a = some (!fineA a) := by
  unfold p_dirs_Arrow_wrong p_dirs_Arrow_user fineA
  rw [split_p h.1]
  simp only [Option.bind_some]
  cases ((splitE a.From).2.2 == 0) with
  | false => rfl
  | true =>
    simp only [cond_true, Bool.true_and]
    unfold p_addr_IsBare
    rw [if_pos h.2]; rfl
theorem fine_p {a : AR} (h : smallA a) : p_ref29_fine a = some (fineA a) := by
  unfold p_ref29_fine fineA
  rw [rsplit_p h.1]
  simp only [Option.bind_some]
  cases ((splitE a.From).2.2 == 0) with
  | false => rfl
  | true =>
    simp only [cond_true, Bool.true_and]
    unfold p_ref09_IsBare
    rw [if_pos h.2]; rfl
def ordA (a b : AR) : Int := if Lib.compareBytes a.From.data.toList b.From.data.toList ≠ 0 then Lib.compareBytes a.From.data.toList b.From.data.toList else Lib.compareBytes a.To.data.toList b.To.data.toList
def lessA (a b : AR) : Bool := decide (ordA a b < 0)
theorem or2 (x y : Int) : p_cmp_Or_int_ [x, y] = some (if x ≠ 0 then x else y) := by
  have e : fuel = 99999997 + 1 + 1 + 1 := by decide
  unfold p_cmp_Or_int_
  rw [e]
  have e2 : (([x, y].length : Nat) : Int) = 2 := rfl
  rw [e2]
  unfold p_cmp_Or_int__l1
  by_cases hx : x = 0
  · subst hx
    have w1 : w64 (0 + 1) = 1 := by decide
    have a0 : at? [(0 : Int), y] 0 = some 0 := rfl
    have a1 : at? [(0 : Int), y] 1 = some y := rfl
    simp only [w1, a0, show decide ((0 : Int) < 2) = true from rfl, cond_true, Option.bind_some, bne_self_eq_false, cond_false]
    unfold p_cmp_Or_int__l1
    simp only [a1, show decide ((1 : Int) < 2) = true from rfl, cond_true, Option.bind_some]
    by_cases hy : y = 0
    · subst hy
      have w2 : w64 (1 + 1) = 2 := by decide
      simp only [bne_self_eq_false, cond_false, w2]
      unfold p_cmp_Or_int__l1
      simp
    · have : (y != 0) = true := by simpa using hy
      simp [this]
  · have h1 : (x != 0) = true := by simpa using hx
    have a0 : at? [x, y] 0 = some x := rfl
    simp only [a0, show decide ((0 : Int) < 2) = true from rfl, cond_true, Option.bind_some, h1]
    simp [hx]
theorem order_p (a b : AR) : p_dirs_order a b = some (ordA a b) := by
  unfold p_dirs_order p_strings_Compare ordA
  simp only [Option.bind_some, or2]
theorem eqb_cmp (a b : ByteArray) : (a.toList == b.toList) = decide (Lib.compareBytes a.data.toList b.data.toList = 0) := by
  rw [tl_data, tl_data]
  by_cases h : a.data.toList = b.data.toList
  · rw [h, cmp_refl]; simp
  · have : ¬ Lib.compareBytes a.data.toList b.data.toList = 0 := fun e => h (cmp_eq0 e)
    rw [decide_eq_false this]; simpa using h
theorem less_p (a b : AR) : p_ref29_less a b = some (lessA a b) := by
  unfold p_ref29_less lessA ordA
  rw [eqb_cmp, tl_data, tl_data, tl_data, tl_data, cmp_less, cmp_less]
  by_cases h : Lib.compareBytes a.From.data.toList b.From.data.toList < 0
  · rw [decide_eq_true h, if_pos (by omega), decide_eq_true h]; rfl
  · rw [decide_eq_false h]
    by_cases h2 : Lib.compareBytes a.From.data.toList b.From.data.toList = 0
    · rw [decide_eq_true h2, if_neg (by omega)]; rfl
    · rw [decide_eq_false h2, if_pos h2, decide_eq_false h]; rfl
def risL : List AR → Bool
  | [] => true
  | [_] => true
  | a :: b :: l => lessA a b && risL (b :: l)
def chkA (l : List AR) : Int := if 32 < l.length then 5 else if l.any (fun a => !fineA a) = true then 11 else if risL l = true then 0 else 10
theorem idxA_l (f : AR → Option Bool) (p : AR → Bool) (rows : List AR) (hn : rows.length ≤ 1000) (hf : ∀ x ∈ rows, f x = some (p x)) : ∀ (n k F : Nat), k + n = rows.length → n < F →
    p_slices_IndexFunc_dirs_State_dirs_Arrow__l1 f rows rows.length F k = some (if (rows.drop k).any p = true then .inl ((k + (rows.drop k).findIdx p : Nat) : Int) else .inr (rows.length : Int))
  | 0, k, F + 1, hk, hF => by
    have e : rows.drop k = [] := List.drop_of_length_le (by omega)
    have : k = rows.length := by omega
    rw [p_slices_IndexFunc_dirs_State_dirs_Arrow__l1, lt_ff (by omega), e, this]; rfl
  | n + 1, k, F + 1, hk, hF => by
    have hlt : k < rows.length := by omega
    rw [p_slices_IndexFunc_dirs_State_dirs_Arrow__l1, lt_tt hlt, at_lt hlt, drop_at hlt]
    simp only [cond_true, Option.bind_some, hf _ (List.getElem_mem hlt)]
    cases hp : p rows[k] with
    | true => rw [List.any_cons, hp, List.findIdx_cons, hp]; rfl
    | false =>
      simp only [cond_false]
      rw [w64_succ (by omega), idxA_l f p rows hn hf n (k + 1) F (by omega) (by omega)]
      simp only [List.any_cons, hp, Bool.false_or, List.findIdx_cons, cond_false]
      split
      · congr 3; omega
      · rfl
theorem hasA_p {f : AR → Option Bool} (p : AR → Bool) {rows : List AR} (hn : rows.length ≤ 1000) (hf : ∀ x ∈ rows, f x = some (p x)) : p_slices_ContainsFunc_dirs_State_dirs_Arrow_ rows f = some (rows.any p) := by
  unfold p_slices_ContainsFunc_dirs_State_dirs_Arrow_ p_slices_IndexFunc_dirs_State_dirs_Arrow_
  have := idxA_l f p rows hn hf rows.length 0 fuel (by omega) (by have := fuel_pos; omega)
  rw [show ((0 : Int)) = ((0 : Nat) : Int) from rfl, this, List.drop_zero]
  cases rows.any p <;> simp
theorem check_l (l : List AR) (hn : l.length ≤ 1000) : ∀ (n k F : Nat), k + 1 + n = l.length → n < F → ∃ q, p_dirs_Check_l1 l F ((k + 1 : Nat) : Int) = some (if risL (l.drop k) = true then .inr q else .inl 10)
  | 0, k, F + 1, hk, hF => by
    have e : l.drop k = [l[k]] := by rw [drop_at (by omega), List.drop_of_length_le (by omega)]
    refine ⟨((k + 1 : Nat) : Int), ?_⟩
    rw [p_dirs_Check_l1, lt_ff (by omega), e]; rfl
  | n + 1, k, F + 1, hk, hF => by
    have hlt : k + 1 < l.length := by omega
    obtain ⟨q, ih⟩ := check_l l hn n (k + 1) F (by omega) (by omega)
    refine ⟨q, ?_⟩
    have wm : w64 (((k + 1 : Nat) : Int) - 1) = (k : Int) := by rw [w64_id (by omega)]; omega
    have er : risL (l.drop k) = (lessA l[k] l[k + 1] && risL (l.drop (k + 1))) := by rw [drop_at (show k < l.length by omega), drop_at hlt]; rfl
    rw [p_dirs_Check_l1, lt_tt hlt, wm, at_lt hlt, at_lt (show k < l.length by omega), er]
    simp only [cond_true, Option.bind_some, order_p]
    rw [w64_succ (by omega), ih]
    unfold lessA
    by_cases h : ordA l[k] l[k + 1] < 0
    · rw [decide_eq_false (show ¬ 0 ≤ ordA l[k] l[k + 1] by omega), decide_eq_true h]; simp
    · rw [decide_eq_true (show 0 ≤ ordA l[k] l[k + 1] by omega), decide_eq_false h]; simp
theorem check_p {l : List AR} (hn : l.length ≤ 1000) (hs : ∀ a ∈ l, smallA a) : p_dirs_Check l = some (chkA l) := by
  unfold p_dirs_Check chkA
  by_cases h1 : 32 < l.length
  · rw [decide_eq_true (by omega), if_pos h1]; rfl
  · rw [decide_eq_false (by omega), if_neg h1, cond_false, hasA_p (fun a => !fineA a) hn (fun x hx => wrong_p (hs x hx))]
    simp only [Option.bind_some]
    cases l.any (fun a => !fineA a) with
    | true => rfl
    | false =>
      simp only [cond_false, Bool.false_eq_true, if_false]
      cases l with
      | nil => rfl
      | cons a l =>
        obtain ⟨q, h⟩ := check_l (a :: l) hn l.length 0 fuel (by simp; omega) (by have := fuel_pos; simp at hn; omega)
        have z1 : ((0 + 1 : Nat) : Int) = 1 := rfl
        rw [z1, List.drop_zero] at h
        rw [h]
        cases risL (a :: l) <;> simp
theorem rcheck1_l (l : List AR) (hn : l.length ≤ 1000) (hs : ∀ a ∈ l, smallA a) : ∀ (n k F : Nat), k + n = l.length → n < F → p_ref29_Check_l1 l F k = some (if (l.drop k).any (fun a => !fineA a) = true then .inl 11 else .inr (l.length : Int))
  | 0, k, F + 1, hk, hF => by
    have e : l.drop k = [] := List.drop_of_length_le (by omega)
    have : k = l.length := by omega
    rw [p_ref29_Check_l1, lt_ff (by omega), e, this]; rfl
  | n + 1, k, F + 1, hk, hF => by
    have hlt : k < l.length := by omega
    rw [p_ref29_Check_l1, lt_tt hlt, at_lt hlt, drop_at hlt]
    simp only [cond_true, Option.bind_some, fine_p (hs _ (List.getElem_mem hlt)), List.any_cons]
    by_cases h : fineA l[k] = true
    · simp only [h, cond_true, Bool.not_true, Bool.false_or]
      rw [w64_succ (by omega), rcheck1_l l hn hs n (k + 1) F (by omega) (by omega)]
    · have h : fineA l[k] = false := by simpa using h
      simp [h]
theorem rcheck2_l (l : List AR) (hn : l.length ≤ 1000) : ∀ (n k F : Nat), k + 1 + n = l.length → n < F → ∃ q, p_ref29_Check_l2 l F ((k + 1 : Nat) : Int) = some (if risL (l.drop k) = true then .inr q else .inl 10)
  | 0, k, F + 1, hk, hF => by
    have e : l.drop k = [l[k]] := by rw [drop_at (by omega), List.drop_of_length_le (by omega)]
    refine ⟨((k + 1 : Nat) : Int), ?_⟩
    rw [p_ref29_Check_l2, lt_ff (by omega), e]; rfl
  | n + 1, k, F + 1, hk, hF => by
    have hlt : k + 1 < l.length := by omega
    obtain ⟨q, ih⟩ := rcheck2_l l hn n (k + 1) F (by omega) (by omega)
    refine ⟨q, ?_⟩
    have wm : w64 (((k + 1 : Nat) : Int) - 1) = (k : Int) := by rw [w64_id (by omega)]; omega
    have er : risL (l.drop k) = (lessA l[k] l[k + 1] && risL (l.drop (k + 1))) := by rw [drop_at (show k < l.length by omega), drop_at hlt]; rfl
    rw [p_ref29_Check_l2, lt_tt hlt, wm, at_lt hlt, at_lt (show k < l.length by omega), er]
    simp only [cond_true, Option.bind_some, less_p]
    rw [w64_succ (by omega), ih]
    cases h : lessA l[k] l[k + 1] <;> simp
theorem rcheck_p {l : List AR} (hn : l.length ≤ 1000) (hs : ∀ a ∈ l, smallA a) : p_ref29_Check l = some (chkA l) := by
  unfold p_ref29_Check chkA
  by_cases h1 : 32 < l.length
  · rw [decide_eq_true (by omega), if_pos h1]; rfl
  · rw [decide_eq_false (by omega), if_neg h1, cond_false]
    have h := rcheck1_l l hn hs l.length 0 fuel (by omega) (by have := fuel_pos; omega)
    have z0 : ((0 : Nat) : Int) = 0 := rfl
    rw [z0, List.drop_zero] at h
    rw [h]
    cases l.any (fun a => !fineA a) with
    | true => rfl
    | false =>
      simp only [Bool.false_eq_true, if_false, Option.bind_some]
      cases l with
      | nil => rfl
      | cons a l =>
        obtain ⟨q, h⟩ := rcheck2_l (a :: l) hn l.length 0 fuel (by simp; omega) (by have := fuel_pos; simp at hn; omega)
        have z1 : ((0 + 1 : Nat) : Int) = 1 := rfl
        rw [z1, List.drop_zero] at h
        rw [h]
        cases risL (a :: l) <;> simp
end Go.Proofs.Ythmgficajgedlaa
/- The arrows of the program and of the document, in plain words: what is told; DirsTells. -/
namespace Go.Proofs.Ythmgficajgedlaa
open Go.RowKit
set_option maxRecDepth 100000 in
theorem aw29 : p_law29_awake = some true := by kernel_rfl
def isA (f t : ByteArray) (x : AR) : Bool := (x.From.toList == f.toList) && ((x.To.toList == t.toList) && true)
theorem without_l (f : AR → Option Bool) (p : AR → Bool) (rows : List AR) (hn : rows.length ≤ 1000) (hf : ∀ x ∈ rows, f x = some (p x)) : ∀ (n k F : Nat) (left gone : List AR), k + n = rows.length → n < F → left.length ≤ k → gone.length ≤ k →
    p_dirs_State_without_l1 f rows rows.length F left gone k = some (left ++ (rows.drop k).filter (fun x => !p x), gone ++ (rows.drop k).filter p, (rows.length : Int))
  | 0, k, F + 1, left, gone, hk, hF, h1, h2 => by
    have e : rows.drop k = [] := List.drop_of_length_le (by omega)
    have : k = rows.length := by omega
    rw [p_dirs_State_without_l1, lt_ff (by omega), e, this]; simp
  | n + 1, k, F + 1, left, gone, hk, hF, h1, h2 => by
    have hlt : k < rows.length := by omega
    rw [p_dirs_State_without_l1, lt_tt hlt, at_lt hlt, drop_at hlt]
    simp only [cond_true, Option.bind_some, hf _ (List.getElem_mem hlt)]
    cases hp : p rows[k] with
    | true =>
      simp only [cond_true]
      rw [app_ok (by simp; omega), w64_succ (by omega)]
      simp only [Option.bind_some]
      rw [without_l f p rows hn hf n (k + 1) F _ _ (by omega) (by omega) (by omega) (by simp; omega)]
      simp only [List.filter_cons, hp, Bool.not_true, Bool.not_false, Bool.false_eq_true, if_false, if_true, List.append_assoc, List.singleton_append]
    | false =>
      simp only [cond_false]
      rw [app_ok (by simp; omega), w64_succ (by omega)]
      simp only [Option.bind_some]
      rw [without_l f p rows hn hf n (k + 1) F _ _ (by omega) (by omega) (by simp; omega) (by omega)]
      simp only [List.filter_cons, hp, Bool.not_true, Bool.not_false, Bool.false_eq_true, if_false, if_true, List.append_assoc, List.singleton_append]
theorem without_p {f : AR → Option Bool} (p : AR → Bool) {rows : List AR} (hn : rows.length ≤ 1000) (hf : ∀ x ∈ rows, f x = some (p x)) : p_dirs_State_without rows f = some (rows.filter (fun x => !p x), rows.filter p) := by
  unfold p_dirs_State_without
  have := without_l f p rows hn hf rows.length 0 fuel [] [] (by omega) (by have := fuel_pos; omega) (Nat.le_refl _) (Nat.le_refl _)
  rw [show ((0 : Int)) = ((0 : Nat) : Int) from rfl, this, List.drop_zero]
  simp
theorem tos_l (rows : List AR) (hn : rows.length ≤ 1000) : ∀ (n k F : Nat) (out : List ByteArray), k + n = rows.length → n < F → out.length ≤ k →
    p_dirs_State_tos_l1 rows rows.length F out k = some (out ++ (rows.drop k).map (·.To), (rows.length : Int))
  | 0, k, F + 1, out, hk, hF, h1 => by
    have e : rows.drop k = [] := List.drop_of_length_le (by omega)
    have : k = rows.length := by omega
    rw [p_dirs_State_tos_l1, lt_ff (by omega), e, this]; simp
  | n + 1, k, F + 1, out, hk, hF, h1 => by
    have hlt : k < rows.length := by omega
    rw [p_dirs_State_tos_l1, lt_tt hlt, at_lt hlt, drop_at hlt]
    simp only [cond_true, Option.bind_some]
    rw [app_ok (by simp; omega), w64_succ (by omega)]
    simp only [Option.bind_some]
    rw [tos_l rows hn n (k + 1) F _ (by omega) (by omega) (by simp; omega)]
    simp only [List.map_cons, List.append_assoc, List.singleton_append]
theorem tos_p {rows : List AR} (hn : rows.length ≤ 1000) : p_dirs_State_tos rows = some (rows.map (·.To)) := by
  unfold p_dirs_State_tos
  have := tos_l rows hn rows.length 0 fuel [] (by omega) (by have := fuel_pos; omega) (Nat.le_refl _)
  rw [show ((0 : Int)) = ((0 : Nat) : Int) from rfl, this, List.drop_zero]
  simp
def fromA (f : ByteArray) (x : AR) : Bool := x.From.toList == f.toList
def toA (t : ByteArray) (x : AR) : Bool := x.To.toList == t.toList
def delL (l : List AR) (f t : ByteArray) : List AR × Bool := if chkA l = 0 then (l.filter (fun x => !isA f t x), l.any (isA f t)) else (l, false)
def clearL (l : List AR) (f : ByteArray) : List AR × List ByteArray := if chkA l = 0 then (l.filter (fun x => !fromA f x), (l.filter (fromA f)).map (·.To)) else (l, [])
def keysL (l : List AR) (t : ByteArray) : List ByteArray := if chkA l = 0 then (l.filter (toA t)).map (·.From) else []
theorem pos_any (p : AR → Bool) (l : List AR) : decide ((0 : Int) < ((l.filter p).length : Int)) = l.any p := by
  rw [Bool.eq_iff_iff, decide_eq_true_iff, List.any_eq_true]
  constructor
  · intro h
    have h2 : 0 < (l.filter p).length := by omega
    obtain ⟨x, hx⟩ := List.exists_mem_of_length_pos h2
    obtain ⟨h3, h4⟩ := List.mem_filter.1 hx
    exact ⟨x, h3, h4⟩
  · rintro ⟨x, h1, h2⟩
    have : 0 < (l.filter p).length := List.length_pos_of_mem (List.mem_filter.2 ⟨h1, h2⟩)
    omega
theorem chk_ne {l : List AR} (h : chkA l ≠ 0) : (chkA l != 0) = true := by simpa using h
theorem del_p {l : List AR} (hn : l.length ≤ 1000) (hs : ∀ a ∈ l, smallA a) (f t : ByteArray) : p_dirs_Del l f t = some (delL l f t) := by
  unfold p_dirs_Del delL
  rw [check_p hn hs]
  simp only [Option.bind_some]
  by_cases h : chkA l = 0
  · rw [if_pos h, h, without_p (f := fun x0 => p_dirs_Del_1 x0 (Ref29Arrow.mk f t)) (isA f t) hn (fun _ _ => rfl)]
    simp only [bne_self_eq_false, cond_false, Option.bind_some, pos_any]
  · rw [if_neg h, chk_ne h]; rfl
theorem clear_p {l : List AR} (hn : l.length ≤ 1000) (hs : ∀ a ∈ l, smallA a) (f : ByteArray) : p_dirs_Clear l f = some (clearL l f) := by
  unfold p_dirs_Clear clearL
  rw [check_p hn hs]
  simp only [Option.bind_some]
  by_cases h : chkA l = 0
  · rw [if_pos h, h, without_p (f := fun x0 => p_dirs_Clear_1 x0 f) (fromA f) hn (fun _ _ => rfl)]
    simp only [bne_self_eq_false, cond_false, Option.bind_some]
    rw [tos_p (Nat.le_trans (List.length_filter_le _ _) hn)]; rfl
  · rw [if_neg h, chk_ne h]; rfl
theorem of_p {l : List AR} (hn : l.length ≤ 1000) (hs : ∀ a ∈ l, smallA a) (f : ByteArray) : p_dirs_Of l f = some (clearL l f).2 := by
  unfold p_dirs_Of; rw [clear_p hn hs]; rfl
theorem has_p {l : List AR} (hn : l.length ≤ 1000) (hs : ∀ a ∈ l, smallA a) (f t : ByteArray) : p_dirs_Has l f t = some (delL l f t).2 := by
  unfold p_dirs_Has; rw [del_p hn hs]; rfl
theorem keys_l (t : ByteArray) (rows : List AR) (hn : rows.length ≤ 1000) : ∀ (n k F : Nat) (out : List ByteArray), k + n = rows.length → n < F → out.length ≤ k →
    p_dirs_Keys_l1 t rows rows.length F out k = some (out ++ ((rows.drop k).filter (toA t)).map (·.From), (rows.length : Int))
  | 0, k, F + 1, out, hk, hF, h1 => by
    have e : rows.drop k = [] := List.drop_of_length_le (by omega)
    have : k = rows.length := by omega
    rw [p_dirs_Keys_l1, lt_ff (by omega), e, this]; simp
  | n + 1, k, F + 1, out, hk, hF, h1 => by
    have hlt : k < rows.length := by omega
    rw [p_dirs_Keys_l1, lt_tt hlt, at_lt hlt, drop_at hlt]
    simp only [cond_true, Option.bind_some]
    rw [w64_succ (by omega), List.filter_cons]
    change (bif toA t rows[k] then _ else _) = _
    cases toA t rows[k] with
    | true =>
      simp only [cond_true, if_true]
      rw [app_ok (by simp; omega)]
      simp only [Option.bind_some]
      rw [keys_l t rows hn n (k + 1) F _ (by omega) (by omega) (by simp; omega)]
      simp
    | false =>
      simp only [cond_false, Bool.false_eq_true, if_false]
      exact keys_l t rows hn n (k + 1) F _ (by omega) (by omega) (by omega)
theorem keys_p {l : List AR} (hn : l.length ≤ 1000) (hs : ∀ a ∈ l, smallA a) (t : ByteArray) : p_dirs_Keys l t = some (keysL l t) := by
  unfold p_dirs_Keys keysL
  rw [check_p hn hs]
  simp only [Option.bind_some]
  by_cases h : chkA l = 0
  · have := keys_l t l hn l.length 0 fuel [] (by omega) (by have := fuel_pos; omega) (Nat.le_refl _)
    rw [if_pos h, h, show ((0 : Int)) = ((0 : Nat) : Int) from rfl, this, List.drop_zero]
    simp
  · rw [if_neg h, chk_ne h]; rfl
theorem rof_l (f : ByteArray) (rows : List AR) (hn : rows.length ≤ 1000) (c : Int) (hc : p_ref29_Check rows = some c) : ∀ (n k F : Nat) (out : List ByteArray), k + n = rows.length → n < F → out.length ≤ k →
    ∃ q, p_ref29_Of_l1 rows f F out k = some (out ++ (if c = 0 then ((rows.drop k).filter (fromA f)).map (·.To) else []), q)
  | 0, k, F + 1, out, hk, hF, h1 => by
    have e : rows.drop k = [] := List.drop_of_length_le (by omega)
    refine ⟨k, ?_⟩
    rw [p_ref29_Of_l1, lt_ff (by omega), e]; simp
  | n + 1, k, F + 1, out, hk, hF, h1 => by
    have hlt : k < rows.length := by omega
    by_cases h : c = 0
    · subst h
      obtain ⟨q1, ih1⟩ := rof_l f rows hn 0 hc n (k + 1) F (out ++ [rows[k].To]) (by omega) (by omega) (by simp; omega)
      obtain ⟨q2, ih2⟩ := rof_l f rows hn 0 hc n (k + 1) F out (by omega) (by omega) (by omega)
      rw [p_ref29_Of_l1, lt_tt hlt, at_lt hlt, drop_at hlt]
      simp only [cond_true, Option.bind_some, hc, beq_self_eq_true]
      rw [w64_succ (by omega), List.filter_cons, app_ok (by simp; omega)]
      change ∃ q, (bif fromA f rows[k] then _ else _) = _
      cases fromA f rows[k] with
      | true =>
        refine ⟨q1, ?_⟩
        simp only [cond_true, Option.bind_some]
        rw [ih1]; simp
      | false =>
        refine ⟨q2, ?_⟩
        simp only [cond_false]
        rw [ih2]; simp
    · refine ⟨k, ?_⟩
      have : (c == 0) = false := by simpa using h
      rw [p_ref29_Of_l1, lt_tt hlt]
      simp only [cond_true, Option.bind_some, hc, this, cond_false, if_neg h]
      simp
theorem rof_p {l : List AR} (hn : l.length ≤ 1000) (hs : ∀ a ∈ l, smallA a) (f : ByteArray) : p_ref29_Of l f = some (clearL l f).2 := by
  unfold p_ref29_Of clearL
  obtain ⟨q, h⟩ := rof_l f l hn _ (rcheck_p hn hs) l.length 0 fuel [] (by omega) (by have := fuel_pos; omega) (Nat.le_refl _)
  rw [show ((0 : Int)) = ((0 : Nat) : Int) from rfl, h, List.drop_zero]
  simp only [Option.bind_some, List.nil_append]
  have z0 : ((0 : Nat) : Int) = 0 := rfl
  rw [z0]
  split <;> rfl
theorem rkeys_l (t : ByteArray) (rows : List AR) (hn : rows.length ≤ 1000) (c : Int) (hc : p_ref29_Check rows = some c) : ∀ (n k F : Nat) (out : List ByteArray), k + n = rows.length → n < F → out.length ≤ k →
    ∃ q, p_ref29_Keys_l1 rows t F out k = some (out ++ (if c = 0 then ((rows.drop k).filter (toA t)).map (·.From) else []), q)
  | 0, k, F + 1, out, hk, hF, h1 => by
    have e : rows.drop k = [] := List.drop_of_length_le (by omega)
    refine ⟨k, ?_⟩
    rw [p_ref29_Keys_l1, lt_ff (by omega), e]; simp
  | n + 1, k, F + 1, out, hk, hF, h1 => by
    have hlt : k < rows.length := by omega
    by_cases h : c = 0
    · subst h
      obtain ⟨q1, ih1⟩ := rkeys_l t rows hn 0 hc n (k + 1) F (out ++ [rows[k].From]) (by omega) (by omega) (by simp; omega)
      obtain ⟨q2, ih2⟩ := rkeys_l t rows hn 0 hc n (k + 1) F out (by omega) (by omega) (by omega)
      rw [p_ref29_Keys_l1, lt_tt hlt, at_lt hlt, drop_at hlt]
      simp only [cond_true, Option.bind_some, hc, beq_self_eq_true]
      rw [w64_succ (by omega), List.filter_cons, app_ok (by simp; omega)]
      change ∃ q, (bif toA t rows[k] then _ else _) = _
      cases toA t rows[k] with
      | true =>
        refine ⟨q1, ?_⟩
        simp only [cond_true, Option.bind_some]
        rw [ih1]; simp
      | false =>
        refine ⟨q2, ?_⟩
        simp only [cond_false]
        rw [ih2]; simp
    · refine ⟨k, ?_⟩
      have : (c == 0) = false := by simpa using h
      rw [p_ref29_Keys_l1, lt_tt hlt]
      simp only [cond_true, Option.bind_some, hc, this, cond_false, if_neg h]
      simp
theorem rkeys_p {l : List AR} (hn : l.length ≤ 1000) (hs : ∀ a ∈ l, smallA a) (t : ByteArray) : p_ref29_Keys l t = some (keysL l t) := by
  unfold p_ref29_Keys keysL
  obtain ⟨q, h⟩ := rkeys_l t l hn _ (rcheck_p hn hs) l.length 0 fuel [] (by omega) (by have := fuel_pos; omega) (Nat.le_refl _)
  rw [show ((0 : Int)) = ((0 : Nat) : Int) from rfl, h, List.drop_zero]
  simp only [Option.bind_some, List.nil_append]
  have z0 : ((0 : Nat) : Int) = 0 := rfl
  rw [z0]
theorem rhas_l (f t : ByteArray) (rows : List AR) (hn : rows.length ≤ 1000) (c : Int) (hc : p_ref29_Check rows = some c) : ∀ (n k F : Nat), k + n = rows.length → n < F →
    ∃ q, p_ref29_Has_l1 rows f t F k = some (if c = 0 ∧ (rows.drop k).any (isA f t) = true then .inl true else .inr q)
  | 0, k, F + 1, hk, hF => by
    have e : rows.drop k = [] := List.drop_of_length_le (by omega)
    refine ⟨k, ?_⟩
    rw [p_ref29_Has_l1, lt_ff (by omega), e]; simp
  | n + 1, k, F + 1, hk, hF => by
    have hlt : k < rows.length := by omega
    by_cases h : c = 0
    · subst h
      obtain ⟨q, ih⟩ := rhas_l f t rows hn 0 hc n (k + 1) F (by omega) (by omega)
      refine ⟨q, ?_⟩
      rw [p_ref29_Has_l1, lt_tt hlt, at_lt hlt, drop_at hlt]
      simp only [cond_true, Option.bind_some, hc, beq_self_eq_true]
      rw [w64_succ (by omega), List.any_cons, ih]
      unfold isA
      cases (rows[k].From.toList == f.toList) with
      | false => simp
      | true =>
        cases (rows[k].To.toList == t.toList) with
        | false => simp
        | true => simp
    · refine ⟨k, ?_⟩
      have : (c == 0) = false := by simpa using h
      rw [p_ref29_Has_l1, lt_tt hlt]
      simp only [cond_true, Option.bind_some, hc, this, cond_false, h]
      simp
theorem rhas_p {l : List AR} (hn : l.length ≤ 1000) (hs : ∀ a ∈ l, smallA a) (f t : ByteArray) : p_ref29_Has l f t = some (delL l f t).2 := by
  unfold p_ref29_Has delL
  obtain ⟨q, h⟩ := rhas_l f t l hn _ (rcheck_p hn hs) l.length 0 fuel (by omega) (by have := fuel_pos; omega)
  rw [show ((0 : Int)) = ((0 : Nat) : Int) from rfl, h, List.drop_zero]
  have z0 : ((0 : Nat) : Int) = 0 := rfl
  simp only [z0]
  by_cases hc : chkA l = 0
  · cases ha : l.any (isA f t) <;> simp [hc]
  · simp [hc]
theorem same_eq (a b : List AR) : ∀ (n : Nat) (y : Int), p_slices_Equal_dirs_State_dirs_Arrow__l1 a b a.length n y = p_ref29_Same_l1 a b n y
  | 0, y => rfl
  | n + 1, y => by
    rw [p_slices_Equal_dirs_State_dirs_Arrow__l1, p_ref29_Same_l1]
    simp only [same_eq a b n]
theorem same_tot (a b : List AR) (hn : a.length ≤ 1000) (he : b.length = a.length) : ∀ (n k F : Nat), k + n = a.length → n < F → ∃ r, p_ref29_Same_l1 a b F k = some r
  | 0, k, F + 1, hk, hF => by
    rw [p_ref29_Same_l1, lt_ff (by omega)]; exact ⟨_, rfl⟩
  | n + 1, k, F + 1, hk, hF => by
    have hlt : k < a.length := by omega
    rw [p_ref29_Same_l1, lt_tt hlt, at_lt hlt, at_lt (show k < b.length by omega)]
    simp only [cond_true, Option.bind_some]
    rw [w64_succ (by omega)]
    obtain ⟨r, ih⟩ := same_tot a b hn he n (k + 1) F (by omega) (by omega)
    cases (a[k].From.toList == b[k].From.toList && (a[k].To.toList == b[k].To.toList && true)) with
    | true => exact ⟨r, ih⟩
    | false => exact ⟨_, rfl⟩
theorem same_both (a b : List AR) (hn : a.length ≤ 1000) : ∃ v, p_dirs_Same a b = some v ∧ p_ref29_Same a b = some v := by
  unfold p_dirs_Same p_slices_Equal_dirs_State_dirs_Arrow_ p_ref29_Same
  by_cases he : a.length = b.length
  · have h : ((a.length : Int) != (b.length : Int)) = false := by simp [he]
    rw [h]
    simp only [cond_false]
    obtain ⟨r, hr⟩ := same_tot a b hn he.symm a.length 0 fuel (by omega) (by have := fuel_pos; omega)
    have z0 : ((0 : Nat) : Int) = 0 := rfl
    rw [z0] at hr
    rw [same_eq, hr]
    cases r <;> exact ⟨_, rfl, rfl⟩
  · have h : ((a.length : Int) != (b.length : Int)) = true := by simp; omega
    rw [h]; exact ⟨_, rfl, rfl⟩
theorem same_l (a : List AR) (hn : a.length ≤ 1000) : ∀ (n k F : Nat), k + n = a.length → n < F → p_ref29_Same_l1 a a F k = some (.inr (a.length : Int))
  | 0, k, F + 1, hk, hF => by
    have : k = a.length := by omega
    rw [p_ref29_Same_l1, lt_ff (by omega), this]; rfl
  | n + 1, k, F + 1, hk, hF => by
    have hlt : k < a.length := by omega
    rw [p_ref29_Same_l1, lt_tt hlt, at_lt hlt]
    simp only [cond_true, Option.bind_some, beq_self_eq_true, Bool.and_self]
    rw [w64_succ (by omega)]
    exact same_l a hn n (k + 1) F (by omega) (by omega)
theorem rsame_p (a : List AR) (hn : a.length ≤ 1000) : p_ref29_Same a a = some true := by
  unfold p_ref29_Same
  have := same_l a hn a.length 0 fuel (by omega) (by have := fuel_pos; omega)
  have z0 : ((0 : Nat) : Int) = 0 := rfl
  rw [z0] at this
  simp [this]
theorem same_p (a : List AR) (hn : a.length ≤ 1000) : p_dirs_Same a a = some true := by
  obtain ⟨v, h1, h2⟩ := same_both a a hn
  rw [rsame_p a hn] at h2
  cases h2; exact h1
theorem texts_l (a : List ByteArray) (hn : a.length ≤ 1000) : ∀ (n k F : Nat), k + n = a.length → n < F → p_ref01_SameTexts_l1 a a F k = some (.inr (a.length : Int))
  | 0, k, F + 1, hk, hF => by
    have : k = a.length := by omega
    rw [p_ref01_SameTexts_l1, lt_ff (by omega), this]; rfl
  | n + 1, k, F + 1, hk, hF => by
    have hlt : k < a.length := by omega
    rw [p_ref01_SameTexts_l1, lt_tt hlt, at_lt hlt]
    simp only [cond_true, Option.bind_some, beq_self_eq_true]
    rw [w64_succ (by omega)]
    exact texts_l a hn n (k + 1) F (by omega) (by omega)
theorem texts_p (a : List ByteArray) (hn : a.length ≤ 1000) : p_ref01_SameTexts a a = some true := by
  unfold p_ref01_SameTexts
  have := texts_l a hn a.length 0 fuel (by omega) (by have := fuel_pos; omega)
  have z0 : ((0 : Nat) : Int) = 0 := rfl
  rw [z0] at this
  simp [this]
theorem own29_l (l : List AR) (hn : l.length ≤ 1000) : ∀ (n k F : Nat) (acc : List AR), k + n = l.length → n < F → acc.length ≤ k → p_law29_own_l1 l F acc k = some (acc ++ l.drop k, (l.length : Int))
  | 0, k, F + 1, acc, hk, hF, ha => by
    have e : l.drop k = [] := List.drop_of_length_le (by omega)
    have : k = l.length := by omega
    rw [p_law29_own_l1, lt_ff (by omega), e, this]; simp
  | n + 1, k, F + 1, acc, hk, hF, ha => by
    have hlt : k < l.length := by omega
    rw [p_law29_own_l1, lt_tt hlt, at_lt hlt, drop_at hlt]
    simp only [cond_true, Option.bind_some]
    rw [app_ok (by simp; omega), w64_succ (by omega)]
    simp only [Option.bind_some]
    rw [own29_l l hn n (k + 1) F _ (by omega) (by omega) (by simp; omega)]
    simp only [List.append_assoc]; rfl
theorem own29_p (l : List AR) (hn : l.length ≤ 1000) : p_law29_own l = some l := by
  unfold p_law29_own
  have := own29_l l hn l.length 0 fuel [] (by omega) (by have := fuel_pos; omega) (Nat.le_refl _)
  have z0 : ((0 : Nat) : Int) = 0 := rfl
  rw [z0, List.drop_zero] at this
  rw [this]; rfl
def shortA (a : AR) : Bool := decide (a.From.size ≤ 100) && decide (a.To.size ≤ 100)
theorem light29_l (l : List AR) (hn : l.length ≤ 1000) : ∀ (n k F : Nat), k + n = l.length → n < F → p_ref29_Light_l1 l F k = some (if (l.drop k).all shortA = true then .inr (l.length : Int) else .inl false)
  | 0, k, F + 1, hk, hF => by
    have e : l.drop k = [] := List.drop_of_length_le (by omega)
    have : k = l.length := by omega
    rw [p_ref29_Light_l1, lt_ff (by omega), e, this]; rfl
  | n + 1, k, F + 1, hk, hF => by
    have hlt : k < l.length := by omega
    rw [p_ref29_Light_l1, lt_tt hlt, at_lt hlt, drop_at hlt, List.all_cons]
    simp only [cond_true, Option.bind_some]
    rw [w64_succ (by omega), light29_l l hn n (k + 1) F (by omega) (by omega)]
    unfold shortA
    by_cases h1 : l[k].From.size ≤ 100
    · rw [decide_eq_false (show ¬ (100 : Int) < (l[k].From.size : Int) by omega), decide_eq_true h1]
      by_cases h2 : l[k].To.size ≤ 100
      · rw [decide_eq_false (show ¬ (100 : Int) < (l[k].To.size : Int) by omega), decide_eq_true h2]; simp
      · rw [decide_eq_true (show (100 : Int) < (l[k].To.size : Int) by omega), decide_eq_false h2]; simp
    · rw [decide_eq_true (show (100 : Int) < (l[k].From.size : Int) by omega), decide_eq_false h1]; simp
theorem light29_p (l : List AR) : p_ref29_Light l = some false ∨ (p_ref29_Light l = some true ∧ l.length ≤ 40 ∧ ∀ a ∈ l, a.From.size ≤ 100 ∧ a.To.size ≤ 100) := by
  unfold p_ref29_Light
  by_cases h : 40 < l.length
  · rw [decide_eq_true (show (40 : Int) < (l.length : Int) by omega)]; exact .inl rfl
  · rw [decide_eq_false (show ¬ (40 : Int) < (l.length : Int) by omega)]
    have hl := light29_l l (by omega) l.length 0 fuel (by omega) (by have := fuel_pos; omega)
    have z0 : ((0 : Nat) : Int) = 0 := rfl
    rw [z0, List.drop_zero] at hl
    rw [hl]
    cases ha : l.all shortA with
    | false => exact .inl rfl
    | true =>
      refine .inr ⟨rfl, by omega, fun a hm => ?_⟩
      have := List.all_eq_true.1 ha a hm
      simpa [shortA] using this
theorem small_of {l : List AR} (h : ∀ a ∈ l, a.From.size ≤ 100 ∧ a.To.size ≤ 100) : ∀ a ∈ l, smallA a := fun a ha => ⟨by have := (h a ha).1; omega, by have := (h a ha).2; omega⟩
theorem clear_len (l : List AR) (f : ByteArray) (hn : l.length ≤ 1000) : (clearL l f).2.length ≤ 1000 ∧ (clearL l f).1.length ≤ 1000 := by
  unfold clearL
  split
  · exact ⟨by rw [List.length_map]; exact Nat.le_trans (List.length_filter_le _ _) hn, Nat.le_trans (List.length_filter_le _ _) hn⟩
  · exact ⟨Nat.zero_le _, hn⟩
theorem keys_len (l : List AR) (t : ByteArray) (hn : l.length ≤ 1000) : (keysL l t).length ≤ 1000 := by
  unfold keysL
  split
  · rw [List.length_map]; exact Nat.le_trans (List.length_filter_le _ _) hn
  · exact Nat.zero_le _
theorem dirsTells_pure (st q : List AR) (n : Ar2_ByteArray) : p_law29_DirsTells st q n = some true := by
  unfold p_law29_DirsTells
  rcases light29_p st with hl | ⟨hl, hn, hs⟩
  · rw [hl, aw29]; rfl
  rw [hl]
  simp only [Option.bind_some, cond_true]
  rcases light29_p q with hq | ⟨hq, hqn, hqs⟩
  · rw [hq, aw29]; rfl
  rw [hq]
  simp only [Option.bind_some, cond_true]
  by_cases h1 : n.a0.size ≤ 100
  · rw [decide_eq_false (show ¬ (100 : Int) < (n.a0.size : Int) by omega)]
    by_cases h2 : n.a1.size ≤ 100
    · rw [decide_eq_false (show ¬ (100 : Int) < (n.a1.size : Int) by omega)]
      have hsm := small_of hs
      have hn' : st.length ≤ 1000 := by omega
      obtain ⟨v, e1, e2⟩ := same_both st q hn'
      simp only [cond_false, own29_p st hn', own29_p q (by omega), Option.bind_some, check_p hn' hsm, rcheck_p hn' hsm, beq_self_eq_true, cond_true, of_p hn' hsm, rof_p hn' hsm, texts_p _ (clear_len st _ hn').1, keys_p hn' hsm, rkeys_p hn' hsm, texts_p _ (keys_len st _ hn'), has_p hn' hsm, rhas_p hn' hsm, e1, e2, aw29]
    · rw [decide_eq_true (show (100 : Int) < (n.a1.size : Int) by omega), aw29]; rfl
  · rw [decide_eq_true (show (100 : Int) < (n.a0.size : Int) by omega), aw29]; rfl
end Go.Proofs.Ythmgficajgedlaa
/- That the program's functions yield what the plain ones tell (written by a program of mine). -/
namespace Go.Proofs.Ythmgficajgedlaa
open Go.RowKit
def gc26 : BCode := (.seq (.reg 0 [⟨(some 2), .mv (.const (.bool false)), none, 0⟩] none 0 []) (.seq (.seq (.reg 0 [⟨(some 4), .mv (.tmp 0), none, 0⟩, ⟨(some 5), .lens (.tmp 4), none, 0⟩, ⟨(some 6), .bin .gtr (.tmp 5) (.const (.int .i64 40)), none, 0⟩] none 0 []) (.cond (.tmp 6) (.seq (.reg 0 [⟨(some 2), .mv (.const (.bool false)), none, 0⟩] none 0 []) .ret) .skip)) (.seq (.seq (.reg 0 [⟨(some 3), .mv (.const (.int .i64 0)), none, 0⟩] none 0 []) (.block 0 (.loop (.seq (.seq (.reg 0 [⟨(some 7), .mv (.tmp 3), none, 0⟩, ⟨(some 8), .mv (.tmp 0), none, 0⟩, ⟨(some 9), .lens (.tmp 8), none, 0⟩, ⟨(some 10), .bin .lss (.tmp 7) (.tmp 9), none, 0⟩] none 0 []) (.cond (.tmp 10) .skip (.exit 0))) (.seq (.block 1 (.seq (.reg 0 [⟨(some 13), .mv (.tmp 0), none, 0⟩, ⟨(some 14), .mv (.tmp 3), none, 0⟩, ⟨(some 15), .ixs 2 (.tmp 13) (.tmp 14), none, 0⟩, ⟨(some 16), .fa 0 (.tmp 15), none, 0⟩, ⟨(some 17), .ld 1 false (.tmp 16), none, 0⟩, ⟨(some 18), .lent (.tmp 17), none, 0⟩, ⟨(some 19), .bin .gtr (.tmp 18) (.const (.int .i64 100)), none, 0⟩, ⟨(some 20), .mv (.tmp 19), none, 0⟩, ⟨(some 21), .mv (.tmp 0), (some (20, false)), 0⟩, ⟨(some 22), .mv (.tmp 3), (some (20, false)), 0⟩, ⟨(some 23), .ixs 2 (.tmp 21) (.tmp 22), (some (20, false)), 0⟩, ⟨(some 24), .fa 1 (.tmp 23), (some (20, false)), 0⟩, ⟨(some 25), .ld 1 false (.tmp 24), (some (20, false)), 0⟩, ⟨(some 26), .lent (.tmp 25), (some (20, false)), 0⟩, ⟨(some 27), .bin .gtr (.tmp 26) (.const (.int .i64 100)), (some (20, false)), 0⟩, ⟨(some 28), .pick (.tmp 20) (.const (.bool true)) (.tmp 27), none, 0⟩] none 0 []) (.cond (.tmp 28) (.seq (.reg 0 [⟨(some 2), .mv (.const (.bool false)), none, 0⟩] none 0 []) .ret) .skip))) (.reg 0 [⟨(some 11), .mv (.tmp 3), none, 0⟩, ⟨(some 12), .bin .add (.tmp 11) (.const (.int .i64 1)), none, 0⟩, ⟨(some 3), .mv (.tmp 12), none, 0⟩] none 0 [])))))) (.seq (.reg 0 [⟨(some 2), .mv (.const (.bool true)), none, 0⟩] none 0 []) .ret))))
theorem gc26_ok : compF Try.prog Try.f26 = some (gc26.er, 29, [.tmp 2]) := by unfold gc26; kernel_rfl
set_option maxRecDepth 100000 in
set_option maxHeartbeats 4000000 in
theorem p_ref29_Light_v {u1 : Bool} (a0 : List Ref29Arrow) : CallsO Try.prog 26 [.sl (List.map Ref29Arrow.v a0) u1] V.b (p_ref29_Light a0) := by
  refine callsO_comp mix Try.func26 gc26_ok fun r H => ?_
  rw [p_ref29_Light] at H
  conv => whnf
  refine LenQ.M ?_; conv => whnf
  refine tst_c H (fun b1 H => ?_) (fun b1 H => ?_)
  · conv => whnf
    exact fin0_c (enc := V.b) H (.inr rfl) (.cons (.tmp rfl) (.nil)) rfl rfl
  conv => whnf
  obtain ⟨o3, HL4, HQ5⟩ := bind_c H
  refine loop_c [2, 3] [7, 8, 9, 10, 11, 12, 13, 14, 15, 16, 17, 18, 19, 20, 21, 22, 23, 24, 25, 26, 27, 28] [7, 8, 9, 10, 11, 12, 13, 14, 15, 16, 17, 18, 19, 20, 21, 22, 23, 24, 25, 26, 27, 28] (fun n vals st => (∃ y7, p_ref29_Light_l1  a0 n y7 = some o3 ∧ vals = [.b false, .i y7] ∧ st = [])) fuel 0 [] (⟨_, HL4, rfl, rfl⟩) (Nat.zero_le _) rfl (by kernel_rfl) (by kernel_rfl) rfl trivial ?_
  rintro (_ | n6) _ _ (⟨y7, H, rfl, rfl⟩)
  · rw [p_ref29_Light_l1] at H; cases H
  rw [p_ref29_Light_l1] at H
  conv => whnf
  refine LenQ.M ?_; conv => whnf
  refine tst_d H (fun b8 H => ?_) (fun b8 H => ?_)
  · conv => whnf
    obtain rfl := Option.some.inj H
    have H := HQ5
    try dsimp only at H
    exact fin0_c (enc := V.b) H (.inr rfl) (.cons (.tmp rfl) (.nil)) rfl rfl
  conv => whnf
  refine ixs_c (f := Ref29Arrow.v) H (fun _ => rfl) (fun x9 H => ?_); conv => whnf
  refine ⟨Nat.le_of_ble_eq_true rfl, ?_⟩; conv => whnf
  refine tst_c H (fun b10 H => ?_) (fun b10 H => ?_)
  · conv => whnf
    iterate 8 (refine Tst.T ?_; conv => whnf)
    obtain rfl := Option.some.inj H
    have H := HQ5
    try dsimp only at H
    exact fin0_c (enc := V.b) H (.inr rfl) (.cons (.tmp rfl) (.nil)) rfl rfl
  conv => whnf
  iterate 2 (refine Tst.F ?_; conv => whnf)
  refine ixs_c (f := Ref29Arrow.v) H (fun _ => rfl) (fun x11 H => ?_); conv => whnf
  refine Tst.F ?_; conv => whnf
  refine ⟨Nat.le_of_ble_eq_true rfl, ?_⟩; conv => whnf
  iterate 4 (refine Tst.F ?_; conv => whnf)
  refine tst_c H (fun b12 H => ?_) (fun b12 H => ?_)
  · conv => whnf
    obtain rfl := Option.some.inj H
    have H := HQ5
    try dsimp only at H
    exact fin0_c (enc := V.b) H (.inr rfl) (.cons (.tmp rfl) (.nil)) rfl rfl
  conv => whnf
  refine Ari.w ?_; conv => whnf
  exact again_c [7, 8, 9, 10, 11, 12, 13, 14, 15, 16, 17, 18, 19, 20, 21, 22, 23, 24, 25, 26, 27, 28] n6 0 [] (⟨_, H, rfl, rfl⟩) (Nat.lt_succ_self _) (Nat.zero_le _) rfl (by kernel_rfl) (by kernel_rfl) rfl trivial
def gc126 : BCode := (.seq (.reg 0 [⟨(some 2), .mv (.const (.string ⟨#[]⟩)), none, 0⟩, ⟨(some 3), .mv (.const (.string ⟨#[]⟩)), none, 0⟩, ⟨(some 4), .mv (.const (.int .i64 0)), none, 0⟩] none 0 []) (.seq (.reg 0 [⟨(some 10), .mv (.tmp 0), none, 0⟩, ⟨(some 11), .cl 163 [(.tmp 10), (.const (.string ⟨#[32]⟩))], none, 0⟩, ⟨(some 9), .mv (.tmp 11), none, 0⟩, ⟨(some 12), .ex (.tmp 9) 0, none, 0⟩, ⟨(some 13), .ex (.tmp 9) 1, none, 0⟩, ⟨(some 14), .ex (.tmp 9) 2, none, 0⟩, ⟨(some 5), .mv (.tmp 12), none, 0⟩, ⟨(some 6), .mv (.tmp 13), none, 0⟩, ⟨(some 7), .mv (.tmp 14), none, 0⟩] none 0 []) (.seq (.seq (.reg 0 [⟨(some 15), .mv (.tmp 7), none, 0⟩, ⟨(some 16), .un .not (.tmp 15), none, 0⟩] none 0 []) (.cond (.tmp 16) (.seq (.reg 0 [⟨(some 2), .mv (.const (.string ⟨#[]⟩)), none, 0⟩, ⟨(some 3), .mv (.const (.string ⟨#[]⟩)), none, 0⟩, ⟨(some 4), .mv (.const (.int .i64 4)), none, 0⟩] none 0 []) .ret) .skip)) (.seq (.seq (.reg 0 [⟨(some 17), .mv (.tmp 5), none, 0⟩, ⟨(some 18), .cl 99 [(.tmp 17)], none, 0⟩, ⟨(some 19), .un .not (.tmp 18), none, 0⟩] none 0 []) (.cond (.tmp 19) (.seq (.reg 0 [⟨(some 2), .mv (.const (.string ⟨#[]⟩)), none, 0⟩, ⟨(some 3), .mv (.const (.string ⟨#[]⟩)), none, 0⟩, ⟨(some 4), .mv (.const (.int .i64 11)), none, 0⟩] none 0 []) .ret) .skip)) (.seq (.seq (.reg 0 [⟨(some 20), .mv (.tmp 6), none, 0⟩, ⟨(some 21), .cl 107 [(.tmp 20)], none, 0⟩, ⟨(some 8), .mv (.tmp 21), none, 0⟩] none 0 []) (.seq (.reg 0 [⟨(some 22), .mv (.tmp 8), none, 0⟩, ⟨(some 23), .bin .neq (.tmp 22) (.const (.int .i64 0)), none, 0⟩] none 0 []) (.cond (.tmp 23) (.seq (.reg 0 [⟨(some 24), .mv (.tmp 8), none, 0⟩, ⟨(some 2), .mv (.const (.string ⟨#[]⟩)), none, 0⟩, ⟨(some 3), .mv (.const (.string ⟨#[]⟩)), none, 0⟩, ⟨(some 4), .mv (.tmp 24), none, 0⟩] none 0 []) .ret) .skip))) (.seq (.reg 0 [⟨(some 25), .mv (.tmp 5), none, 0⟩, ⟨(some 26), .mv (.tmp 6), none, 0⟩, ⟨(some 2), .mv (.tmp 25), none, 0⟩, ⟨(some 3), .mv (.tmp 26), none, 0⟩, ⟨(some 4), .mv (.const (.int .i64 0)), none, 0⟩] none 0 []) .ret))))))
theorem gc126_ok : compF Try.prog Try.f126 = some (gc126.er, 27, [.tmp 2, .tmp 3, .tmp 4]) := by unfold gc126; kernel_rfl
set_option maxRecDepth 100000 in
set_option maxHeartbeats 4000000 in
theorem p_pres_Split_v (a0 : ByteArray) : CallsO Try.prog 126 [.s a0] (fun r : ByteArray × ByteArray × Int => .tup [V.s r.1, V.s r.2.1, V.i r.2.2]) (p_pres_Split a0) := by
  refine callsO_comp mix Try.func126 gc126_ok fun r H => ?_
  rw [p_pres_Split] at H
  conv => whnf
  refine ask_c (p_strings_Cut_v _ _) H rfl rfl (fun v1 H => ?_); conv => whnf
  refine Tst.not ?_
  refine tst_d H (fun b2 H => ?_) (fun b2 H => ?_)
  · conv => whnf
    exact fin0_c (enc := (fun r : ByteArray × ByteArray × Int => .tup [V.s r.1, V.s r.2.1, V.i r.2.2])) H (.inr rfl) (.cons (.tmp rfl) (.cons (.tmp rfl) (.cons (.tmp rfl) (.nil)))) rfl rfl
  conv => whnf
  refine ask_c (p_addr_IsBare_v _) H rfl rfl (fun v3 H => ?_); conv => whnf
  refine Tst.not ?_
  refine tst_d H (fun b4 H => ?_) (fun b4 H => ?_)
  · conv => whnf
    exact fin0_c (enc := (fun r : ByteArray × ByteArray × Int => .tup [V.s r.1, V.s r.2.1, V.i r.2.2])) H (.inr rfl) (.cons (.tmp rfl) (.cons (.tmp rfl) (.cons (.tmp rfl) (.nil)))) rfl rfl
  conv => whnf
  refine ask_c (p_addr_Resource_v _) H rfl rfl (fun v5 H => ?_); conv => whnf
  refine tst_c H (fun b6 H => ?_) (fun b6 H => ?_)
  · conv => whnf
    exact fin0_c (enc := (fun r : ByteArray × ByteArray × Int => .tup [V.s r.1, V.s r.2.1, V.i r.2.2])) H (.inr rfl) (.cons (.tmp rfl) (.cons (.tmp rfl) (.cons (.tmp rfl) (.nil)))) rfl rfl
  conv => whnf
  exact fin0_c (enc := (fun r : ByteArray × ByteArray × Int => .tup [V.s r.1, V.s r.2.1, V.i r.2.2])) H (.inr rfl) (.cons (.tmp rfl) (.cons (.tmp rfl) (.cons (.tmp rfl) (.nil)))) rfl rfl
def gc81 : BCode := (.seq (.reg 1 [⟨(some 1), .bx (.tmp 0), none, 0⟩, ⟨(some 2), .mv (.const (.string ⟨#[]⟩)), none, 1⟩, ⟨(some 3), .mv (.const (.bool false)), none, 1⟩] none 0 []) (.seq (.reg 0 [⟨(some 8), .fa 0 (.tmp 1), none, 0⟩, ⟨(some 9), .ld 1 false (.tmp 8), none, 0⟩, ⟨(some 10), .cl 126 [(.tmp 9)], none, 0⟩, ⟨(some 7), .mv (.tmp 10), none, 0⟩, ⟨(some 11), .ex (.tmp 7) 0, none, 0⟩, ⟨(some 12), .ex (.tmp 7) 1, none, 0⟩, ⟨(some 13), .ex (.tmp 7) 2, none, 0⟩, ⟨(some 4), .mv (.tmp 11), none, 0⟩, ⟨(some 5), .mv (.tmp 12), none, 0⟩, ⟨(some 6), .mv (.tmp 13), none, 0⟩] none 0 []) (.seq (.reg 0 [⟨(some 14), .mv (.tmp 4), none, 0⟩, ⟨(some 15), .mv (.tmp 6), none, 0⟩, ⟨(some 16), .bin .eql (.tmp 15) (.const (.int .i64 0)), none, 0⟩, ⟨(some 2), .mv (.tmp 14), none, 0⟩, ⟨(some 3), .mv (.tmp 16), none, 0⟩] none 0 []) .ret)))
theorem gc81_ok : compF Try.prog Try.f81 = some (gc81.er, 17, [.tmp 2, .tmp 3]) := by unfold gc81; kernel_rfl
set_option maxRecDepth 100000 in
set_option maxHeartbeats 4000000 in
theorem p_dirs_Arrow_user_v (a0 : Ref29Arrow) : CallsO Try.prog 81 [.agg [.s a0.From, .s a0.To]] (fun r : ByteArray × Bool => .tup [V.s r.1, V.b r.2]) (p_dirs_Arrow_user a0) := by
  refine callsO_comp mix Try.func81 gc81_ok fun r H => ?_
  rw [p_dirs_Arrow_user] at H
  conv => whnf
  refine ask_c (p_pres_Split_v _) H rfl rfl (fun v1 H => ?_); conv => whnf
  exact fin0_c (enc := (fun r : ByteArray × Bool => .tup [V.s r.1, V.b r.2])) H (.inr rfl) (.cons (.tmp rfl) (.cons (.tmp rfl) (.nil))) rfl rfl
def gc68 : BCode := (.seq (.reg 1 [⟨(some 1), .bx (.tmp 0), none, 0⟩, ⟨(some 2), .mv (.const (.bool false)), none, 1⟩] none 0 []) (.seq (.reg 0 [⟨(some 6), .ld 2 true (.tmp 1), none, 0⟩, ⟨(some 7), .cl 81 [(.tmp 6)], none, 0⟩, ⟨(some 5), .mv (.tmp 7), none, 0⟩, ⟨(some 8), .ex (.tmp 5) 0, none, 0⟩, ⟨(some 9), .ex (.tmp 5) 1, none, 0⟩, ⟨(some 3), .mv (.tmp 8), none, 0⟩, ⟨(some 4), .mv (.tmp 9), none, 0⟩] none 0 []) (.seq (.reg 0 [⟨(some 10), .mv (.tmp 4), none, 0⟩, ⟨(some 11), .un .not (.tmp 10), none, 0⟩, ⟨(some 12), .mv (.tmp 11), none, 0⟩, ⟨(some 13), .fa 1 (.tmp 1), (some (12, false)), 0⟩, ⟨(some 14), .ld 1 false (.tmp 13), (some (12, false)), 0⟩, ⟨(some 15), .cl 99 [(.tmp 14)], (some (12, false)), 0⟩, ⟨(some 16), .un .not (.tmp 15), (some (12, false)), 0⟩, ⟨(some 17), .pick (.tmp 12) (.const (.bool true)) (.tmp 16), none, 0⟩, ⟨(some 2), .mv (.tmp 17), none, 0⟩] none 0 []) .ret)))
theorem gc68_ok : compF Try.prog Try.f68 = some (gc68.er, 18, [.tmp 2]) := by unfold gc68; kernel_rfl
set_option maxRecDepth 100000 in
set_option maxHeartbeats 4000000 in
theorem p_dirs_Arrow_wrong_v (a0 : Ref29Arrow) : CallsO Try.prog 68 [.agg [.s a0.From, .s a0.To]] V.b (p_dirs_Arrow_wrong a0) := by
  refine callsO_comp mix Try.func68 gc68_ok fun r H => ?_
  rw [p_dirs_Arrow_wrong] at H
  conv => whnf
  refine ask_c (p_dirs_Arrow_user_v _) H rfl rfl (fun v1 H => ?_); conv => whnf
  refine Tst.not ?_
  refine tst_d H (fun b2 H => ?_) (fun b2 H => ?_)
  · conv => whnf
    iterate 4 (refine Tst.T ?_; conv => whnf)
    exact fin0_c (enc := V.b) H (.inr rfl) (.cons (.tmp rfl) (.nil)) rfl rfl
  conv => whnf
  iterate 2 (refine Tst.F ?_; conv => whnf)
  refine ask_c (p_addr_IsBare_v _) H rfl rfl (fun v3 H => ?_); conv => whnf
  iterate 2 (refine Tst.F ?_; conv => whnf)
  exact fin0_c (enc := V.b) H (.inr rfl) (.cons (.tmp rfl) (.nil)) rfl rfl
def gc120 : BCode := (.seq (.reg 0 [⟨(some 4), .mv (.const (.int .i64 0)), none, 0⟩] none 0 []) (.seq (.seq (.reg 0 [⟨(some 6), .mv (.tmp 0), none, 0⟩, ⟨(some 7), .lens (.tmp 6), none, 0⟩, ⟨(some 8), .mv (.const (.int .i64 0)), none, 0⟩] none 0 []) (.block 0 (.loop (.seq (.reg 0 [⟨(some 9), .bin .lss (.tmp 8) (.tmp 7), none, 0⟩] none 0 []) (.seq (.cond (.tmp 9) .skip (.exit 0)) (.seq (.block 1 (.seq (.reg 0 [⟨(some 10), .mv (.tmp 8), none, 0⟩, ⟨(some 5), .mv (.tmp 10), none, 0⟩] none 0 []) (.seq (.reg 0 [⟨(some 11), .mv (.tmp 1), none, 0⟩, ⟨(some 12), .mv (.tmp 0), none, 0⟩, ⟨(some 13), .mv (.tmp 5), none, 0⟩, ⟨(some 14), .ixs 2 (.tmp 12) (.tmp 13), none, 0⟩, ⟨(some 15), .ld 2 true (.tmp 14), none, 0⟩, ⟨(some 16), .cv (.tmp 11) [(.tmp 15)], none, 0⟩] none 0 []) (.cond (.tmp 16) (.seq (.reg 0 [⟨(some 17), .mv (.tmp 5), none, 0⟩, ⟨(some 4), .mv (.tmp 17), none, 0⟩] none 0 []) .ret) .skip)))) (.reg 0 [⟨(some 18), .bin .add (.tmp 8) (.const (.int .i64 1)), none, 0⟩, ⟨(some 8), .mv (.tmp 18), none, 0⟩] none 0 []))))))) (.seq (.reg 0 [⟨(some 4), .mv (.const (.int .i64 (-1))), none, 0⟩] none 0 []) .ret)))
theorem gc120_ok : compF Try.prog Try.f120 = some (gc120.er, 19, [.tmp 4]) := by unfold gc120; kernel_rfl
set_option maxRecDepth 100000 in
set_option maxHeartbeats 4000000 in
theorem p_slices_IndexFunc_dirs_State_dirs_Arrow__v {u1 : Bool} (a0 : List Ref29Arrow) (a1 : Ref29Arrow → Option Bool) {a1_g : Nat} {a1_k : List V} (a1_h : Clo1 Try.prog a1_g a1_k Ref29Arrow.v V.b a1) : CallsO Try.prog 120 [.sl (List.map Ref29Arrow.v a0) u1, .clo (.func a1_g) a1_k] V.i (p_slices_IndexFunc_dirs_State_dirs_Arrow_ a0 a1) := by
  refine callsO_comp mix Try.func120 gc120_ok fun r H => ?_
  rw [p_slices_IndexFunc_dirs_State_dirs_Arrow_] at H
  conv => whnf
  refine LenQ.M ?_; conv => whnf
  obtain ⟨o2, HL3, HQ4⟩ := bind_c H
  refine loop_c [4, 8] [5, 9, 10, 11, 12, 13, 14, 15, 16, 17, 18] [5, 9, 10, 11, 12, 13, 14, 15, 16, 17, 18] (fun n vals st => (∃ y6, p_slices_IndexFunc_dirs_State_dirs_Arrow__l1  a1 a0 (a0.length : Int) n y6 = some o2 ∧ vals = [.i (0 : Int), .i y6] ∧ st = [])) fuel 0 [] (⟨_, HL3, rfl, rfl⟩) (Nat.zero_le _) rfl (by simp only [maskF, setF, List.set_cons_zero, List.set_cons_succ, V.ren.renL, V.ren, renL_id _ a1_h.own] <;> rfl) (by simp only [maskF, setF, List.set_cons_zero, List.set_cons_succ, V.idlt.belowL, V.idlt, fun n => idltL_up (n := n) _ a1_h.own] <;> rfl) rfl trivial ?_
  rintro (_ | n5) _ _ (⟨y6, H, rfl, rfl⟩)
  · rw [p_slices_IndexFunc_dirs_State_dirs_Arrow__l1] at H; cases H
  rw [p_slices_IndexFunc_dirs_State_dirs_Arrow__l1] at H
  conv => whnf
  refine tst_d H (fun b7 H => ?_) (fun b7 H => ?_)
  · conv => whnf
    obtain rfl := Option.some.inj H
    have H := HQ4
    try dsimp only at H
    exact fin0_c (enc := V.i) H (.inr rfl) (.cons (.tmp rfl) (.nil)) rfl rfl
  conv => whnf
  refine ixs_c (f := Ref29Arrow.v) H (fun _ => rfl) (fun x8 H => ?_); conv => whnf
  refine askC_c a1_h H (.cons (fzagg (.cons (.id rfl) (.cons (.id rfl) (.nil))) rfl) (.nil)) (fun v9 H => ?_); conv => whnf
  refine tst_c H (fun b10 H => ?_) (fun b10 H => ?_)
  · conv => whnf
    obtain rfl := Option.some.inj H
    have H := HQ4
    try dsimp only at H
    exact fin0_c (enc := V.i) H (.inr rfl) (.cons (.tmp rfl) (.nil)) rfl rfl
  conv => whnf
  refine Ari.w ?_; conv => whnf
  exact again_c [5, 9, 10, 11, 12, 13, 14, 15, 16, 17, 18] n5 0 [] (⟨_, H, rfl, rfl⟩) (Nat.lt_succ_self _) (Nat.zero_le _) rfl (by simp only [maskF, setF, List.set_cons_zero, List.set_cons_succ, V.ren.renL, V.ren, renL_id _ a1_h.own] <;> rfl) (by simp only [maskF, setF, List.set_cons_zero, List.set_cons_succ, V.idlt.belowL, V.idlt, fun n => idltL_up (n := n) _ a1_h.own] <;> rfl) rfl trivial
def gc67 : BCode := (.seq (.reg 0 [⟨(some 4), .mv (.const (.bool false)), none, 0⟩] none 0 []) (.seq (.reg 0 [⟨(some 5), .mv (.tmp 0), none, 0⟩, ⟨(some 6), .mv (.tmp 1), none, 0⟩, ⟨(some 7), .cl 120 [(.tmp 5), (.tmp 6)], none, 0⟩, ⟨(some 8), .bin .geq (.tmp 7) (.const (.int .i64 0)), none, 0⟩, ⟨(some 4), .mv (.tmp 8), none, 0⟩] none 0 []) .ret))
theorem gc67_ok : compF Try.prog Try.f67 = some (gc67.er, 9, [.tmp 4]) := by unfold gc67; kernel_rfl
set_option maxRecDepth 100000 in
set_option maxHeartbeats 4000000 in
theorem p_slices_ContainsFunc_dirs_State_dirs_Arrow__v {u1 : Bool} (a0 : List Ref29Arrow) (a1 : Ref29Arrow → Option Bool) {a1_g : Nat} {a1_k : List V} (a1_h : Clo1 Try.prog a1_g a1_k Ref29Arrow.v V.b a1) : CallsO Try.prog 67 [.sl (List.map Ref29Arrow.v a0) u1, .clo (.func a1_g) a1_k] V.b (p_slices_ContainsFunc_dirs_State_dirs_Arrow_ a0 a1) := by
  refine callsO_comp mix Try.func67 gc67_ok fun r H => ?_
  rw [p_slices_ContainsFunc_dirs_State_dirs_Arrow_] at H
  conv => whnf
  refine askF_c (p_slices_IndexFunc_dirs_State_dirs_Arrow__v _ _ a1_h) H (.cons (.c (.slw)) (.cons (.c (.id a1_h.own)) (.nil))) (fun v1 H => ?_); conv => whnf
  exact fin0_c (enc := V.b) H (.inr rfl) (.cons (.tmp rfl) (.nil)) rfl rfl
def gc121 : BCode := (.seq (.reg 0 [⟨(some 2), .mv (.const (.int .i64 0)), none, 0⟩] none 0 []) (.seq (.reg 0 [⟨(some 3), .mv (.const (.int .i64 0)), none, 0⟩] none 0 []) (.seq (.seq (.reg 0 [⟨(some 6), .mv (.tmp 0), none, 0⟩, ⟨(some 7), .lens (.tmp 6), none, 0⟩, ⟨(some 8), .mv (.const (.int .i64 0)), none, 0⟩] none 0 []) (.block 0 (.loop (.seq (.reg 0 [⟨(some 9), .bin .lss (.tmp 8) (.tmp 7), none, 0⟩] none 0 []) (.seq (.cond (.tmp 9) .skip (.exit 0)) (.seq (.block 1 (.seq (.reg 0 [⟨(some 10), .ixs 1 (.tmp 6) (.tmp 8), none, 0⟩, ⟨(some 11), .ld 1 false (.tmp 10), none, 0⟩, ⟨(some 5), .mv (.tmp 11), none, 0⟩] none 0 []) (.seq (.reg 0 [⟨(some 12), .mv (.tmp 5), none, 0⟩, ⟨(some 13), .mv (.tmp 3), none, 0⟩, ⟨(some 14), .bin .neq (.tmp 12) (.tmp 13), none, 0⟩] none 0 []) (.cond (.tmp 14) (.seq (.reg 0 [⟨(some 15), .mv (.tmp 5), none, 0⟩, ⟨(some 2), .mv (.tmp 15), none, 0⟩] none 0 []) .ret) .skip)))) (.reg 0 [⟨(some 16), .bin .add (.tmp 8) (.const (.int .i64 1)), none, 0⟩, ⟨(some 8), .mv (.tmp 16), none, 0⟩] none 0 []))))))) (.seq (.reg 0 [⟨(some 17), .mv (.tmp 3), none, 0⟩, ⟨(some 2), .mv (.tmp 17), none, 0⟩] none 0 []) .ret))))
theorem gc121_ok : compF Try.prog Try.f121 = some (gc121.er, 18, [.tmp 2]) := by unfold gc121; kernel_rfl
set_option maxRecDepth 100000 in
set_option maxHeartbeats 4000000 in
theorem p_cmp_Or_int__v {u1 : Bool} (a0 : List Int) : CallsO Try.prog 121 [.sl (List.map V.i a0) u1] V.i (p_cmp_Or_int_ a0) := by
  refine callsO_comp mix Try.func121 gc121_ok fun r H => ?_
  rw [p_cmp_Or_int_] at H
  conv => whnf
  refine LenQ.M ?_; conv => whnf
  obtain ⟨o2, HL3, HQ4⟩ := bind_c H
  refine loop_c [2, 8] [5, 9, 10, 11, 12, 13, 14, 15, 16] [5, 9, 10, 11, 12, 13, 14, 15, 16] (fun n vals st => (∃ y6, p_cmp_Or_int__l1  a0 (a0.length : Int) n y6 = some o2 ∧ vals = [.i (0 : Int), .i y6] ∧ st = [])) fuel 0 [] (⟨_, HL3, rfl, rfl⟩) (Nat.zero_le _) rfl (by kernel_rfl) (by kernel_rfl) rfl trivial ?_
  rintro (_ | n5) _ _ (⟨y6, H, rfl, rfl⟩)
  · rw [p_cmp_Or_int__l1] at H; cases H
  rw [p_cmp_Or_int__l1] at H
  conv => whnf
  refine tst_d H (fun b7 H => ?_) (fun b7 H => ?_)
  · conv => whnf
    obtain rfl := Option.some.inj H
    have H := HQ4
    try dsimp only at H
    exact fin0_c (enc := V.i) H (.inr rfl) (.cons (.tmp rfl) (.nil)) rfl rfl
  conv => whnf
  refine ixs_c (f := V.i) H (fun _ => rfl) (fun x8 H => ?_); conv => whnf
  refine tst_c H (fun b9 H => ?_) (fun b9 H => ?_)
  · conv => whnf
    obtain rfl := Option.some.inj H
    have H := HQ4
    try dsimp only at H
    exact fin0_c (enc := V.i) H (.inr rfl) (.cons (.tmp rfl) (.nil)) rfl rfl
  conv => whnf
  refine Ari.w ?_; conv => whnf
  exact again_c [5, 9, 10, 11, 12, 13, 14, 15, 16] n5 0 [] (⟨_, H, rfl, rfl⟩) (Nat.lt_succ_self _) (Nat.zero_le _) rfl (by kernel_rfl) (by kernel_rfl) rfl trivial
def gc69 : BCode := (.seq (.reg 2 [⟨(some 2), .bx (.tmp 0), none, 0⟩, ⟨(some 3), .bx (.tmp 1), none, 1⟩, ⟨(some 4), .mv (.const (.int .i64 0)), none, 2⟩] none 0 []) (.seq (.reg 1 [⟨(some 5), .fa 0 (.tmp 2), none, 0⟩, ⟨(some 6), .ld 1 false (.tmp 5), none, 0⟩, ⟨(some 7), .fa 0 (.tmp 3), none, 0⟩, ⟨(some 8), .ld 1 false (.tmp 7), none, 0⟩, ⟨(some 9), .cl 115 [(.tmp 6), (.tmp 8)], none, 0⟩, ⟨(some 10), .fa 1 (.tmp 2), none, 0⟩, ⟨(some 11), .ld 1 false (.tmp 10), none, 0⟩, ⟨(some 12), .fa 1 (.tmp 3), none, 0⟩, ⟨(some 13), .ld 1 false (.tmp 12), none, 0⟩, ⟨(some 14), .cl 115 [(.tmp 11), (.tmp 13)], none, 0⟩, ⟨(some 15), .bs 1 2 [(.lit (.int .i64 0)), (.lit (.int .i64 0))] [(0, (.tmp 9)), (1, (.tmp 14))], none, 0⟩, ⟨(some 16), .cl 121 [(.tmp 15)], none, 1⟩, ⟨(some 4), .mv (.tmp 16), none, 1⟩] (some [[], [0], [], [2], [2, 3, 0, 1], [], [5], [], [7], [1, 0, 3, 2, 4, 7, 8, 5, 6], [6, 5, 8, 7, 9, 1, 0, 3, 2, 4], [4, 2, 3, 0, 1, 9, 7, 8, 5, 6, 10], [10, 6, 5, 8, 7, 9, 1, 0, 3, 2, 4, 11]]) 0 []) .ret))
theorem gc69_ok : compF Try.prog Try.f69 = some (gc69.er, 17, [.tmp 4]) := by unfold gc69; kernel_rfl
set_option maxRecDepth 100000 in
set_option maxHeartbeats 4000000 in
theorem p_dirs_order_v (a0 : Ref29Arrow) (a1 : Ref29Arrow) : CallsO Try.prog 69 [.agg [.s a0.From, .s a0.To], .agg [.s a1.From, .s a1.To]] V.i (p_dirs_order a0 a1) := by
  refine callsO_comp mix Try.func69 gc69_ok fun r H => ?_
  rw [p_dirs_order] at H
  conv => whnf
  refine ask_c (p_strings_Compare_v _ _) H rfl rfl (fun v1 H => ?_); conv => whnf
  refine ask_c (p_strings_Compare_v _ _) H rfl rfl (fun v2 H => ?_); conv => whnf
  refine askF_c (p_cmp_Or_int__v _) H (.cons (.c (fzown (f := V.i) (l := [v1, v2]) rfl rfl (fun _ => rfl) (fun _ => rfl))) (.nil)) (fun v3 H => ?_); conv => whnf
  refine FootQ.mk ⟨rfl, ?_⟩; conv => whnf
  exact fin0_c (enc := V.i) H (.inr rfl) (.cons (.tmp rfl) (.nil)) rfl rfl
def gc29 : BCode := (.seq (.reg 0 [⟨(some 2), .mv (.const (.int .i64 0)), none, 0⟩] none 0 []) (.seq (.seq (.reg 0 [⟨(some 4), .mv (.tmp 0), none, 0⟩, ⟨(some 5), .lens (.tmp 4), none, 0⟩, ⟨(some 6), .bin .gtr (.tmp 5) (.const (.int .i64 32)), none, 0⟩] none 0 []) (.cond (.tmp 6) (.seq (.reg 0 [⟨(some 2), .mv (.const (.int .i64 5)), none, 0⟩] none 0 []) .ret) .skip)) (.seq (.seq (.reg 0 [⟨(some 7), .mv (.tmp 0), none, 0⟩, ⟨(some 8), .cl 67 [(.tmp 7), (.func 68)], none, 0⟩] none 0 []) (.cond (.tmp 8) (.seq (.reg 0 [⟨(some 2), .mv (.const (.int .i64 11)), none, 0⟩] none 0 []) .ret) .skip)) (.seq (.seq (.reg 0 [⟨(some 3), .mv (.const (.int .i64 1)), none, 0⟩] none 0 []) (.block 0 (.loop (.seq (.seq (.reg 0 [⟨(some 9), .mv (.tmp 3), none, 0⟩, ⟨(some 10), .mv (.tmp 0), none, 0⟩, ⟨(some 11), .lens (.tmp 10), none, 0⟩, ⟨(some 12), .bin .lss (.tmp 9) (.tmp 11), none, 0⟩] none 0 []) (.cond (.tmp 12) .skip (.exit 0))) (.seq (.block 1 (.seq (.reg 0 [⟨(some 15), .mv (.tmp 0), none, 0⟩, ⟨(some 16), .mv (.tmp 3), none, 0⟩, ⟨(some 17), .bin .sub (.tmp 16) (.const (.int .i64 1)), none, 0⟩, ⟨(some 18), .ixs 2 (.tmp 15) (.tmp 17), none, 0⟩, ⟨(some 19), .ld 2 true (.tmp 18), none, 0⟩, ⟨(some 20), .mv (.tmp 0), none, 0⟩, ⟨(some 21), .mv (.tmp 3), none, 0⟩, ⟨(some 22), .ixs 2 (.tmp 20) (.tmp 21), none, 0⟩, ⟨(some 23), .ld 2 true (.tmp 22), none, 0⟩, ⟨(some 24), .cl 69 [(.tmp 19), (.tmp 23)], none, 0⟩, ⟨(some 25), .bin .geq (.tmp 24) (.const (.int .i64 0)), none, 0⟩] (some [[], [], [1], [1, 2, 0], [0, 2, 1, 3], [], [], [6, 5], [5, 6, 7], [7, 6, 5, 8, 3, 1, 2, 0, 4], [4, 0, 2, 1, 3, 8, 5, 6, 7, 9]]) 0 []) (.cond (.tmp 25) (.seq (.reg 0 [⟨(some 2), .mv (.const (.int .i64 10)), none, 0⟩] none 0 []) .ret) .skip))) (.reg 0 [⟨(some 13), .mv (.tmp 3), none, 0⟩, ⟨(some 14), .bin .add (.tmp 13) (.const (.int .i64 1)), none, 0⟩, ⟨(some 3), .mv (.tmp 14), none, 0⟩] none 0 [])))))) (.seq (.reg 0 [⟨(some 2), .mv (.const (.int .i64 0)), none, 0⟩] none 0 []) .ret)))))
theorem gc29_ok : compF Try.prog Try.f29 = some (gc29.er, 26, [.tmp 2]) := by unfold gc29; kernel_rfl
set_option maxRecDepth 100000 in
set_option maxHeartbeats 4000000 in
theorem p_dirs_Check_v {u1 : Bool} (a0 : List Ref29Arrow) : CallsO Try.prog 29 [.sl (List.map Ref29Arrow.v a0) u1] V.i (p_dirs_Check a0) := by
  refine callsO_comp mix Try.func29 gc29_ok fun r H => ?_
  rw [p_dirs_Check] at H
  conv => whnf
  refine LenQ.M ?_; conv => whnf
  refine tst_c H (fun b1 H => ?_) (fun b1 H => ?_)
  · conv => whnf
    exact fin0_c (enc := V.i) H (.inr rfl) (.cons (.tmp rfl) (.nil)) rfl rfl
  conv => whnf
  refine askF_c (p_slices_ContainsFunc_dirs_State_dirs_Arrow__v _ _ ⟨⟨_, Try.func68, by kernel_rfl, by kernel_rfl⟩, rfl, fun x0 => p_dirs_Arrow_wrong_v _⟩) H (.cons (.c (.slw)) (.cons (.c (.clo (.nil))) (.nil))) (fun v2 H => ?_); conv => whnf
  refine tst_c H (fun b3 H => ?_) (fun b3 H => ?_)
  · conv => whnf
    exact fin0_c (enc := V.i) H (.inr rfl) (.cons (.tmp rfl) (.nil)) rfl rfl
  conv => whnf
  obtain ⟨o5, HL6, HQ7⟩ := bind_c H
  refine loop_c [2, 3] [9, 10, 11, 12, 13, 14, 15, 16, 17, 18, 19, 20, 21, 22, 23, 24, 25] [9, 10, 11, 12, 13, 14, 15, 16, 17, 18, 19, 20, 21, 22, 23, 24, 25] (fun n vals st => (∃ y9, p_dirs_Check_l1  a0 n y9 = some o5 ∧ vals = [.i (0 : Int), .i y9] ∧ st = [])) fuel 0 [] (⟨_, HL6, rfl, rfl⟩) (Nat.zero_le _) rfl (by kernel_rfl) (by kernel_rfl) rfl trivial ?_
  rintro (_ | n8) _ _ (⟨y9, H, rfl, rfl⟩)
  · rw [p_dirs_Check_l1] at H; cases H
  rw [p_dirs_Check_l1] at H
  conv => whnf
  refine LenQ.M ?_; conv => whnf
  refine tst_d H (fun b10 H => ?_) (fun b10 H => ?_)
  · conv => whnf
    obtain rfl := Option.some.inj H
    have H := HQ7
    try dsimp only at H
    exact fin0_c (enc := V.i) H (.inr rfl) (.cons (.tmp rfl) (.nil)) rfl rfl
  conv => whnf
  refine Ari.w ?_; conv => whnf
  refine ixs_c (f := Ref29Arrow.v) H (fun _ => rfl) (fun x11 H => ?_); conv => whnf
  refine ixs_c (f := Ref29Arrow.v) H (fun _ => rfl) (fun x12 H => ?_); conv => whnf
  refine ask_c (p_dirs_order_v _ _) H rfl rfl (fun v13 H => ?_); conv => whnf
  refine FootQ.mk ⟨rfl, ?_⟩; conv => whnf
  refine tst_c H (fun b14 H => ?_) (fun b14 H => ?_)
  · conv => whnf
    obtain rfl := Option.some.inj H
    have H := HQ7
    try dsimp only at H
    exact fin0_c (enc := V.i) H (.inr rfl) (.cons (.tmp rfl) (.nil)) rfl rfl
  conv => whnf
  refine Ari.w ?_; conv => whnf
  exact again_c [9, 10, 11, 12, 13, 14, 15, 16, 17, 18, 19, 20, 21, 22, 23, 24, 25] n8 0 [] (⟨_, H, rfl, rfl⟩) (Nat.lt_succ_self _) (Nat.zero_le _) rfl (by kernel_rfl) (by kernel_rfl) rfl trivial
end Go.Proofs.Ythmgficajgedlaa
/- slices.Insert: its roads at function 78. -/
namespace Go.Proofs.Ythmgficajgedlaa
open Go.RowKit Go.Lib
set_option maxHeartbeats 4000000 in
set_option maxRecDepth 100000 in
theorem insS78 (b n c i vb voff vc : Nat) (cs vs : List Value) (w : World) (tA tB : TypeId) (kA kB : Nat) (hi : i < n) (hroom : n + 1 ≤ c) (hbig : n + 1 ≤ 1000000) (hvb : vb ≠ b) (hcl : cs.length = n * 2) (hvl : vs.length = 2)
    (hcs : ∀ j v, cs[j]? = some v → w.cell? ⟨b, j, none⟩ = some v) (hsp : ∀ j, j < (n + 1) * 2 → (w.cell? ⟨b, j, none⟩).isSome = true) (hfz : ∀ j, j < (n + 1) * 2 → w.frozen? ⟨b, j, none⟩ = false)
    (hvs : ∀ j v, vs[j]? = some v → w.cell? ⟨vb, voff + j, none⟩ = some v) (h1c : ∀ v ∈ cs, v.oneCell' = true) (h1v : ∀ v ∈ vs, v.oneCell' = true)
    (hsa : w.shape? vb = some (tA, kA)) (hsb : w.shape? b = some (tB, kB)) (hkA : kA ≠ 0) (hkB : kB ≠ 0) (hfe : w.frozen? ⟨b, kB, none⟩ = false) :
    Calls Try.prog 78 #[.slice (some ⟨b, 0, none⟩) n c, .int .i64 i, .slice (some ⟨vb, voff, none⟩) 1 vc] w fun e w' =>
      e = .returned (.slice (some ⟨b, 0, none⟩) (n + 1) c) ∧ w' = (w.drew.setCells b ((i + 1) * 2) (cs.drop (i * 2))).setCells b (i * 2) vs := by
  have tS : Try.prog.underlying 64 = some (.slice 141) := by kernel_rfl
  have tV : Try.prog.underlying 63 = some (.slice 141) := by kernel_rfl
  have tI : Try.prog.underlying 3 = some (.int .i64) := by kernel_rfl
  have uS := run_underlying tS
  have uV := run_underlying tV
  have uI := run_underlying tI
  have mixed : Try.prog.follows .mixedOrders = true := mix
  obtain ⟨i0, z, hi0, hzs, hz0, hzc, hzb⟩ := infB_ok (P := Try.prog) (e := 141) (es := 2) (by kernel_rfl)
  have hsz : (Try.prog.info? 141).map (·.size) = some 2 := by rw [hi0]; simp [hzs]
  have hov : ∀ lb cb, (callFunc 124 #[.slice (some ⟨vb, voff, none⟩) 1 vc, .slice (some ⟨b, (i + 1) * 2, none⟩) lb cb]).run Try.prog w = .ok (.value (.bool false)) w := fun lb cb => by
    rw [run_callFunc_extern Try.func124 (by kernel_rfl) (by kernel_rfl) (by kernel_rfl) (e := Extern.SlicesOverlaps.overlaps #[63, 63] #[4]) (by kernel_rfl),
      run_overlaps_own w 63 4 141 tV 2 (fun w => by rw [← hzs]; exact run_sizeOf hi0 w) ⟨vb, voff, none⟩ ⟨b, (i + 1) * 2, none⟩ 1 vc lb cb hvb tA tB kA kB hsa hsb hkA hkB (hfz _ (by omega)) hfe]
    rfl
  have hdl : (cs.drop (i * 2)).length = (n - i) * 2 := by rw [List.length_drop, hcl]; omega
  have hz2 : ¬ ((i : Int) = (n : Int)) := by omega
  have hw1 : IntKind.i64.wrap ((i : Int) + 1) = (i : Int) + 1 := by rw [IntKind.wrap_i64]; omega
  have hwn : IntKind.i64.wrap ((n : Int) + 1) = (n : Int) + 1 := by rw [IntKind.wrap_i64]; omega
  have hb1 : (0 : Int) ≤ (i : Int) + 1 := by omega
  have hin : i ≤ n := by omega
  have htn : ((i : Int) + 1).toNat = i + 1 := by omega
  have htm : ((n : Int) + 1).toNat = n + 1 := by omega
  have hb2 : ¬ (c = i + 1) := by omega
  have hb3 : (i : Int) ≤ (n : Int) + 1 := by omega
  have hb4 : ¬ (c = i) := by omega
  have hb5 : ¬ ((c : Int) < (n : Int) + 1) := by omega
  have hb6 : (n : Int) + 1 ≤ (c : Int) := by omega
  have hm1 : Nat.min (n + 1 - i) (n - i) = n - i := by simp only [Nat.min_def]; split <;> omega
  have hm2 : Nat.min 1 (n + 1 - i) = 1 := by simp only [Nat.min_def]; split <;> omega
  have hcp1 : ∀ ty dc sc, (Builtin.copy_ #[64, 64] ty #[.slice (some ⟨b, (i + 1) * 2, none⟩) (n - i) dc, .slice (some ⟨b, i * 2, none⟩) (n + 1 - i) sc]).run Try.prog w.drew = .ok (goInt (Nat.min (n + 1 - i) (n - i))) (w.drew.setCells b ((i + 1) * 2) (cs.drop (i * 2))) := fun ty dc sc =>
    run_copy_es w.drew _ _ ty 141 2 b ((i + 1) * 2) (n - i) dc ⟨b, i * 2, none⟩ (n + 1 - i) sc (cs.drop (i * 2)) tS hsz (by rw [hm1]; exact hdl)
      (fun j v hj => by rw [Addr.add_lit]; exact hcs (i * 2 + j) v (by rwa [List.getElem?_drop] at hj))
      (fun j hj => hsp _ (by omega)) (fun j hj => hfz _ (by omega)) (fun v hv => h1c v (List.mem_of_mem_drop hv))
  obtain ⟨W1, hW1⟩ : ∃ W1, W1 = w.drew.setCells b ((i + 1) * 2) (cs.drop (i * 2)) := ⟨_, rfl⟩
  have hsp1 : ∀ k, k < (n + 1) * 2 → (W1.cell? ⟨b, k, none⟩).isSome = true := fun k hk => by
    rw [hW1]
    exact isSome_setCells b (cs.drop (i * 2)) ((i + 1) * 2) w.drew (fun j hj => hsp _ (by omega)) _ (hsp k hk)
  have hcp2 : ∀ (W : World), (∀ x, W.cell? x = W1.cell? x) → (∀ x, W.frozen? x = W1.frozen? x) → ∀ ty dc, (Builtin.copy_ #[64, 63] ty #[.slice (some ⟨b, i * 2, none⟩) (n + 1 - i) dc, .slice (some ⟨vb, voff, none⟩) 1 vc]).run Try.prog W = .ok (goInt (Nat.min 1 (n + 1 - i))) (W.setCells b (i * 2) vs) := fun W hWc hWf ty dc =>
    run_copy_es W _ _ ty 141 2 b (i * 2) (n + 1 - i) dc ⟨vb, voff, none⟩ 1 vc vs tS hsz (by rw [hm2, hvl])
      (fun j v hj => by
        rw [Addr.add_lit, hWc, hW1, World.cell?_setCells_out b _ _ _ _ (fun h _ => absurd h hvb)]
        exact hvs j v hj)
      (fun j hj => by rw [hWc]; exact hsp1 _ (by omega)) (fun j hj => by rw [hWf, hW1, World.frozen?_setCells]; exact hfz _ (by omega)) h1v
  rw [← hW1] at hcp1
  go_enter Try.func78, Try.ntmps78
  go_wp2_with (simp only [hov])
  go_region_law_o (refine step_copy_runI rfl _ _ 64 64 rfl _ _ (by simp [Act.eval, Act.put]) (by simp [Act.eval, Act.put]) (hcp1 _ _ _) ?_)
  go_wp2_with (at_builtin; refine wpList_copy_runI _ rfl _ _ 64 63 rfl _ _ rfl rfl (hcp2 _ (fun _ => rfl) (fun _ => rfl) _ _) ?_)
  go_ret
  first | exact ⟨rfl, rfl⟩ | exact ⟨rfl, by rw [hW1]⟩
set_option maxHeartbeats 4000000 in
set_option maxRecDepth 100000 in
theorem insE78 (b n c vb voff vc : Nat) (vs : List Value) (w : World) (hroom : n + 1 ≤ c) (hbig : n + 1 ≤ 1000000) (hvl : vs.length = 2)
    (hsp : ∀ j, j < 2 → (w.cell? ⟨b, n * 2 + j, none⟩).isSome = true) (hfz : ∀ j, j < 2 → w.frozen? ⟨b, n * 2 + j, none⟩ = false)
    (hvs : ∀ j v, vs[j]? = some v → w.cell? ⟨vb, voff + j, none⟩ = some v) (h1v : ∀ v ∈ vs, v.oneCell' = true) :
    Calls Try.prog 78 #[.slice (some ⟨b, 0, none⟩) n c, .int .i64 n, .slice (some ⟨vb, voff, none⟩) 1 vc] w fun e w' =>
      e = .returned (.slice (some ⟨b, 0, none⟩) (n + 1) c) ∧ w' = w.setCells b (n * 2) vs := by
  have tS : Try.prog.underlying 64 = some (.slice 141) := by kernel_rfl
  have tV : Try.prog.underlying 63 = some (.slice 141) := by kernel_rfl
  have tI : Try.prog.underlying 3 = some (.int .i64) := by kernel_rfl
  have uS := run_underlying tS
  have uV := run_underlying tV
  have uI := run_underlying tI
  have mixed : Try.prog.follows .mixedOrders = true := mix
  obtain ⟨i0, z, hi0, hzs, hz0, hzc, hzb⟩ := infB_ok (P := Try.prog) (e := 141) (es := 2) (by kernel_rfl)
  have hsz : (Try.prog.info? 141).map (·.size) = some 2 := by rw [hi0]; simp [hzs]
  have hsrc : Src Try.prog 2 63 (.slice (some ⟨vb, voff, none⟩) 1 vc) 1 vs w := Src.ofSlice w tV ⟨vb, voff, none⟩ 1 vc vs (by omega) (fun j u hj => by rw [Addr.add_lit]; exact hvs j u hj) h1v
  have hrun : ∀ ty, (Builtin.append_ #[64, 63] ty #[.slice (some ⟨b, 0, none⟩) n c, .slice (some ⟨vb, voff, none⟩) 1 vc]).run Try.prog w = _ := fun ty =>
    run_append_room_src w 64 63 ty 141 i0 tS hi0 b 0 n c _ 1 vs (by rw [hzs]; exact hsrc) hroom (by rw [hzs, hvl, Nat.zero_add]; exact hsp) (by rw [hzs, hvl, Nat.zero_add]; exact hfz)
  rw [hzs, Nat.zero_add] at hrun
  go_enter Try.func78, Try.ntmps78
  go_wp2_with (at_builtin; refine Lib.wpList_append_run _ rfl _ _ _ _ rfl _ _ rfl rfl _ _ (hrun _) ?_)
  all_goals (go_ret; exact ⟨rfl, rfl⟩)
set_option maxHeartbeats 4000000 in
set_option maxRecDepth 100000 in
theorem insG78 (base : Option Addr) (n c vb voff vc : Nat) (cs vs : List Value) (w : World) (hnc : n ≤ c) (hroom : c < n + 1) (hbig : n + 1 ≤ 1000000) (hcl : cs.length = n * 2) (hvl : vs.length = 2) (hnil : base = none → n = 0)
    (hcs : ∀ a, base = some a → ∀ j v, cs[j]? = some v → w.cell? (a.add j) = some v) (hvs : ∀ j v, vs[j]? = some v → w.cell? ⟨vb, voff + j, none⟩ = some v) (h1v : ∀ v ∈ vs, v.oneCell' = true) :
    Calls Try.prog 78 #[.slice base n c, .int .i64 n, .slice (some ⟨vb, voff, none⟩) 1 vc] w fun e w' =>
      ∃ zs : Array Value, e = .returned (.slice (some ⟨w.heap.size, 0, none⟩) (n + 1) (grownCap w (n + 1) c 141)) ∧ w' = w.drew.alloc (.cells ((cs ++ vs).toArray ++ zs) 141) := by
  have tS : Try.prog.underlying 64 = some (.slice 141) := by kernel_rfl
  have tV : Try.prog.underlying 63 = some (.slice 141) := by kernel_rfl
  have tI : Try.prog.underlying 3 = some (.int .i64) := by kernel_rfl
  have uS := run_underlying tS
  have uV := run_underlying tV
  have uI := run_underlying tI
  have mixed : Try.prog.follows .mixedOrders = true := mix
  obtain ⟨i0, z, hi0, hzs, hz0, hzc, hzb⟩ := infB_ok (P := Try.prog) (e := 141) (es := 2) (by kernel_rfl)
  have hsz : (Try.prog.info? 141).map (·.size) = some 2 := by rw [hi0]; simp [hzs]
  have hsrc : Src Try.prog i0.size 63 (.slice (some ⟨vb, voff, none⟩) 1 vc) 1 vs w := by
    rw [hzs]
    exact Src.ofSlice w tV ⟨vb, voff, none⟩ 1 vc vs (by omega) (fun j u hj => by rw [Addr.add_lit]; exact hvs j u hj) h1v
  have hold : (Builtin.firstCells i0.size n (.slice base n c)).run Try.prog w.drew = .ok cs.toArray w.drew := by
    rw [hzs]
    cases base with
    | none =>
      have h0 := hnil rfl
      subst h0
      rw [List.length_eq_zero_iff.1 (by omega : cs.length = 0)]
      exact run_firstCells_none w.drew 2 0 0 c
    | some a => exact run_firstCells_some w.drew 2 n a n c cs hcl (fun j v hj => hcs a rfl j v hj)
  have hrun : ∀ ty, (Builtin.append_ #[64, 63] ty #[.slice base n c, .slice (some ⟨vb, voff, none⟩) 1 vc]).run Try.prog w = _ := fun ty =>
    run_append_grow_src w 64 63 ty 141 i0 z tS hi0 hz0 base n c cs hold _ 1 vs hsrc hroom (by omega) (growslice_fits hroom (grown_bound hbig hzb))
  obtain ⟨ZS, hrun⟩ : ∃ ZS : Array Value, ∀ ty, (Builtin.append_ #[64, 63] ty #[.slice base n c, .slice (some ⟨vb, voff, none⟩) 1 vc]).run Try.prog w = .ok (.slice (some ⟨w.heap.size, 0, none⟩) (n + 1) (grownCap w (n + 1) c 141)) (w.drew.alloc (.cells ((cs ++ vs).toArray ++ ZS) 141)) := ⟨_, hrun⟩
  have main : Calls Try.prog 78 #[.slice base n c, .int .i64 n, .slice (some ⟨vb, voff, none⟩) 1 vc] w fun e w' =>
      e = .returned (.slice (some ⟨w.heap.size, 0, none⟩) (n + 1) (grownCap w (n + 1) c 141)) ∧ w' = w.drew.alloc (.cells ((cs ++ vs).toArray ++ ZS) 141) := by
    clear hz0 hold hsrc
    go_enter Try.func78, Try.ntmps78
    cases base with
    | none =>
      have h0 := hnil rfl
      subst h0
      go_wp2_with (at_builtin; refine Lib.wpList_append_run _ rfl _ _ _ _ rfl _ _ rfl rfl _ _ (hrun _) ?_)
      go_ret
      exact ⟨rfl, rfl⟩
    | some a =>
      obtain ⟨ab, ao, asp⟩ := a
      go_wp2_with (at_builtin; refine Lib.wpList_append_run _ rfl _ _ _ _ rfl _ _ rfl rfl _ _ (hrun _) ?_)
      all_goals (go_ret; exact ⟨rfl, rfl⟩)
  refine main.mono ?_
  rintro e w' ⟨rfl, rfl⟩
  exact ⟨ZS, rfl, rfl⟩
set_option maxHeartbeats 4000000 in
set_option maxRecDepth 100000 in
theorem insW78 (b n c i vb voff vc : Nat) (cs vs : List Value) (w : World) (hi : i < n) (hnc : n ≤ c) (hroom : c < n + 1) (hbig : n + 1 ≤ 1000000) (hcl : cs.length = n * 2) (hvl : vs.length = 2)
    (hcs : ∀ j v, cs[j]? = some v → w.cell? ⟨b, j, none⟩ = some v) (hvs : ∀ j v, vs[j]? = some v → w.cell? ⟨vb, voff + j, none⟩ = some v) (h1c : ∀ v ∈ cs, v.oneCell' = true) (h1v : ∀ v ∈ vs, v.oneCell' = true) :
    Calls Try.prog 78 #[.slice (some ⟨b, 0, none⟩) n c, .int .i64 i, .slice (some ⟨vb, voff, none⟩) 1 vc] w fun e w' =>
      ∃ ROW : Array Value, (n + 1) * 2 ≤ ROW.size ∧ (∀ (j : Nat) (v : Value), (cs.take (i * 2))[j]? = some v → ROW[j]? = some v) ∧ e = .returned (.slice (some ⟨w.heap.size, 0, none⟩) (n + 1) (grownCap w (n + 1) c 141)) ∧
        w' = (((w.alloc (.cells ROW 141)).drew.setCells w.heap.size (i * 2) vs).drew).setCells w.heap.size ((i + 1) * 2) (cs.drop (i * 2)) := by
  have tS : Try.prog.underlying 64 = some (.slice 141) := by kernel_rfl
  have tV : Try.prog.underlying 63 = some (.slice 141) := by kernel_rfl
  have tI : Try.prog.underlying 3 = some (.int .i64) := by kernel_rfl
  have uS := run_underlying tS
  have uV := run_underlying tV
  have uI := run_underlying tI
  have mixed : Try.prog.follows .mixedOrders = true := mix
  obtain ⟨i0, z, hi0, hzs, hz0, hzc, hzb⟩ := infB_ok (P := Try.prog) (e := 141) (es := 2) (by kernel_rfl)
  have hsz : (Try.prog.info? 141).map (·.size) = some 2 := by rw [hi0]; simp [hzs]
  have hz2 : ¬ ((i : Int) = (n : Int)) := by omega
  have hz3 : (c : Int) < (n : Int) + 1 := by omega
  have hbw : b < w.heap.size := block_lt_of_cell (hcs 0 _ (List.getElem?_eq_getElem (by omega)))
  have hvw : vb < w.heap.size := block_lt_of_cell (hvs 0 _ (List.getElem?_eq_getElem (by omega)))
  have hwk : IntKind.i64.wrap ((n : Int) + 1 - (i : Int)) = ((n + 1 - i : Nat) : Int) := by rw [IntKind.wrap_i64]; omega
  have hik : i + (n + 1 - i) = n + 1 := by omega
  have hold : (Builtin.firstCells i0.size i (.slice (some ⟨b, 0, none⟩) i c)).run Try.prog w.drew = .ok (cs.take (i * 2)).toArray w.drew := by
    rw [hzs]
    exact run_firstCells_some w.drew 2 i ⟨b, 0, none⟩ i c (cs.take (i * 2)) (by rw [List.length_take]; omega) (fun j v hj => by
      rw [Addr.add_lit, Nat.zero_add]
      rw [List.getElem?_take] at hj
      split at hj
      · exact hcs j v hj
      · cases hj)
  have hbk : (n + 1 - i) * i0.bytes ≤ 281474976710656 := by
    have : (n + 1 - i) * i0.bytes ≤ 1000000 * 1000 := Nat.mul_le_mul (by omega) hzb
    omega
  have hrz : ∀ ty, (Builtin.append_ #[64, 3] ty #[.slice (some ⟨b, 0, none⟩) i c, .int .i64 ((n + 1 - i : Nat) : Int)]).run Try.prog w =
      .ok (.slice (some ⟨w.heap.size, 0, none⟩) (n + 1) (grownCap w (n + 1) c 141)) (w.drew.alloc (.cells ((cs.take (i * 2)).toArray ++ Builtin.zeroCells z.cells (n + 1 - i) ++ Builtin.zeroCells z.cells (grownCap w (n + 1) c 141 - (n + 1))) 141)) := fun ty => by
    have h := Lib.run_append_grow_zeros w 64 3 ty 141 i0 z .i64 .i64 tS tI hi0 hz0 (some ⟨b, 0, none⟩) i c (cs.take (i * 2)) hold (n + 1 - i) (by omega) (by omega) (by omega) (by omega) hbk (by rw [hik]; exact growslice_fits hroom (grown_bound hbig hzb))
    rw [hik] at h
    exact h
  obtain ⟨G, hG⟩ : ∃ G, G = grownCap w (n + 1) c 141 := ⟨_, rfl⟩
  obtain ⟨ROW, hROW⟩ : ∃ ROW : Array Value, ROW = (cs.take (i * 2)).toArray ++ Builtin.zeroCells z.cells (n + 1 - i) ++ Builtin.zeroCells z.cells (G - (n + 1)) := ⟨_, rfl⟩
  rw [← hG] at hrz ⊢
  rw [← hROW] at hrz
  have hRl : (n + 1) * 2 ≤ ROW.size := by
    rw [hROW]
    simp only [Array.size_append, size_zeroCells, hzc, List.size_toArray, List.length_take]
    omega
  have hRt : ∀ (j : Nat) (v : Value), (cs.take (i * 2))[j]? = some v → ROW[j]? = some v := fun j v h => by
    have hl := (List.getElem?_eq_some_iff.1 h).1
    rw [hROW, Array.append_assoc, Array.getElem?_append_left (by simpa using hl), List.getElem?_toArray]
    exact h
  obtain ⟨W1, hW1⟩ : ∃ W1, W1 = w.drew.alloc (.cells ROW 141) := ⟨_, rfl⟩
  rw [← hW1] at hrz
  have hN : ∀ j, j < (n + 1) * 2 → (W1.cell? ⟨w.heap.size, j, none⟩).isSome = true := fun j hj => by
    rw [hW1, World.cell?_alloc_at (w := w.drew) ROW _ w.heap.size j rfl, Array.getElem?_eq_getElem (by omega)]; rfl
  have hNf : ∀ j, W1.frozen? ⟨w.heap.size, j, none⟩ = false := fun j => by rw [hW1]; exact World.frozen?_alloc_at (w := w.drew) ROW _ w.heap.size j rfl
  have hOb : ∀ j v, w.cell? ⟨b, j, none⟩ = some v → W1.cell? ⟨b, j, none⟩ = some v := fun j v h => by rw [hW1, World.cell?_alloc_past (w := w.drew) _ b j hbw]; exact h
  have hOv : ∀ j v, w.cell? ⟨vb, j, none⟩ = some v → W1.cell? ⟨vb, j, none⟩ = some v := fun j v h => by rw [hW1, World.cell?_alloc_past (w := w.drew) _ vb j hvw]; exact h
  have hmA : Nat.min 1 (n + 1 - i) = 1 := by simp only [Nat.min_def]; split <;> omega
  have hmB : Nat.min (n - i) (n - i) = n - i := Nat.min_self _
  have hcpA : ∀ (W : World), (∀ x, W.cell? x = W1.cell? x) → (∀ x, W.frozen? x = W1.frozen? x) → ∀ ty dc, (Builtin.copy_ #[64, 63] ty #[.slice (some ⟨w.heap.size, i * 2, none⟩) (n + 1 - i) dc, .slice (some ⟨vb, voff, none⟩) 1 vc]).run Try.prog W = .ok (goInt (Nat.min 1 (n + 1 - i))) (W.setCells w.heap.size (i * 2) vs) := fun W hWc hWf ty dc =>
    run_copy_es W _ _ ty 141 2 w.heap.size (i * 2) (n + 1 - i) dc ⟨vb, voff, none⟩ 1 vc vs tS hsz (by rw [hmA, hvl])
      (fun j v hj => by rw [Addr.add_lit, hWc]; exact hOv _ v (hvs j v hj))
      (fun j hj => by rw [hWc]; exact hN _ (by omega)) (fun j hj => by rw [hWf]; exact hNf _) h1v
  have hGn : n + 1 ≤ G := by rw [hG]; exact grownCap_ge w _ _ _
  have hGi : ¬ (G = i) := by omega
  have hGim : ¬ (G = i + 1) := by omega
  have hci : ¬ (c = i) := by omega
  have hbN : b ≠ w.heap.size := by omega
  have hdl : (cs.drop (i * 2)).length = (n - i) * 2 := by rw [List.length_drop, hcl]; omega
  have hcpB : ∀ (W : World), (∀ x, W.cell? x = (W1.setCells w.heap.size (i * 2) vs).cell? x) → (∀ x, W.frozen? x = (W1.setCells w.heap.size (i * 2) vs).frozen? x) → ∀ ty dc sc, (Builtin.copy_ #[64, 64] ty #[.slice (some ⟨w.heap.size, (i + 1) * 2, none⟩) (n - i) dc, .slice (some ⟨b, i * 2, none⟩) (n - i) sc]).run Try.prog W = .ok (goInt (Nat.min (n - i) (n - i))) (W.setCells w.heap.size ((i + 1) * 2) (cs.drop (i * 2))) := fun W hWc hWf ty dc sc =>
    run_copy_es W _ _ ty 141 2 w.heap.size ((i + 1) * 2) (n - i) dc ⟨b, i * 2, none⟩ (n - i) sc (cs.drop (i * 2)) tS hsz (by rw [hmB]; exact hdl)
      (fun j v hj => by
        rw [Addr.add_lit, hWc, World.cell?_setCells_out _ _ _ _ _ (fun h _ => absurd h hbN)]
        exact hOb _ v (hcs (i * 2 + j) v (by rwa [List.getElem?_drop] at hj)))
      (fun j hj => by rw [hWc]; exact isSome_setCells _ _ _ _ (fun t ht => hN _ (by omega)) _ (hN _ (by omega)))
      (fun j hj => by rw [hWf, World.frozen?_setCells]; exact hNf _) (fun v hv => h1c v (List.mem_of_mem_drop hv))
  subst hW1
  have hE1 : ∀ x, ((w.alloc (.cells ROW 141)).drew).cell? x = (w.drew.alloc (.cells ROW 141)).cell? x := fun x => rfl
  have hE2 : ∀ x, ((w.alloc (.cells ROW 141)).drew).frozen? x = (w.drew.alloc (.cells ROW 141)).frozen? x := fun x => rfl
  have hF1 : ∀ x, (((w.alloc (.cells ROW 141)).drew.setCells w.heap.size (i * 2) vs).drew).cell? x = ((w.drew.alloc (.cells ROW 141)).setCells w.heap.size (i * 2) vs).cell? x := fun x => rfl
  have hF2 : ∀ x, (((w.alloc (.cells ROW 141)).drew.setCells w.heap.size (i * 2) vs).drew).frozen? x = ((w.drew.alloc (.cells ROW 141)).setCells w.heap.size (i * 2) vs).frozen? x := fun x => rfl
  have hw1 : IntKind.i64.wrap ((i : Int) + 1) = (i : Int) + 1 := by rw [IntKind.wrap_i64]; omega
  have hwn : IntKind.i64.wrap ((n : Int) + 1) = (n : Int) + 1 := by rw [IntKind.wrap_i64]; omega
  have hb1 : (0 : Int) ≤ (i : Int) + 1 := by omega
  have hin : i ≤ n := by omega
  have htn : ((i : Int) + 1).toNat = i + 1 := by omega
  have hb3 : (i : Int) ≤ (n : Int) := by omega
  have main : Calls Try.prog 78 #[.slice (some ⟨b, 0, none⟩) n c, .int .i64 i, .slice (some ⟨vb, voff, none⟩) 1 vc] w fun e w' =>
      e = .returned (.slice (some ⟨w.heap.size, 0, none⟩) (n + 1) G) ∧ w' = (((w.alloc (.cells ROW 141)).drew.setCells w.heap.size (i * 2) vs).drew).setCells w.heap.size ((i + 1) * 2) (cs.drop (i * 2)) := by
    clear hik hold hROW hG hRl hRt hbk hz0
    go_enter Try.func78, Try.ntmps78
    go_wp2_with (first
      | (at_builtin; refine Lib.wpList_append_run _ rfl _ _ _ _ rfl _ _ rfl rfl _ _ (hrz _) ?_)
      | (at_builtin; refine wpList_copy_runI _ rfl _ _ 64 63 rfl _ _ rfl rfl (hcpA _ hE1 hE2 _ _) ?_))
    go_region_law_o (refine step_copy_runI rfl _ _ 64 64 rfl (.slice (some ⟨w.heap.size, (i + 1) * 2, none⟩) (n - i) (G - (i + 1))) (.slice (some ⟨b, i * 2, none⟩) (n - i) (c - i)) (by simp [Act.eval, Act.put]) (by simp [Act.eval, Act.put]) (hcpB _ hF1 hF2 3 (G - (i + 1)) (c - i)) ?_)
    go_wp2
    go_ret
    first | exact ⟨rfl, rfl⟩ | trace_state
  refine main.mono ?_
  rintro e w' ⟨rfl, rfl⟩
  exact ⟨ROW, hRl, hRt, rfl, rfl⟩
theorem insR78_v : InsRoads Try.prog 78 2 141 := ⟨insS78, insE78, insG78, insW78⟩
end Go.Proofs.Ythmgficajgedlaa
