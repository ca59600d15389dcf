/- A part of the proof: 5 texts joined. -/
import Derived.Test.YthmgficajgedlaaGreatRaA11
import Derived.Test.YthmgficajgedlaaGreatRaA10
import Derived.Test.YthmgficajgedlaaGreatRaA8
import Derived.KernelRfl
set_option linter.all false
/- The arrows of the program and of the document, in plain words: checks. -/
namespace Go.Proofs.YthmgficajgedlaaGreat
open Go.RowKit
abbrev AR := Ref29Arrow
def frontB (s : ByteArray) : ByteArray := ba (s.data.toList.take (findL s.data.toList 32))
def backB (s : ByteArray) : ByteArray := ba (s.data.toList.drop (findL s.data.toList 32 + 1))
def splitE (s : ByteArray) : ByteArray × ByteArray × Int :=
  if findL s.data.toList 32 < s.data.toList.length then
    if isBareL (frontB s).data.toList = true then
      if resL (backB s).data.toList = 0 then (frontB s, backB s, 0) else (⟨#[]⟩, ⟨#[]⟩, resL (backB s).data.toList)
    else (⟨#[]⟩, ⟨#[]⟩, 11)
  else (⟨#[]⟩, ⟨#[]⟩, 4)
theorem ba_sz (l : List UInt8) : (ba l).size = l.length := by unfold ba; simp [ByteArray.size]
theorem front_sz (s : ByteArray) : (frontB s).size ≤ s.size := by
  unfold frontB; rw [ba_sz, List.length_take]; simp; omega
theorem back_sz (s : ByteArray) : (backB s).size ≤ s.size := by
  unfold backB; rw [ba_sz, List.length_drop]; simp
theorem split_p {s : ByteArray} (h : s.size ≤ 100000) : p_pres_Split s = some (splitE s) := by
  unfold p_pres_Split p_strings_Cut splitE
  have e : (⟨#[32]⟩ : ByteArray).data.toList = [32] := rfl
  have h1 := front_sz s
  have h2 := back_sz s
  simp only [e, if_pos h, Option.bind_some]
  by_cases hf : findL s.data.toList 32 < s.data.toList.length
  · rw [decide_eq_true hf, if_pos hf, cond_true]
    have f1 : ba (List.take (findL s.data.toList 32) s.data.toList) = frontB s := rfl
    have f2 : ba (List.drop (findL s.data.toList 32 + 1) s.data.toList) = backB s := rfl
    rw [f1, f2]
    unfold p_addr_IsBare p_addr_Resource
    rw [if_pos (show (frontB s).size ≤ 100000 by omega), if_pos (show (backB s).size ≤ 100000 by omega)]
    simp only [Option.bind_some]
    change (bif isBareL (frontB s).data.toList then _ else _) = _
    cases isBareL (frontB s).data.toList with
    | true =>
      simp only [cond_true, if_true]
      change (bif resL (backB s).data.toList != 0 then _ else _) = _
      by_cases hr : resL (backB s).data.toList = 0
      · rw [if_pos hr, hr]; rfl
      · have : (resL (backB s).data.toList != 0) = true := by simpa using hr
        rw [if_neg hr, this]; rfl
    | false => rfl
  · rw [decide_eq_false hf, if_neg hf]; rfl
theorem rsplit_l (s : ByteArray) (hs : s.size ≤ 100000) : ∀ (n k F : Nat), k + n = s.size → n < F → p_ref23_Split_l1 s F k = some ((k + findL (s.data.toList.drop k) 32 : Nat) : Int)
  | 0, k, F + 1, hk, hF => by
    have e : s.data.toList.drop k = [] := List.drop_of_length_le (by simp; have : s.data.size = s.size := rfl; omega)
    rw [p_ref23_Split_l1, lt_ff (by omega), e]; rfl
  | n + 1, k, F + 1, hk, hF => by
    have hlt : k < s.size := by omega
    have hd : s.data.toList.drop k = s[k] :: s.data.toList.drop (k + 1) := by
      rw [List.drop_eq_getElem_cons (by rw [bl_len]; exact hlt), bl_get s k hlt]
    rw [p_ref23_Split_l1, lt_tt hlt, byte_at hlt, hd, findL_cons]
    simp only [cond_true, Option.bind_some]
    have hb := byte_ne s[k] 32
    have e32 : (((32 : UInt8).toNat : Nat) : Int) = 32 := rfl
    rw [e32] at hb
    rw [hb]
    cases hc : (s[k] == 32) with
    | true => simp
    | false =>
      simp only [Bool.not_false, cond_true]
      rw [w64_succ (by omega), rsplit_l s hs n (k + 1) F (by omega) (by omega)]
      simp
      omega
theorem rsplit_p {s : ByteArray} (h : s.size ≤ 100000) : p_ref23_Split s = some (splitE s) := by
  have h1 := front_sz s
  have h2 := back_sz s
  have hl := rsplit_l s h s.size 0 fuel (by omega) (by have := fuel_pos; omega)
  have z0 : ((0 : Nat) : Int) = 0 := rfl
  rw [z0, List.drop_zero, Nat.zero_add] at hl
  unfold p_ref23_Split splitE
  rw [hl]
  simp only [Option.bind_some]
  have hle := findL_le s.data.toList 32
  have hbl : s.data.toList.length = s.size := bl_len s
  by_cases hf : findL s.data.toList 32 < s.data.toList.length
  · have hne : ((findL s.data.toList 32 : Int) == (s.size : Int)) = false := by
      simp; omega
    rw [hne, if_pos hf, cond_false]
    have s1 : sub? s none (some (findL s.data.toList 32 : Int)) = some (frontB s) := by
      unfold sub?
      simp only [Option.getD_none, Option.getD_some]
      rw [if_pos (by omega)]
      congr 1
      rw [show ((0 : Int).toNat) = 0 from rfl, Int.toNat_natCast, cut_take]; rfl
    have s2 : sub? s (some (w64 ((findL s.data.toList 32 : Int) + 1))) none = some (backB s) := by
      rw [w64_succ (by omega)]
      unfold sub?
      simp only [Option.getD_none, Option.getD_some]
      rw [if_pos (by omega)]
      congr 1
      rw [Int.toNat_natCast, Int.toNat_natCast, cut_drop]; rfl
    rw [s1, s2]
    simp only [Option.bind_some]
    unfold p_ref09_IsBare p_ref09_Resource
    rw [if_pos (show (frontB s).size ≤ 100000 by omega), if_pos (show (backB s).size ≤ 100000 by omega)]
    simp only [Option.bind_some]
    cases isBareL (frontB s).data.toList with
    | true =>
      simp only [cond_true, if_true]
      by_cases hr : resL (backB s).data.toList = 0
      · rw [if_pos hr, hr]; rfl
      · have : (resL (backB s).data.toList != 0) = true := by simpa using hr
        rw [if_neg hr, this]; rfl
    | false => rfl
  · have hne : ((findL s.data.toList 32 : Int) == (s.size : Int)) = true := by
      simp; omega
    rw [hne, if_neg hf]; rfl
/-- an arrow of texts that are not too long. -/
def smallA (a : AR) : Prop := a.From.size ≤ 100000 ∧ a.To.size ≤ 100000
def fineA (a : AR) : Bool := ((splitE a.From).2.2 == 0) && isBareL a.To.data.toList
theorem wrong_p {a : AR} (h : smallA a) : p_dirs_Arrow_wrong a = some (!fineA a) := by
  unfold p_dirs_Arrow_wrong p_dirs_Arrow_user fineA
  rw [split_p h.1]
  simp only [Option.bind_some]
  cases ((splitE a.From).2.2 == 0) with
  | false => rfl
  | true =>
    simp only [cond_true, Bool.true_and]
    unfold p_addr_IsBare
    rw [if_pos h.2]; rfl
theorem fine_p {a : AR} (h : smallA a) : p_ref29_fine a = some (fineA a) := by
  unfold p_ref29_fine fineA
  rw [rsplit_p h.1]
  simp only [Option.bind_some]
  cases ((splitE a.From).2.2 == 0) with
  | false => rfl
  | true =>
    simp only [cond_true, Bool.true_and]
    unfold p_ref09_IsBare
    rw [if_pos h.2]; rfl
def ordA (a b : AR) : Int := if Lib.compareBytes a.From.data.toList b.From.data.toList ≠ 0 then Lib.compareBytes a.From.data.toList b.From.data.toList else Lib.compareBytes a.To.data.toList b.To.data.toList
def lessA (a b : AR) : Bool := decide (ordA a b < 0)
theorem or2 (x y : Int) : p_cmp_Or_int_ [x, y] = some (if x ≠ 0 then x else y) := by
  have e : fuel = 99999997 + 1 + 1 + 1 := by decide
  unfold p_cmp_Or_int_
  rw [e]
  have e2 : (([x, y].length : Nat) : Int) = 2 := rfl
  rw [e2]
  unfold p_cmp_Or_int__l1
  by_cases hx : x = 0
  · subst hx
    have w1 : w64 (0 + 1) = 1 := by decide
    have a0 : at? [(0 : Int), y] 0 = some 0 := rfl
    have a1 : at? [(0 : Int), y] 1 = some y := rfl
    simp only [w1, a0, show decide ((0 : Int) < 2) = true from rfl, cond_true, Option.bind_some, bne_self_eq_false, cond_false]
    unfold p_cmp_Or_int__l1
    simp only [a1, show decide ((1 : Int) < 2) = true from rfl, cond_true, Option.bind_some]
    by_cases hy : y = 0
    · subst hy
      have w2 : w64 (1 + 1) = 2 := by decide
      simp only [bne_self_eq_false, cond_false, w2]
      unfold p_cmp_Or_int__l1
      simp
    · have : (y != 0) = true := by simpa using hy
      simp [this]
  · have h1 : (x != 0) = true := by simpa using hx
    have a0 : at? [x, y] 0 = some x := rfl
    simp only [a0, show decide ((0 : Int) < 2) = true from rfl, cond_true, Option.bind_some, h1]
    simp [hx]
theorem order_p (a b : AR) : p_dirs_order a b = some (ordA a b) := by
  unfold p_dirs_order p_strings_Compare ordA
  simp only [Option.bind_some, or2]
theorem eqb_cmp (a b : ByteArray) : (a.toList == b.toList) = decide (Lib.compareBytes a.data.toList b.data.toList = 0) := by
  rw [tl_data, tl_data]
  by_cases h : a.data.toList = b.data.toList
  · rw [h, cmp_refl]; simp
  · have : ¬ Lib.compareBytes a.data.toList b.data.toList = 0 := fun e => h (cmp_eq0 e)
    rw [decide_eq_false this]; simpa using h
theorem less_p (a b : AR) : p_ref29_less a b = some (lessA a b) := by
  unfold p_ref29_less lessA ordA
  rw [eqb_cmp, tl_data, tl_data, tl_data, tl_data, cmp_less, cmp_less]
  by_cases h : Lib.compareBytes a.From.data.toList b.From.data.toList < 0
  · rw [decide_eq_true h, if_pos (by omega), decide_eq_true h]; rfl
  · rw [decide_eq_false h]
    by_cases h2 : Lib.compareBytes a.From.data.toList b.From.data.toList = 0
    · rw [decide_eq_true h2, if_neg (by omega)]; rfl
    · rw [decide_eq_false h2, if_pos h2, decide_eq_false h]; rfl
def risL : List AR → Bool
  | [] => true
  | [_] => true
  | a :: b :: l => lessA a b && risL (b :: l)
def chkA (l : List AR) : Int := if 32 < l.length then 5 else if l.any (fun a => !fineA a) = true then 11 else if risL l = true then 0 else 10
theorem idxA_l (f : AR → Option Bool) (p : AR → Bool) (rows : List AR) (hn : rows.length ≤ 1000) (hf : ∀ x ∈ rows, f x = some (p x)) : ∀ (n k F : Nat), k + n = rows.length → n < F →
    p_slices_IndexFunc_dirs_State_dirs_Arrow__l1 f rows rows.length F k = some (if (rows.drop k).any p = true then .inl ((k + (rows.drop k).findIdx p : Nat) : Int) else .inr (rows.length : Int))
  | 0, k, F + 1, hk, hF => by
    have e : rows.drop k = [] := List.drop_of_length_le (by omega)
    have : k = rows.length := by omega
    rw [p_slices_IndexFunc_dirs_State_dirs_Arrow__l1, lt_ff (by omega), e, this]; rfl
  | n + 1, k, F + 1, hk, hF => by
    have hlt : k < rows.length := by omega
    rw [p_slices_IndexFunc_dirs_State_dirs_Arrow__l1, lt_tt hlt, at_lt hlt, drop_at hlt]
    simp only [cond_true, Option.bind_some, hf _ (List.getElem_mem hlt)]
    cases hp : p rows[k] with
    | true => rw [List.any_cons, hp, List.findIdx_cons, hp]; rfl
    | false =>
      simp only [cond_false]
      rw [w64_succ (by omega), idxA_l f p rows hn hf n (k + 1) F (by omega) (by omega)]
      simp only [List.any_cons, hp, Bool.false_or, List.findIdx_cons, cond_false]
      split
      · congr 3; omega
      · rfl
theorem hasA_p {f : AR → Option Bool} (p : AR → Bool) {rows : List AR} (hn : rows.length ≤ 1000) (hf : ∀ x ∈ rows, f x = some (p x)) : p_slices_ContainsFunc_dirs_State_dirs_Arrow_ rows f = some (rows.any p) := by
  unfold p_slices_ContainsFunc_dirs_State_dirs_Arrow_ p_slices_IndexFunc_dirs_State_dirs_Arrow_
  have := idxA_l f p rows hn hf rows.length 0 fuel (by omega) (by have := fuel_pos; omega)
  rw [show ((0 : Int)) = ((0 : Nat) : Int) from rfl, this, List.drop_zero]
  cases rows.any p <;> simp
theorem check_l (l : List AR) (hn : l.length ≤ 1000) : ∀ (n k F : Nat), k + 1 + n = l.length → n < F → ∃ q, p_dirs_Check_l1 l F ((k + 1 : Nat) : Int) = some (if risL (l.drop k) = true then .inr q else .inl 10)
  | 0, k, F + 1, hk, hF => by
    have e : l.drop k = [l[k]] := by rw [drop_at (by omega), List.drop_of_length_le (by omega)]
    refine ⟨((k + 1 : Nat) : Int), ?_⟩
    rw [p_dirs_Check_l1, lt_ff (by omega), e]; rfl
  | n + 1, k, F + 1, hk, hF => by
    have hlt : k + 1 < l.length := by omega
    obtain ⟨q, ih⟩ := check_l l hn n (k + 1) F (by omega) (by omega)
    refine ⟨q, ?_⟩
    have wm : w64 (((k + 1 : Nat) : Int) - 1) = (k : Int) := by rw [w64_id (by omega)]; omega
    have er : risL (l.drop k) = (lessA l[k] l[k + 1] && risL (l.drop (k + 1))) := by rw [drop_at (show k < l.length by omega), drop_at hlt]; rfl
    rw [p_dirs_Check_l1, lt_tt hlt, wm, at_lt hlt, at_lt (show k < l.length by omega), er]
    simp only [cond_true, Option.bind_some, order_p]
    rw [w64_succ (by omega), ih]
    unfold lessA
    by_cases h : ordA l[k] l[k + 1] < 0
    · rw [decide_eq_false (show ¬ 0 ≤ ordA l[k] l[k + 1] by omega), decide_eq_true h]; simp
    · rw [decide_eq_true (show 0 ≤ ordA l[k] l[k + 1] by omega), decide_eq_false h]; simp
theorem check_p {l : List AR} (hn : l.length ≤ 1000) (hs : ∀ a ∈ l, smallA a) : p_dirs_Check l = some (chkA l) := by
  unfold p_dirs_Check chkA
  by_cases h1 : 32 < l.length
  · rw [decide_eq_true (by omega), if_pos h1]; rfl
  · rw [decide_eq_false (by omega), if_neg h1, cond_false, hasA_p (fun a => !fineA a) hn (fun x hx => wrong_p (hs x hx))]
    simp only [Option.bind_some]
    cases l.any (fun a => !fineA a) with
    | true => rfl
    | false =>
      simp only [cond_false, Bool.false_eq_true, if_false]
      cases l with
      | nil => rfl
      | cons a l =>
        obtain ⟨q, h⟩ := check_l (a :: l) hn l.length 0 fuel (by simp; omega) (by have := fuel_pos; simp at hn; omega)
        have z1 : ((0 + 1 : Nat) : Int) = 1 := rfl
        rw [z1, List.drop_zero] at h
        rw [h]
        cases risL (a :: l) <;> simp
theorem rcheck1_l (l : List AR) (hn : l.length ≤ 1000) (hs : ∀ a ∈ l, smallA a) : ∀ (n k F : Nat), k + n = l.length → n < F → p_ref29_Check_l1 l F k = some (if (l.drop k).any (fun a => !fineA a) = true then .inl 11 else .inr (l.length : Int))
  | 0, k, F + 1, hk, hF => by
    have e : l.drop k = [] := List.drop_of_length_le (by omega)
    have : k = l.length := by omega
    rw [p_ref29_Check_l1, lt_ff (by omega), e, this]; rfl
  | n + 1, k, F + 1, hk, hF => by
    have hlt : k < l.length := by omega
    rw [p_ref29_Check_l1, lt_tt hlt, at_lt hlt, drop_at hlt]
    simp only [cond_true, Option.bind_some, fine_p (hs _ (List.getElem_mem hlt)), List.any_cons]
    by_cases h : fineA l[k] = true
    · simp only [h, cond_true, Bool.not_true, Bool.false_or]
      rw [w64_succ (by omega), rcheck1_l l hn hs n (k + 1) F (by omega) (by omega)]
    · have h : fineA l[k] = false := by simpa using h
      simp [h]
theorem rcheck2_l (l : List AR) (hn : l.length ≤ 1000) : ∀ (n k F : Nat), k + 1 + n = l.length → n < F → ∃ q, p_ref29_Check_l2 l F ((k + 1 : Nat) : Int) = some (if risL (l.drop k) = true then .inr q else .inl 10)
  | 0, k, F + 1, hk, hF => by
    have e : l.drop k = [l[k]] := by rw [drop_at (by omega), List.drop_of_length_le (by omega)]
    refine ⟨((k + 1 : Nat) : Int), ?_⟩
    rw [p_ref29_Check_l2, lt_ff (by omega), e]; rfl
  | n + 1, k, F + 1, hk, hF => by
    have hlt : k + 1 < l.length := by omega
    obtain ⟨q, ih⟩ := rcheck2_l l hn n (k + 1) F (by omega) (by omega)
    refine ⟨q, ?_⟩
    have wm : w64 (((k + 1 : Nat) : Int) - 1) = (k : Int) := by rw [w64_id (by omega)]; omega
    have er : risL (l.drop k) = (lessA l[k] l[k + 1] && risL (l.drop (k + 1))) := by rw [drop_at (show k < l.length by omega), drop_at hlt]; rfl
    rw [p_ref29_Check_l2, lt_tt hlt, wm, at_lt hlt, at_lt (show k < l.length by omega), er]
    simp only [cond_true, Option.bind_some, less_p]
    rw [w64_succ (by omega), ih]
    cases h : lessA l[k] l[k + 1] <;> simp
theorem rcheck_p {l : List AR} (hn : l.length ≤ 1000) (hs : ∀ a ∈ l, smallA a) : p_ref29_Check l = some (chkA l) := by
  unfold p_ref29_Check chkA
  by_cases h1 : 32 < l.length
  · rw [decide_eq_true (by omega), if_pos h1]; rfl
  · rw [decide_eq_false (by omega), if_neg h1, cond_false]
    have h := rcheck1_l l hn hs l.length 0 fuel (by omega) (by have := fuel_pos; omega)
    have z0 : ((0 : Nat) : Int) = 0 := rfl
    rw [z0, List.drop_zero] at h
    rw [h]
    cases l.any (fun a => !fineA a) with
    | true => rfl
    | false =>
      simp only [Bool.false_eq_true, if_false, Option.bind_some]
      cases l with
      | nil => rfl
      | cons a l =>
        obtain ⟨q, h⟩ := rcheck2_l (a :: l) hn l.length 0 fuel (by simp; omega) (by have := fuel_pos; simp at hn; omega)
        have z1 : ((0 + 1 : Nat) : Int) = 1 := rfl
        rw [z1, List.drop_zero] at h
        rw [h]
        cases risL (a :: l) <;> simp
end Go.Proofs.YthmgficajgedlaaGreat
/- The arrows of the program and of the document, in plain words: what is told; DirsTells. -/
namespace Go.Proofs.YthmgficajgedlaaGreat
open Go.RowKit
set_option maxRecDepth 100000 in
theorem aw29 : p_law29_awake = some true := by kernel_rfl
def isA (f t : ByteArray) (x : AR) : Bool := (x.From.toList == f.toList) && ((x.To.toList == t.toList) && true)
theorem without_l (f : AR → Option Bool) (p : AR → Bool) (rows : List AR) (hn : rows.length ≤ 1000) (hf : ∀ x ∈ rows, f x = some (p x)) : ∀ (n k F : Nat) (left gone : List AR), k + n = rows.length → n < F → left.length ≤ k → gone.length ≤ k →
    p_dirs_State_without_l1 f rows rows.length F left gone k = some (left ++ (rows.drop k).filter (fun x => !p x), gone ++ (rows.drop k).filter p, (rows.length : Int))
  | 0, k, F + 1, left, gone, hk, hF, h1, h2 => by
    have e : rows.drop k = [] := List.drop_of_length_le (by omega)
    have : k = rows.length := by omega
    rw [p_dirs_State_without_l1, lt_ff (by omega), e, this]; simp
  | n + 1, k, F + 1, left, gone, hk, hF, h1, h2 => by
    have hlt : k < rows.length := by omega
    rw [p_dirs_State_without_l1, lt_tt hlt, at_lt hlt, drop_at hlt]
    simp only [cond_true, Option.bind_some, hf _ (List.getElem_mem hlt)]
    cases hp : p rows[k] with
    | true =>
      simp only [cond_true]
      rw [app_ok (by simp; omega), w64_succ (by omega)]
      simp only [Option.bind_some]
      rw [without_l f p rows hn hf n (k + 1) F _ _ (by omega) (by omega) (by omega) (by simp; omega)]
      simp only [List.filter_cons, hp, Bool.not_true, Bool.not_false, Bool.false_eq_true, if_false, if_true, List.append_assoc, List.singleton_append]
    | false =>
      simp only [cond_false]
      rw [app_ok (by simp; omega), w64_succ (by omega)]
      simp only [Option.bind_some]
      rw [without_l f p rows hn hf n (k + 1) F _ _ (by omega) (by omega) (by simp; omega) (by omega)]
      simp only [List.filter_cons, hp, Bool.not_true, Bool.not_false, Bool.false_eq_true, if_false, if_true, List.append_assoc, List.singleton_append]
theorem without_p {f : AR → Option Bool} (p : AR → Bool) {rows : List AR} (hn : rows.length ≤ 1000) (hf : ∀ x ∈ rows, f x = some (p x)) : p_dirs_State_without rows f = some (rows.filter (fun x => !p x), rows.filter p) := by
  unfold p_dirs_State_without
  have := without_l f p rows hn hf rows.length 0 fuel [] [] (by omega) (by have := fuel_pos; omega) (Nat.le_refl _) (Nat.le_refl _)
  rw [show ((0 : Int)) = ((0 : Nat) : Int) from rfl, this, List.drop_zero]
  simp
theorem tos_l (rows : List AR) (hn : rows.length ≤ 1000) : ∀ (n k F : Nat) (out : List ByteArray), k + n = rows.length → n < F → out.length ≤ k →
    p_dirs_State_tos_l1 rows rows.length F out k = some (out ++ (rows.drop k).map (·.To), (rows.length : Int))
  | 0, k, F + 1, out, hk, hF, h1 => by
    have e : rows.drop k = [] := List.drop_of_length_le (by omega)
    have : k = rows.length := by omega
    rw [p_dirs_State_tos_l1, lt_ff (by omega), e, this]; simp
  | n + 1, k, F + 1, out, hk, hF, h1 => by
    have hlt : k < rows.length := by omega
    rw [p_dirs_State_tos_l1, lt_tt hlt, at_lt hlt, drop_at hlt]
    simp only [cond_true, Option.bind_some]
    rw [app_ok (by simp; omega), w64_succ (by omega)]
    simp only [Option.bind_some]
    rw [tos_l rows hn n (k + 1) F _ (by omega) (by omega) (by simp; omega)]
    simp only [List.map_cons, List.append_assoc, List.singleton_append]
theorem tos_p {rows : List AR} (hn : rows.length ≤ 1000) : p_dirs_State_tos rows = some (rows.map (·.To)) := by
  unfold p_dirs_State_tos
  have := tos_l rows hn rows.length 0 fuel [] (by omega) (by have := fuel_pos; omega) (Nat.le_refl _)
  rw [show ((0 : Int)) = ((0 : Nat) : Int) from rfl, this, List.drop_zero]
  simp
def fromA (f : ByteArray) (x : AR) : Bool := x.From.toList == f.toList
def toA (t : ByteArray) (x : AR) : Bool := x.To.toList == t.toList
def delL (l : List AR) (f t : ByteArray) : List AR × Bool := if chkA l = 0 then (l.filter (fun x => !isA f t x), l.any (isA f t)) else (l, false)
def clearL (l : List AR) (f : ByteArray) : List AR × List ByteArray := if chkA l = 0 then (l.filter (fun x => !fromA f x), (l.filter (fromA f)).map (·.To)) else (l, [])
def keysL (l : List AR) (t : ByteArray) : List ByteArray := if chkA l = 0 then (l.filter (toA t)).map (·.From) else []
theorem pos_any (p : AR → Bool) (l : List AR) : decide ((0 : Int) < ((l.filter p).length : Int)) = l.any p := by
  rw [Bool.eq_iff_iff, decide_eq_true_iff, List.any_eq_true]
  constructor
  · intro h
    have h2 : 0 < (l.filter p).length := by omega
    obtain ⟨x, hx⟩ := List.exists_mem_of_length_pos h2
    obtain ⟨h3, h4⟩ := List.mem_filter.1 hx
    exact ⟨x, h3, h4⟩
  · rintro ⟨x, h1, h2⟩
    have : 0 < (l.filter p).length := List.length_pos_of_mem (List.mem_filter.2 ⟨h1, h2⟩)
    omega
theorem chk_ne {l : List AR} (h : chkA l ≠ 0) : (chkA l != 0) = true := by simpa using h
theorem del_p {l : List AR} (hn : l.length ≤ 1000) (hs : ∀ a ∈ l, smallA a) (f t : ByteArray) : p_dirs_Del l f t = some (delL l f t) := by
  unfold p_dirs_Del delL
  rw [check_p hn hs]
  simp only [Option.bind_some]
  by_cases h : chkA l = 0
  · rw [if_pos h, h, without_p (f := fun x0 => p_dirs_Del_1 x0 (Ref29Arrow.mk f t)) (isA f t) hn (fun _ _ => rfl)]
    simp only [bne_self_eq_false, cond_false, Option.bind_some, pos_any]
  · rw [if_neg h, chk_ne h]; rfl
theorem clear_p {l : List AR} (hn : l.length ≤ 1000) (hs : ∀ a ∈ l, smallA a) (f : ByteArray) : p_dirs_Clear l f = some (clearL l f) := by
  unfold p_dirs_Clear clearL
  rw [check_p hn hs]
  simp only [Option.bind_some]
  by_cases h : chkA l = 0
  · rw [if_pos h, h, without_p (f := fun x0 => p_dirs_Clear_1 x0 f) (fromA f) hn (fun _ _ => rfl)]
    simp only [bne_self_eq_false, cond_false, Option.bind_some]
    rw [tos_p (Nat.le_trans (List.length_filter_le _ _) hn)]; rfl
  · rw [if_neg h, chk_ne h]; rfl
theorem of_p {l : List AR} (hn : l.length ≤ 1000) (hs : ∀ a ∈ l, smallA a) (f : ByteArray) : p_dirs_Of l f = some (clearL l f).2 := by
  unfold p_dirs_Of; rw [clear_p hn hs]; rfl
theorem has_p {l : List AR} (hn : l.length ≤ 1000) (hs : ∀ a ∈ l, smallA a) (f t : ByteArray) : p_dirs_Has l f t = some (delL l f t).2 := by
  unfold p_dirs_Has; rw [del_p hn hs]; rfl
theorem keys_l (t : ByteArray) (rows : List AR) (hn : rows.length ≤ 1000) : ∀ (n k F : Nat) (out : List ByteArray), k + n = rows.length → n < F → out.length ≤ k →
    p_dirs_Keys_l1 t rows rows.length F out k = some (out ++ ((rows.drop k).filter (toA t)).map (·.From), (rows.length : Int))
  | 0, k, F + 1, out, hk, hF, h1 => by
    have e : rows.drop k = [] := List.drop_of_length_le (by omega)
    have : k = rows.length := by omega
    rw [p_dirs_Keys_l1, lt_ff (by omega), e, this]; simp
  | n + 1, k, F + 1, out, hk, hF, h1 => by
    have hlt : k < rows.length := by omega
    rw [p_dirs_Keys_l1, lt_tt hlt, at_lt hlt, drop_at hlt]
    simp only [cond_true, Option.bind_some]
    rw [w64_succ (by omega), List.filter_cons]
    change (bif toA t rows[k] then _ else _) = _
    cases toA t rows[k] with
    | true =>
      simp only [cond_true, if_true]
      rw [app_ok (by simp; omega)]
      simp only [Option.bind_some]
      rw [keys_l t rows hn n (k + 1) F _ (by omega) (by omega) (by simp; omega)]
      simp
    | false =>
      simp only [cond_false, Bool.false_eq_true, if_false]
      exact keys_l t rows hn n (k + 1) F _ (by omega) (by omega) (by omega)
theorem keys_p {l : List AR} (hn : l.length ≤ 1000) (hs : ∀ a ∈ l, smallA a) (t : ByteArray) : p_dirs_Keys l t = some (keysL l t) := by
  unfold p_dirs_Keys keysL
  rw [check_p hn hs]
  simp only [Option.bind_some]
  by_cases h : chkA l = 0
  · have := keys_l t l hn l.length 0 fuel [] (by omega) (by have := fuel_pos; omega) (Nat.le_refl _)
    rw [if_pos h, h, show ((0 : Int)) = ((0 : Nat) : Int) from rfl, this, List.drop_zero]
    simp
  · rw [if_neg h, chk_ne h]; rfl
theorem rof_l (f : ByteArray) (rows : List AR) (hn : rows.length ≤ 1000) (c : Int) (hc : p_ref29_Check rows = some c) : ∀ (n k F : Nat) (out : List ByteArray), k + n = rows.length → n < F → out.length ≤ k →
    ∃ q, p_ref29_Of_l1 rows f F out k = some (out ++ (if c = 0 then ((rows.drop k).filter (fromA f)).map (·.To) else []), q)
  | 0, k, F + 1, out, hk, hF, h1 => by
    have e : rows.drop k = [] := List.drop_of_length_le (by omega)
    refine ⟨k, ?_⟩
    rw [p_ref29_Of_l1, lt_ff (by omega), e]; simp
  | n + 1, k, F + 1, out, hk, hF, h1 => by
    have hlt : k < rows.length := by omega
    by_cases h : c = 0
    · subst h
      obtain ⟨q1, ih1⟩ := rof_l f rows hn 0 hc n (k + 1) F (out ++ [rows[k].To]) (by omega) (by omega) (by simp; omega)
      obtain ⟨q2, ih2⟩ := rof_l f rows hn 0 hc n (k + 1) F out (by omega) (by omega) (by omega)
      rw [p_ref29_Of_l1, lt_tt hlt, at_lt hlt, drop_at hlt]
      simp only [cond_true, Option.bind_some, hc, beq_self_eq_true]
      rw [w64_succ (by omega), List.filter_cons, app_ok (by simp; omega)]
      change ∃ q, (bif fromA f rows[k] then _ else _) = _
      cases fromA f rows[k] with
      | true =>
        refine ⟨q1, ?_⟩
        simp only [cond_true, Option.bind_some]
        rw [ih1]; simp
      | false =>
        refine ⟨q2, ?_⟩
        simp only [cond_false]
        rw [ih2]; simp
    · refine ⟨k, ?_⟩
      have : (c == 0) = false := by simpa using h
      rw [p_ref29_Of_l1, lt_tt hlt]
      simp only [cond_true, Option.bind_some, hc, this, cond_false, if_neg h]
      simp
theorem rof_p {l : List AR} (hn : l.length ≤ 1000) (hs : ∀ a ∈ l, smallA a) (f : ByteArray) : p_ref29_Of l f = some (clearL l f).2 := by
  unfold p_ref29_Of clearL
  obtain ⟨q, h⟩ := rof_l f l hn _ (rcheck_p hn hs) l.length 0 fuel [] (by omega) (by have := fuel_pos; omega) (Nat.le_refl _)
  rw [show ((0 : Int)) = ((0 : Nat) : Int) from rfl, h, List.drop_zero]
  simp only [Option.bind_some, List.nil_append]
  have z0 : ((0 : Nat) : Int) = 0 := rfl
  rw [z0]
  split <;> rfl
theorem rhas_l (f t : ByteArray) (rows : List AR) (hn : rows.length ≤ 1000) (c : Int) (hc : p_ref29_Check rows = some c) : ∀ (n k F : Nat), k + n = rows.length → n < F →
    ∃ q, p_ref29_Has_l1 rows f t F k = some (if c = 0 ∧ (rows.drop k).any (isA f t) = true then .inl true else .inr q)
  | 0, k, F + 1, hk, hF => by
    have e : rows.drop k = [] := List.drop_of_length_le (by omega)
    refine ⟨k, ?_⟩
    rw [p_ref29_Has_l1, lt_ff (by omega), e]; simp
  | n + 1, k, F + 1, hk, hF => by
    have hlt : k < rows.length := by omega
    by_cases h : c = 0
    · subst h
      obtain ⟨q, ih⟩ := rhas_l f t rows hn 0 hc n (k + 1) F (by omega) (by omega)
      refine ⟨q, ?_⟩
      rw [p_ref29_Has_l1, lt_tt hlt, at_lt hlt, drop_at hlt]
      simp only [cond_true, Option.bind_some, hc, beq_self_eq_true]
      rw [w64_succ (by omega), List.any_cons, ih]
      unfold isA
      cases (rows[k].From.toList == f.toList) with
      | false => simp
      | true =>
        cases (rows[k].To.toList == t.toList) with
        | false => simp
        | true => simp
    · refine ⟨k, ?_⟩
      have : (c == 0) = false := by simpa using h
      rw [p_ref29_Has_l1, lt_tt hlt]
      simp only [cond_true, Option.bind_some, hc, this, cond_false, h]
      simp
theorem rhas_p {l : List AR} (hn : l.length ≤ 1000) (hs : ∀ a ∈ l, smallA a) (f t : ByteArray) : p_ref29_Has l f t = some (delL l f t).2 := by
  unfold p_ref29_Has delL
  obtain ⟨q, h⟩ := rhas_l f t l hn _ (rcheck_p hn hs) l.length 0 fuel (by omega) (by have := fuel_pos; omega)
  rw [show ((0 : Int)) = ((0 : Nat) : Int) from rfl, h, List.drop_zero]
  have z0 : ((0 : Nat) : Int) = 0 := rfl
  simp only [z0]
  by_cases hc : chkA l = 0
  · cases ha : l.any (isA f t) <;> simp [hc]
  · simp [hc]
theorem same_eq (a b : List AR) : ∀ (n : Nat) (y : Int), p_slices_Equal_dirs_State_dirs_Arrow__l1 a b a.length n y = p_ref29_Same_l1 a b n y
  | 0, y => rfl
  | n + 1, y => by
    rw [p_slices_Equal_dirs_State_dirs_Arrow__l1, p_ref29_Same_l1]
    simp only [same_eq a b n]
theorem same_tot (a b : List AR) (hn : a.length ≤ 1000) (he : b.length = a.length) : ∀ (n k F : Nat), k + n = a.length → n < F → ∃ r, p_ref29_Same_l1 a b F k = some r
  | 0, k, F + 1, hk, hF => by
    rw [p_ref29_Same_l1, lt_ff (by omega)]; exact ⟨_, rfl⟩
  | n + 1, k, F + 1, hk, hF => by
    have hlt : k < a.length := by omega
    rw [p_ref29_Same_l1, lt_tt hlt, at_lt hlt, at_lt (show k < b.length by omega)]
    simp only [cond_true, Option.bind_some]
    rw [w64_succ (by omega)]
    obtain ⟨r, ih⟩ := same_tot a b hn he n (k + 1) F (by omega) (by omega)
    cases (a[k].From.toList == b[k].From.toList && (a[k].To.toList == b[k].To.toList && true)) with
    | true => exact ⟨r, ih⟩
    | false => exact ⟨_, rfl⟩
theorem same_both (a b : List AR) (hn : a.length ≤ 1000) : ∃ v, p_dirs_Same a b = some v ∧ p_ref29_Same a b = some v := by
  unfold p_dirs_Same p_slices_Equal_dirs_State_dirs_Arrow_ p_ref29_Same
  by_cases he : a.length = b.length
  · have h : ((a.length : Int) != (b.length : Int)) = false := by simp [he]
    rw [h]
    simp only [cond_false]
    obtain ⟨r, hr⟩ := same_tot a b hn he.symm a.length 0 fuel (by omega) (by have := fuel_pos; omega)
    have z0 : ((0 : Nat) : Int) = 0 := rfl
    rw [z0] at hr
    rw [same_eq, hr]
    cases r <;> exact ⟨_, rfl, rfl⟩
  · have h : ((a.length : Int) != (b.length : Int)) = true := by simp; omega
    rw [h]; exact ⟨_, rfl, rfl⟩
theorem same_l (a : List AR) (hn : a.length ≤ 1000) : ∀ (n k F : Nat), k + n = a.length → n < F → p_ref29_Same_l1 a a F k = some (.inr (a.length : Int))
  | 0, k, F + 1, hk, hF => by
    have : k = a.length := by omega
    rw [p_ref29_Same_l1, lt_ff (by omega), this]; rfl
  | n + 1, k, F + 1, hk, hF => by
    have hlt : k < a.length := by omega
    rw [p_ref29_Same_l1, lt_tt hlt, at_lt hlt]
    simp only [cond_true, Option.bind_some, beq_self_eq_true, Bool.and_self]
    rw [w64_succ (by omega)]
    exact same_l a hn n (k + 1) F (by omega) (by omega)
theorem rsame_p (a : List AR) (hn : a.length ≤ 1000) : p_ref29_Same a a = some true := by
  unfold p_ref29_Same
  have := same_l a hn a.length 0 fuel (by omega) (by have := fuel_pos; omega)
  have z0 : ((0 : Nat) : Int) = 0 := rfl
  rw [z0] at this
  simp [this]
theorem same_p (a : List AR) (hn : a.length ≤ 1000) : p_dirs_Same a a = some true := by
  obtain ⟨v, h1, h2⟩ := same_both a a hn
  rw [rsame_p a hn] at h2
  cases h2; exact h1
theorem texts_l (a : List ByteArray) (hn : a.length ≤ 1000) : ∀ (n k F : Nat), k + n = a.length → n < F → p_ref01_SameTexts_l1 a a F k = some (.inr (a.length : Int))
  | 0, k, F + 1, hk, hF => by
    have : k = a.length := by omega
    rw [p_ref01_SameTexts_l1, lt_ff (by omega), this]; rfl
  | n + 1, k, F + 1, hk, hF => by
    have hlt : k < a.length := by omega
    rw [p_ref01_SameTexts_l1, lt_tt hlt, at_lt hlt]
    simp only [cond_true, Option.bind_some, beq_self_eq_true]
    rw [w64_succ (by omega)]
    exact texts_l a hn n (k + 1) F (by omega) (by omega)
theorem texts_p (a : List ByteArray) (hn : a.length ≤ 1000) : p_ref01_SameTexts a a = some true := by
  unfold p_ref01_SameTexts
  have := texts_l a hn a.length 0 fuel (by omega) (by have := fuel_pos; omega)
  have z0 : ((0 : Nat) : Int) = 0 := rfl
  rw [z0] at this
  simp [this]
theorem own29_l (l : List AR) (hn : l.length ≤ 1000) : ∀ (n k F : Nat) (acc : List AR), k + n = l.length → n < F → acc.length ≤ k → p_law29_own_l1 l F acc k = some (acc ++ l.drop k, (l.length : Int))
  | 0, k, F + 1, acc, hk, hF, ha => by
    have e : l.drop k = [] := List.drop_of_length_le (by omega)
    have : k = l.length := by omega
    rw [p_law29_own_l1, lt_ff (by omega), e, this]; simp
  | n + 1, k, F + 1, acc, hk, hF, ha => by
    have hlt : k < l.length := by omega
    rw [p_law29_own_l1, lt_tt hlt, at_lt hlt, drop_at hlt]
    simp only [cond_true, Option.bind_some]
    rw [app_ok (by simp; omega), w64_succ (by omega)]
    simp only [Option.bind_some]
    rw [own29_l l hn n (k + 1) F _ (by omega) (by omega) (by simp; omega)]
    simp only [List.append_assoc]; rfl
theorem own29_p (l : List AR) (hn : l.length ≤ 1000) : p_law29_own l = some l := by
  unfold p_law29_own
  have := own29_l l hn l.length 0 fuel [] (by omega) (by have := fuel_pos; omega) (Nat.le_refl _)
  have z0 : ((0 : Nat) : Int) = 0 := rfl
  rw [z0, List.drop_zero] at this
  rw [this]; rfl
def shortA (a : AR) : Bool := decide (a.From.size ≤ 100) && decide (a.To.size ≤ 100)
theorem light29_l (l : List AR) (hn : l.length ≤ 1000) : ∀ (n k F : Nat), k + n = l.length → n < F → p_ref29_Light_l1 l F k = some (if (l.drop k).all shortA = true then .inr (l.length : Int) else .inl false)
  | 0, k, F + 1, hk, hF => by
    have e : l.drop k = [] := List.drop_of_length_le (by omega)
    have : k = l.length := by omega
    rw [p_ref29_Light_l1, lt_ff (by omega), e, this]; rfl
  | n + 1, k, F + 1, hk, hF => by
    have hlt : k < l.length := by omega
    rw [p_ref29_Light_l1, lt_tt hlt, at_lt hlt, drop_at hlt, List.all_cons]
    simp only [cond_true, Option.bind_some]
    rw [w64_succ (by omega), light29_l l hn n (k + 1) F (by omega) (by omega)]
    unfold shortA
    by_cases h1 : l[k].From.size ≤ 100
    · rw [decide_eq_false (show ¬ (100 : Int) < (l[k].From.size : Int) by omega), decide_eq_true h1]
      by_cases h2 : l[k].To.size ≤ 100
      · rw [decide_eq_false (show ¬ (100 : Int) < (l[k].To.size : Int) by omega), decide_eq_true h2]; simp
      · rw [decide_eq_true (show (100 : Int) < (l[k].To.size : Int) by omega), decide_eq_false h2]; simp
    · rw [decide_eq_true (show (100 : Int) < (l[k].From.size : Int) by omega), decide_eq_false h1]; simp
theorem light29_p (l : List AR) : p_ref29_Light l = some false ∨ (p_ref29_Light l = some true ∧ l.length ≤ 40 ∧ ∀ a ∈ l, a.From.size ≤ 100 ∧ a.To.size ≤ 100) := by
  unfold p_ref29_Light
  by_cases h : 40 < l.length
  · rw [decide_eq_true (show (40 : Int) < (l.length : Int) by omega)]; exact .inl rfl
  · rw [decide_eq_false (show ¬ (40 : Int) < (l.length : Int) by omega)]
    have hl := light29_l l (by omega) l.length 0 fuel (by omega) (by have := fuel_pos; omega)
    have z0 : ((0 : Nat) : Int) = 0 := rfl
    rw [z0, List.drop_zero] at hl
    rw [hl]
    cases ha : l.all shortA with
    | false => exact .inl rfl
    | true =>
      refine .inr ⟨rfl, by omega, fun a hm => ?_⟩
      have := List.all_eq_true.1 ha a hm
      simpa [shortA] using this
theorem small_of {l : List AR} (h : ∀ a ∈ l, a.From.size ≤ 100 ∧ a.To.size ≤ 100) : ∀ a ∈ l, smallA a := fun a ha => ⟨by have := (h a ha).1; omega, by have := (h a ha).2; omega⟩
theorem clear_len (l : List AR) (f : ByteArray) (hn : l.length ≤ 1000) : (clearL l f).2.length ≤ 1000 ∧ (clearL l f).1.length ≤ 1000 := by
  unfold clearL
  split
  · exact ⟨by rw [List.length_map]; exact Nat.le_trans (List.length_filter_le _ _) hn, Nat.le_trans (List.length_filter_le _ _) hn⟩
  · exact ⟨Nat.zero_le _, hn⟩
theorem keys_len (l : List AR) (t : ByteArray) (hn : l.length ≤ 1000) : (keysL l t).length ≤ 1000 := by
  unfold keysL
  split
  · rw [List.length_map]; exact Nat.le_trans (List.length_filter_le _ _) hn
  · exact Nat.zero_le _
end Go.Proofs.YthmgficajgedlaaGreat
/- The arrows' order; what Add leaves. -/
namespace Go.Proofs.YthmgficajgedlaaGreat
open Go.RowKit
theorem ord_anti (a b : AR) : ordA b a = - ordA a b := by
  unfold ordA
  rw [cmp_anti a.From.data.toList b.From.data.toList, cmp_anti a.To.data.toList b.To.data.toList]
  by_cases h : Lib.compareBytes a.From.data.toList b.From.data.toList = 0
  · rw [if_neg (by omega), if_neg (by omega)]
  · rw [if_pos (by omega), if_pos (by omega)]
theorem bytes_ext {a b : ByteArray} (h : a.data.toList = b.data.toList) : a = b := by cases a; cases b; congr 1; exact Array.ext' h
theorem ord_eq {a b : AR} (h : ordA a b = 0) : a = b := by
  unfold ordA at h
  split at h
  · rename_i h1; exact absurd h h1
  · rename_i h1
    have e1 := bytes_ext (cmp_eq0 (Classical.not_not.1 h1))
    have e2 := bytes_ext (cmp_eq0 h)
    cases a; cases b; simp only at e1 e2; rw [e1, e2]
theorem ord_refl (a : AR) : ordA a a = 0 := by unfold ordA; rw [cmp_refl, cmp_refl]; simp
theorem ord_trans {a b c : AR} (h1 : ordA a b < 0) (h2 : ordA b c < 0) : ordA a c < 0 := by
  unfold ordA at *
  by_cases x : Lib.compareBytes a.From.data.toList b.From.data.toList = 0
  · have e := cmp_eq0 x
    rw [e]
    rw [if_neg (by omega)] at h1
    by_cases y : Lib.compareBytes b.From.data.toList c.From.data.toList = 0
    · rw [if_neg (by omega)] at h2 ⊢
      exact cmp_trans h1 h2
    · rw [if_pos y] at h2 ⊢; exact h2
  · rw [if_pos x] at h1
    by_cases y : Lib.compareBytes b.From.data.toList c.From.data.toList = 0
    · have e := cmp_eq0 y
      rw [← e, if_pos x]; exact h1
    · rw [if_pos y] at h2
      have h3 := cmp_trans h1 h2
      rw [if_pos (by omega)]; exact h3
theorem ris_pw : ∀ {l : List AR}, risL l = true ↔ l.Pairwise (fun a b => ordA a b < 0)
  | [] => by simp [risL]
  | [a] => by simp [risL]
  | a :: b :: l => by
    have ih := ris_pw (l := b :: l)
    have e : risL (a :: b :: l) = (lessA a b && risL (b :: l)) := rfl
    rw [e, Bool.and_eq_true, ih, List.pairwise_cons (a := a)]
    unfold lessA
    rw [decide_eq_true_iff]
    constructor
    · rintro ⟨h1, h2⟩
      refine ⟨fun x hx => ?_, h2⟩
      rcases List.mem_cons.1 hx with rfl | hx
      · exact h1
      · exact ord_trans h1 ((List.pairwise_cons.1 h2).1 x hx)
    · rintro ⟨h1, h2⟩
      exact ⟨h1 b (by simp), h2⟩
instance decAR : DecidableEq Ref29Arrow := fun a b =>
  if h : a.From.data.toList = b.From.data.toList ∧ a.To.data.toList = b.To.data.toList then isTrue (by cases a; cases b; simp only at h; rw [bytes_ext h.1, bytes_ext h.2])
  else isFalse (fun e => h (by rw [e]; exact ⟨rfl, rfl⟩))
structure GoodA (l : List AR) : Prop where
  len : l.length ≤ 32
  fine : ∀ a ∈ l, fineA a = true
  ord : l.Pairwise (fun a b => ordA a b < 0)
theorem chk_good {l : List AR} : chkA l = 0 ↔ GoodA l := by
  unfold chkA
  constructor
  · intro h
    split at h
    · omega
    · split at h
      · omega
      · split at h
        · rename_i h1 h2 h3
          refine ⟨by omega, fun a ha => ?_, ris_pw.1 h3⟩
          have h2' : l.any (fun a => !fineA a) = false := by simpa using h2
          have := List.any_eq_false.1 h2' a ha
          simpa using this
        · omega
  · intro h
    have h1 := h.len
    have h2 : l.any (fun a => !fineA a) = false := List.any_eq_false.2 fun a ha => by simp [h.fine a ha]
    rw [if_neg (by omega), h2, if_neg (by simp), if_pos (ris_pw.2 h.ord)]
def posA (l : List AR) (a : AR) : Nat := l.findIdx fun x => decide (0 ≤ ordA x a)
theorem pos_le (l : List AR) (a : AR) : posA l a ≤ l.length := List.findIdx_le_length
theorem pos_lt {l : List AR} {a : AR} {i : Nat} (hi : i < l.length) (h : i < posA l a) : ordA l[i] a < 0 := by
  have := List.not_of_lt_findIdx h
  simpa using this
theorem pos_ge {l : List AR} (hg : l.Pairwise (fun a b => ordA a b < 0)) {a : AR} {i : Nat} (hi : i < l.length) (h : posA l a ≤ i) : 0 ≤ ordA l[i] a := by
  have hp : posA l a < l.length := by omega
  have h0 : 0 ≤ ordA l[posA l a] a := by
    have := List.findIdx_getElem (xs := l) (p := fun x => decide (0 ≤ ordA x a)) (w := hp)
    exact of_decide_eq_true this
  rcases Nat.lt_or_ge (posA l a) i with g | g
  · have h1 := List.pairwise_iff_getElem.1 hg _ _ hp hi g
    by_cases h2 : ordA l[i] a < 0
    · have := ord_trans h1 h2; omega
    · omega
  · have e : posA l a = i := by omega
    simpa only [e] using h0
theorem searchA_l {g : AR → AR → Option Int} {l : List AR} {a : AR} (hq : ∀ x, g x a = some (ordA x a)) (hn : l.length ≤ 1000) (hg : l.Pairwise (fun a b => ordA a b < 0)) : ∀ (d i j F : Nat), i + d = j → j ≤ l.length → i ≤ posA l a → posA l a ≤ j → d < F →
    p_slices_BinarySearchFunc_dirs_State_dirs_Arrow_dirs_Arrow__l1 g l a F i j = some ((posA l a : Int), (posA l a : Int)) := by
  intro d
  induction d using Nat.strongRecOn with
  | ind d ih =>
    intro i j F hd hj h1 h2 hF
    obtain ⟨F, rfl⟩ : ∃ G, F = G + 1 := ⟨F - 1, by omega⟩
    rw [p_slices_BinarySearchFunc_dirs_State_dirs_Arrow_dirs_Arrow__l1]
    rcases Nat.lt_or_ge i j with hij | hij
    · rw [lt_tt hij, half_p (by omega), w64_succ (show (i + j) / 2 ≤ 1000000 by omega)]
      have hm : (i + j) / 2 < l.length := by omega
      simp only [cond_true, at_lt hm, Option.bind_some, hq]
      rcases Nat.lt_or_ge ((i + j) / 2) (posA l a) with hlt | hge
      · rw [decide_eq_true (pos_lt hm hlt), cond_true]
        exact ih (j - ((i + j) / 2 + 1)) (by omega) _ _ F (by omega) hj (by omega) h2 (by omega)
      · have := pos_ge hg hm hge
        rw [decide_eq_false (by omega), cond_false]
        exact ih ((i + j) / 2 - i) (by omega) _ _ F (by omega) (by omega) h1 hge (by omega)
    · rw [lt_ff hij]
      have e1 : i = posA l a := by omega
      have e2 : j = posA l a := by omega
      rw [cond_false, ← e2, ← (show i = j by omega)]
theorem found_p {l : List AR} {a : AR} (hn : l.length ≤ 1000) (hg : l.Pairwise (fun a b => ordA a b < 0)) : p_slices_BinarySearchFunc_dirs_State_dirs_Arrow_dirs_Arrow_ l a (fun x0 x1 => p_dirs_order x0 x1) = some ((posA l a : Int), decide (a ∈ l)) := by
  have hl := searchA_l (g := fun x0 x1 => p_dirs_order x0 x1) (a := a) (fun x => order_p x a) hn hg l.length 0 l.length fuel (by omega) (Nat.le_refl _) (Nat.zero_le _) (pos_le l a) (by have := fuel_pos; omega)
  unfold p_slices_BinarySearchFunc_dirs_State_dirs_Arrow_dirs_Arrow_
  rw [show ((0 : Int)) = ((0 : Nat) : Int) from rfl, hl]
  simp only [Option.bind_some]
  rcases Nat.lt_or_ge (posA l a) l.length with h | h
  · rw [lt_tt h, at_lt h]
    simp only [cond_true, Option.bind_some, order_p]
    congr 2
    by_cases hm : a ∈ l
    · rw [decide_eq_true hm]
      obtain ⟨i, hi, rfl⟩ := List.getElem_of_mem hm
      have e : posA l l[i] = i := by
        rcases Nat.lt_trichotomy i (posA l l[i]) with g | g | g
        · have := pos_lt hi g; rw [ord_refl] at this; omega
        · exact g.symm
        · have h1 := List.pairwise_iff_getElem.1 hg _ _ h hi g
          have h2 := pos_ge hg h (Nat.le_refl (posA l l[i]))
          omega
      have : ordA l[posA l l[i]] l[i] = 0 := by
        have e2 : l[posA l l[i]] = l[i] := by simp only [e]
        rw [e2, ord_refl]
      rw [this]; rfl
    · rw [decide_eq_false hm]
      have : ordA l[posA l a] a ≠ 0 := fun e => hm (by rw [← ord_eq e]; exact List.getElem_mem h)
      simpa using this
  · rw [lt_ff h]
    have hm : a ∉ l := fun hm => by
      obtain ⟨i, hi, rfl⟩ := List.getElem_of_mem hm
      have := pos_lt (a := l[i]) hi (by omega)
      rw [ord_refl] at this; omega
    rw [decide_eq_false hm]; rfl
def putA (l : List AR) (a : AR) : List AR := l.take (posA l a) ++ a :: l.drop (posA l a)
def addL (l : List AR) (a : AR) : List AR × Int := if chkA l ≠ 0 then (l, chkA l) else if fineA a = false then (l, 11) else if a ∈ l then (l, 0) else if l.length = 32 then (l, 7) else (putA l a, 0)
theorem add_p {l : List AR} (hn : l.length ≤ 1000) (hs : ∀ a ∈ l, smallA a) {f t : ByteArray} (ha : smallA ⟨f, t⟩) : p_dirs_Add l f t = some (addL l ⟨f, t⟩) := by
  unfold p_dirs_Add addL
  rw [check_p hn hs, wrong_p ha]
  simp only [Option.bind_some]
  by_cases hc : chkA l = 0
  · rw [if_neg (by simpa using hc), hc]
    have hg := chk_good.1 hc
    simp only [bne_self_eq_false, cond_false]
    cases hf : fineA ⟨f, t⟩ with
    | false => rfl
    | true =>
      simp only [Bool.not_true, cond_false, Bool.true_eq_false, if_false]
      rw [found_p hn hg.ord]
      simp only [Option.bind_some]
      by_cases hm : (⟨f, t⟩ : AR) ∈ l
      · rw [decide_eq_true hm, if_pos hm]; rfl
      · rw [decide_eq_false hm, if_neg hm, cond_false]
        by_cases h32 : l.length = 32
        · rw [if_pos h32, h32]; rfl
        · have : ((l.length : Int) == 32) = false := by simpa using (by omega : ¬ (l.length : Int) = 32)
          rw [this, if_neg h32, cond_false]
          have h1 := hg.len
          have hp := pos_le l ⟨f, t⟩
          have e1 : clone? l = some l := if_pos (by omega)
          have e2 : insAt? l (posA l ⟨f, t⟩ : Int) (⟨f, t⟩ : AR) = some (putA l ⟨f, t⟩) := by
            unfold insAt?
            rw [if_pos (by omega)]; rfl
          rw [e1]
          simp only [Option.bind_some]
          rw [e2]; rfl
  · have : (chkA l != 0) = true := by simpa using hc
    rw [if_pos hc, this]; rfl
theorem mem_put {l : List AR} {a x : AR} : x ∈ putA l a ↔ x = a ∨ x ∈ l := by
  unfold putA
  rw [List.mem_append, List.mem_cons]
  have : x ∈ l ↔ x ∈ l.take (posA l a) ∨ x ∈ l.drop (posA l a) := by rw [← List.mem_append, List.take_append_drop]
  rw [this]
  constructor
  · rintro (h | h | h) <;> simp [h]
  · rintro (h | h | h) <;> simp [h]
theorem put_good {l : List AR} {a : AR} (hg : GoodA l) (hf : fineA a = true) (hm : a ∉ l) (hl : l.length < 32) : GoodA (putA l a) where
  len := by unfold putA; simp; have := pos_le l a; omega
  fine x hx := by
    rcases mem_put.1 hx with rfl | hx
    · exact hf
    · exact hg.fine x hx
  ord := by
    unfold putA
    have hsp : (l.take (posA l a) ++ l.drop (posA l a)).Pairwise (fun a b => ordA a b < 0) := by rw [List.take_append_drop]; exact hg.ord
    obtain ⟨p1, p2, p3⟩ := List.pairwise_append.1 hsp
    have q1 : ∀ x ∈ l.take (posA l a), ordA x a < 0 := fun x hx => by
      obtain ⟨i, hi, rfl⟩ := List.getElem_of_mem hx
      rw [List.length_take] at hi
      rw [List.getElem_take]
      exact pos_lt (by omega) (by omega)
    have q2 : ∀ x ∈ l.drop (posA l a), ordA a x < 0 := fun x hx => by
      have hxl : x ∈ l := List.mem_of_mem_drop hx
      obtain ⟨i, hi, rfl⟩ := List.getElem_of_mem hx
      rw [List.length_drop] at hi
      have h0 := pos_ge hg.ord (a := a) (i := posA l a + i) (by omega) (by omega)
      rw [List.getElem_drop] at hxl ⊢
      have h1 : ordA l[posA l a + i] a ≠ 0 := fun e => hm (by rw [← ord_eq e]; exact hxl)
      have := ord_anti l[posA l a + i] a
      omega
    rw [List.pairwise_append, List.pairwise_cons]
    refine ⟨p1, ⟨q2, p2⟩, fun x hx y hy => ?_⟩
    rcases List.mem_cons.1 hy with rfl | hy
    · exact q1 x hx
    · exact p3 x hx y hy
theorem put_len (l : List AR) (a : AR) : (putA l a).length = l.length + 1 := by unfold putA; have := pos_le l a; simp; omega
theorem filter_put {l : List AR} {a : AR} (p : AR → Bool) (ha : p a = false) (hp : ∀ x ∈ l, p x = true) : (putA l a).filter p = l := by
  unfold putA
  rw [List.filter_append, List.filter_cons, ha, if_neg (by simp), ← List.filter_append, List.take_append_drop]
  exact List.filter_eq_self.2 hp
theorem filter_len (p : AR → Bool) : ∀ l : List AR, (l.filter (fun x => !p x)).length + (l.filter p).length = l.length
  | [] => rfl
  | a :: l => by
    have := filter_len p l
    simp only [List.filter_cons]
    cases p a <;> simp <;> omega
theorem eqT_ne {a b : ByteArray} (h : a ≠ b) : (a.toList == b.toList) = false := by
  cases hb : (a.toList == b.toList) with
  | false => rfl
  | true => exact absurd (eqT_iff.1 hb) h
theorem only_p {l : List AR} (hn : l.length ≤ 1000) (hs : ∀ a ∈ l, smallA a) (u t : ByteArray) : p_dirs_Only l u t = some (if chkA l = 0 then (l.filter (fun x => !(((splitE x.From).1.toList == u.toList) && (x.To.toList == t.toList))), ((l.filter (fun x => ((splitE x.From).1.toList == u.toList) && (x.To.toList == t.toList))).length : Int)) else (l, 0)) := by
  unfold p_dirs_Only
  rw [check_p hn hs]
  simp only [Option.bind_some]
  by_cases h : chkA l = 0
  · rw [if_pos h, h, without_p (f := fun x0 => p_dirs_Only_1 x0 u t) (fun x => ((splitE x.From).1.toList == u.toList) && (x.To.toList == t.toList)) hn (fun x hx => by
      unfold p_dirs_Only_1 p_dirs_Arrow_user
      rw [split_p (hs x hx).1]
      simp only [Option.bind_some]
      cases ((splitE x.From).1.toList == u.toList) <;> rfl)]
    simp only [bne_self_eq_false, cond_false, Option.bind_some]
  · rw [if_neg h, chk_ne h]; rfl
end Go.Proofs.YthmgficajgedlaaGreat
/- DirsChanges in plain words. -/
namespace Go.Proofs.YthmgficajgedlaaGreat
open Go.RowKit
theorem mem_isA {l : List AR} {f t : ByteArray} : l.any (isA f t) = decide ((⟨f, t⟩ : AR) ∈ l) := by
  rw [Bool.eq_iff_iff, decide_eq_true_iff, List.any_eq_true]
  unfold isA
  constructor
  · rintro ⟨x, h1, h2⟩
    simp only [Bool.and_true, Bool.and_eq_true] at h2
    have e1 := eqT_iff.1 h2.1
    have e2 := eqT_iff.1 h2.2
    cases x; simp only at e1 e2; rw [← e1, ← e2]; exact h1
  · intro h
    exact ⟨_, h, by simp⟩
theorem radd_l (l : List AR) (a : AR) (hn : l.length ≤ 1000) : ∀ (n k F : Nat), k + n = l.length → n < F → p_ref29_Add_l1 l a F k = some ((k + (l.drop k).findIdx (fun x => decide (0 ≤ ordA x a)) : Nat) : Int)
  | 0, k, F + 1, hk, hF => by
    have e : l.drop k = [] := List.drop_of_length_le (by omega)
    rw [p_ref29_Add_l1, lt_ff (by omega), e]; rfl
  | n + 1, k, F + 1, hk, hF => by
    have hlt : k < l.length := by omega
    rw [p_ref29_Add_l1, lt_tt hlt, at_lt hlt, drop_at hlt, List.findIdx_cons]
    simp only [cond_true, Option.bind_some, less_p]
    unfold lessA
    by_cases h : ordA l[k] a < 0
    · rw [decide_eq_true h, decide_eq_false (show ¬ 0 ≤ ordA l[k] a by omega)]
      simp only [cond_true, cond_false]
      rw [w64_succ (by omega), radd_l l a hn n (k + 1) F (by omega) (by omega)]
      congr 2; omega
    · rw [decide_eq_false h, decide_eq_true (show 0 ≤ ordA l[k] a by omega)]; rfl
theorem radd_p {l : List AR} (hn : l.length ≤ 1000) (hs : ∀ a ∈ l, smallA a) {f t : ByteArray} (ha : smallA ⟨f, t⟩) : p_ref29_Add l f t = some (addL l ⟨f, t⟩) := by
  unfold p_ref29_Add addL
  rw [rcheck_p hn hs, fine_p ha, rhas_p hn hs]
  simp only [Option.bind_some]
  by_cases hc : chkA l = 0
  · rw [if_neg (by simpa using hc), hc]
    have hg := chk_good.1 hc
    simp only [bne_self_eq_false, cond_false]
    cases hf : fineA ⟨f, t⟩ with
    | false => rfl
    | true =>
      simp only [cond_true, Bool.true_eq_false, if_false]
      have e0 : (delL l f t).2 = decide ((⟨f, t⟩ : AR) ∈ l) := by unfold delL; rw [if_pos hc]; exact mem_isA
      rw [e0]
      by_cases hm : (⟨f, t⟩ : AR) ∈ l
      · rw [decide_eq_true hm, if_pos hm]; rfl
      · rw [decide_eq_false hm, if_neg hm, cond_false]
        have h1 := hg.len
        by_cases h32 : l.length = 32
        · rw [if_pos h32, h32]; rfl
        · rw [decide_eq_false (show ¬ (32 : Int) ≤ (l.length : Int) by omega), if_neg h32, cond_false]
          have hl := radd_l l ⟨f, t⟩ hn l.length 0 fuel (by omega) (by have := fuel_pos; omega)
          have z0 : ((0 : Nat) : Int) = 0 := rfl
          rw [z0, List.drop_zero, Nat.zero_add] at hl
          change p_ref29_Add_l1 l ⟨f, t⟩ fuel 0 = some ((posA l ⟨f, t⟩ : Nat) : Int) at hl
          have hp := pos_le l ⟨f, t⟩
          rw [hl]
          simp only [Option.bind_some]
          rw [cutTo hp, cutFrom hp]
          simp only [Option.bind_some]
          rw [app_ok (by simp; omega)]
          simp only [Option.bind_some]
          rw [app_ok (by simp; omega)]
          simp only [Option.bind_some]
          rw [app_ok (by simp; omega)]
          simp only [Option.bind_some, List.nil_append]
          unfold putA
          rw [List.append_assoc]; rfl
  · have : (chkA l != 0) = true := by simpa using hc
    rw [if_pos hc, this]; rfl
theorem rdel_l (f t : ByteArray) (l : List AR) (hn : l.length ≤ 1000) : ∀ (n k F : Nat) (out : List AR), k + n = l.length → n < F → out.length ≤ k → p_ref29_Del_l1 l f t F out k = some (out ++ (l.drop k).filter (fun x => !isA f t x), (l.length : Int))
  | 0, k, F + 1, out, hk, hF, h1 => by
    have e : l.drop k = [] := List.drop_of_length_le (by omega)
    have : k = l.length := by omega
    rw [p_ref29_Del_l1, lt_ff (by omega), e, this]; simp
  | n + 1, k, F + 1, out, hk, hF, h1 => by
    have hlt : k < l.length := by omega
    rw [p_ref29_Del_l1, lt_tt hlt, at_lt hlt, drop_at hlt, List.filter_cons]
    simp only [cond_true, Option.bind_some]
    rw [app_ok (by simp; omega), w64_succ (by omega)]
    simp only [Option.bind_some]
    rw [rdel_l f t l hn n (k + 1) F out (by omega) (by omega) (by omega), rdel_l f t l hn n (k + 1) F (out ++ [l[k]]) (by omega) (by omega) (by simp; omega)]
    unfold isA
    cases h1 : (l[k].From.toList == f.toList) <;> cases h2 : (l[k].To.toList == t.toList) <;> simp only [h1, h2, cond_true, cond_false, Bool.and_true, Bool.and_false, Bool.and_self, Bool.not_true, Bool.not_false, if_true, Bool.false_eq_true, if_false, List.append_assoc, List.singleton_append]
theorem no_any {l : List AR} {p : AR → Bool} (h : l.any p = false) : l.filter (fun x => !p x) = l := List.filter_eq_self.2 fun x hx => by
  have := List.any_eq_false.1 h x hx
  simpa using this
theorem rdel_p {l : List AR} (hn : l.length ≤ 1000) (hs : ∀ a ∈ l, smallA a) (f t : ByteArray) : p_ref29_Del l f t = some (delL l f t) := by
  unfold p_ref29_Del
  rw [rhas_p hn hs]
  have hl := rdel_l f t l hn l.length 0 fuel [] (by omega) (by have := fuel_pos; omega) (Nat.le_refl _)
  have z0 : ((0 : Nat) : Int) = 0 := rfl
  rw [z0, List.drop_zero, List.nil_append] at hl
  rw [hl]
  simp only [Option.bind_some]
  unfold delL
  by_cases hc : chkA l = 0
  · rw [if_pos hc]
    simp only
    cases h : l.any (isA f t) with
    | true => rfl
    | false => rw [no_any h]; rfl
  · rw [if_neg hc]; rfl
theorem rclear_l (f : ByteArray) (l : List AR) (hn : l.length ≤ 1000) : ∀ (n k F : Nat) (out : List AR), k + n = l.length → n < F → out.length ≤ k → p_ref29_Clear_l1 l f F out k = some (out ++ (l.drop k).filter (fun x => !fromA f x), (l.length : Int))
  | 0, k, F + 1, out, hk, hF, h1 => by
    have e : l.drop k = [] := List.drop_of_length_le (by omega)
    have : k = l.length := by omega
    rw [p_ref29_Clear_l1, lt_ff (by omega), e, this]; simp
  | n + 1, k, F + 1, out, hk, hF, h1 => by
    have hlt : k < l.length := by omega
    rw [p_ref29_Clear_l1, lt_tt hlt, at_lt hlt, drop_at hlt, List.filter_cons]
    simp only [cond_true, Option.bind_some]
    rw [app_ok (by simp; omega), w64_succ (by omega)]
    simp only [Option.bind_some]
    rw [rclear_l f l hn n (k + 1) F out (by omega) (by omega) (by omega), rclear_l f l hn n (k + 1) F (out ++ [l[k]]) (by omega) (by omega) (by simp; omega)]
    unfold fromA
    cases h1 : (l[k].From.toList == f.toList) <;> simp only [h1, cond_true, cond_false, Bool.not_true, Bool.not_false, if_true, Bool.false_eq_true, if_false, List.append_assoc, List.singleton_append]
theorem rclear_p {l : List AR} (hn : l.length ≤ 1000) (hs : ∀ a ∈ l, smallA a) (f : ByteArray) : p_ref29_Clear l f = some (clearL l f) := by
  unfold p_ref29_Clear
  rw [rcheck_p hn hs, rof_p hn hs]
  have hl := rclear_l f l hn l.length 0 fuel [] (by omega) (by have := fuel_pos; omega) (Nat.le_refl _)
  have z0 : ((0 : Nat) : Int) = 0 := rfl
  rw [z0, List.drop_zero, List.nil_append] at hl
  rw [hl]
  simp only [Option.bind_some]
  unfold clearL
  by_cases hc : chkA l = 0
  · rw [if_pos hc, hc]; rfl
  · rw [if_neg hc, chk_ne hc]; rfl
def onlyB (u t : ByteArray) (x : AR) : Bool := ((splitE x.From).1.toList == u.toList) && (x.To.toList == t.toList)
def onlyL (l : List AR) (u t : ByteArray) : List AR × Int := if chkA l = 0 then (l.filter (fun x => !onlyB u t x), ((l.filter (onlyB u t)).length : Int)) else (l, 0)
theorem onlyL_p {l : List AR} (hn : l.length ≤ 1000) (hs : ∀ a ∈ l, smallA a) (u t : ByteArray) : p_dirs_Only l u t = some (onlyL l u t) := only_p hn hs u t
theorem ronly_l (u t : ByteArray) (l : List AR) (hn : l.length ≤ 1000) (hs : ∀ a ∈ l, smallA a) : ∀ (n k F : Nat) (out : List AR), k + n = l.length → n < F → out.length ≤ k → p_ref29_Only_l1 l u t F out k = some (out ++ (l.drop k).filter (fun x => !onlyB u t x), (l.length : Int))
  | 0, k, F + 1, out, hk, hF, h1 => by
    have e : l.drop k = [] := List.drop_of_length_le (by omega)
    have : k = l.length := by omega
    rw [p_ref29_Only_l1, lt_ff (by omega), e, this]; simp
  | n + 1, k, F + 1, out, hk, hF, h1 => by
    have hlt : k < l.length := by omega
    rw [p_ref29_Only_l1, lt_tt hlt, at_lt hlt, drop_at hlt, List.filter_cons]
    simp only [cond_true, Option.bind_some, rsplit_p (hs _ (List.getElem_mem hlt)).1]
    rw [app_ok (by simp; omega), w64_succ (by omega)]
    simp only [Option.bind_some]
    rw [ronly_l u t l hn hs n (k + 1) F out (by omega) (by omega) (by omega), ronly_l u t l hn hs n (k + 1) F (out ++ [l[k]]) (by omega) (by omega) (by simp; omega)]
    unfold onlyB
    cases h1 : ((splitE l[k].From).1.toList == u.toList) <;> cases h2 : (l[k].To.toList == t.toList) <;> simp only [h1, h2, cond_true, cond_false, Bool.and_true, Bool.and_false, Bool.and_self, Bool.not_true, Bool.not_false, if_true, Bool.false_eq_true, if_false, List.append_assoc, List.singleton_append]
theorem ronly_p {l : List AR} (hn : l.length ≤ 1000) (hs : ∀ a ∈ l, smallA a) (u t : ByteArray) : p_ref29_Only l u t = some (onlyL l u t) := by
  unfold p_ref29_Only
  rw [rcheck_p hn hs]
  have hl := ronly_l u t l hn hs l.length 0 fuel [] (by omega) (by have := fuel_pos; omega) (Nat.le_refl _)
  have z0 : ((0 : Nat) : Int) = 0 := rfl
  rw [z0, List.drop_zero, List.nil_append] at hl
  rw [hl]
  simp only [Option.bind_some]
  unfold onlyL
  by_cases hc : chkA l = 0
  · rw [if_pos hc, hc]
    simp only [bne_self_eq_false, cond_false]
    congr 2
    have := filter_len (onlyB u t) l
    rw [w64_id (by omega)]
    omega
  · rw [if_neg hc, chk_ne hc]; rfl
theorem back29_l (l : List AR) (hn : l.length ≤ 1000) : ∀ (n k F : Nat) (acc : List AR), k + n = l.length → n < F → acc.length ≤ k → p_law29_Back_l1 l F acc k = some (acc ++ l.drop k, (l.length : Int))
  | 0, k, F + 1, acc, hk, hF, ha => by
    have e : l.drop k = [] := List.drop_of_length_le (by omega)
    have : k = l.length := by omega
    rw [p_law29_Back_l1, lt_ff (by omega), e, this]; simp
  | n + 1, k, F + 1, acc, hk, hF, ha => by
    have hlt : k < l.length := by omega
    rw [p_law29_Back_l1, lt_tt hlt, at_lt hlt, drop_at hlt]
    simp only [cond_true, Option.bind_some]
    rw [app_ok (by simp; omega), w64_succ (by omega)]
    simp only [Option.bind_some]
    rw [back29_l l hn n (k + 1) F _ (by omega) (by omega) (by simp; omega)]
    simp only [List.append_assoc]; rfl
theorem back29_p (l : List AR) (hn : l.length ≤ 1000) : p_law29_Back l = some l := by
  unfold p_law29_Back
  have := back29_l l hn l.length 0 fuel [] (by omega) (by have := fuel_pos; omega) (Nat.le_refl _)
  have z0 : ((0 : Nat) : Int) = 0 := rfl
  rw [z0, List.drop_zero] at this
  rw [this]; rfl
theorem add_len (l : List AR) (a : AR) (hn : l.length ≤ 100) : (addL l a).1.length ≤ 1000 := by
  unfold addL
  repeat' split
  all_goals first | (rw [put_len]; omega) | (show l.length ≤ 1000; omega)
theorem del_len (l : List AR) (f t : ByteArray) (hn : l.length ≤ 1000) : (delL l f t).1.length ≤ 1000 := by
  unfold delL
  split
  · exact Nat.le_trans (List.length_filter_le _ _) hn
  · exact hn
theorem only_len (l : List AR) (f t : ByteArray) (hn : l.length ≤ 1000) : (onlyL l f t).1.length ≤ 1000 := by
  unfold onlyL
  split
  · exact Nat.le_trans (List.length_filter_le _ _) hn
  · exact hn
theorem dirsChanges_pure (st : List AR) (f t : ByteArray) : p_law29_DirsChanges st f t = some true := by
  unfold p_law29_DirsChanges
  rcases light29_p st with hl | ⟨hl, hn, hs⟩
  · rw [hl, aw29]; rfl
  rw [hl]
  simp only [Option.bind_some, cond_true]
  by_cases h1 : f.size ≤ 100
  · rw [decide_eq_false (show ¬ (100 : Int) < (f.size : Int) by omega)]
    by_cases h2 : t.size ≤ 100
    · rw [decide_eq_false (show ¬ (100 : Int) < (t.size : Int) by omega)]
      have hsm := small_of hs
      have hn' : st.length ≤ 1000 := by omega
      have ha : smallA ⟨f, t⟩ := ⟨by show f.size ≤ _; omega, by show t.size ≤ _; omega⟩
      simp only [cond_false, own29_p st hn', Option.bind_some, add_p hn' hsm ha, radd_p hn' hsm ha, del_p hn' hsm, rdel_p hn' hsm, clear_p hn' hsm, rclear_p hn' hsm, onlyL_p hn' hsm, ronly_p hn' hsm, back29_p _ (add_len st ⟨f, t⟩ (by omega)), rsame_p _ (add_len st ⟨f, t⟩ (by omega)), cond_true, beq_self_eq_true,
        back29_p _ (del_len st f t hn'), rsame_p _ (del_len st f t hn'), back29_p _ (clear_len st f hn').2, rsame_p _ (clear_len st f hn').2, texts_p _ (clear_len st f hn').1, back29_p _ (only_len st f t hn'), rsame_p _ (only_len st f t hn'), back29_p st hn', rsame_p st hn', aw29]
    · rw [decide_eq_true (show (100 : Int) < (t.size : Int) by omega), aw29]; rfl
  · rw [decide_eq_true (show (100 : Int) < (f.size : Int) by omega), aw29]; rfl
end Go.Proofs.YthmgficajgedlaaGreat
/- That the program's functions yield what the plain ones tell (written by a program of mine). -/
namespace Go.Proofs.YthmgficajgedlaaGreat
open Go.RowKit
def gc23 : BCode := (.seq (.reg 0 [⟨(some 2), .mv (.const (.bool false)), none, 0⟩] none 0 []) (.seq (.seq (.reg 0 [⟨(some 4), .mv (.tmp 0), none, 0⟩, ⟨(some 5), .lens (.tmp 4), none, 0⟩, ⟨(some 6), .bin .gtr (.tmp 5) (.const (.int .i64 40)), none, 0⟩] none 0 []) (.cond (.tmp 6) (.seq (.reg 0 [⟨(some 2), .mv (.const (.bool false)), none, 0⟩] none 0 []) .ret) .skip)) (.seq (.seq (.reg 0 [⟨(some 3), .mv (.const (.int .i64 0)), none, 0⟩] none 0 []) (.block 0 (.loop (.seq (.seq (.reg 0 [⟨(some 7), .mv (.tmp 3), none, 0⟩, ⟨(some 8), .mv (.tmp 0), none, 0⟩, ⟨(some 9), .lens (.tmp 8), none, 0⟩, ⟨(some 10), .bin .lss (.tmp 7) (.tmp 9), none, 0⟩] none 0 []) (.cond (.tmp 10) .skip (.exit 0))) (.seq (.block 1 (.seq (.reg 0 [⟨(some 13), .mv (.tmp 0), none, 0⟩, ⟨(some 14), .mv (.tmp 3), none, 0⟩, ⟨(some 15), .ixs 2 (.tmp 13) (.tmp 14), none, 0⟩, ⟨(some 16), .fa 0 (.tmp 15), none, 0⟩, ⟨(some 17), .ld 1 false (.tmp 16), none, 0⟩, ⟨(some 18), .lent (.tmp 17), none, 0⟩, ⟨(some 19), .bin .gtr (.tmp 18) (.const (.int .i64 100)), none, 0⟩, ⟨(some 20), .mv (.tmp 19), none, 0⟩, ⟨(some 21), .mv (.tmp 0), (some (20, false)), 0⟩, ⟨(some 22), .mv (.tmp 3), (some (20, false)), 0⟩, ⟨(some 23), .ixs 2 (.tmp 21) (.tmp 22), (some (20, false)), 0⟩, ⟨(some 24), .fa 1 (.tmp 23), (some (20, false)), 0⟩, ⟨(some 25), .ld 1 false (.tmp 24), (some (20, false)), 0⟩, ⟨(some 26), .lent (.tmp 25), (some (20, false)), 0⟩, ⟨(some 27), .bin .gtr (.tmp 26) (.const (.int .i64 100)), (some (20, false)), 0⟩, ⟨(some 28), .pick (.tmp 20) (.const (.bool true)) (.tmp 27), none, 0⟩] none 0 []) (.cond (.tmp 28) (.seq (.reg 0 [⟨(some 2), .mv (.const (.bool false)), none, 0⟩] none 0 []) .ret) .skip))) (.reg 0 [⟨(some 11), .mv (.tmp 3), none, 0⟩, ⟨(some 12), .bin .add (.tmp 11) (.const (.int .i64 1)), none, 0⟩, ⟨(some 3), .mv (.tmp 12), none, 0⟩] none 0 [])))))) (.seq (.reg 0 [⟨(some 2), .mv (.const (.bool true)), none, 0⟩] none 0 []) .ret))))
theorem gc23_ok : compF Tryz.prog Tryz.f23 = some (gc23.er, 29, [.tmp 2]) := by unfold gc23; kernel_rfl
set_option maxRecDepth 100000 in
set_option maxHeartbeats 4000000 in
theorem p_ref29_Light_v {u1 : Bool} (a0 : List Ref29Arrow) : CallsO Tryz.prog 23 [.sl (List.map Ref29Arrow.v a0) u1] V.b (p_ref29_Light a0) := by
  refine callsO_comp mix Tryz.func23 gc23_ok fun r H => ?_
  rw [p_ref29_Light] at H
  conv => whnf
  refine LenQ.M ?_; conv => whnf
  refine tst_c H (fun b1 H => ?_) (fun b1 H => ?_)
  · conv => whnf
    exact fin0_c (enc := V.b) H (.inr rfl) (.cons (.tmp rfl) (.nil)) rfl rfl
  conv => whnf
  obtain ⟨o3, HL4, HQ5⟩ := bind_c H
  refine loop_c [2, 3] [7, 8, 9, 10, 11, 12, 13, 14, 15, 16, 17, 18, 19, 20, 21, 22, 23, 24, 25, 26, 27, 28] [7, 8, 9, 10, 11, 12, 13, 14, 15, 16, 17, 18, 19, 20, 21, 22, 23, 24, 25, 26, 27, 28] (fun n vals st => (∃ y7, p_ref29_Light_l1  a0 n y7 = some o3 ∧ vals = [.b false, .i y7] ∧ st = [])) fuel 0 [] (⟨_, HL4, rfl, rfl⟩) (Nat.zero_le _) rfl (by kernel_rfl) (by kernel_rfl) rfl trivial ?_
  rintro (_ | n6) _ _ (⟨y7, H, rfl, rfl⟩)
  · rw [p_ref29_Light_l1] at H; cases H
  rw [p_ref29_Light_l1] at H
  conv => whnf
  refine LenQ.M ?_; conv => whnf
  refine tst_d H (fun b8 H => ?_) (fun b8 H => ?_)
  · conv => whnf
    obtain rfl := Option.some.inj H
    have H := HQ5
    try dsimp only at H
    exact fin0_c (enc := V.b) H (.inr rfl) (.cons (.tmp rfl) (.nil)) rfl rfl
  conv => whnf
  refine ixs_c (f := Ref29Arrow.v) H (fun _ => rfl) (fun x9 H => ?_); conv => whnf
  refine ⟨Nat.le_of_ble_eq_true rfl, ?_⟩; conv => whnf
  refine tst_c H (fun b10 H => ?_) (fun b10 H => ?_)
  · conv => whnf
    iterate 8 (refine Tst.T ?_; conv => whnf)
    obtain rfl := Option.some.inj H
    have H := HQ5
    try dsimp only at H
    exact fin0_c (enc := V.b) H (.inr rfl) (.cons (.tmp rfl) (.nil)) rfl rfl
  conv => whnf
  iterate 2 (refine Tst.F ?_; conv => whnf)
  refine ixs_c (f := Ref29Arrow.v) H (fun _ => rfl) (fun x11 H => ?_); conv => whnf
  refine Tst.F ?_; conv => whnf
  refine ⟨Nat.le_of_ble_eq_true rfl, ?_⟩; conv => whnf
  iterate 4 (refine Tst.F ?_; conv => whnf)
  refine tst_c H (fun b12 H => ?_) (fun b12 H => ?_)
  · conv => whnf
    obtain rfl := Option.some.inj H
    have H := HQ5
    try dsimp only at H
    exact fin0_c (enc := V.b) H (.inr rfl) (.cons (.tmp rfl) (.nil)) rfl rfl
  conv => whnf
  refine Ari.w ?_; conv => whnf
  exact again_c [7, 8, 9, 10, 11, 12, 13, 14, 15, 16, 17, 18, 19, 20, 21, 22, 23, 24, 25, 26, 27, 28] n6 0 [] (⟨_, H, rfl, rfl⟩) (Nat.lt_succ_self _) (Nat.zero_le _) rfl (by kernel_rfl) (by kernel_rfl) rfl trivial
def gc158 : BCode := (.seq (.reg 0 [⟨(some 2), .mv (.const (.string ⟨#[]⟩)), none, 0⟩, ⟨(some 3), .mv (.const (.string ⟨#[]⟩)), none, 0⟩, ⟨(some 4), .mv (.const (.int .i64 0)), none, 0⟩] none 0 []) (.seq (.reg 0 [⟨(some 10), .mv (.tmp 0), none, 0⟩, ⟨(some 11), .cl 208 [(.tmp 10), (.const (.string ⟨#[32]⟩))], none, 0⟩, ⟨(some 9), .mv (.tmp 11), none, 0⟩, ⟨(some 12), .ex (.tmp 9) 0, none, 0⟩, ⟨(some 13), .ex (.tmp 9) 1, none, 0⟩, ⟨(some 14), .ex (.tmp 9) 2, none, 0⟩, ⟨(some 5), .mv (.tmp 12), none, 0⟩, ⟨(some 6), .mv (.tmp 13), none, 0⟩, ⟨(some 7), .mv (.tmp 14), none, 0⟩] none 0 []) (.seq (.seq (.reg 0 [⟨(some 15), .mv (.tmp 7), none, 0⟩, ⟨(some 16), .un .not (.tmp 15), none, 0⟩] none 0 []) (.cond (.tmp 16) (.seq (.reg 0 [⟨(some 2), .mv (.const (.string ⟨#[]⟩)), none, 0⟩, ⟨(some 3), .mv (.const (.string ⟨#[]⟩)), none, 0⟩, ⟨(some 4), .mv (.const (.int .i64 4)), none, 0⟩] none 0 []) .ret) .skip)) (.seq (.seq (.reg 0 [⟨(some 17), .mv (.tmp 5), none, 0⟩, ⟨(some 18), .cl 107 [(.tmp 17)], none, 0⟩, ⟨(some 19), .un .not (.tmp 18), none, 0⟩] none 0 []) (.cond (.tmp 19) (.seq (.reg 0 [⟨(some 2), .mv (.const (.string ⟨#[]⟩)), none, 0⟩, ⟨(some 3), .mv (.const (.string ⟨#[]⟩)), none, 0⟩, ⟨(some 4), .mv (.const (.int .i64 11)), none, 0⟩] none 0 []) .ret) .skip)) (.seq (.seq (.reg 0 [⟨(some 20), .mv (.tmp 6), none, 0⟩, ⟨(some 21), .cl 204 [(.tmp 20)], none, 0⟩, ⟨(some 8), .mv (.tmp 21), none, 0⟩] none 0 []) (.seq (.reg 0 [⟨(some 22), .mv (.tmp 8), none, 0⟩, ⟨(some 23), .bin .neq (.tmp 22) (.const (.int .i64 0)), none, 0⟩] none 0 []) (.cond (.tmp 23) (.seq (.reg 0 [⟨(some 24), .mv (.tmp 8), none, 0⟩, ⟨(some 2), .mv (.const (.string ⟨#[]⟩)), none, 0⟩, ⟨(some 3), .mv (.const (.string ⟨#[]⟩)), none, 0⟩, ⟨(some 4), .mv (.tmp 24), none, 0⟩] none 0 []) .ret) .skip))) (.seq (.reg 0 [⟨(some 25), .mv (.tmp 5), none, 0⟩, ⟨(some 26), .mv (.tmp 6), none, 0⟩, ⟨(some 2), .mv (.tmp 25), none, 0⟩, ⟨(some 3), .mv (.tmp 26), none, 0⟩, ⟨(some 4), .mv (.const (.int .i64 0)), none, 0⟩] none 0 []) .ret))))))
theorem gc158_ok : compF Tryz.prog Tryz.f158 = some (gc158.er, 27, [.tmp 2, .tmp 3, .tmp 4]) := by unfold gc158; kernel_rfl
set_option maxRecDepth 100000 in
set_option maxHeartbeats 4000000 in
theorem p_pres_Split_v (a0 : ByteArray) : CallsO Tryz.prog 158 [.s a0] (fun r : ByteArray × ByteArray × Int => .tup [V.s r.1, V.s r.2.1, V.i r.2.2]) (p_pres_Split a0) := by
  refine callsO_comp mix Tryz.func158 gc158_ok fun r H => ?_
  rw [p_pres_Split] at H
  conv => whnf
  refine ask_c (p_strings_Cut_v _ _) H rfl rfl (fun v1 H => ?_); conv => whnf
  refine Tst.not ?_
  refine tst_d H (fun b2 H => ?_) (fun b2 H => ?_)
  · conv => whnf
    exact fin0_c (enc := (fun r : ByteArray × ByteArray × Int => .tup [V.s r.1, V.s r.2.1, V.i r.2.2])) H (.inr rfl) (.cons (.tmp rfl) (.cons (.tmp rfl) (.cons (.tmp rfl) (.nil)))) rfl rfl
  conv => whnf
  refine ask_c (p_addr_IsBare_v _) H rfl rfl (fun v3 H => ?_); conv => whnf
  refine Tst.not ?_
  refine tst_d H (fun b4 H => ?_) (fun b4 H => ?_)
  · conv => whnf
    exact fin0_c (enc := (fun r : ByteArray × ByteArray × Int => .tup [V.s r.1, V.s r.2.1, V.i r.2.2])) H (.inr rfl) (.cons (.tmp rfl) (.cons (.tmp rfl) (.cons (.tmp rfl) (.nil)))) rfl rfl
  conv => whnf
  refine ask_c (p_addr_Resource_v _) H rfl rfl (fun v5 H => ?_); conv => whnf
  refine tst_c H (fun b6 H => ?_) (fun b6 H => ?_)
  · conv => whnf
    exact fin0_c (enc := (fun r : ByteArray × ByteArray × Int => .tup [V.s r.1, V.s r.2.1, V.i r.2.2])) H (.inr rfl) (.cons (.tmp rfl) (.cons (.tmp rfl) (.cons (.tmp rfl) (.nil)))) rfl rfl
  conv => whnf
  exact fin0_c (enc := (fun r : ByteArray × ByteArray × Int => .tup [V.s r.1, V.s r.2.1, V.i r.2.2])) H (.inr rfl) (.cons (.tmp rfl) (.cons (.tmp rfl) (.cons (.tmp rfl) (.nil)))) rfl rfl
def gc98 : BCode := (.seq (.reg 1 [⟨(some 1), .bx (.tmp 0), none, 0⟩, ⟨(some 2), .mv (.const (.string ⟨#[]⟩)), none, 1⟩, ⟨(some 3), .mv (.const (.bool false)), none, 1⟩] none 0 []) (.seq (.reg 0 [⟨(some 8), .fa 0 (.tmp 1), none, 0⟩, ⟨(some 9), .ld 1 false (.tmp 8), none, 0⟩, ⟨(some 10), .cl 158 [(.tmp 9)], none, 0⟩, ⟨(some 7), .mv (.tmp 10), none, 0⟩, ⟨(some 11), .ex (.tmp 7) 0, none, 0⟩, ⟨(some 12), .ex (.tmp 7) 1, none, 0⟩, ⟨(some 13), .ex (.tmp 7) 2, none, 0⟩, ⟨(some 4), .mv (.tmp 11), none, 0⟩, ⟨(some 5), .mv (.tmp 12), none, 0⟩, ⟨(some 6), .mv (.tmp 13), none, 0⟩] none 0 []) (.seq (.reg 0 [⟨(some 14), .mv (.tmp 4), none, 0⟩, ⟨(some 15), .mv (.tmp 6), none, 0⟩, ⟨(some 16), .bin .eql (.tmp 15) (.const (.int .i64 0)), none, 0⟩, ⟨(some 2), .mv (.tmp 14), none, 0⟩, ⟨(some 3), .mv (.tmp 16), none, 0⟩] none 0 []) .ret)))
theorem gc98_ok : compF Tryz.prog Tryz.f98 = some (gc98.er, 17, [.tmp 2, .tmp 3]) := by unfold gc98; kernel_rfl
set_option maxRecDepth 100000 in
set_option maxHeartbeats 4000000 in
theorem p_dirs_Arrow_user_v (a0 : Ref29Arrow) : CallsO Tryz.prog 98 [.agg [.s a0.From, .s a0.To]] (fun r : ByteArray × Bool => .tup [V.s r.1, V.b r.2]) (p_dirs_Arrow_user a0) := by
  refine callsO_comp mix Tryz.func98 gc98_ok fun r H => ?_
  rw [p_dirs_Arrow_user] at H
  conv => whnf
  refine ask_c (p_pres_Split_v _) H rfl rfl (fun v1 H => ?_); conv => whnf
  exact fin0_c (enc := (fun r : ByteArray × Bool => .tup [V.s r.1, V.b r.2])) H (.inr rfl) (.cons (.tmp rfl) (.cons (.tmp rfl) (.nil))) rfl rfl
def gc83 : BCode := (.seq (.reg 1 [⟨(some 1), .bx (.tmp 0), none, 0⟩, ⟨(some 2), .mv (.const (.bool false)), none, 1⟩] none 0 []) (.seq (.reg 0 [⟨(some 6), .ld 2 true (.tmp 1), none, 0⟩, ⟨(some 7), .cl 98 [(.tmp 6)], none, 0⟩, ⟨(some 5), .mv (.tmp 7), none, 0⟩, ⟨(some 8), .ex (.tmp 5) 0, none, 0⟩, ⟨(some 9), .ex (.tmp 5) 1, none, 0⟩, ⟨(some 3), .mv (.tmp 8), none, 0⟩, ⟨(some 4), .mv (.tmp 9), none, 0⟩] none 0 []) (.seq (.reg 0 [⟨(some 10), .mv (.tmp 4), none, 0⟩, ⟨(some 11), .un .not (.tmp 10), none, 0⟩, ⟨(some 12), .mv (.tmp 11), none, 0⟩, ⟨(some 13), .fa 1 (.tmp 1), (some (12, false)), 0⟩, ⟨(some 14), .ld 1 false (.tmp 13), (some (12, false)), 0⟩, ⟨(some 15), .cl 107 [(.tmp 14)], (some (12, false)), 0⟩, ⟨(some 16), .un .not (.tmp 15), (some (12, false)), 0⟩, ⟨(some 17), .pick (.tmp 12) (.const (.bool true)) (.tmp 16), none, 0⟩, ⟨(some 2), .mv (.tmp 17), none, 0⟩] none 0 []) .ret)))
theorem gc83_ok : compF Tryz.prog Tryz.f83 = some (gc83.er, 18, [.tmp 2]) := by unfold gc83; kernel_rfl
set_option maxRecDepth 100000 in
set_option maxHeartbeats 4000000 in
theorem p_dirs_Arrow_wrong_v (a0 : Ref29Arrow) : CallsO Tryz.prog 83 [.agg [.s a0.From, .s a0.To]] V.b (p_dirs_Arrow_wrong a0) := by
  refine callsO_comp mix Tryz.func83 gc83_ok fun r H => ?_
  rw [p_dirs_Arrow_wrong] at H
  conv => whnf
  refine ask_c (p_dirs_Arrow_user_v _) H rfl rfl (fun v1 H => ?_); conv => whnf
  refine Tst.not ?_
  refine tst_d H (fun b2 H => ?_) (fun b2 H => ?_)
  · conv => whnf
    iterate 4 (refine Tst.T ?_; conv => whnf)
    exact fin0_c (enc := V.b) H (.inr rfl) (.cons (.tmp rfl) (.nil)) rfl rfl
  conv => whnf
  iterate 2 (refine Tst.F ?_; conv => whnf)
  refine ask_c (p_addr_IsBare_v _) H rfl rfl (fun v3 H => ?_); conv => whnf
  iterate 2 (refine Tst.F ?_; conv => whnf)
  exact fin0_c (enc := V.b) H (.inr rfl) (.cons (.tmp rfl) (.nil)) rfl rfl
def gc205 : BCode := (.seq (.reg 0 [⟨(some 4), .mv (.const (.int .i64 0)), none, 0⟩] none 0 []) (.seq (.seq (.reg 0 [⟨(some 6), .mv (.tmp 0), none, 0⟩, ⟨(some 7), .lens (.tmp 6), none, 0⟩, ⟨(some 8), .mv (.const (.int .i64 0)), none, 0⟩] none 0 []) (.block 0 (.loop (.seq (.reg 0 [⟨(some 9), .bin .lss (.tmp 8) (.tmp 7), none, 0⟩] none 0 []) (.seq (.cond (.tmp 9) .skip (.exit 0)) (.seq (.block 1 (.seq (.reg 0 [⟨(some 10), .mv (.tmp 8), none, 0⟩, ⟨(some 5), .mv (.tmp 10), none, 0⟩] none 0 []) (.seq (.reg 0 [⟨(some 11), .mv (.tmp 1), none, 0⟩, ⟨(some 12), .mv (.tmp 0), none, 0⟩, ⟨(some 13), .mv (.tmp 5), none, 0⟩, ⟨(some 14), .ixs 2 (.tmp 12) (.tmp 13), none, 0⟩, ⟨(some 15), .ld 2 true (.tmp 14), none, 0⟩, ⟨(some 16), .cv (.tmp 11) [(.tmp 15)], none, 0⟩] none 0 []) (.cond (.tmp 16) (.seq (.reg 0 [⟨(some 17), .mv (.tmp 5), none, 0⟩, ⟨(some 4), .mv (.tmp 17), none, 0⟩] none 0 []) .ret) .skip)))) (.reg 0 [⟨(some 18), .bin .add (.tmp 8) (.const (.int .i64 1)), none, 0⟩, ⟨(some 8), .mv (.tmp 18), none, 0⟩] none 0 []))))))) (.seq (.reg 0 [⟨(some 4), .mv (.const (.int .i64 (-1))), none, 0⟩] none 0 []) .ret)))
theorem gc205_ok : compF Tryz.prog Tryz.f205 = some (gc205.er, 19, [.tmp 4]) := by unfold gc205; kernel_rfl
set_option maxRecDepth 100000 in
set_option maxHeartbeats 4000000 in
theorem p_slices_IndexFunc_dirs_State_dirs_Arrow__v {u1 : Bool} (a0 : List Ref29Arrow) (a1 : Ref29Arrow → Option Bool) {a1_g : Nat} {a1_k : List V} (a1_h : Clo1 Tryz.prog a1_g a1_k Ref29Arrow.v V.b a1) : CallsO Tryz.prog 205 [.sl (List.map Ref29Arrow.v a0) u1, .clo (.func a1_g) a1_k] V.i (p_slices_IndexFunc_dirs_State_dirs_Arrow_ a0 a1) := by
  refine callsO_comp mix Tryz.func205 gc205_ok fun r H => ?_
  rw [p_slices_IndexFunc_dirs_State_dirs_Arrow_] at H
  conv => whnf
  refine LenQ.M ?_; conv => whnf
  obtain ⟨o2, HL3, HQ4⟩ := bind_c H
  refine loop_c [4, 8] [5, 9, 10, 11, 12, 13, 14, 15, 16, 17, 18] [5, 9, 10, 11, 12, 13, 14, 15, 16, 17, 18] (fun n vals st => (∃ y6, p_slices_IndexFunc_dirs_State_dirs_Arrow__l1  a1 a0 (a0.length : Int) n y6 = some o2 ∧ vals = [.i (0 : Int), .i y6] ∧ st = [])) fuel 0 [] (⟨_, HL3, rfl, rfl⟩) (Nat.zero_le _) rfl (by simp only [maskF, setF, List.set_cons_zero, List.set_cons_succ, V.ren.renL, V.ren, renL_id _ a1_h.own] <;> rfl) (by simp only [maskF, setF, List.set_cons_zero, List.set_cons_succ, V.idlt.belowL, V.idlt, fun n => idltL_up (n := n) _ a1_h.own] <;> rfl) rfl trivial ?_
  rintro (_ | n5) _ _ (⟨y6, H, rfl, rfl⟩)
  · rw [p_slices_IndexFunc_dirs_State_dirs_Arrow__l1] at H; cases H
  rw [p_slices_IndexFunc_dirs_State_dirs_Arrow__l1] at H
  conv => whnf
  refine tst_d H (fun b7 H => ?_) (fun b7 H => ?_)
  · conv => whnf
    obtain rfl := Option.some.inj H
    have H := HQ4
    try dsimp only at H
    exact fin0_c (enc := V.i) H (.inr rfl) (.cons (.tmp rfl) (.nil)) rfl rfl
  conv => whnf
  refine ixs_c (f := Ref29Arrow.v) H (fun _ => rfl) (fun x8 H => ?_); conv => whnf
  refine askC_c a1_h H (.cons (fzagg (.cons (.id rfl) (.cons (.id rfl) (.nil))) rfl) (.nil)) (fun v9 H => ?_); conv => whnf
  refine tst_c H (fun b10 H => ?_) (fun b10 H => ?_)
  · conv => whnf
    obtain rfl := Option.some.inj H
    have H := HQ4
    try dsimp only at H
    exact fin0_c (enc := V.i) H (.inr rfl) (.cons (.tmp rfl) (.nil)) rfl rfl
  conv => whnf
  refine Ari.w ?_; conv => whnf
  exact again_c [5, 9, 10, 11, 12, 13, 14, 15, 16, 17, 18] n5 0 [] (⟨_, H, rfl, rfl⟩) (Nat.lt_succ_self _) (Nat.zero_le _) rfl (by simp only [maskF, setF, List.set_cons_zero, List.set_cons_succ, V.ren.renL, V.ren, renL_id _ a1_h.own] <;> rfl) (by simp only [maskF, setF, List.set_cons_zero, List.set_cons_succ, V.idlt.belowL, V.idlt, fun n => idltL_up (n := n) _ a1_h.own] <;> rfl) rfl trivial
def gc153 : BCode := (.seq (.reg 0 [⟨(some 4), .mv (.const (.bool false)), none, 0⟩] none 0 []) (.seq (.reg 0 [⟨(some 5), .mv (.tmp 0), none, 0⟩, ⟨(some 6), .mv (.tmp 1), none, 0⟩, ⟨(some 7), .cl 205 [(.tmp 5), (.tmp 6)], none, 0⟩, ⟨(some 8), .bin .geq (.tmp 7) (.const (.int .i64 0)), none, 0⟩, ⟨(some 4), .mv (.tmp 8), none, 0⟩] none 0 []) .ret))
theorem gc153_ok : compF Tryz.prog Tryz.f153 = some (gc153.er, 9, [.tmp 4]) := by unfold gc153; kernel_rfl
set_option maxRecDepth 100000 in
set_option maxHeartbeats 4000000 in
theorem p_slices_ContainsFunc_dirs_State_dirs_Arrow__v {u1 : Bool} (a0 : List Ref29Arrow) (a1 : Ref29Arrow → Option Bool) {a1_g : Nat} {a1_k : List V} (a1_h : Clo1 Tryz.prog a1_g a1_k Ref29Arrow.v V.b a1) : CallsO Tryz.prog 153 [.sl (List.map Ref29Arrow.v a0) u1, .clo (.func a1_g) a1_k] V.b (p_slices_ContainsFunc_dirs_State_dirs_Arrow_ a0 a1) := by
  refine callsO_comp mix Tryz.func153 gc153_ok fun r H => ?_
  rw [p_slices_ContainsFunc_dirs_State_dirs_Arrow_] at H
  conv => whnf
  refine askF_c (p_slices_IndexFunc_dirs_State_dirs_Arrow__v _ _ a1_h) H (.cons (.c (.slw)) (.cons (.c (.id a1_h.own)) (.nil))) (fun v1 H => ?_); conv => whnf
  exact fin0_c (enc := V.b) H (.inr rfl) (.cons (.tmp rfl) (.nil)) rfl rfl
def gc154 : BCode := (.seq (.reg 0 [⟨(some 2), .mv (.const (.int .i64 0)), none, 0⟩] none 0 []) (.seq (.reg 0 [⟨(some 3), .mv (.const (.int .i64 0)), none, 0⟩] none 0 []) (.seq (.seq (.reg 0 [⟨(some 6), .mv (.tmp 0), none, 0⟩, ⟨(some 7), .lens (.tmp 6), none, 0⟩, ⟨(some 8), .mv (.const (.int .i64 0)), none, 0⟩] none 0 []) (.block 0 (.loop (.seq (.reg 0 [⟨(some 9), .bin .lss (.tmp 8) (.tmp 7), none, 0⟩] none 0 []) (.seq (.cond (.tmp 9) .skip (.exit 0)) (.seq (.block 1 (.seq (.reg 0 [⟨(some 10), .ixs 1 (.tmp 6) (.tmp 8), none, 0⟩, ⟨(some 11), .ld 1 false (.tmp 10), none, 0⟩, ⟨(some 5), .mv (.tmp 11), none, 0⟩] none 0 []) (.seq (.reg 0 [⟨(some 12), .mv (.tmp 5), none, 0⟩, ⟨(some 13), .mv (.tmp 3), none, 0⟩, ⟨(some 14), .bin .neq (.tmp 12) (.tmp 13), none, 0⟩] none 0 []) (.cond (.tmp 14) (.seq (.reg 0 [⟨(some 15), .mv (.tmp 5), none, 0⟩, ⟨(some 2), .mv (.tmp 15), none, 0⟩] none 0 []) .ret) .skip)))) (.reg 0 [⟨(some 16), .bin .add (.tmp 8) (.const (.int .i64 1)), none, 0⟩, ⟨(some 8), .mv (.tmp 16), none, 0⟩] none 0 []))))))) (.seq (.reg 0 [⟨(some 17), .mv (.tmp 3), none, 0⟩, ⟨(some 2), .mv (.tmp 17), none, 0⟩] none 0 []) .ret))))
theorem gc154_ok : compF Tryz.prog Tryz.f154 = some (gc154.er, 18, [.tmp 2]) := by unfold gc154; kernel_rfl
set_option maxRecDepth 100000 in
set_option maxHeartbeats 4000000 in
theorem p_cmp_Or_int__v {u1 : Bool} (a0 : List Int) : CallsO Tryz.prog 154 [.sl (List.map V.i a0) u1] V.i (p_cmp_Or_int_ a0) := by
  refine callsO_comp mix Tryz.func154 gc154_ok fun r H => ?_
  rw [p_cmp_Or_int_] at H
  conv => whnf
  refine LenQ.M ?_; conv => whnf
  obtain ⟨o2, HL3, HQ4⟩ := bind_c H
  refine loop_c [2, 8] [5, 9, 10, 11, 12, 13, 14, 15, 16] [5, 9, 10, 11, 12, 13, 14, 15, 16] (fun n vals st => (∃ y6, p_cmp_Or_int__l1  a0 (a0.length : Int) n y6 = some o2 ∧ vals = [.i (0 : Int), .i y6] ∧ st = [])) fuel 0 [] (⟨_, HL3, rfl, rfl⟩) (Nat.zero_le _) rfl (by kernel_rfl) (by kernel_rfl) rfl trivial ?_
  rintro (_ | n5) _ _ (⟨y6, H, rfl, rfl⟩)
  · rw [p_cmp_Or_int__l1] at H; cases H
  rw [p_cmp_Or_int__l1] at H
  conv => whnf
  refine tst_d H (fun b7 H => ?_) (fun b7 H => ?_)
  · conv => whnf
    obtain rfl := Option.some.inj H
    have H := HQ4
    try dsimp only at H
    exact fin0_c (enc := V.i) H (.inr rfl) (.cons (.tmp rfl) (.nil)) rfl rfl
  conv => whnf
  refine ixs_c (f := V.i) H (fun _ => rfl) (fun x8 H => ?_); conv => whnf
  refine tst_c H (fun b9 H => ?_) (fun b9 H => ?_)
  · conv => whnf
    obtain rfl := Option.some.inj H
    have H := HQ4
    try dsimp only at H
    exact fin0_c (enc := V.i) H (.inr rfl) (.cons (.tmp rfl) (.nil)) rfl rfl
  conv => whnf
  refine Ari.w ?_; conv => whnf
  exact again_c [5, 9, 10, 11, 12, 13, 14, 15, 16] n5 0 [] (⟨_, H, rfl, rfl⟩) (Nat.lt_succ_self _) (Nat.zero_le _) rfl (by kernel_rfl) (by kernel_rfl) rfl trivial
def gc85 : BCode := (.seq (.reg 2 [⟨(some 2), .bx (.tmp 0), none, 0⟩, ⟨(some 3), .bx (.tmp 1), none, 1⟩, ⟨(some 4), .mv (.const (.int .i64 0)), none, 2⟩] none 0 []) (.seq (.reg 1 [⟨(some 5), .fa 0 (.tmp 2), none, 0⟩, ⟨(some 6), .ld 1 false (.tmp 5), none, 0⟩, ⟨(some 7), .fa 0 (.tmp 3), none, 0⟩, ⟨(some 8), .ld 1 false (.tmp 7), none, 0⟩, ⟨(some 9), .cl 155 [(.tmp 6), (.tmp 8)], none, 0⟩, ⟨(some 10), .fa 1 (.tmp 2), none, 0⟩, ⟨(some 11), .ld 1 false (.tmp 10), none, 0⟩, ⟨(some 12), .fa 1 (.tmp 3), none, 0⟩, ⟨(some 13), .ld 1 false (.tmp 12), none, 0⟩, ⟨(some 14), .cl 155 [(.tmp 11), (.tmp 13)], none, 0⟩, ⟨(some 15), .bs 1 2 [(.lit (.int .i64 0)), (.lit (.int .i64 0))] [(0, (.tmp 9)), (1, (.tmp 14))], none, 0⟩, ⟨(some 16), .cl 154 [(.tmp 15)], none, 1⟩, ⟨(some 4), .mv (.tmp 16), none, 1⟩] (some [[], [0], [], [2], [2, 3, 0, 1], [], [5], [], [7], [1, 0, 3, 2, 4, 7, 8, 5, 6], [6, 5, 8, 7, 9, 1, 0, 3, 2, 4], [4, 2, 3, 0, 1, 9, 7, 8, 5, 6, 10], [10, 6, 5, 8, 7, 9, 1, 0, 3, 2, 4, 11]]) 0 []) .ret))
theorem gc85_ok : compF Tryz.prog Tryz.f85 = some (gc85.er, 17, [.tmp 4]) := by unfold gc85; kernel_rfl
set_option maxRecDepth 100000 in
set_option maxHeartbeats 4000000 in
theorem p_dirs_order_v (a0 : Ref29Arrow) (a1 : Ref29Arrow) : CallsO Tryz.prog 85 [.agg [.s a0.From, .s a0.To], .agg [.s a1.From, .s a1.To]] V.i (p_dirs_order a0 a1) := by
  refine callsO_comp mix Tryz.func85 gc85_ok fun r H => ?_
  rw [p_dirs_order] at H
  conv => whnf
  refine ask_c (p_strings_Compare_v _ _) H rfl rfl (fun v1 H => ?_); conv => whnf
  refine ask_c (p_strings_Compare_v _ _) H rfl rfl (fun v2 H => ?_); conv => whnf
  refine askF_c (p_cmp_Or_int__v _) H (.cons (.c (fzown (f := V.i) (l := [v1, v2]) rfl rfl (fun _ => rfl) (fun _ => rfl))) (.nil)) (fun v3 H => ?_); conv => whnf
  refine FootQ.mk ⟨rfl, ?_⟩; conv => whnf
  exact fin0_c (enc := V.i) H (.inr rfl) (.cons (.tmp rfl) (.nil)) rfl rfl
def gc82 : BCode := (.seq (.reg 0 [⟨(some 2), .mv (.const (.int .i64 0)), none, 0⟩] none 0 []) (.seq (.seq (.reg 0 [⟨(some 4), .mv (.tmp 0), none, 0⟩, ⟨(some 5), .lens (.tmp 4), none, 0⟩, ⟨(some 6), .bin .gtr (.tmp 5) (.const (.int .i64 32)), none, 0⟩] none 0 []) (.cond (.tmp 6) (.seq (.reg 0 [⟨(some 2), .mv (.const (.int .i64 5)), none, 0⟩] none 0 []) .ret) .skip)) (.seq (.seq (.reg 0 [⟨(some 7), .mv (.tmp 0), none, 0⟩, ⟨(some 8), .cl 153 [(.tmp 7), (.func 83)], none, 0⟩] none 0 []) (.cond (.tmp 8) (.seq (.reg 0 [⟨(some 2), .mv (.const (.int .i64 11)), none, 0⟩] none 0 []) .ret) .skip)) (.seq (.seq (.reg 0 [⟨(some 3), .mv (.const (.int .i64 1)), none, 0⟩] none 0 []) (.block 0 (.loop (.seq (.seq (.reg 0 [⟨(some 9), .mv (.tmp 3), none, 0⟩, ⟨(some 10), .mv (.tmp 0), none, 0⟩, ⟨(some 11), .lens (.tmp 10), none, 0⟩, ⟨(some 12), .bin .lss (.tmp 9) (.tmp 11), none, 0⟩] none 0 []) (.cond (.tmp 12) .skip (.exit 0))) (.seq (.block 1 (.seq (.reg 0 [⟨(some 15), .mv (.tmp 0), none, 0⟩, ⟨(some 16), .mv (.tmp 3), none, 0⟩, ⟨(some 17), .bin .sub (.tmp 16) (.const (.int .i64 1)), none, 0⟩, ⟨(some 18), .ixs 2 (.tmp 15) (.tmp 17), none, 0⟩, ⟨(some 19), .ld 2 true (.tmp 18), none, 0⟩, ⟨(some 20), .mv (.tmp 0), none, 0⟩, ⟨(some 21), .mv (.tmp 3), none, 0⟩, ⟨(some 22), .ixs 2 (.tmp 20) (.tmp 21), none, 0⟩, ⟨(some 23), .ld 2 true (.tmp 22), none, 0⟩, ⟨(some 24), .cl 85 [(.tmp 19), (.tmp 23)], none, 0⟩, ⟨(some 25), .bin .geq (.tmp 24) (.const (.int .i64 0)), none, 0⟩] (some [[], [], [1], [1, 2, 0], [0, 2, 1, 3], [], [], [6, 5], [5, 6, 7], [7, 6, 5, 8, 3, 1, 2, 0, 4], [4, 0, 2, 1, 3, 8, 5, 6, 7, 9]]) 0 []) (.cond (.tmp 25) (.seq (.reg 0 [⟨(some 2), .mv (.const (.int .i64 10)), none, 0⟩] none 0 []) .ret) .skip))) (.reg 0 [⟨(some 13), .mv (.tmp 3), none, 0⟩, ⟨(some 14), .bin .add (.tmp 13) (.const (.int .i64 1)), none, 0⟩, ⟨(some 3), .mv (.tmp 14), none, 0⟩] none 0 [])))))) (.seq (.reg 0 [⟨(some 2), .mv (.const (.int .i64 0)), none, 0⟩] none 0 []) .ret)))))
theorem gc82_ok : compF Tryz.prog Tryz.f82 = some (gc82.er, 26, [.tmp 2]) := by unfold gc82; kernel_rfl
set_option maxRecDepth 100000 in
set_option maxHeartbeats 4000000 in
theorem p_dirs_Check_v {u1 : Bool} (a0 : List Ref29Arrow) : CallsO Tryz.prog 82 [.sl (List.map Ref29Arrow.v a0) u1] V.i (p_dirs_Check a0) := by
  refine callsO_comp mix Tryz.func82 gc82_ok fun r H => ?_
  rw [p_dirs_Check] at H
  conv => whnf
  refine LenQ.M ?_; conv => whnf
  refine tst_c H (fun b1 H => ?_) (fun b1 H => ?_)
  · conv => whnf
    exact fin0_c (enc := V.i) H (.inr rfl) (.cons (.tmp rfl) (.nil)) rfl rfl
  conv => whnf
  refine askF_c (p_slices_ContainsFunc_dirs_State_dirs_Arrow__v _ _ ⟨⟨_, Tryz.func83, by kernel_rfl, by kernel_rfl⟩, rfl, fun x0 => p_dirs_Arrow_wrong_v _⟩) H (.cons (.c (.slw)) (.cons (.c (.clo (.nil))) (.nil))) (fun v2 H => ?_); conv => whnf
  refine tst_c H (fun b3 H => ?_) (fun b3 H => ?_)
  · conv => whnf
    exact fin0_c (enc := V.i) H (.inr rfl) (.cons (.tmp rfl) (.nil)) rfl rfl
  conv => whnf
  obtain ⟨o5, HL6, HQ7⟩ := bind_c H
  refine loop_c [2, 3] [9, 10, 11, 12, 13, 14, 15, 16, 17, 18, 19, 20, 21, 22, 23, 24, 25] [9, 10, 11, 12, 13, 14, 15, 16, 17, 18, 19, 20, 21, 22, 23, 24, 25] (fun n vals st => (∃ y9, p_dirs_Check_l1  a0 n y9 = some o5 ∧ vals = [.i (0 : Int), .i y9] ∧ st = [])) fuel 0 [] (⟨_, HL6, rfl, rfl⟩) (Nat.zero_le _) rfl (by kernel_rfl) (by kernel_rfl) rfl trivial ?_
  rintro (_ | n8) _ _ (⟨y9, H, rfl, rfl⟩)
  · rw [p_dirs_Check_l1] at H; cases H
  rw [p_dirs_Check_l1] at H
  conv => whnf
  refine LenQ.M ?_; conv => whnf
  refine tst_d H (fun b10 H => ?_) (fun b10 H => ?_)
  · conv => whnf
    obtain rfl := Option.some.inj H
    have H := HQ7
    try dsimp only at H
    exact fin0_c (enc := V.i) H (.inr rfl) (.cons (.tmp rfl) (.nil)) rfl rfl
  conv => whnf
  refine Ari.w ?_; conv => whnf
  refine ixs_c (f := Ref29Arrow.v) H (fun _ => rfl) (fun x11 H => ?_); conv => whnf
  refine ixs_c (f := Ref29Arrow.v) H (fun _ => rfl) (fun x12 H => ?_); conv => whnf
  refine ask_c (p_dirs_order_v _ _) H rfl rfl (fun v13 H => ?_); conv => whnf
  refine FootQ.mk ⟨rfl, ?_⟩; conv => whnf
  refine tst_c H (fun b14 H => ?_) (fun b14 H => ?_)
  · conv => whnf
    obtain rfl := Option.some.inj H
    have H := HQ7
    try dsimp only at H
    exact fin0_c (enc := V.i) H (.inr rfl) (.cons (.tmp rfl) (.nil)) rfl rfl
  conv => whnf
  refine Ari.w ?_; conv => whnf
  exact again_c [9, 10, 11, 12, 13, 14, 15, 16, 17, 18, 19, 20, 21, 22, 23, 24, 25] n8 0 [] (⟨_, H, rfl, rfl⟩) (Nat.lt_succ_self _) (Nat.zero_le _) rfl (by kernel_rfl) (by kernel_rfl) rfl trivial
end Go.Proofs.YthmgficajgedlaaGreat
