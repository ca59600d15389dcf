/- A part of the proof: 12 texts joined. -/
import Derived.Test.YthlhbgedidipkaaUaA15
import Derived.Test.YthlhbgedidipkaaUaA13
import Derived.KernelRfl
set_option linter.all false
/- Keys' order; what stands where; what Set, Off, Get and Next leave, in plain words. -/
namespace Go.Proofs.Ythlhbgedidipkaa
open Go.RowKit
def sortedR (rows : List BookRow) : Prop := ∀ i j (hj : j < rows.length) (hi : i < j), cmpR rows[i] (keyR rows[j]) < 0
theorem sorted_next {rows : List BookRow} (h : ∀ i (hj : i + 1 < rows.length), lessR rows[i] rows[i + 1] = true) : sortedR rows := by
  intro i j hj hi
  induction j with
  | zero => omega
  | succ j ih =>
    have h1 := h j hj
    unfold lessR at h1
    rw [cmp_less, decide_eq_true_eq, ByteArray.toList_eq, ByteArray.toList_eq] at h1
    rcases Nat.lt_or_ge i j with h2 | h2
    · exact cmp_trans (ih (by omega) h2) h1
    · have : i = j := by omega
      subst this; exact h1
theorem okAt_all {seq : Int} {rows : List BookRow} (h : ordL seq rows = true) (i : Nat) (hi : i < rows.length) : okAt seq rows i = true := by
  unfold ordL at h
  rw [List.all_eq_true] at h
  exact h i (List.mem_range.2 hi)
theorem ord_sorted {seq : Int} {rows : List BookRow} (h : ordL seq rows = true) : sortedR rows := by
  refine sorted_next fun i hj => ?_
  have := okAt_all h (i + 1) hj
  rw [okAt_s i hj] at this
  simp only [Bool.and_eq_true] at this
  exact this.1.2
theorem check_ord {seq : Int} {rows : List BookRow} (h : bookCheck seq rows = 0) : ordL seq rows = true := by
  unfold bookCheck at h
  by_cases h0 : ordL seq rows = true
  · exact h0
  · exfalso
    have h1 : ordL seq rows = false := by simpa using h0
    repeat' split at h
    all_goals first | omega | contradiction
theorem check_len {seq : Int} {rows : List BookRow} (h : bookCheck seq rows = 0) : rows.length ≤ 16 := by
  unfold bookCheck at h
  by_cases h0 : 16 < rows.length
  · rw [if_pos h0] at h; omega
  · omega
theorem check_seq {seq : Int} {rows : List BookRow} (h : bookCheck seq rows = 0) : 0 ≤ seq ∧ seq ≤ 1099511627776 := by
  unfold bookCheck at h
  by_cases h0 : seq < 0 ∨ 1099511627776 < seq
  · rw [if_pos h0] at h; split at h <;> omega
  · omega
def posL (rows : List BookRow) (k : ByteArray) : Nat := rows.findIdx fun r => decide (0 ≤ cmpR r k)
theorem stands {rows : List BookRow} (hs : sortedR rows) (k : ByteArray) : StandsAt rows k (posL rows k) := by
  refine ⟨List.findIdx_le_length, fun i h hi => ?_, fun i h hi => ?_⟩
  · have := List.not_of_lt_findIdx hi
    simpa using this
  · have hx := List.findIdx_getElem (p := fun r => decide (0 ≤ cmpR r k)) (xs := rows) (w := Nat.lt_of_le_of_lt hi h)
    rw [decide_eq_true_eq] at hx
    rcases Nat.lt_or_ge (posL rows k) i with h2 | h2
    · have h3 := hs (posL rows k) i h h2
      have h4 := cmp_anti k.data.toList (keyR rows[posL rows k]).data.toList
      have hx' : 0 ≤ Lib.compareBytes (keyR rows[posL rows k]).data.toList k.data.toList := hx
      rcases Int.lt_or_le (Lib.compareBytes (keyR rows[i]).data.toList k.data.toList) 0 with h5 | h5
      · have := cmp_trans h3 h5; omega
      · exact h5
    · have e : i = posL rows k := by unfold posL at *; omega
      subst e; exact hx
def setL (seq : Int) (rows : List BookRow) (u r : ByteArray) (sh prio : Int) : Int × List BookRow × PresPres × Int :=
  let x : BookRow := ⟨u, r, ⟨true, sh, prio, 0⟩⟩
  let k := keyR x
  if bookCheck seq rows ≠ 0 then (seq, rows, ⟨false, 0, 0, 0⟩, bookCheck seq rows)
  else if (k.toList == (⟨#[]⟩ : ByteArray).toList) = true then (seq, rows, ⟨false, 0, 0, 0⟩, 11)
  else if presCheckL x.P ≠ 0 then (seq, rows, ⟨false, 0, 0, 0⟩, presCheckL x.P)
  else if foundB rows k (posL rows k) = false ∧ (16 ≤ rows.length ∨ 3 ≤ manyL rows u) then (seq, rows, ⟨false, 0, 0, 0⟩, 7)
  else if 1099511627776 ≤ seq then (seq, rows, ⟨false, 0, 0, 0⟩, 9)
  else (seq + 1, rows.take (posL rows k) ++ ⟨u, r, ⟨true, sh, prio, seq + 1⟩⟩ :: rows.drop (if foundB rows k (posL rows k) = true then posL rows k + 1 else posL rows k), ⟨true, sh, prio, seq + 1⟩, 0)
def offL (seq : Int) (rows : List BookRow) (u r : ByteArray) : Int × List BookRow × PresPres × Int :=
  let k := keyL u r
  if bookCheck seq rows ≠ 0 then (seq, rows, ⟨false, 0, 0, 0⟩, bookCheck seq rows)
  else if foundB rows k (posL rows k) = false ∨ (k.toList == (⟨#[]⟩ : ByteArray).toList) = true then (seq, rows, ⟨false, 0, 0, 0⟩, 6)
  else if 1099511627776 ≤ seq then (seq, rows, ⟨false, 0, 0, 0⟩, 9)
  else (seq + 1, rows.take (posL rows k) ++ rows.drop (posL rows k + 1), ⟨false, 0, 0, seq + 1⟩, 0)
def getL (seq : Int) (rows : List BookRow) (u r : ByteArray) : PresPres × Bool :=
  let k := keyL u r
  if (k.toList == (⟨#[]⟩ : ByteArray).toList) = true then (⟨false, 0, 0, 0⟩, false)
  else if bookCheck seq rows ≠ 0 then (⟨false, 0, 0, 0⟩, false)
  else if foundB rows k (posL rows k) = false then (⟨false, 0, 0, 0⟩, false)
  else ((rows.getD (posL rows k) default).P, true)
def rowAt (rows : List BookRow) (i : Nat) : BookRow × Bool := match rows[i]? with
  | some x => (x, true)
  | none => (⟨⟨#[]⟩, ⟨#[]⟩, ⟨false, 0, 0, 0⟩⟩, false)
theorem rowAt_lt {rows : List BookRow} {i : Nat} (h : i < rows.length) : rowAt rows i = (rows[i], true) := by unfold rowAt; rw [List.getElem?_eq_getElem h]
theorem rowAt_ge {rows : List BookRow} {i : Nat} (h : rows.length ≤ i) : rowAt rows i = (⟨⟨#[]⟩, ⟨#[]⟩, ⟨false, 0, 0, 0⟩⟩, false) := by unfold rowAt; rw [List.getElem?_eq_none h]
def nxtL (seq : Int) (rows : List BookRow) (k : ByteArray) : BookRow × Bool :=
  if bookCheck seq rows ≠ 0 then (⟨⟨#[]⟩, ⟨#[]⟩, ⟨false, 0, 0, 0⟩⟩, false)
  else rowAt rows (if foundB rows k (posL rows k) = true then posL rows k + 1 else posL rows k)
theorem found_lt {rows : List BookRow} {k : ByteArray} {pos : Nat} (h : foundB rows k pos = true) : pos < rows.length := by
  unfold foundB at h
  rcases Nat.lt_or_ge pos rows.length with h2 | h2
  · exact h2
  · rw [List.getElem?_eq_none h2] at h; simp at h
end Go.Proofs.Ythlhbgedidipkaa
/- The book in plain words: when a state may be; where a key stands in rows that are cut there. -/
namespace Go.Proofs.Ythlhbgedidipkaa
open Go.RowKit
structure Good (seq : Int) (rows : List BookRow) : Prop where
  len : rows.length ≤ 16
  seq0 : 0 ≤ seq
  seqM : seq ≤ 1099511627776
  key : ∀ r ∈ rows, ((keyR r).toList == (⟨#[]⟩ : ByteArray).toList) = false
  pres : ∀ r ∈ rows, presCheckL r.P = 0 ∧ r.P.On = true
  rng : ∀ r ∈ rows, 1 ≤ r.P.Seq ∧ r.P.Seq ≤ seq
  ord : rows.Pairwise fun a b => cmpR a (keyR b) < 0
  diff : rows.Pairwise fun a b => a.P.Seq ≠ b.P.Seq
  many : ∀ r ∈ rows, manyL rows r.User ≤ 3
theorem err_0 : ∀ {rows : List BookRow}, (∀ r ∈ rows, presCheckL r.P = 0 ∧ r.P.On = true) → errL rows = 0
  | [], _ => rfl
  | r :: l, h => by
    have h1 := h r (by simp)
    unfold errL
    rw [if_neg (by simpa using h1.1), if_neg (by rw [h1.2]; simp)]
    exact err_0 fun x hx => h x (by simp [hx])
theorem good_check {seq : Int} {rows : List BookRow} (h : Good seq rows) : bookCheck seq rows = 0 := by
  have e1 : emptyL rows = false := by
    unfold emptyL; rw [List.any_eq_false]
    intro r hr; rw [h.key r hr]; simp
  have e2 := err_0 h.pres
  have e3 : ordL seq rows = true := ord_yes fun i hi => by
    have hm := h.rng _ (List.getElem_mem hi)
    have hd : ((rows.take i).any fun o => o.P.Seq == rows[i].P.Seq) = false := by
      rw [List.any_eq_false]
      intro o ho
      obtain ⟨j, hj, rfl⟩ := List.mem_take_iff_getElem.1 ho
      have := List.pairwise_iff_getElem.1 h.diff j i (by omega) hi (by omega)
      simpa using this
    cases i with
    | zero => rw [okAt_0 hi, hd]; simp; omega
    | succ j =>
      have hl := List.pairwise_iff_getElem.1 h.ord j (j + 1) (by omega) hi (by omega)
      have : lessR rows[j] rows[j + 1] = true := by
        unfold lessR
        rw [ByteArray.toList_eq, ByteArray.toList_eq, cmp_less, decide_eq_true_eq]; exact hl
      rw [okAt_s j hi, hd, this]; simp; omega
  have e4 : fullL rows = false := by
    unfold fullL; rw [List.any_eq_false]
    intro r hr; have := h.many r hr; simp; omega
  have h1 := h.len
  have h2 := h.seq0
  have h3 := h.seqM
  unfold bookCheck
  rw [if_neg (by omega), if_neg (by omega), e1, if_neg (by simp), e2, if_neg (by simp), e3, if_neg (by simp), e4, if_neg (by simp)]
theorem pos_of {rows : List BookRow} {k : ByteArray} {p : Nat} (h : StandsAt rows k p) : posL rows k = p := by
  rcases Nat.lt_trichotomy (posL rows k) p with h1 | h1 | h1
  · have hl : posL rows k < rows.length := Nat.lt_of_lt_of_le h1 h.le
    have hx := List.findIdx_getElem (p := fun r => decide (0 ≤ cmpR r k)) (xs := rows) (w := hl)
    rw [decide_eq_true_eq] at hx
    have h2 := h.lt (posL rows k) hl h1
    have hx' : 0 ≤ cmpR rows[posL rows k] k := hx
    omega
  · exact h1
  · have hl : p < rows.length := Nat.lt_of_lt_of_le h1 List.findIdx_le_length
    have h2 := List.not_of_lt_findIdx h1
    have h3 := h.ge p hl (Nat.le_refl _)
    simp at h2; omega
/-- rows that are cut where a key stands. -/
structure Cut3 (K : ByteArray) (A M B : List BookRow) : Prop where
  a : ∀ x ∈ A, cmpR x K < 0
  m : ∀ x ∈ M, cmpR x K = 0
  b : ∀ x ∈ B, 0 < cmpR x K
theorem cut_stands {K : ByteArray} {A M B : List BookRow} (h : Cut3 K A M B) : StandsAt (A ++ (M ++ B)) K A.length := by
  refine ⟨by simp, fun i hi h1 => ?_, fun i hi h1 => ?_⟩
  · rw [List.getElem_append_left h1]; exact h.a _ (List.getElem_mem h1)
  · rw [List.getElem_append_right h1]
    have := List.getElem_mem (l := M ++ B) (n := i - A.length) (by simp at hi ⊢; omega)
    rcases List.mem_append.1 this with g | g
    · rw [h.m _ g]; exact Int.le_refl _
    · exact Int.le_of_lt (h.b _ g)
theorem cut_pos {K : ByteArray} {A M B : List BookRow} (h : Cut3 K A M B) : posL (A ++ (M ++ B)) K = A.length := pos_of (cut_stands h)
theorem cut_yes {K : ByteArray} {A B : List BookRow} {x : BookRow} (h : Cut3 K A [x] B) : foundB (A ++ ([x] ++ B)) K A.length = true := by
  unfold foundB
  have : (A ++ ([x] ++ B))[A.length]? = some x := by rw [List.getElem?_append_right (Nat.le_refl _), Nat.sub_self]; rfl
  rw [this]
  simp [h.m x (by simp)]
theorem cut_no {K : ByteArray} {A B : List BookRow} (h : Cut3 K A [] B) : foundB (A ++ ([] ++ B)) K A.length = false := by
  unfold foundB
  have : (A ++ ([] ++ B))[A.length]? = B[0]? := by rw [List.getElem?_append_right (Nat.le_refl _), Nat.sub_self, List.nil_append]
  rw [this]
  cases B with
  | nil => rfl
  | cons b B =>
    have := h.b b (by simp)
    simp; omega
theorem set_cut {seq : Int} {A B : List BookRow} {M : List BookRow} {u r : ByteArray} {sh prio : Int} (hg : bookCheck seq (A ++ (M ++ B)) = 0) (hM : M.length ≤ 1) (hc : Cut3 (keyL u r) A M B) (hk : ((keyL u r).toList == (⟨#[]⟩ : ByteArray).toList) = false) (hp : presCheckL ⟨true, sh, prio, 0⟩ = 0) (hs : seq < 1099511627776) :
    setL seq (A ++ (M ++ B)) u r sh prio = if M = [] ∧ (16 ≤ (A ++ (M ++ B)).length ∨ 3 ≤ manyL (A ++ (M ++ B)) u) then (seq, A ++ (M ++ B), ⟨false, 0, 0, 0⟩, 7) else (seq + 1, A ++ ([⟨u, r, ⟨true, sh, prio, seq + 1⟩⟩] ++ B), ⟨true, sh, prio, seq + 1⟩, 0) := by
  unfold setL
  have hkr : keyR ⟨u, r, ⟨true, sh, prio, 0⟩⟩ = keyL u r := rfl
  simp only [hkr]
  rw [if_neg (by simpa using hg), if_neg (by rw [hk]; simp), if_neg (by simpa using hp), cut_pos hc]
  rcases M with _ | ⟨x, M⟩
  · rw [cut_no hc]
    by_cases h : 16 ≤ (A ++ ([] ++ B)).length ∨ 3 ≤ manyL (A ++ ([] ++ B)) u
    · rw [if_pos ⟨rfl, h⟩, if_pos ⟨rfl, h⟩]
    · have h1 : ¬ (false = false ∧ (16 ≤ (A ++ ([] ++ B)).length ∨ 3 ≤ manyL (A ++ ([] ++ B)) u)) := fun g => h g.2
      have h2 : ¬ (([] : List BookRow) = [] ∧ (16 ≤ (A ++ ([] ++ B)).length ∨ 3 ≤ manyL (A ++ ([] ++ B)) u)) := fun g => h g.2
      rw [if_neg h1, if_neg h2, if_neg (show ¬ 1099511627776 ≤ seq by omega), if_neg (show ¬ false = true by simp)]
      rw [List.take_left, List.drop_left]; rfl
  · have : M = [] := by cases M with | nil => rfl | cons _ _ => simp at hM
    subst this
    have h1 : ¬ (true = false ∧ (16 ≤ (A ++ ([x] ++ B)).length ∨ 3 ≤ manyL (A ++ ([x] ++ B)) u)) := by rintro ⟨g, _⟩; cases g
    have h2 : ¬ ([x] = [] ∧ (16 ≤ (A ++ ([x] ++ B)).length ∨ 3 ≤ manyL (A ++ ([x] ++ B)) u)) := by rintro ⟨g, _⟩; cases g
    rw [cut_yes hc, if_neg h1, if_neg h2, if_neg (show ¬ 1099511627776 ≤ seq by omega), if_pos (show true = true from rfl)]
    rw [List.take_left, ← List.drop_drop, List.drop_left]; rfl
theorem off_cut {seq : Int} {A B : List BookRow} {M : List BookRow} {u r : ByteArray} (hg : bookCheck seq (A ++ (M ++ B)) = 0) (hM : M.length ≤ 1) (hc : Cut3 (keyL u r) A M B) (hk : ((keyL u r).toList == (⟨#[]⟩ : ByteArray).toList) = false) (hs : seq < 1099511627776) :
    offL seq (A ++ (M ++ B)) u r = if M = [] then (seq, A ++ (M ++ B), ⟨false, 0, 0, 0⟩, 6) else (seq + 1, A ++ ([] ++ B), ⟨false, 0, 0, seq + 1⟩, 0) := by
  unfold offL
  simp only
  rw [if_neg (by simpa using hg), cut_pos hc]
  rcases M with _ | ⟨x, M⟩
  · rw [cut_no hc, if_pos (.inl rfl), if_pos rfl]
  · have : M = [] := by cases M with | nil => rfl | cons _ _ => simp at hM
    subst this
    have h1 : ¬ (true = false ∨ ((keyL u r).toList == (⟨#[]⟩ : ByteArray).toList) = true) := by
      rw [hk]; rintro (g | g) <;> cases g
    rw [cut_yes hc, if_neg h1, if_neg (show ¬ 1099511627776 ≤ seq by omega), if_neg (show ¬ [x] = [] by simp)]
    rw [List.take_left, ← List.drop_drop, List.drop_left]; rfl
def headP : List BookRow → PresPres × Bool
  | [] => (⟨false, 0, 0, 0⟩, false)
  | x :: _ => (x.P, true)
theorem get_cut {seq : Int} {A B : List BookRow} {M : List BookRow} {u r : ByteArray} (hg : bookCheck seq (A ++ (M ++ B)) = 0) (hc : Cut3 (keyL u r) A M B) (hk : ((keyL u r).toList == (⟨#[]⟩ : ByteArray).toList) = false) :
    getL seq (A ++ (M ++ B)) u r = headP M := by
  unfold getL
  simp only
  rw [if_neg (by rw [hk]; simp), if_neg (by simpa using hg), cut_pos hc]
  rcases M with _ | ⟨x, M⟩
  · rw [cut_no hc, if_pos rfl]; rfl
  · have hf : foundB (A ++ (x :: M ++ B)) (keyL u r) A.length = true := by
      unfold foundB
      have : (A ++ (x :: M ++ B))[A.length]? = some x := by rw [List.getElem?_append_right (Nat.le_refl _), Nat.sub_self]; rfl
      rw [this]; simp [hc.m x (by simp)]
    have hx : (A ++ (x :: M ++ B)).getD A.length default = x := by
      rw [List.getD_eq_getElem?_getD, List.getElem?_append_right (Nat.le_refl _), Nat.sub_self]; rfl
    rw [hf, if_neg (by simp), hx]; rfl
end Go.Proofs.Ythlhbgedidipkaa
/- The book in plain words: a table of presences under keys that are in order. -/
namespace Go.Proofs.Ythlhbgedidipkaa
open Go.RowKit
structure Fam where
  n : Nat
  u : Nat → ByteArray
  r : Nat → ByteArray
  ok : ∀ m, m < n → ((keyL (u m) (r m)).toList == (⟨#[]⟩ : ByteArray).toList) = false ∧ (u m).size ≤ 100 ∧ (r m).size ≤ 100
  mono : ∀ i j, i < j → j < n → Lib.compareBytes (keyL (u i) (r i)).data.toList (keyL (u j) (r j)).data.toList < 0
def Fam.key (F : Fam) (m : Nat) : ByteArray := keyL (F.u m) (F.r m)
def preT (has : List PresPres) (m : Nat) : PresPres := has.getD m ⟨false, 0, 0, 0⟩
def onF (has : List PresPres) (m : Nat) : Bool := (preT has m).On
def rowT (F : Fam) (has : List PresPres) (m : Nat) : BookRow := ⟨F.u m, F.r m, preT has m⟩
def tabA (F : Fam) (has : List PresPres) (l : List Nat) : List BookRow := (l.filter (onF has)).map (rowT F has)
def tabR (F : Fam) (has : List PresPres) : List BookRow := tabA F has (List.range F.n)
theorem tabA_app (F : Fam) (has : List PresPres) (a b : List Nat) : tabA F has (a ++ b) = tabA F has a ++ tabA F has b := by
  unfold tabA; rw [List.filter_append, List.map_append]
theorem range_cut {n k : Nat} (h : k < n) : List.range n = List.range k ++ ([k] ++ (List.range (n - k - 1)).map (k + 1 + ·)) := by
  have : n = k + (1 + (n - k - 1)) := by omega
  rw [this, List.range_add, List.range_add]
  congr 1
  rw [List.map_append]
  simp
  intro a _; omega
theorem tab_split (F : Fam) (has : List PresPres) {k : Nat} (h : k < F.n) : tabR F has = tabA F has (List.range k) ++ (tabA F has [k] ++ tabA F has ((List.range (F.n - k - 1)).map (k + 1 + ·))) := by
  unfold tabR; rw [range_cut h, tabA_app, tabA_app]
theorem preT_set {has : List PresPres} {k : Nat} (p : PresPres) (hk : k < has.length) : preT (has.set k p) k = p := by
  unfold preT; rw [List.getD_eq_getElem?_getD, List.getElem?_set_self hk]; rfl
theorem preT_ne {has : List PresPres} {k m : Nat} (p : PresPres) (h : m ≠ k) : preT (has.set k p) m = preT has m := by
  unfold preT; rw [List.getD_eq_getElem?_getD, List.getD_eq_getElem?_getD, List.getElem?_set_ne (by omega)]
theorem tabA_ne (F : Fam) (has : List PresPres) {k : Nat} (p : PresPres) (l : List Nat) (h : ∀ m ∈ l, m ≠ k) : tabA F (has.set k p) l = tabA F has l := by
  unfold tabA
  have e : l.filter (onF (has.set k p)) = l.filter (onF has) := List.filter_congr fun m hm => by unfold onF; rw [preT_ne p (h m hm)]
  rw [e]
  refine List.map_congr_left fun m hm => ?_
  unfold rowT
  rw [preT_ne p (h m (List.mem_filter.1 hm).1)]
theorem tabA_one (F : Fam) (has : List PresPres) (k : Nat) : tabA F has [k] = if onF has k = true then [rowT F has k] else [] := by
  unfold tabA
  by_cases h : onF has k = true
  · rw [if_pos h, List.filter_cons_of_pos h]; rfl
  · rw [if_neg h, List.filter_cons_of_neg h]; rfl
theorem mem_tabA {F : Fam} {has : List PresPres} {l : List Nat} {x : BookRow} (h : x ∈ tabA F has l) : ∃ m ∈ l, onF has m = true ∧ x = rowT F has m := by
  unfold tabA at h
  obtain ⟨m, hm, rfl⟩ := List.mem_map.1 h
  exact ⟨m, (List.mem_filter.1 hm).1, (List.mem_filter.1 hm).2, rfl⟩
theorem mem_tabR {F : Fam} {has : List PresPres} {x : BookRow} (h : x ∈ tabR F has) : ∃ m, m < F.n ∧ onF has m = true ∧ x = rowT F has m := by
  obtain ⟨m, hm, h1, h2⟩ := mem_tabA h
  exact ⟨m, List.mem_range.1 hm, h1, h2⟩
theorem tab_cut3 (F : Fam) (has : List PresPres) {k : Nat} (h : k < F.n) : Cut3 (F.key k) (tabA F has (List.range k)) (tabA F has [k]) (tabA F has ((List.range (F.n - k - 1)).map (k + 1 + ·))) := by
  refine ⟨fun x hx => ?_, fun x hx => ?_, fun x hx => ?_⟩
  · obtain ⟨m, hm, _, rfl⟩ := mem_tabA hx
    exact F.mono m k (List.mem_range.1 hm) h
  · obtain ⟨m, hm, _, rfl⟩ := mem_tabA hx
    rw [List.mem_singleton] at hm
    subst hm
    exact cmp_refl _
  · obtain ⟨m, hm, _, rfl⟩ := mem_tabA hx
    obtain ⟨j, hj, rfl⟩ := List.mem_map.1 hm
    have hj := List.mem_range.1 hj
    have := F.mono k (k + 1 + j) (by omega) (by omega)
    have h2 := cmp_anti (F.key k).data.toList (F.key (k + 1 + j)).data.toList
    show 0 < Lib.compareBytes (F.key (k + 1 + j)).data.toList (F.key k).data.toList
    have h3 : Lib.compareBytes (F.key k).data.toList (F.key (k + 1 + j)).data.toList < 0 := this
    omega
theorem tab_put_eq (F : Fam) (has : List PresPres) {k : Nat} (p : PresPres) (h : k < F.n) (hl : has.length = F.n) : tabR F (has.set k p) = tabA F has (List.range k) ++ ((if p.On = true then [⟨F.u k, F.r k, p⟩] else []) ++ tabA F has ((List.range (F.n - k - 1)).map (k + 1 + ·))) := by
  have e : preT (has.set k p) k = p := preT_set p (by omega)
  rw [tab_split F _ h, tabA_ne F has p (List.range k) (fun m hm => by have := List.mem_range.1 hm; omega), tabA_ne F has p ((List.range (F.n - k - 1)).map (k + 1 + ·)) (fun m hm => by obtain ⟨j, _, rfl⟩ := List.mem_map.1 hm; omega), tabA_one]
  unfold onF rowT
  rw [e]
structure TabOK (F : Fam) (seq : Int) (has : List PresPres) : Prop where
  len : has.length = F.n
  seq0 : 0 ≤ seq
  pres : ∀ m, m < F.n → onF has m = true → presCheckL (preT has m) = 0
  rng : ∀ m, m < F.n → onF has m = true → 1 ≤ (preT has m).Seq ∧ (preT has m).Seq ≤ seq
  diff : ∀ i j, i < j → j < F.n → onF has i = true → onF has j = true → (preT has i).Seq ≠ (preT has j).Seq
  cnt : (tabR F has).length ≤ 16
  many : ∀ m, m < F.n → onF has m = true → manyL (tabR F has) (F.u m) ≤ 3
theorem range_pw (n : Nat) : (List.range n).Pairwise (fun a b => a < b ∧ b < n) := by
  rw [List.pairwise_iff_getElem]
  intro i j hi hj h
  simp at hi hj ⊢
  omega
theorem tab_good {F : Fam} {seq : Int} {has : List PresPres} (h : TabOK F seq has) (hs : seq ≤ 1099511627776) : Good seq (tabR F has) where
  len := h.cnt
  seq0 := h.seq0
  seqM := hs
  key r hr := by
    obtain ⟨m, hm, _, rfl⟩ := mem_tabR hr
    exact (F.ok m hm).1
  pres r hr := by
    obtain ⟨m, hm, ho, rfl⟩ := mem_tabR hr
    exact ⟨h.pres m hm ho, ho⟩
  rng r hr := by
    obtain ⟨m, hm, ho, rfl⟩ := mem_tabR hr
    exact h.rng m hm ho
  ord := by
    unfold tabR tabA
    rw [List.pairwise_map]
    exact ((range_pw F.n).filter _).imp fun {a b} hab => F.mono a b hab.1 hab.2
  diff := by
    unfold tabR tabA
    rw [List.pairwise_map]
    refine ((range_pw F.n).filter _).imp_of_mem fun {a b} ha hb hab => h.diff a b hab.1 hab.2 (List.mem_filter.1 ha).2 (List.mem_filter.1 hb).2
  many r hr := by
    obtain ⟨m, hm, ho, rfl⟩ := mem_tabR hr
    exact h.many m hm ho
theorem many_app (a b : List BookRow) (v : ByteArray) : manyL (a ++ b) v = manyL a v + manyL b v := by unfold manyL; rw [List.countP_append]
theorem many_one (x : BookRow) (v : ByteArray) : manyL [x] v = if (x.User.toList == v.toList) = true then 1 else 0 := by
  unfold manyL; rw [List.countP_cons, List.countP_nil]; simp
theorem tab_ok_put {F : Fam} {seq : Int} {has : List PresPres} {k : Nat} {p : PresPres} (h : TabOK F seq has) (hk : k < F.n) (hp : p.On = true → presCheckL p = 0 ∧ p.Seq = seq + 1)
    (hroom : p.On = true → onF has k = false → (tabR F has).length < 16 ∧ manyL (tabR F has) (F.u k) < 3) : TabOK F (seq + 1) (has.set k p) := by
  have hlk : k < has.length := by rw [h.len]; exact hk
  have hk' := preT_set p hlk
  have hon : ∀ m, m ≠ k → onF (has.set k p) m = onF has m := fun m hm => by unfold onF; rw [preT_ne p hm]
  have honk : onF (has.set k p) k = p.On := by unfold onF; rw [hk']
  have hput := tab_put_eq F has p hk h.len
  have hold := tab_split F has hk
  rw [tabA_one] at hold
  have hcnt := h.cnt
  have h0 := h.seq0
  refine ⟨by rw [List.length_set]; exact h.len, by omega, fun m hm ho => ?_, fun m hm ho => ?_, fun i j hij hj hi ho => ?_, ?_, fun m hm ho => ?_⟩
  · by_cases e : m = k
    · subst e; rw [honk] at ho; rw [hk']; exact (hp ho).1
    · rw [hon m e] at ho; rw [preT_ne p e]; exact h.pres m hm ho
  · by_cases e : m = k
    · subst e; rw [honk] at ho; rw [hk']; have := (hp ho).2; omega
    · rw [hon m e] at ho; rw [preT_ne p e]; have := h.rng m hm ho; omega
  · by_cases e : i = k
    · subst e
      rw [honk] at hi; rw [hk', preT_ne p (by omega)]
      rw [hon j (by omega)] at ho
      have := h.rng j hj ho
      have := (hp hi).2; omega
    · rw [hon i e] at hi; rw [preT_ne p e]
      by_cases e2 : j = k
      · subst e2
        rw [honk] at ho; rw [hk']
        have := h.rng i (by omega) hi
        have := (hp ho).2; omega
      · rw [hon j e2] at ho; rw [preT_ne p e2]
        exact h.diff i j hij hj hi ho
  · rw [hput]
    rw [hold] at hcnt hroom
    cases ho : p.On with
    | false => rw [if_neg (by simp)]; simp at hcnt ⊢; omega
    | true =>
      rw [if_pos rfl]
      cases ho2 : onF has k with
      | true => rw [ho2, if_pos rfl] at hcnt; simp at hcnt ⊢; omega
      | false => have := (hroom ho ho2).1; rw [ho2, if_neg (by simp)] at this; simp at this ⊢; omega
  · have hm0 : m ≠ k → onF has m = true := fun e => by rw [hon m e] at ho; exact ho
    rw [hput, many_app, many_app]
    have hmany := h.many m hm
    rw [hold, many_app, many_app] at hmany hroom
    cases hp2 : p.On with
    | false =>
      rw [if_neg (by simp)]
      have e : m ≠ k := fun e => by subst e; rw [honk, hp2] at ho; cases ho
      have := hmany (hm0 e)
      have : manyL [] (F.u m) = 0 := rfl
      omega
    | true =>
      rw [if_pos rfl, many_one]
      cases ho2 : onF has k with
      | true =>
        rw [ho2, if_pos rfl, many_one] at hmany
        have hmo : onF has m = true := by
          by_cases e : m = k
          · rw [e]; exact ho2
          · exact hm0 e
        exact hmany hmo
      | false =>
        have hr := (hroom hp2 ho2).2
        rw [ho2, if_neg (by simp)] at hmany hr
        by_cases e : m = k
        · subst e
          have : manyL [] (F.u m) = 0 := rfl
          split <;> omega
        · have h1 := hmany (hm0 e)
          have : ∀ v, manyL [] v = 0 := fun v => rfl
          by_cases e2 : ((F.u k).toList == (F.u m).toList) = true
          · have e3 : F.u k = F.u m := by
              have := eq_of_beq e2
              rw [ByteArray.toList_eq, ByteArray.toList_eq] at this
              exact bl_inj this
            rw [if_pos e2]
            rw [← e3]
            have := this (F.u k)
            omega
          · rw [if_neg e2]
            have := this (F.u m)
            omega
end Go.Proofs.Ythlhbgedidipkaa
/- The book in plain words: Set, Off and Get by a table; the twenty keys of the laws. -/
namespace Go.Proofs.Ythlhbgedidipkaa
open Go.RowKit
theorem tab_check {F : Fam} {seq : Int} {has : List PresPres} (h : TabOK F seq has) (hs : seq < 1000) : bookCheck seq (tabR F has) = 0 := good_check (tab_good h (by omega))
theorem tabA1_len (F : Fam) (has : List PresPres) (k : Nat) : (tabA F has [k]).length ≤ 1 := by rw [tabA_one]; split <;> simp
theorem tabA1_nil (F : Fam) (has : List PresPres) (k : Nat) : tabA F has [k] = [] ↔ onF has k = false := by
  rw [tabA_one]; split <;> simp [*]
theorem tab_set {F : Fam} {seq : Int} {has : List PresPres} {k : Nat} {sh prio : Int} (h : TabOK F seq has) (hs : seq < 1000) (hk : k < F.n) (hp : presCheckL ⟨true, sh, prio, 0⟩ = 0) :
    setL seq (tabR F has) (F.u k) (F.r k) sh prio = if onF has k = false ∧ (16 ≤ (tabR F has).length ∨ 3 ≤ manyL (tabR F has) (F.u k)) then (seq, tabR F has, ⟨false, 0, 0, 0⟩, 7) else (seq + 1, tabR F (has.set k ⟨true, sh, prio, seq + 1⟩), ⟨true, sh, prio, seq + 1⟩, 0) := by
  have hg := tab_check h hs
  have hput := tab_put_eq F has ⟨true, sh, prio, seq + 1⟩ hk h.len
  rw [if_pos rfl] at hput
  rw [hput]
  have hc := tab_cut3 F has hk
  have hsp := tab_split F has hk
  have := set_cut (seq := seq) (sh := sh) (prio := prio) (by rw [← hsp]; exact hg) (tabA1_len F has k) hc (F.ok k hk).1 hp (by omega)
  rw [← hsp] at this
  rw [this]
  simp only [tabA1_nil]
theorem tab_off {F : Fam} {seq : Int} {has : List PresPres} {k : Nat} (h : TabOK F seq has) (hs : seq < 1000) (hk : k < F.n) :
    offL seq (tabR F has) (F.u k) (F.r k) = if onF has k = false then (seq, tabR F has, ⟨false, 0, 0, 0⟩, 6) else (seq + 1, tabR F (has.set k ⟨false, 0, 0, seq + 1⟩), ⟨false, 0, 0, seq + 1⟩, 0) := by
  have hg := tab_check h hs
  have hput := tab_put_eq F has ⟨false, 0, 0, seq + 1⟩ hk h.len
  rw [if_neg (by simp)] at hput
  rw [hput]
  have hc := tab_cut3 F has hk
  have hsp := tab_split F has hk
  have := off_cut (seq := seq) (by rw [← hsp]; exact hg) (tabA1_len F has k) hc (F.ok k hk).1 (by omega)
  rw [← hsp] at this
  rw [this]
  simp only [tabA1_nil]
theorem tab_get {F : Fam} {seq : Int} {has : List PresPres} {k : Nat} (h : TabOK F seq has) (hs : seq < 1000) (hk : k < F.n) :
    getL seq (tabR F has) (F.u k) (F.r k) = if onF has k = true then (preT has k, true) else (⟨false, 0, 0, 0⟩, false) := by
  have hg := tab_check h hs
  have hc := tab_cut3 F has hk
  have hsp := tab_split F has hk
  have := get_cut (seq := seq) (by rw [← hsp]; exact hg) hc (F.ok k hk).1
  rw [← hsp] at this
  rw [this, tabA_one]
  by_cases ho : onF has k = true
  · rw [if_pos ho, if_pos ho]; rfl
  · rw [if_neg ho, if_neg ho]; rfl
theorem tab_len (F : Fam) (has : List PresPres) : (tabR F has).length = (List.range F.n).countP (onF has) := by
  unfold tabR tabA; rw [List.length_map, List.countP_eq_length_filter]
theorem many_tab (F : Fam) (has : List PresPres) (v : ByteArray) : manyL (tabR F has) v = (List.range F.n).countP fun m => onF has m && ((F.u m).toList == v.toList) := by
  unfold manyL tabR tabA
  rw [List.countP_map, List.countP_filter]
  refine List.countP_congr fun m _ => ?_
  simp [rowT, and_comm]
theorem tab_small (F : Fam) (has : List PresPres) : smallB (tabR F has) := fun r hr => by
  obtain ⟨m, hm, _, rfl⟩ := mem_tabR hr
  have := (F.ok m hm).2
  exact ⟨by show (F.u m).size ≤ 100000; omega, by show (F.r m).size ≤ 100000; omega⟩
def u20 (w : Nat) : ByteArray := ⟨#[UInt8.ofNat (97 + w)]⟩ ++ ⟨#[64, 120]⟩
def r20 (r : Nat) : ByteArray := ⟨#[UInt8.ofNat (114 + r)]⟩
theorem all_lt {n : Nat} {p : Nat → Bool} (h : (List.range n).all p = true) : ∀ m, m < n → p m = true := fun m hm => List.all_eq_true.1 h m (List.mem_range.2 hm)
theorem ok20 : (List.range 20).all (fun m => !((keyL (u20 (m / 4)) (r20 (m % 4))).toList == (⟨#[]⟩ : ByteArray).toList) && (decide ((u20 (m / 4)).size ≤ 100) && decide ((r20 (m % 4)).size ≤ 100))) = true := by kernel_rfl
theorem mono20 : (List.range 20).all (fun j => (List.range j).all fun i => decide (Lib.compareBytes (keyL (u20 (i / 4)) (r20 (i % 4))).data.toList (keyL (u20 (j / 4)) (r20 (j % 4))).data.toList < 0)) = true := by kernel_rfl
def F20 : Fam where
  n := 20
  u m := u20 (m / 4)
  r m := r20 (m % 4)
  ok m hm := by
    have := all_lt ok20 m hm
    simpa using this
  mono i j hi hj := by
    have := all_lt (all_lt mono20 j hj) i hi
    simpa using this
theorem eq20 : (List.range 20).all (fun m => (List.range 5).all fun w => ((u20 (m / 4)).toList == (u20 w).toList) == decide (m / 4 = w)) = true := by kernel_rfl
theorem many20 (has : List PresPres) (w : Nat) (hw : w < 5) : manyL (tabR F20 has) (u20 w) = (List.range 4).countP fun i => onF has (4 * w + i) := by
  rw [many_tab]
  have e : (List.range 20).countP (fun m => onF has m && ((F20.u m).toList == (u20 w).toList)) = (List.range 20).countP fun m => onF has m && decide (m / 4 = w) :=
    List.countP_congr fun m hm => by
      have := all_lt (all_lt eq20 m (List.mem_range.1 hm)) w hw
      have h2 : ((u20 (m / 4)).toList == (u20 w).toList) = decide (m / 4 = w) := by simpa using this
      show (onF has m && ((u20 (m / 4)).toList == (u20 w).toList)) = true ↔ _
      rw [h2]
  show (List.range 20).countP _ = _
  rw [e]
  have r20 : List.range 20 = [0, 1, 2, 3, 4, 5, 6, 7, 8, 9, 10, 11, 12, 13, 14, 15, 16, 17, 18, 19] := rfl
  have r4 : List.range 4 = [0, 1, 2, 3] := rfl
  rw [r20, r4]
  have : w = 0 ∨ w = 1 ∨ w = 2 ∨ w = 3 ∨ w = 4 := by omega
  rcases this with rfl | rfl | rfl | rfl | rfl <;> simp [List.countP_cons]
theorem tab20_0 : TabOK F20 0 (List.replicate 20 ⟨false, 0, 0, 0⟩) := by
  have hon : ∀ m, onF (List.replicate 20 ⟨false, 0, 0, 0⟩) m = false := fun m => by
    unfold onF preT
    rw [List.getD_eq_getElem?_getD, List.getElem?_replicate]
    split <;> rfl
  have ht : tabR F20 (List.replicate 20 ⟨false, 0, 0, 0⟩) = [] := by
    unfold tabR tabA
    rw [List.filter_eq_nil_iff.2 (fun m _ => by rw [hon m]; simp)]; rfl
  have hno : ∀ m {q : Prop}, onF (List.replicate 20 ⟨false, 0, 0, 0⟩) m = true → q := fun m q h => by rw [hon m] at h; cases h
  refine { len := by rw [List.length_replicate]; rfl, seq0 := Int.le_refl _, pres := fun m _ h => hno m h, rng := fun m _ h => hno m h, diff := fun i j _ _ h => hno i h, cnt := by rw [ht]; simp, many := fun m _ h => hno m h }
theorem tab20_rows : tabR F20 (List.replicate 20 ⟨false, 0, 0, 0⟩) = [] := by
  unfold tabR tabA
  rw [List.filter_eq_nil_iff.2]; rfl
  intro m _
  unfold onF preT
  rw [List.getD_eq_getElem?_getD, List.getElem?_replicate]
  split <;> simp
end Go.Proofs.Ythlhbgedidipkaa
/- The program's book computes what the plain words say: checks. -/
namespace Go.Proofs.Ythlhbgedidipkaa
open Go.RowKit
theorem named_p {u r : ByteArray} (hu : u.size ≤ 100000) (hr : r.size ≤ 100000) : p_pres_named u r = some (namedL u r) := by
  unfold p_pres_named p_addr_Resource p_addr_IsBare namedL
  rw [if_pos hr, if_pos hu]
  by_cases h : resL r.data.toList = 0
  · simp [h]
  · have e : (resL r.data.toList == 0) = false := by simpa using h
    simp [h, e]
theorem key_p {u r : ByteArray} (hu : u.size ≤ 100000) (hr : r.size ≤ 100000) : p_pres_Key u r = some (keyL u r) := by
  unfold p_pres_Key cat? keyL
  rw [named_p hu hr]
  obtain ⟨h1, h2⟩ := cat_sz u r hu hr
  cases namedL u r
  · rfl
  · simp only [Option.bind_some, cond_true, if_pos h1, if_pos h2, if_true]
theorem keyR_p {x : BookRow} (h : smallR x) : p_book_Row_key x = some (keyR x) := by
  unfold p_book_Row_key; rw [key_p h.1 h.2]; rfl
theorem check1_p {x : BookRow} (h : smallR x) : p_book_Check_1 x = some ((keyR x).toList == (⟨#[]⟩ : ByteArray).toList) := by
  unfold p_book_Check_1; rw [keyR_p h]; rfl
theorem index_l (f : BookRow → Option Bool) (p : BookRow → Bool) (rows : List BookRow) (hn : rows.length ≤ 1000) (hf : ∀ x ∈ rows, f x = some (p x)) : ∀ (n k F : Nat), k + n = rows.length → n < F →
    p_slices_IndexFunc_book_Row_l1 f rows rows.length F k = some (if (rows.drop k).any p = true then .inl ((k + (rows.drop k).findIdx p : Nat) : Int) else .inr (rows.length : Int))
  | 0, k, F + 1, hk, hF => by
    have e : rows.drop k = [] := List.drop_of_length_le (by omega)
    have : k = rows.length := by omega
    rw [p_slices_IndexFunc_book_Row_l1, lt_ff (by omega), e, this]; rfl
  | n + 1, k, F + 1, hk, hF => by
    have hlt : k < rows.length := by omega
    rw [p_slices_IndexFunc_book_Row_l1, lt_tt hlt, at_lt hlt, drop_at hlt]
    simp only [cond_true, Option.bind_some, hf _ (List.getElem_mem hlt)]
    cases hp : p rows[k] with
    | true => rw [List.any_cons, hp, List.findIdx_cons, hp]; rfl
    | false =>
      simp only [cond_false]
      rw [w64_succ (by omega), index_l f p rows hn hf n (k + 1) F (by omega) (by omega)]
      simp only [List.any_cons, hp, Bool.false_or, List.findIdx_cons, cond_false]
      split
      · congr 3; omega
      · rfl
theorem index_p {f : BookRow → Option Bool} (p : BookRow → Bool) {rows : List BookRow} (hn : rows.length ≤ 1000) (hf : ∀ x ∈ rows, f x = some (p x)) : p_slices_IndexFunc_book_Row rows f = some (idxL p rows) := by
  unfold p_slices_IndexFunc_book_Row
  have := index_l f p rows hn hf rows.length 0 fuel (by omega) (by have := fuel_pos; omega)
  rw [show ((0 : Int)) = ((0 : Nat) : Int) from rfl, this]
  unfold idxL
  rw [List.drop_zero]
  split <;> simp
theorem contains_p {f : BookRow → Option Bool} (p : BookRow → Bool) {rows : List BookRow} (hn : rows.length ≤ 1000) (hf : ∀ x ∈ rows, f x = some (p x)) : p_slices_ContainsFunc_book_Row rows f = some (rows.any p) := by
  unfold p_slices_ContainsFunc_book_Row
  rw [index_p p hn hf]
  unfold idxL
  cases rows.any p <;> simp
theorem in_p (n a b : Int) : p_pres_in n a b = some (decide (a ≤ n) && decide (n ≤ b)) := by
  unfold p_pres_in
  cases decide (a ≤ n) <;> rfl
theorem presCheck_p (x : PresPres) : p_pres_Check x = some (presCheckL x) := by
  unfold p_pres_Check presCheckL
  simp only [in_p, Option.bind_some]
  cases h1 : (decide (0 ≤ x.Show) && decide (x.Show ≤ 4)) with
  | false =>
    have : x.Show < 0 ∨ 4 < x.Show := by simp at h1; omega
    rw [if_pos (by omega)]; rfl
  | true =>
    cases h2 : (decide (-128 ≤ x.Prio) && decide (x.Prio ≤ 127)) with
    | false =>
      have : x.Prio < -128 ∨ 127 < x.Prio := by simp at h2; omega
      rw [if_pos (by omega)]; rfl
    | true =>
      cases h3 : (decide (0 ≤ x.Seq) && decide (x.Seq ≤ 1099511627776)) with
      | false =>
        have : x.Seq < 0 ∨ 1099511627776 < x.Seq := by simp at h3; omega
        rw [if_pos (by omega)]; rfl
      | true =>
        simp at h1 h2 h3
        rw [if_neg (by omega)]
        cases ho : x.On with
        | true => simp
        | false =>
          by_cases hs : x.Show = 0 <;> by_cases hq : x.Prio = 0
          · simp [hs, hq]
          · have e : (x.Prio == 0) = false := by simpa using hq
            simp [hs, hq, e]
          · have e : (x.Show == 0) = false := by simpa using hs
            simp [hs, hq, e]
          · have e : (x.Show == 0) = false := by simpa using hs
            simp [hs, hq, e]
theorem errors_l (rows : List BookRow) (hn : rows.length ≤ 1000) : ∀ (n k F : Nat), k + n = rows.length → n < F →
    p_book_State_errors_l1 rows rows.length F k = some (if errL (rows.drop k) ≠ 0 then .inl (errL (rows.drop k)) else .inr (rows.length : Int))
  | 0, k, F + 1, hk, hF => by
    have e : rows.drop k = [] := List.drop_of_length_le (by omega)
    have : k = rows.length := by omega
    rw [p_book_State_errors_l1, lt_ff (by omega), e, this]; rfl
  | n + 1, k, F + 1, hk, hF => by
    have hlt : k < rows.length := by omega
    rw [p_book_State_errors_l1, lt_tt hlt, at_lt hlt, err_at rows k hlt]
    simp only [cond_true, Option.bind_some, presCheck_p]
    by_cases h : presCheckL rows[k].P = 0
    · simp only [h, bne_self_eq_false, cond_false]
      cases ho : rows[k].P.On with
      | false => simp
      | true =>
        simp only [cond_true]
        rw [w64_succ (by omega), errors_l rows hn n (k + 1) F (by omega) (by omega)]
        simp
    · have : (presCheckL rows[k].P != 0) = true := by simpa using h
      simp [this, h]
theorem errors_p (st : BookState) (hn : st.Rows.length ≤ 1000) : p_book_State_errors st = some (errL st.Rows) := by
  unfold p_book_State_errors
  have := errors_l st.Rows hn st.Rows.length 0 fuel (by omega) (by have := fuel_pos; omega)
  rw [show ((0 : Int)) = ((0 : Nat) : Int) from rfl, this]
  rw [List.drop_zero]
  by_cases h : errL st.Rows = 0 <;> simp [h]
theorem ord1_p (x : BookRow) : ∀ o : BookRow, p_book_State_ordered_1 o x = some (o.P.Seq == x.P.Seq) := fun _ => rfl
theorem bnot_inl {b : Bool} {α : Type} {x : Option α} {y : Option α} (h : b = true) : (bif b then x else y) = x := by rw [h]; rfl
theorem ordered_l (st : BookState) (hn : st.Rows.length ≤ 1000) (hs : smallB st.Rows) : ∀ (n k F : Nat), k + n = st.Rows.length → n < F →
    p_book_State_ordered_l1 st.Rows st.Rows.length st F k = some (if ((List.range st.Rows.length).drop k).all (okAt st.Seq st.Rows) = true then .inr (st.Rows.length : Int) else .inl false)
  | 0, k, F + 1, hk, hF => by
    have e : (List.range st.Rows.length).drop k = [] := List.drop_of_length_le (by simp; omega)
    have : k = st.Rows.length := by omega
    rw [p_book_State_ordered_l1, lt_ff (by omega), e, this]; rfl
  | n + 1, k, F + 1, hk, hF => by
    have hlt : k < st.Rows.length := by omega
    have hd : (List.range st.Rows.length).drop k = k :: (List.range st.Rows.length).drop (k + 1) := by
      rw [drop_at (by simpa using hlt)]; simp
    rw [p_book_State_ordered_l1, lt_tt hlt, at_lt hlt, hd, List.all_cons]
    simp only [cond_true, Option.bind_some]
    have hc := contains_p (f := fun x0 => p_book_State_ordered_1 x0 st.Rows[k]) (fun o => o.P.Seq == st.Rows[k].P.Seq) (rows := st.Rows.take k) (by rw [List.length_take]; omega) (fun o _ => ord1_p _ o)
    have ih := ordered_l st hn hs n (k + 1) F (by omega) (by omega)
    rw [w64_succ (by omega), ih, cutTo (by omega)]
    simp only [Option.bind_some, hc]
    cases k with
    | zero =>
      rw [okAt_0 hlt]
      by_cases h1 : st.Rows[0].P.Seq < 1
      · simp only [decide_eq_true h1, cond_true]
        rw [if_neg (by simp <;> omega)]
      · by_cases h2 : st.Seq < st.Rows[0].P.Seq
        · simp only [decide_eq_false h1, cond_false, decide_eq_true h2, cond_true]
          rw [if_neg (by simp <;> omega)]
        · simp only [decide_eq_false h1, cond_false, decide_eq_false h2, show decide ((0 : Int) < ((0 : Nat) : Int)) = false from rfl]
          rw [decide_eq_true (show (1 : Int) ≤ st.Rows[0].P.Seq by omega), decide_eq_true (show st.Rows[0].P.Seq ≤ st.Seq by omega)]
          cases (List.take 0 st.Rows).any fun o => o.P.Seq == st.Rows[0].P.Seq
          · simp only [cond_false, Bool.not_false, Bool.and_true, Bool.true_and]
          · simp
    | succ j =>
      rw [okAt_s j hlt]
      have hj : j < st.Rows.length := by omega
      have e0 : w64 (((j + 1 : Nat) : Int) - 1) = (j : Int) := by rw [w64_id (by omega)]; omega
      rw [e0, at_lt hj]
      simp only [Option.bind_some, keyR_p (hs _ (List.getElem_mem hj)), keyR_p (hs _ (List.getElem_mem hlt))]
      by_cases h1 : st.Rows[j + 1].P.Seq < 1
      · simp only [decide_eq_true h1, cond_true]
        rw [if_neg (by simp <;> omega)]
      · by_cases h2 : st.Seq < st.Rows[j + 1].P.Seq
        · simp only [decide_eq_false h1, cond_false, decide_eq_true h2, cond_true]
          rw [if_neg (by simp <;> omega)]
        · have h3 : decide ((0 : Int) < ((j + 1 : Nat) : Int)) = true := decide_eq_true (by omega)
          simp only [decide_eq_false h1, cond_false, decide_eq_false h2, h3, cond_true]
          rw [decide_eq_true (show (1 : Int) ≤ st.Rows[j + 1].P.Seq by omega), decide_eq_true (show st.Rows[j + 1].P.Seq ≤ st.Seq by omega)]
          have hl : lessR st.Rows[j] st.Rows[j + 1] = Op.bytesLess (keyR st.Rows[j]).toList (keyR st.Rows[j + 1]).toList := rfl
          rw [hl]
          cases Op.bytesLess (keyR st.Rows[j]).toList (keyR st.Rows[j + 1]).toList
          · simp
          · cases (List.take (j + 1) st.Rows).any fun o => o.P.Seq == st.Rows[j + 1].P.Seq
            · simp only [cond_true, cond_false, Bool.not_false, Bool.and_true, Bool.true_and]
            · simp
theorem ordered_p (st : BookState) (hn : st.Rows.length ≤ 1000) (hs : smallB st.Rows) : p_book_State_ordered st = some (ordL st.Seq st.Rows) := by
  unfold p_book_State_ordered
  have := ordered_l st hn hs st.Rows.length 0 fuel (by omega) (by have := fuel_pos; omega)
  rw [show ((0 : Int)) = ((0 : Nat) : Int) from rfl, this]
  rw [List.drop_zero]
  unfold ordL
  cases (List.range st.Rows.length).all (okAt st.Seq st.Rows) <;> simp
theorem many_l (u : ByteArray) (rows : List BookRow) (hn : rows.length ≤ 1000) : ∀ (n k F a : Nat), k + n = rows.length → n < F → a ≤ k →
    p_book_State_many_l1 u rows rows.length F a k = some (((a + manyL (rows.drop k) u : Nat) : Int), (rows.length : Int))
  | 0, k, F + 1, a, hk, hF, ha => by
    have e : rows.drop k = [] := List.drop_of_length_le (by omega)
    have : k = rows.length := by omega
    rw [p_book_State_many_l1, lt_ff (by omega), e, this]; rfl
  | n + 1, k, F + 1, a, hk, hF, ha => by
    have hlt : k < rows.length := by omega
    rw [p_book_State_many_l1, lt_tt hlt, at_lt hlt, drop_at hlt]
    simp only [cond_true, Option.bind_some]
    rw [w64_succ (show k ≤ 1000000 by omega), w64_succ (show a ≤ 1000000 by omega)]
    have hm : manyL (rows[k] :: rows.drop (k + 1)) u = manyL (rows.drop (k + 1)) u + if (rows[k].User.toList == u.toList) = true then 1 else 0 := by
      unfold manyL; rw [List.countP_cons]
    rw [hm]
    cases h : rows[k].User.toList == u.toList with
    | true =>
      simp only [cond_true, if_true]
      rw [many_l u rows hn n (k + 1) F (a + 1) (by omega) (by omega) (by omega)]
      congr 3; omega
    | false =>
      simp only [cond_false]
      rw [many_l u rows hn n (k + 1) F a (by omega) (by omega) (by omega)]
      simp
theorem many_p (st : BookState) (u : ByteArray) (hn : st.Rows.length ≤ 1000) : p_book_State_many st u = some ((manyL st.Rows u : Nat) : Int) := by
  unfold p_book_State_many
  have := many_l u st.Rows hn st.Rows.length 0 fuel 0 (by omega) (by have := fuel_pos; omega) (by omega)
  rw [show ((0 : Int)) = ((0 : Nat) : Int) from rfl, this]
  simp
theorem check2_p (st : BookState) (hn : st.Rows.length ≤ 1000) (x : BookRow) : p_book_Check_2 x st = some (decide (3 < manyL st.Rows x.User)) := by
  unfold p_book_Check_2
  rw [many_p st x.User hn]
  simp only [Option.bind_some, Option.some.injEq, decide_eq_decide]
  omega
theorem check_p (st : BookState) (hn : st.Rows.length ≤ 1000) (hs : smallB st.Rows) : p_book_Check st = some (bookCheck st.Seq st.Rows) := by
  unfold p_book_Check bookCheck
  by_cases h0 : 16 < st.Rows.length
  · rw [decide_eq_true (show (16 : Int) < (st.Rows.length : Int) by omega), if_pos h0]; rfl
  rw [decide_eq_false (show ¬ (16 : Int) < (st.Rows.length : Int) by omega), if_neg h0]
  by_cases h1 : st.Seq < 0
  · rw [decide_eq_true h1, if_pos (.inl h1)]; rfl
  rw [decide_eq_false h1]
  by_cases h2 : 1099511627776 < st.Seq
  · rw [decide_eq_true h2, if_pos (.inr h2)]; rfl
  rw [decide_eq_false h2, if_neg (by omega)]
  simp only [cond_false]
  rw [contains_p (fun r => (keyR r).toList == (⟨#[]⟩ : ByteArray).toList) hn (fun x hx => check1_p (hs x hx))]
  have he : emptyL st.Rows = st.Rows.any fun r => (keyR r).toList == (⟨#[]⟩ : ByteArray).toList := rfl
  rw [← he]
  cases emptyL st.Rows with
  | true => rfl
  | false =>
    simp only [Option.bind_some, cond_false, errors_p st hn, ordered_p st hn hs]
    by_cases h3 : errL st.Rows = 0
    · simp only [h3, bne_self_eq_false, cond_false]
      cases ordL st.Seq st.Rows with
      | false => rfl
      | true =>
        simp only [cond_true]
        rw [contains_p (fun r => decide (3 < manyL st.Rows r.User)) hn (fun x _ => check2_p st hn x)]
        have hf : fullL st.Rows = st.Rows.any fun r => decide (3 < manyL st.Rows r.User) := rfl
        rw [← hf]
        cases fullL st.Rows <;> rfl
    · have : (errL st.Rows != 0) = true := by simpa using h3
      simp [this, h3]
end Go.Proofs.Ythlhbgedidipkaa
/- The program's book computes what the plain words say: find, Set, Off, Get, Next, Of, Best, Users, Same. -/
namespace Go.Proofs.Ythlhbgedidipkaa
open Go.RowKit
theorem find1_p {x : BookRow} (h : smallR x) (k : ByteArray) : p_book_State_find_1 x k = some (cmpR x k) := by
  unfold p_book_State_find_1 p_strings_Compare
  rw [keyR_p h]; rfl
theorem search_l {rows : List BookRow} {key : ByteArray} {pos : Nat} (hn : rows.length ≤ 1000) (hs : smallB rows) (hp : StandsAt rows key pos) : ∀ (d i j F : Nat), i + d = j → j ≤ rows.length → i ≤ pos → pos ≤ j → d < F →
    p_slices_BinarySearchFunc_book_Row_l1 (fun x0 x1 => p_book_State_find_1 x0 x1) rows key F i j = some ((pos : Int), (pos : Int)) := by
  intro d
  induction d using Nat.strongRecOn with
  | ind d ih =>
    intro i j F hd hj h1 h2 hF
    obtain ⟨F, rfl⟩ : ∃ G, F = G + 1 := ⟨F - 1, by omega⟩
    rw [p_slices_BinarySearchFunc_book_Row_l1]
    rcases Nat.lt_or_ge i j with hij | hij
    · rw [lt_tt hij, half_p (by omega), w64_succ (show (i + j) / 2 ≤ 1000000 by omega)]
      have hm : (i + j) / 2 < rows.length := by omega
      simp only [cond_true, at_lt hm, Option.bind_some, find1_p (hs _ (List.getElem_mem hm))]
      rcases Nat.lt_or_ge ((i + j) / 2) pos with hlt | hge
      · rw [decide_eq_true (hp.lt _ hm hlt), cond_true]
        exact ih (j - ((i + j) / 2 + 1)) (by omega) _ _ F (by omega) hj (by omega) h2 (by omega)
      · have := hp.ge _ hm hge
        rw [decide_eq_false (by omega), cond_false]
        exact ih ((i + j) / 2 - i) (by omega) _ _ F (by omega) (by omega) h1 hge (by omega)
    · rw [lt_ff hij]
      have : i = pos := by omega
      have : j = pos := by omega
      subst_vars
      simp
theorem find_p {st : BookState} {k : ByteArray} (hn : st.Rows.length ≤ 1000) (hs : smallB st.Rows) (ho : sortedR st.Rows) : p_book_State_find st k = some (((posL st.Rows k : Nat) : Int), foundB st.Rows k (posL st.Rows k)) := by
  have hp := stands ho k
  have hl := search_l hn hs hp st.Rows.length 0 st.Rows.length fuel (by omega) (Nat.le_refl _) (Nat.zero_le _) hp.le (by have := fuel_pos; omega)
  unfold p_book_State_find p_slices_BinarySearchFunc_book_Row
  rw [show ((0 : Int)) = ((0 : Nat) : Int) from rfl, hl]
  simp only [Option.bind_some]
  unfold foundB
  rcases Nat.lt_or_ge (posL st.Rows k) st.Rows.length with h | h
  · rw [lt_tt h, at_lt h, List.getElem?_eq_getElem h]
    simp only [cond_true, Option.bind_some, find1_p (hs _ (List.getElem_mem h))]; rfl
  · rw [lt_ff h, List.getElem?_eq_none h]; rfl
def stL (t : Int × List BookRow × PresPres × Int) : BookState × PresPres × Int := (⟨t.1, t.2.1⟩, t.2.2.1, t.2.2.2)
theorem set_p {st : BookState} {u r : ByteArray} {sh prio : Int} (hn : st.Rows.length ≤ 1000) (hs : smallB st.Rows) (hu : u.size ≤ 100000) (hr : r.size ≤ 100000) : p_book_Set st u r sh prio = some (stL (setL st.Seq st.Rows u r sh prio)) := by
  unfold p_book_Set setL
  rw [check_p st hn hs]
  by_cases hc : bookCheck st.Seq st.Rows = 0
  · have ho := ord_sorted (check_ord hc)
    have hsq := check_seq hc
    have hl := check_len hc
    simp only [hc, bne_self_eq_false, cond_false, Option.bind_some, ne_eq, not_true_eq_false, if_false]
    have hx : smallR (BookRow.mk u r ⟨true, sh, prio, 0⟩) := ⟨hu, hr⟩
    rw [keyR_p hx]
    simp only [Option.bind_some]
    generalize hk : keyR (BookRow.mk u r ⟨true, sh, prio, 0⟩) = k
    cases hke : k.toList == (⟨#[]⟩ : ByteArray).toList with
    | true => simp; rfl
    | false =>
      simp only [cond_false, Bool.false_eq_true, if_false, presCheck_p, Option.bind_some]
      by_cases hpc : presCheckL ⟨true, sh, prio, 0⟩ = 0
      · simp only [hpc, bne_self_eq_false, cond_false, not_true_eq_false, if_false]
        rw [find_p hn hs ho]
        simp only [Option.bind_some]
        have hle : posL st.Rows k ≤ st.Rows.length := List.findIdx_le_length
        have hw : w64 (st.Seq + 1) = st.Seq + 1 := w64_id (by omega)
        cases hf : foundB st.Rows k (posL st.Rows k) with
        | true =>
          have hlt := found_lt hf
          simp only [cond_true, Bool.true_eq_false, false_and, if_false, if_true, hw]
          by_cases h9 : 1099511627776 ≤ st.Seq
          · rw [decide_eq_true h9, if_pos h9]; rfl
          · rw [decide_eq_false h9, if_neg h9]
            simp only [cond_false]
            rw [w64_succ (by omega), cutFrom hle, cutFrom (by omega), cutTo hle]
            simp only [Option.bind_some]
            rw [app_ok (by simp; omega)]
            simp only [Option.bind_some]
            rw [app_ok (by simp; omega)]
            simp [stL]
        | false =>
          simp only [cond_false, true_and, Bool.false_eq_true, if_false, hw]
          by_cases h16 : 16 ≤ st.Rows.length
          · rw [decide_eq_true (show (16 : Int) ≤ (st.Rows.length : Int) by omega), if_pos (.inl h16)]; rfl
          · rw [decide_eq_false (show ¬ (16 : Int) ≤ (st.Rows.length : Int) by omega), many_p st u hn]
            simp only [cond_false, Option.bind_some]
            by_cases h3 : 3 ≤ manyL st.Rows u
            · rw [decide_eq_true (show (3 : Int) ≤ ((manyL st.Rows u : Nat) : Int) by omega), if_pos (.inr h3)]; rfl
            · rw [decide_eq_false (show ¬ (3 : Int) ≤ ((manyL st.Rows u : Nat) : Int) by omega), if_neg (by omega)]
              by_cases h9 : 1099511627776 ≤ st.Seq
              · rw [decide_eq_true h9, if_pos h9]; rfl
              · rw [decide_eq_false h9, if_neg h9]
                simp only [cond_false]
                rw [cutFrom hle, cutTo hle]
                simp only [Option.bind_some]
                rw [app_ok (by simp; omega)]
                simp only [Option.bind_some]
                rw [app_ok (by simp; omega)]
                simp [stL]
      · have : (presCheckL ⟨true, sh, prio, 0⟩ != 0) = true := by simpa using hpc
        simp [this, hpc, stL]
  · have : (bookCheck st.Seq st.Rows != 0) = true := by simpa using hc
    simp [this, hc, stL]
theorem off_p {st : BookState} {u r : ByteArray} (hn : st.Rows.length ≤ 1000) (hs : smallB st.Rows) (hu : u.size ≤ 100000) (hr : r.size ≤ 100000) : p_book_Off st u r = some (stL (offL st.Seq st.Rows u r)) := by
  unfold p_book_Off offL
  rw [check_p st hn hs]
  by_cases hc : bookCheck st.Seq st.Rows = 0
  · have ho := ord_sorted (check_ord hc)
    have hsq := check_seq hc
    have hl := check_len hc
    simp only [hc, bne_self_eq_false, cond_false, Option.bind_some, ne_eq, not_true_eq_false, if_false]
    rw [key_p hu hr]
    simp only [Option.bind_some]
    generalize hk : keyL u r = k
    rw [find_p hn hs ho]
    simp only [Option.bind_some]
    have hle : posL st.Rows k ≤ st.Rows.length := List.findIdx_le_length
    have hw : w64 (st.Seq + 1) = st.Seq + 1 := w64_id (by omega)
    cases hf : foundB st.Rows k (posL st.Rows k) with
    | false => simp [stL]
    | true =>
      have hlt := found_lt hf
      simp only [cond_true, Bool.true_eq_false, false_or, hw]
      cases hke : k.toList == (⟨#[]⟩ : ByteArray).toList with
      | true => simp [stL]
      | false =>
        simp only [cond_false, Bool.false_eq_true, if_false]
        by_cases h9 : 1099511627776 ≤ st.Seq
        · rw [decide_eq_true h9, if_pos h9]; rfl
        · rw [decide_eq_false h9, if_neg h9]
          simp only [cond_false]
          rw [w64_succ (by omega), cutFrom (by omega), cutTo hle]
          simp only [Option.bind_some]
          rw [app_ok (by simp; omega)]
          rfl
  · have : (bookCheck st.Seq st.Rows != 0) = true := by simpa using hc
    simp [this, hc, stL]
theorem get_p {st : BookState} {u r : ByteArray} (hn : st.Rows.length ≤ 1000) (hs : smallB st.Rows) (hu : u.size ≤ 100000) (hr : r.size ≤ 100000) : p_book_Get st u r = some (getL st.Seq st.Rows u r) := by
  unfold p_book_Get getL
  rw [key_p hu hr]
  simp only [Option.bind_some]
  generalize hk : keyL u r = k
  cases hke : k.toList == (⟨#[]⟩ : ByteArray).toList with
  | true => simp
  | false =>
    simp only [cond_false, Bool.false_eq_true, if_false, check_p st hn hs, Option.bind_some]
    by_cases hc : bookCheck st.Seq st.Rows = 0
    · have ho := ord_sorted (check_ord hc)
      simp only [hc, bne_self_eq_false, cond_false, ne_eq, not_true_eq_false, if_false]
      rw [find_p hn hs ho]
      simp only [Option.bind_some]
      cases hf : foundB st.Rows k (posL st.Rows k) with
      | false => simp
      | true =>
        have hlt := found_lt hf
        simp only [cond_true, Bool.true_eq_false, if_false]
        rw [at_lt hlt, List.getD_eq_getElem?_getD, List.getElem?_eq_getElem hlt]; rfl
    · have : (bookCheck st.Seq st.Rows != 0) = true := by simpa using hc
      simp [this, hc]
theorem next_p {st : BookState} {k : ByteArray} (hn : st.Rows.length ≤ 1000) (hs : smallB st.Rows) : p_book_Next st k = some (nxtL st.Seq st.Rows k) := by
  unfold p_book_Next nxtL
  rw [check_p st hn hs]
  by_cases hc : bookCheck st.Seq st.Rows = 0
  · have ho := ord_sorted (check_ord hc)
    simp only [hc, bne_self_eq_false, cond_false, Option.bind_some, ne_eq, not_true_eq_false, if_false]
    rw [find_p hn hs ho]
    have hle : posL st.Rows k ≤ st.Rows.length := List.findIdx_le_length
    simp only [Option.bind_some]
    have go : ∀ p : Nat, p ≤ st.Rows.length → (bif ((p : Int) == (st.Rows.length : Int)) then some ((BookRow.mk (⟨#[]⟩ : ByteArray) (⟨#[]⟩ : ByteArray) (PresPres.mk false (0 : Int) (0 : Int) (0 : Int))), false) else (at? st.Rows (p : Int)).bind fun x6 => some (x6, true)) = some (rowAt st.Rows p) := by
      intro p hp
      rcases Nat.lt_or_ge p st.Rows.length with h | h
      · have e : ((p : Int) == (st.Rows.length : Int)) = false := by simp; omega
        rw [e, at_lt h, rowAt_lt h]; rfl
      · have e : ((p : Int) == (st.Rows.length : Int)) = true := by simp; omega
        rw [e, rowAt_ge h]; rfl
    cases hf : foundB st.Rows k (posL st.Rows k) with
    | false =>
      simp only [cond_false, Bool.false_eq_true, if_false]
      exact go _ hle
    | true =>
      have hlt := found_lt hf
      simp only [cond_true, if_true]
      rw [w64_succ (by omega)]
      exact go _ hlt
  · have : (bookCheck st.Seq st.Rows != 0) = true := by simpa using hc
    simp [this, hc]
end Go.Proofs.Ythlhbgedidipkaa
/- The book in plain words: what laws share. -/
namespace Go.Proofs.Ythlhbgedidipkaa
open Go.RowKit
theorem text1 (a b : Nat) (x : Int) (m : Int) (hx : x = (b : Int)) (hb : a + b ≤ 255) : text? [IntKind.wrap .u8 ((a : Int) + x)] = some ⟨#[UInt8.ofNat (a + b)]⟩ := by
  subst hx
  rw [u8_in (by omega)]
  unfold text?
  have h : ([(a : Int) + (b : Int)].all fun b => decide (0 ≤ b) && decide (b ≤ 255)) = true := by simp; omega
  have e : ((a : Int) + (b : Int)).toNat = a + b := by omega
  rw [if_pos h]
  simp only [List.map_cons, List.map_nil, e]
theorem tmod_nat {x : Int} (h : 0 ≤ x) (m : Nat) : Int.tmod x (m : Int) = ((x.toNat % m : Nat) : Int) := by
  obtain ⟨n, rfl⟩ := Int.eq_ofNat_of_zero_le h
  simp [Int.tmod]
theorem ba_app_size (a b : ByteArray) : (a ++ b).size = a.size + b.size := ByteArray.size_append
theorem presOn (sh prio s : Int) (h1 : 0 ≤ sh ∧ sh ≤ 4) (h2 : -128 ≤ prio ∧ prio ≤ 127) (h3 : 0 ≤ s ∧ s ≤ 1099511627776) : presCheckL ⟨true, sh, prio, s⟩ = 0 := by
  unfold presCheckL
  rw [if_neg (by simp; omega)]; simp
/-- the next row, behind each key. -/
theorem nxt_key {seq : Int} {rows : List BookRow} (hc : bookCheck seq rows = 0) {i : Nat} (hi : i < rows.length) : nxtL seq rows (keyR rows[i]) = rowAt rows (i + 1) := by
  have hs := ord_sorted (check_ord hc)
  have hp : posL rows (keyR rows[i]) = i := pos_of ⟨by omega, fun j hj hji => hs j i hi hji, fun j hj hij => by
    rcases Nat.lt_or_ge i j with h | h
    · have h1 := hs i j hj h
      have h2 := cmp_anti (keyR rows[i]).data.toList (keyR rows[j]).data.toList
      have h1' : Lib.compareBytes (keyR rows[i]).data.toList (keyR rows[j]).data.toList < 0 := h1
      show 0 ≤ Lib.compareBytes (keyR rows[j]).data.toList (keyR rows[i]).data.toList
      omega
    · have : j = i := by omega
      subst this
      show 0 ≤ Lib.compareBytes _ _
      rw [cmp_refl]; omega⟩
  have hf : foundB rows (keyR rows[i]) i = true := by
    unfold foundB
    rw [List.getElem?_eq_getElem hi]
    show (Lib.compareBytes _ _ == 0) = true
    rw [cmp_refl]; rfl
  unfold nxtL
  rw [if_neg (by simpa using hc), hp, hf, if_pos rfl]
theorem cmp_empty {a : List UInt8} (h : a ≠ []) : 0 < Lib.compareBytes a [] := by
  cases a with
  | nil => exact absurd rfl h
  | cons x xs => simp [Lib.compareBytes]
theorem nxt_empty {seq : Int} {rows : List BookRow} (hc : bookCheck seq rows = 0) (hk : ∀ r ∈ rows, ((keyR r).toList == (⟨#[]⟩ : ByteArray).toList) = false) : nxtL seq rows ⟨#[]⟩ = rowAt rows 0 := by
  have pos : ∀ r ∈ rows, 0 < cmpR r ⟨#[]⟩ := fun r hr => cmp_empty (fun e => by
    have := hk r hr
    rw [ByteArray.toList_eq, ByteArray.toList_eq, e] at this
    simp at this)
  have hp : posL rows ⟨#[]⟩ = 0 := pos_of ⟨Nat.zero_le _, fun j hj hji => by omega, fun j hj _ => Int.le_of_lt (pos _ (List.getElem_mem hj))⟩
  have hf : foundB rows ⟨#[]⟩ 0 = false := by
    unfold foundB
    cases rows with
    | nil => rfl
    | cons r l =>
      have := pos r (by simp)
      simp; omega
  unfold nxtL
  rw [if_neg (by simpa using hc), hp, hf, if_neg (by simp)]
end Go.Proofs.Ythlhbgedidipkaa
/- snap in plain words: what is seen, what is told. -/
namespace Go.Proofs.Ythlhbgedidipkaa
open Go.RowKit
theorem idxS_l (l : List ByteArray) (s : ByteArray) (hn : l.length ≤ 1000) : ∀ (n k F : Nat), k + n = l.length → n < F →
    p_slices_Index_string_l1 l s l.length F k = some (if (l.drop k).any (fun y => s.toList == y.toList) = true then .inl ((k + (l.drop k).findIdx (fun y => s.toList == y.toList) : Nat) : Int) else .inr (l.length : Int))
  | 0, k, F + 1, hk, hF => by
    have e : l.drop k = [] := List.drop_of_length_le (by omega)
    have : k = l.length := by omega
    rw [p_slices_Index_string_l1, lt_ff (by omega), e, this]; rfl
  | n + 1, k, F + 1, hk, hF => by
    have hlt : k < l.length := by omega
    rw [p_slices_Index_string_l1, lt_tt hlt, at_lt hlt, drop_at hlt]
    simp only [cond_true, Option.bind_some]
    cases hp : s.toList == l[k].toList with
    | true => rw [List.any_cons, hp, List.findIdx_cons, hp]; rfl
    | false =>
      simp only [cond_false]
      rw [w64_succ (by omega), idxS_l l s hn n (k + 1) F (by omega) (by omega)]
      simp only [List.any_cons, hp, Bool.false_or, List.findIdx_cons, cond_false]
      split
      · congr 3; omega
      · rfl
theorem containsS_p (l : List ByteArray) (s : ByteArray) (hn : l.length ≤ 1000) : p_slices_Contains_string l s = some (l.any fun y => s.toList == y.toList) := by
  unfold p_slices_Contains_string p_slices_Index_string
  have := idxS_l l s hn l.length 0 fuel (by omega) (by have := fuel_pos; omega)
  rw [show ((0 : Int)) = ((0 : Nat) : Int) from rfl, this, List.drop_zero]
  cases l.any (fun y => s.toList == y.toList) <;> simp
def seesL (e : SnapEyes) (x : BookRow) : Bool := (e.Users.any fun y => x.User.toList == y.toList) || (e.Keys.any fun y => (keyR x).toList == y.toList)
def fewE (e : SnapEyes) : Prop := e.Users.length ≤ 1000 ∧ e.Keys.length ≤ 1000
theorem sees_p {e : SnapEyes} {x : BookRow} (he : fewE e) (hx : smallR x) : p_snap_Sees e x = some (seesL e x) := by
  unfold p_snap_Sees seesL
  rw [containsS_p _ _ he.1]
  simp only [Option.bind_some]
  cases e.Users.any (fun y => x.User.toList == y.toList) with
  | true => rfl
  | false =>
    rw [key_p hx.1 hx.2]
    simp only [cond_false, Option.bind_some]
    rw [containsS_p _ _ he.2]
    rfl
def itemS (x : BookRow) : ItmS := (keyR x, x)
/-- from a place in the book on. -/
theorem items_l {e : SnapEyes} {b : BookState} (he : fewE e) (hn : b.Rows.length ≤ 1000) (hs : smallB b.Rows) (hc : bookCheck b.Seq b.Rows = 0) : ∀ (n j F : Nat) (key : ByteArray), j + n = b.Rows.length → n < F → nxtL b.Seq b.Rows key = rowAt b.Rows j →
    rowsI p_book_Next p_pres_Key p_snap_Sees e b F key = some (((b.Rows.drop j).filter (seesL e)).map itemS)
  | 0, j, F + 1, key, hj, hF, hk => by
    have e0 : b.Rows.drop j = [] := List.drop_of_length_le (by omega)
    rw [rowsI, next_p hn hs, hk, rowAt_ge (by omega), e0]; rfl
  | n + 1, j, F + 1, key, hj, hF, hk => by
    have hlt : j < b.Rows.length := by omega
    have hx := hs _ (List.getElem_mem hlt)
    rw [rowsI, next_p hn hs, hk, rowAt_lt hlt]
    simp only [Option.bind_some, cond_true]
    rw [key_p hx.1 hx.2]
    simp only [Option.bind_some]
    rw [sees_p he hx]
    simp only [Option.bind_some]
    have ih := items_l he hn hs hc n (j + 1) F (keyL b.Rows[j].User b.Rows[j].Res) (by omega) (by omega) (nxt_key hc hlt)
    rw [ih]
    simp only [Option.bind_some]
    rw [drop_at hlt]
    cases h : seesL e b.Rows[j] with
    | true => rw [List.filter_cons_of_pos h]; rfl
    | false => rw [List.filter_cons_of_neg (by simp [h])]; rfl
theorem items_p {e : SnapEyes} {b : BookState} {key : ByteArray} {j : Nat} (he : fewE e) (hn : b.Rows.length ≤ 1000) (hs : smallB b.Rows) (hc : bookCheck b.Seq b.Rows = 0) (hj : j ≤ b.Rows.length) (hk : nxtL b.Seq b.Rows key = rowAt b.Rows j) :
    p_snap_items e b key = some (((b.Rows.drop j).filter (seesL e)).map itemS) :=
  items_l he hn hs hc (b.Rows.length - j) j fuel key (by omega) (by have := fuel_pos; omega) hk
theorem items_bad {e : SnapEyes} {b : BookState} {key : ByteArray} (hn : b.Rows.length ≤ 1000) (hs : smallB b.Rows) (hc : bookCheck b.Seq b.Rows ≠ 0) : p_snap_items e b key = some [] := by
  unfold p_snap_items
  obtain ⟨F, hF⟩ : ∃ F, fuel = F + 1 := ⟨fuel - 1, by have := fuel_pos; omega⟩
  rw [hF, rowsI, next_p hn hs]
  have : nxtL b.Seq b.Rows key = (⟨⟨#[]⟩, ⟨#[]⟩, ⟨false, 0, 0, 0⟩⟩, false) := by unfold nxtL; rw [if_pos hc]
  rw [this]; rfl
/-- no key is empty in a book that may be. -/
theorem keys_full {b : BookState} (hc : bookCheck b.Seq b.Rows = 0) : ∀ r ∈ b.Rows, ((keyR r).toList == (⟨#[]⟩ : ByteArray).toList) = false := fun r hr => by
  cases hk : ((keyR r).toList == (⟨#[]⟩ : ByteArray).toList) with
  | false => rfl
  | true =>
    have he : emptyL b.Rows = true := by unfold emptyL; exact List.any_eq_true.2 ⟨r, hr, hk⟩
    have h := hc
    unfold bookCheck at h
    rw [if_pos he] at h
    split at h
    · omega
    · split at h <;> omega
def viewL (e : SnapEyes) (b : BookState) : List BookRow := if bookCheck b.Seq b.Rows ≠ 0 then [] else b.Rows.filter (seesL e)
theorem viewL_len (e : SnapEyes) (b : BookState) : (viewL e b).length ≤ b.Rows.length := by
  unfold viewL; split
  · simp
  · exact List.length_filter_le _ _
theorem view_p {e : SnapEyes} {b : BookState} (he : fewE e) (hn : b.Rows.length ≤ 1000) (hs : smallB b.Rows) : p_snap_View e b = some (viewL e b) := by
  unfold p_snap_View viewL
  by_cases hc : bookCheck b.Seq b.Rows = 0
  · rw [items_p he hn hs hc (Nat.zero_le _) (nxt_empty hc (keys_full hc)), List.drop_zero, if_neg (by simpa using hc)]
    simp only [Option.bind_some, List.length_map]
    have hl : (b.Rows.filter (seesL e)).length ≤ 1000000 := Nat.le_trans (List.length_filter_le _ _) (by omega)
    rw [decide_eq_true hl, cond_true, List.map_map]
    have : (fun x : ItmS => x.2) ∘ itemS = id := rfl
    rw [this, List.map_id]
  · rw [items_bad hn hs hc, if_pos hc]; rfl
theorem count_p {e : SnapEyes} {b : BookState} (he : fewE e) (hn : b.Rows.length ≤ 1000) (hs : smallB b.Rows) : p_snap_Count e b = some ((viewL e b).length : Int) := by
  unfold p_snap_Count
  rw [view_p he hn hs]; rfl
end Go.Proofs.Ythlhbgedidipkaa
/- snap in plain words: a whole snapshot. -/
namespace Go.Proofs.Ythlhbgedidipkaa
open Go.RowKit
def stz0 : StanzaStanza := ⟨0, ⟨#[]⟩, ⟨#[]⟩, ⟨#[]⟩, 0, 0, 0, 0⟩
def sayL (u r : ByteArray) (p : PresPres) : StanzaStanza :=
  if presCheckL p ≠ 0 then stz0 else if namedL u r = true then (if p.On = true then ⟨34, u, r, ⟨#[]⟩, p.Show, p.Prio, 0, p.Seq⟩ else ⟨35, u, r, ⟨#[]⟩, 0, 0, 0, p.Seq⟩) else stz0
theorem say_p {u r : ByteArray} (p : PresPres) (hu : u.size ≤ 100000) (hr : r.size ≤ 100000) : p_pres_Say u r p = some (sayL u r p) := by
  unfold p_pres_Say sayL
  rw [presCheck_p]
  simp only [Option.bind_some]
  by_cases h : presCheckL p = 0
  · rw [h, if_neg (by simp)]
    simp only [bne_self_eq_false, cond_false]
    rw [named_p hu hr]
    simp only [Option.bind_some]
    cases namedL u r with
    | true => cases p.On <;> rfl
    | false => rfl
  · have h2 : (presCheckL p != 0) = true := by simpa using h
    rw [h2, if_pos h]; rfl
def sayR (x : BookRow) : StanzaStanza := sayL x.User x.Res x.P
def snap0 : SnapState := ⟨false, false, ⟨#[]⟩, 0⟩
def doneS : StanzaStanza := ⟨37, ⟨#[]⟩, ⟨#[]⟩, ⟨#[]⟩, 0, 0, 0, 0⟩
def snapS (n : Int) : StanzaStanza := ⟨36, ⟨#[]⟩, ⟨#[]⟩, ⟨#[]⟩, 0, 0, 0, n⟩
theorem next_off {st : SnapState} {e : SnapEyes} {b : BookState} (h : st.On = false) : p_snap_Next st e b = some (st, stz0, false) := by
  unfold p_snap_Next; rw [h]; rfl
theorem snapCheck_on (a : ByteArray) (t : Int) (h0 : 0 ≤ t) (h1 : t ≤ 1099511627776) : p_snap_Check ⟨true, true, a, t⟩ = some 0 := by
  have e1 : decide (t < 0) = false := by simpa using h0
  have e2 : decide ((1099511627776 : Int) < t) = false := by simpa using h1
  unfold p_snap_Check
  simp [e1, e2]
theorem next_begin {e : SnapEyes} {b : BookState} (he : fewE e) (hn : b.Rows.length ≤ 1000) (hs : smallB b.Rows) (hc : bookCheck b.Seq b.Rows = 0) :
    p_snap_Next ⟨true, false, ⟨#[]⟩, 0⟩ e b = some (⟨true, true, ⟨#[]⟩, 0⟩, snapS ((viewL e b).length : Int), true) := by
  unfold p_snap_Next
  have h1 : p_snap_Check ⟨true, false, ⟨#[]⟩, 0⟩ = some 0 := by kernel_rfl
  simp only [cond_true]
  rw [h1]
  simp only [Option.bind_some, bne_self_eq_false, cond_false]
  rw [check_p b hn hs, hc]
  simp only [Option.bind_some, bne_self_eq_false, cond_false]
  rw [count_p he hn hs]
  rfl
theorem next_bad {st : SnapState} {e : SnapEyes} {b : BookState} (hn : b.Rows.length ≤ 1000) (hs : smallB b.Rows) (hc : bookCheck b.Seq b.Rows ≠ 0) (h : ∃ c, p_snap_Check st = some c) : p_snap_Next st e b = some (st, stz0, false) := by
  obtain ⟨c, h⟩ := h
  unfold p_snap_Next
  cases ho : st.On with
  | false => rfl
  | true =>
    simp only [cond_true]
    rw [h]
    simp only [Option.bind_some]
    cases hcc : c != (0 : Int) with
    | true => rfl
    | false =>
      simp only [cond_false]
      rw [check_p b hn hs]
      have h2 : (bookCheck b.Seq b.Rows != 0) = true := by simpa using hc
      simp only [Option.bind_some, h2, cond_true]
      rfl
/-- the next row that is seen, of a place. -/
theorem next_row {e : SnapEyes} {b : BookState} {a : ByteArray} {t : Int} {j : Nat} (he : fewE e) (hn : b.Rows.length ≤ 1000) (hs : smallB b.Rows) (hc : bookCheck b.Seq b.Rows = 0) (h0 : 0 ≤ t) (h1 : t < 1099511627776) (hj : j ≤ b.Rows.length) (hk : nxtL b.Seq b.Rows a = rowAt b.Rows j) :
    p_snap_Next ⟨true, true, a, t⟩ e b = some (match (b.Rows.drop j).filter (seesL e) with
      | [] => (snap0, doneS, true)
      | x :: _ => (⟨true, true, keyR x, t + 1⟩, sayR x, true)) := by
  unfold p_snap_Next
  simp only [cond_true]
  rw [snapCheck_on a t h0 (by omega)]
  simp only [Option.bind_some, bne_self_eq_false, cond_false]
  rw [check_p b hn hs, hc]
  simp only [Option.bind_some, bne_self_eq_false, cond_false]
  rw [items_p he hn hs hc hj hk]
  simp only [Option.bind_some]
  cases hf : (b.Rows.drop j).filter (seesL e) with
  | nil => rfl
  | cons x r =>
    have hx : smallR x := hs x (List.mem_of_mem_drop (List.mem_filter.1 (by rw [hf]; exact List.mem_cons_self)).1)
    simp only [List.map_cons, itemS]
    rw [say_p _ hx.1 hx.2]
    simp only [Option.bind_some]
    have hw : w64 (t + 1) = t + 1 := w64_id (by omega)
    rw [hw, if_neg (by omega)]
    rfl
theorem filter_next {α : Type} (p : α → Bool) (l : List α) : ∀ (n j : Nat) {x : α} {r : List α}, j + n = l.length → (l.drop j).filter p = x :: r → ∃ i, j ≤ i ∧ ∃ h : i < l.length, l[i] = x ∧ (l.drop (i + 1)).filter p = r
  | 0, j, x, r, hj, h => by
    rw [List.drop_of_length_le (by omega)] at h; cases h
  | n + 1, j, x, r, hj, h => by
    have hlt : j < l.length := by omega
    rw [List.drop_eq_getElem_cons hlt] at h
    cases hp : p l[j] with
    | true =>
      rw [List.filter_cons_of_pos hp] at h
      injection h with h1 h2
      exact ⟨j, Nat.le_refl _, hlt, h1, h2⟩
    | false =>
      rw [List.filter_cons_of_neg (by simp [hp])] at h
      obtain ⟨i, h1, h2⟩ := filter_next p l n (j + 1) (by omega) h
      exact ⟨i, by omega, h2⟩
theorem all_l {e : SnapEyes} {b : BookState} (he : fewE e) (hn : b.Rows.length ≤ 1000) (hs : smallB b.Rows) (hc : bookCheck b.Seq b.Rows = 0) : ∀ (rest : List BookRow) (j F : Nat) (acc : List StanzaStanza) (a : ByteArray) (t : Int), (b.Rows.drop j).filter (seesL e) = rest → rest.length + 1 < F → acc.length + rest.length ≤ 10000 → rest.length ≤ 1000 → 0 ≤ t → t + (rest.length : Int) ≤ 10000 → j ≤ b.Rows.length → nxtL b.Seq b.Rows a = rowAt b.Rows j →
    p_snap_All_l1 e b F acc ⟨true, true, a, t⟩ = some (acc ++ (rest.map sayR ++ [doneS]))
  | [], j, F, acc, a, t, hr, hF, ha, hl, h0, h1, hj, hk => by
    obtain ⟨F, rfl⟩ : ∃ F', F = F' + 2 := ⟨F - 2, by simp at hF; omega⟩
    rw [p_snap_All_l1, next_row he hn hs hc h0 (by omega) hj hk, hr]
    simp only [Option.bind_some, cond_true]
    rw [app_ok (by simp at ha ⊢; omega)]
    simp only [Option.bind_some]
    rw [p_snap_All_l1, next_off rfl]
    rfl
  | x :: rest, j, F, acc, a, t, hr, hF, ha, hl, h0, h1, hj, hk => by
    simp only [List.length_cons] at hF ha hl h1
    obtain ⟨F, rfl⟩ : ∃ F', F = F' + 1 := ⟨F - 1, by omega⟩
    rw [p_snap_All_l1, next_row he hn hs hc h0 (by omega) hj hk, hr]
    simp only [Option.bind_some, cond_true]
    rw [app_ok (by simp; omega)]
    simp only [Option.bind_some]
    obtain ⟨i, hi, hlt, hx, hr2⟩ := filter_next (seesL e) b.Rows (b.Rows.length - j) j (by omega) hr
    subst hx
    rw [all_l he hn hs hc rest (i + 1) F (acc ++ [sayR b.Rows[i]]) (keyR b.Rows[i]) (t + 1) hr2 (by omega) (by simp; omega) (by omega) (by omega) (by omega) (by omega) (nxt_key hc hlt)]
    simp
def snapL (e : SnapEyes) (b : BookState) : List StanzaStanza := if bookCheck b.Seq b.Rows ≠ 0 then [] else snapS ((viewL e b).length : Int) :: ((viewL e b).map sayR ++ [doneS])
theorem all_p {e : SnapEyes} {b : BookState} (he : fewE e) (hn : b.Rows.length ≤ 1000) (hs : smallB b.Rows) : p_snap_All e b = some (snapL e b) := by
  unfold p_snap_All snapL
  have hb : p_snap_Begin = some ⟨true, false, ⟨#[]⟩, 0⟩ := rfl
  rw [hb]
  simp only [Option.bind_some]
  obtain ⟨F, hF⟩ : ∃ F, fuel = F + 1 := ⟨fuel - 1, by have := fuel_pos; omega⟩
  have hFb := fuel_pos
  by_cases hc : bookCheck b.Seq b.Rows = 0
  · rw [hF, p_snap_All_l1, next_begin he hn hs hc]
    simp only [Option.bind_some, cond_true]
    have hv : viewL e b = (b.Rows.drop 0).filter (seesL e) := by unfold viewL; rw [if_neg (by simpa using hc), List.drop_zero]
    have hvl : ((b.Rows.drop 0).filter (seesL e)).length ≤ 1000 := by rw [← hv]; have := viewL_len e b; omega
    rw [app_ok (by simp)]
    simp only [Option.bind_some, List.nil_append]
    rw [all_l he hn hs hc _ 0 F _ ⟨#[]⟩ 0 rfl (by omega) (by simp only [List.length_cons, List.length_nil]; omega) hvl (by omega) (by omega) (Nat.zero_le _) (nxt_empty hc (keys_full hc)), if_neg (by simpa using hc), ← hv]
    rfl
  · rw [hF, p_snap_All_l1, next_bad hn hs hc ⟨0, by kernel_rfl⟩, if_pos hc]
    rfl
end Go.Proofs.Ythlhbgedidipkaa
/- SnapWhole in plain words. -/
namespace Go.Proofs.Ythlhbgedidipkaa
open Go.RowKit
/-- a book that is a table. -/
structure StF (F : Fam) (st : BookState) (has : List PresPres) (k : Nat) : Prop where
  rows : st.Rows = tabR F has
  ok : TabOK F st.Seq has
  seq : st.Seq ≤ k
section
variable {F : Fam} {st : BookState} {has : List PresPres} {k : Nat}
theorem StF.small (h : StF F st has k) : smallB st.Rows := by rw [h.rows]; exact tab_small F has
theorem StF.len (h : StF F st has k) : st.Rows.length ≤ 16 := by rw [h.rows]; exact h.ok.cnt
theorem StF.check (h : StF F st has k) (hk : k < 900) : bookCheck st.Seq st.Rows = 0 := by rw [h.rows]; exact tab_check h.ok (by have := h.seq; omega)
theorem StF.up (h : StF F st has k) : StF F st has (k + 1) := ⟨h.rows, h.ok, by have := h.seq; omega⟩
theorem StF.set (h : StF F st has k) (hk : k < 900) {m : Nat} (hm : m < F.n) {sh prio : Int} (hsh : 0 ≤ sh ∧ sh ≤ 4) (hp : -128 ≤ prio ∧ prio ≤ 127) :
    ∃ q has', p_book_Set st (F.u m) (F.r m) sh prio = some q ∧ StF F q.1 has' (k + 1) := by
  have hs := h.seq
  have h0 := h.ok.seq0
  have hl := h.len
  have hu := (F.ok m hm).2
  refine ⟨_, if onF has m = false ∧ (16 ≤ st.Rows.length ∨ 3 ≤ manyL st.Rows (F.u m)) then has else has.set m ⟨true, sh, prio, st.Seq + 1⟩, set_p (by omega) h.small (by omega) (by omega), ?_⟩
  have := tab_set (sh := sh) (prio := prio) h.ok (by omega) hm (presOn _ _ _ hsh hp (by omega))
  rw [h.rows, this]
  split
  · exact ⟨rfl, h.ok, by show st.Seq ≤ ((k + 1 : Nat) : Int); omega⟩
  · rename_i hno
    refine ⟨rfl, tab_ok_put h.ok hm (fun _ => ⟨presOn _ _ _ hsh hp (by omega), rfl⟩) (fun _ ho => ?_), by show st.Seq + 1 ≤ ((k + 1 : Nat) : Int); omega⟩
    exact ⟨Nat.lt_of_not_le fun g => hno ⟨ho, .inl g⟩, Nat.lt_of_not_le fun g => hno ⟨ho, .inr g⟩⟩
theorem StF.off (h : StF F st has k) (hk : k < 900) {m : Nat} (hm : m < F.n) : ∃ q has', p_book_Off st (F.u m) (F.r m) = some q ∧ StF F q.1 has' (k + 1) := by
  have hs := h.seq
  have hl := h.len
  have hu := (F.ok m hm).2
  refine ⟨_, if onF has m = false then has else has.set m ⟨false, 0, 0, st.Seq + 1⟩, off_p (by omega) h.small (by omega) (by omega), ?_⟩
  have := tab_off h.ok (by omega) hm
  rw [h.rows, this]
  split
  · exact ⟨rfl, h.ok, by show st.Seq ≤ ((k + 1 : Nat) : Int); omega⟩
  · exact ⟨rfl, tab_ok_put h.ok hm (fun e => by cases e) (fun e => by cases e), by show st.Seq + 1 ≤ ((k + 1 : Nat) : Int); omega⟩
end
theorem ok8 : (List.range 8).all (fun m => !((keyL (u20 m) ⟨#[]⟩).toList == (⟨#[]⟩ : ByteArray).toList) && (decide ((u20 m).size ≤ 100) && namedL (u20 m) ⟨#[]⟩)) = true := by kernel_rfl
theorem mono8 : (List.range 8).all (fun j => (List.range j).all fun i => decide (Lib.compareBytes (keyL (u20 i) ⟨#[]⟩).data.toList (keyL (u20 j) ⟨#[]⟩).data.toList < 0) && Op.bytesLess (u20 i).toList (u20 j).toList) = true := by kernel_rfl
theorem ok8_at {m : Nat} (h : m < 8) : ((keyL (u20 m) ⟨#[]⟩).toList == (⟨#[]⟩ : ByteArray).toList) = false ∧ (u20 m).size ≤ 100 ∧ namedL (u20 m) ⟨#[]⟩ = true := by
  have := List.all_eq_true.1 ok8 m (List.mem_range.2 h)
  simpa using this
theorem mono8_at {i j : Nat} (h : i < j) (hj : j < 8) : Lib.compareBytes (keyL (u20 i) ⟨#[]⟩).data.toList (keyL (u20 j) ⟨#[]⟩).data.toList < 0 ∧ Op.bytesLess (u20 i).toList (u20 j).toList = true := by
  have := List.all_eq_true.1 (List.all_eq_true.1 mono8 j (List.mem_range.2 hj)) i (List.mem_range.2 h)
  simpa using this
def F8 : Fam where
  n := 8
  u m := u20 m
  r _ := ⟨#[]⟩
  ok m hm := ⟨(ok8_at hm).1, (ok8_at hm).2.1, by decide⟩
  mono i j hij hj := (mono8_at hij hj).1
theorem rep_pre (n m : Nat) : preT (List.replicate n ⟨false, 0, 0, 0⟩) m = ⟨false, 0, 0, 0⟩ := by
  unfold preT
  rw [List.getD_eq_getElem?_getD]
  by_cases h : m < n
  · simp [h]
  · simp [h]
theorem tab8_rows : tabR F8 (List.replicate 8 ⟨false, 0, 0, 0⟩) = [] := by
  unfold tabR tabA
  have : (List.range F8.n).filter (onF (List.replicate 8 ⟨false, 0, 0, 0⟩)) = [] := List.filter_eq_nil_iff.2 fun m _ => by unfold onF; rw [rep_pre]; simp
  rw [this]; rfl
theorem tab8_0 : TabOK F8 0 (List.replicate 8 ⟨false, 0, 0, 0⟩) := by
  have hno : ∀ m, onF (List.replicate 8 ⟨false, 0, 0, 0⟩) m = false := fun m => by unfold onF; rw [rep_pre]
  refine ⟨by simp [F8], by omega, fun m _ h => ?_, fun m _ h => ?_, fun i j _ _ h => ?_, by rw [tab8_rows]; simp, fun m _ h => ?_⟩ <;> rw [hno] at h <;> cases h
theorem St8.init : StF F8 ⟨0, []⟩ (List.replicate 8 ⟨false, 0, 0, 0⟩) 0 := ⟨tab8_rows.symm, tab8_0, by simp⟩
structure DeedOK8 (d : Law26Deed) : Prop where
  who : 0 ≤ d.Who ∧ d.Who ≤ 255
  sh : 0 ≤ d.Show ∧ d.Show ≤ 255
theorem who8_p {w : Int} (h : 0 ≤ w ∧ w ≤ 255) : p_law26_who w = some (u20 (w.toNat % 8)) := by
  unfold p_law26_who
  have e := tmod_nat h.1 8
  have e2 : Int.tmod w (8 : Int) = ((w.toNat % 8 : Nat) : Int) := e
  have ht := text1 97 (w.toNat % 8) (Int.tmod w (8 : Int)) 8 e2 (by omega)
  have ht2 : text? [IntKind.wrap .u8 ((97 : Int) + (Int.tmod w (8 : Int)))] = some ⟨#[UInt8.ofNat (97 + w.toNat % 8)]⟩ := ht
  rw [ht2]
  simp only [Option.bind_some]
  have hc : cat? (⟨#[UInt8.ofNat (97 + w.toNat % 8)]⟩ : ByteArray) ⟨#[64, 120]⟩ = some (u20 (w.toNat % 8)) := by
    unfold cat?
    rw [if_pos (by show 1 + 2 ≤ _; omega)]; rfl
  rw [hc]; rfl
theorem show8_p {d : Law26Deed} (h : DeedOK8 d) : w64 (Int.tmod d.Show (5 : Int)) = ((d.Show.toNat % 5 : Nat) : Int) := by
  have e : Int.tmod d.Show (5 : Int) = ((d.Show.toNat % 5 : Nat) : Int) := tmod_nat h.sh.1 5
  rw [e, w64_id (by omega)]
theorem whole_l2 (l : List Law26Deed) (hl : l.length ≤ 40) (hd : ∀ d ∈ l, DeedOK8 d) : ∀ (n k F : Nat) (st : BookState) (has : List PresPres), k + n = l.length → n < F → StF F8 st has k →
    ∃ st' has', p_law26_SnapWhole_l2 l F k st = some ((l.length : Int), st') ∧ StF F8 st' has' l.length
  | 0, k, F + 1, st, has, hk, hF, h => by
    have : k = l.length := by omega
    subst this
    rw [p_law26_SnapWhole_l2, lt_ff (Nat.le_refl _)]
    exact ⟨st, has, rfl, h⟩
  | n + 1, k, F + 1, st, has, hk, hF, h => by
    have hlt : k < l.length := by omega
    have hdd := hd _ (List.getElem_mem hlt)
    rw [p_law26_SnapWhole_l2, lt_tt hlt, at_lt hlt]
    simp only [cond_true, Option.bind_some]
    rw [who8_p hdd.who, show8_p hdd, w64_succ (by omega)]
    simp only [Option.bind_some]
    obtain ⟨q1, h1, e1, f1⟩ := h.off (m := l[k].Who.toNat % 8) (by omega) (by show _ < 8; omega)
    obtain ⟨q2, h2, e2, f2⟩ := h.set (m := l[k].Who.toNat % 8) (sh := ((l[k].Show.toNat % 5 : Nat) : Int)) (prio := 0) (by omega) (by show _ < 8; omega) (by omega) (by omega)
    have e1' : p_book_Off st (u20 (l[k].Who.toNat % 8)) ⟨#[]⟩ = some q1 := e1
    have e2' : p_book_Set st (u20 (l[k].Who.toNat % 8)) ⟨#[]⟩ ((l[k].Show.toNat % 5 : Nat) : Int) 0 = some q2 := e2
    cases l[k].Off with
    | true =>
      simp only [cond_true]
      rw [e1']
      exact whole_l2 l hl hd n (k + 1) F _ _ (by omega) (by omega) f1
    | false =>
      simp only [cond_false]
      rw [e2']
      exact whole_l2 l hl hd n (k + 1) F _ _ (by omega) (by omega) f2
theorem pos_ok (k : Nat) : pos? (k : Int) = some () := by unfold pos?; rw [if_pos (Int.natCast_nonneg _)]
theorem u8_small {k : Nat} (h : k < 8) : IntKind.wrap .u8 (k : Int) = (k : Int) := u8_in (by omega)
theorem whole_l1 (z : Int) : ∀ (n k F : Nat) (acc : List ByteArray), k + n = 8 → n < F → acc.length ≤ k → ∃ keys, p_law26_SnapWhole_l1 z F k ⟨[], acc⟩ = some (((8 : Nat) : Int), ⟨[], keys⟩) ∧ keys.length ≤ 8
  | 0, k, F + 1, acc, hk, hF, ha => by
    have : k = 8 := by omega
    subst this
    rw [p_law26_SnapWhole_l1]
    exact ⟨acc, rfl, ha⟩
  | n + 1, k, F + 1, acc, hk, hF, ha => by
    have hlt : k < 8 := by omega
    have h8 : decide ((k : Int) < (8 : Int)) = true := by simp; omega
    rw [p_law26_SnapWhole_l1, h8, pos_ok]
    simp only [cond_true, Option.bind_some]
    rw [u8_small hlt, who8_p (by omega), w64_succ (by omega)]
    simp only [Option.bind_some]
    have hm : (k : Int).toNat % 8 = k := by rw [Int.toNat_natCast]; omega
    rw [hm, key_p (by have := (ok8_at hlt).2.1; omega) (by decide)]
    simp only [Option.bind_some]
    rw [app_ok (by simp; omega)]
    simp only [Option.bind_some]
    cases andI .u8 (shrI .u8 z (k : Int)) (1 : Int) == (1 : Int) with
    | true =>
      simp only [cond_true]
      exact whole_l1 z n (k + 1) F _ (by omega) (by omega) (by simp; omega)
    | false =>
      simp only [cond_false]
      exact whole_l1 z n (k + 1) F _ (by omega) (by omega) (by omega)
/-- rows of a table: how they are said, that they rise. -/
theorem tab8_say {seq : Int} {has : List PresPres} (h : TabOK F8 seq has) {x : BookRow} (hx : x ∈ tabR F8 has) : (sayR x).User = x.User ∧ x.Res = ⟨#[]⟩ := by
  obtain ⟨m, hm, ho, rfl⟩ := mem_tabR hx
  have hp := h.pres m hm ho
  have hn := (ok8_at hm).2.2
  refine ⟨?_, rfl⟩
  show (sayL (u20 m) ⟨#[]⟩ (preT has m)).User = u20 m
  unfold sayL
  rw [if_neg (by simpa using hp), if_pos hn]
  split <;> rfl
theorem tab8_rise (has : List PresPres) : (tabR F8 has).Pairwise fun a b => Op.bytesLess a.User.toList b.User.toList = true := by
  unfold tabR tabA
  rw [List.pairwise_map]
  refine List.Pairwise.filter _ ?_
  refine (range_pw 8).imp ?_
  rintro a b ⟨h1, h2⟩
  exact (mono8_at h1 h2).2
end Go.Proofs.Ythlhbgedidipkaa
/- SnapWhole in plain words: the law. -/
namespace Go.Proofs.Ythlhbgedidipkaa
open Go.RowKit
set_option maxRecDepth 100000 in
theorem awake26 : p_law26_awake = some true := by kernel_rfl
theorem whole_l3 {e : SnapEyes} (he : fewE e) {seq : Int} {has : List PresPres} (hok : TabOK F8 seq has) (s0 : StanzaStanza) (v : List BookRow) (hv : v.length ≤ 1000) (hm : ∀ x ∈ v, x ∈ tabR F8 has ∧ seesL e x = true) (hr : v.Pairwise fun a b => Op.bytesLess a.User.toList b.User.toList = true) : ∀ (n k F : Nat), k + n = v.length → n < F →
    p_law26_SnapWhole_l3 (s0 :: (v.map sayR ++ [doneS])) v (v.length : Int) e F k = some (.inr (v.length : Int))
  | 0, k, F + 1, hk, hF => by
    have : k = v.length := by omega
    subst this
    rw [p_law26_SnapWhole_l3, lt_ff (Nat.le_refl _)]; rfl
  | n + 1, k, F + 1, hk, hF => by
    have hlt : k < v.length := by omega
    have hx := hm _ (List.getElem_mem hlt)
    have hsm := tab_small F8 has _ hx.1
    have h1 : at? (s0 :: (v.map sayR ++ [doneS])) ((k + 1 : Nat) : Int) = some (sayR v[k]) := by
      rw [at_nat, List.getElem?_cons_succ, List.getElem?_append_left (by simpa using hlt)]
      simp [hlt]
    rw [p_law26_SnapWhole_l3, lt_tt hlt, w64_succ (by omega), h1, at_lt hlt]
    simp only [cond_true, Option.bind_some]
    rw [say_p _ hsm.1 hsm.2]
    simp only [Option.bind_some]
    have hs : sayL v[k].User v[k].Res v[k].P = sayR v[k] := rfl
    rw [hs]
    simp only [beq_self_eq_true, Bool.and_self, cond_true]
    rw [sees_p he hsm, hx.2]
    simp only [Option.bind_some, cond_true]
    have ih := whole_l3 he hok s0 v hv hm hr n (k + 1) F (by omega) (by omega)
    cases k with
    | zero => exact ih
    | succ k =>
      have hp : decide ((0 : Int) < ((k + 1 : Nat) : Int)) = true := by simp
      have h2 : at? (s0 :: (v.map sayR ++ [doneS])) ((k + 1 : Nat) : Int) = some (sayR (v[k]'(by omega))) := by
        rw [at_nat, List.getElem?_cons_succ, List.getElem?_append_left (by simp; omega)]
        simp [show k < v.length by omega]
      rw [hp, h2]
      simp only [cond_true, Option.bind_some]
      have u1 := (tab8_say hok (hm _ (List.getElem_mem (show k < v.length by omega))).1).1
      have u2 := (tab8_say hok hx.1).1
      rw [u1, u2, List.pairwise_iff_getElem.1 hr k (k + 1) (by omega) hlt (by omega)]
      exact ih
theorem snapWhole_pure (l : List Law26Deed) (z : Int) (hw : ∀ d ∈ l, DeedOK8 d) : p_law26_SnapWhole l z = some true := by
  unfold p_law26_SnapWhole
  rw [awake26]
  by_cases hl : 40 < l.length
  · have : decide ((40 : Int) < (l.length : Int)) = true := by simp; omega
    rw [this]; rfl
  · have : decide ((40 : Int) < (l.length : Int)) = false := by simp; omega
    rw [this]
    simp only [cond_false]
    have hf := fuel_pos
    obtain ⟨keys, hk1, hk2⟩ := whole_l1 z 8 0 fuel [] rfl (by omega) (by simp)
    have hk1' : p_law26_SnapWhole_l1 z fuel 0 ⟨[], []⟩ = some (((8 : Nat) : Int), ⟨[], keys⟩) := hk1
    rw [hk1']
    simp only [Option.bind_some]
    obtain ⟨b, has, hb1, hb2⟩ := whole_l2 l (by omega) hw l.length 0 fuel ⟨0, []⟩ _ (by omega) (by omega) St8.init
    have hb1' : p_law26_SnapWhole_l2 l fuel 0 ⟨0, []⟩ = some ((l.length : Int), b) := hb1
    rw [hb1']
    simp only [Option.bind_some]
    have he : fewE ⟨[], keys⟩ := ⟨by simp, by show keys.length ≤ 1000; omega⟩
    have hn : b.Rows.length ≤ 1000 := by have := hb2.len; omega
    have hs := hb2.small
    have hc := hb2.check (by omega)
    rw [all_p he hn hs, view_p he hn hs]
    simp only [Option.bind_some]
    have hv : viewL ⟨[], keys⟩ b = b.Rows.filter (seesL ⟨[], keys⟩) := by unfold viewL; rw [if_neg (by simpa using hc)]
    have hvl : (viewL ⟨[], keys⟩ b).length ≤ 16 := by have := viewL_len ⟨[], keys⟩ b; have := hb2.len; omega
    have hall : snapL ⟨[], keys⟩ b = snapS ((viewL ⟨[], keys⟩ b).length : Int) :: ((viewL ⟨[], keys⟩ b).map sayR ++ [doneS]) := by unfold snapL; rw [if_neg (by simpa using hc)]
    rw [hall, count_p he hn hs]
    have hm : ∀ x ∈ viewL ⟨[], keys⟩ b, x ∈ tabR F8 has ∧ seesL ⟨[], keys⟩ x = true := fun x hx => by
      rw [hv, hb2.rows] at hx
      exact List.mem_filter.1 hx
    have hr : (viewL ⟨[], keys⟩ b).Pairwise fun a b => Op.bytesLess a.User.toList b.User.toList = true := by
      rw [hv, hb2.rows]; exact (tab8_rise has).filter _
    generalize viewL ⟨[], keys⟩ b = v at hvl hm hr ⊢
    have e1 : (((snapS (v.length : Int) :: (v.map sayR ++ [doneS])).length : Int) != w64 ((v.length : Int) + (2 : Int))) = false := by
      rw [w64_id (by omega)]
      simp; omega
    rw [e1]
    have a0 : at? (snapS (v.length : Int) :: (v.map sayR ++ [doneS])) (0 : Int) = some (snapS (v.length : Int)) := rfl
    have a1 : at? (snapS (v.length : Int) :: (v.map sayR ++ [doneS])) (w64 ((v.length : Int) + (1 : Int))) = some doneS := by
      rw [w64_succ (by omega), at_nat, List.getElem?_cons_succ, List.getElem?_append_right (by simp)]
      simp
    rw [a0, a1]
    have b1 : ((snapS (v.length : Int)).Kind != (36 : Int)) = false := rfl
    have b2 : ((snapS (v.length : Int)).N != (v.length : Int)) = false := by show ((v.length : Int) != (v.length : Int)) = false; simp
    have b3 : (doneS.Kind != (37 : Int)) = false := rfl
    simp only [cond_false, Option.bind_some, b1, b2, b3]
    have h3 := whole_l3 he hb2.ok (snapS (v.length : Int)) v (by omega) hm hr v.length 0 fuel (by omega) (by omega)
    have h3' : p_law26_SnapWhole_l3 (snapS (v.length : Int) :: (v.map sayR ++ [doneS])) v (v.length : Int) ⟨[], keys⟩ fuel 0 = some (.inr (v.length : Int)) := h3
    rw [h3']
    simp
end Go.Proofs.Ythlhbgedidipkaa
/- SnapWhole, of deeds that are read. -/
namespace Go.Proofs.Ythlhbgedidipkaa
open Go.RowKit
theorem deed8_ok {d : Law26Deed} (h : Law26Deed.Wf d) : DeedOK8 d := ⟨bounds_u8 h.Who, bounds_u8 h.Show⟩
theorem snapWhole_wf (l : List Law26Deed) (n : Int) (h : ∀ x ∈ l, Law26Deed.Wf x) (_ : (Lit.int .u8 n).wf = true) : p_law26_SnapWhole l n = some true := snapWhole_pure l n fun d hd => deed8_ok (h d hd)
end Go.Proofs.Ythlhbgedidipkaa
