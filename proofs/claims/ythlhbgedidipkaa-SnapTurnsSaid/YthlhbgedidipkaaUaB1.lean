/- A part of the proof: 4 texts joined. -/
import Derived.Test.YthlhbgedidipkaaUaA16
import Derived.Test.YthlhbgedidipkaaUaA15
import Derived.KernelRfl
set_option linter.all false
/- Which row comes behind a key. -/
namespace Go.Proofs.Ythlhbgedidipkaa
open Go.RowKit
theorem idx_is {α : Type} {p : α → Bool} {l : List α} {m : Nat} (hm : m ≤ l.length) (h1 : ∀ i (h : i < l.length), i < m → p l[i] = false) (h2 : ∀ h : m < l.length, p l[m] = true) : l.findIdx p = m := by
  rcases Nat.lt_trichotomy (l.findIdx p) m with h | h | h
  · have hx := List.findIdx_getElem (p := p) (xs := l) (w := by omega)
    rw [h1 _ (by omega) h] at hx; cases hx
  · exact h
  · have hml : m < l.length := Nat.lt_of_lt_of_le h List.findIdx_le_length
    have := List.not_of_lt_findIdx h
    rw [h2 hml] at this; simp at this
theorem next_idx {seq : Int} {rows : List BookRow} (hc : bookCheck seq rows = 0) (key : ByteArray) : (rows.findIdx fun r => decide (0 < cmpR r key)) = if foundB rows key (posL rows key) = true then posL rows key + 1 else posL rows key := by
  have hs := ord_sorted (check_ord hc)
  have hp := stands hs key
  have hle := hp.le
  have at_pos : ∀ h : posL rows key < rows.length, foundB rows key (posL rows key) = (cmpR rows[posL rows key] key == 0) := fun h => by
    unfold foundB; rw [List.getElem?_eq_getElem h]
  cases hf : foundB rows key (posL rows key) with
  | true =>
    have hlt := found_lt hf
    have e := at_pos hlt
    rw [hf] at e
    have e0 : cmpR rows[posL rows key] key = 0 := by simpa using e.symm
    rw [if_pos rfl]
    refine idx_is hlt (fun i h hi => ?_) fun h => ?_
    · rcases Nat.lt_or_ge i (posL rows key) with h1 | h1
      · have := hp.lt i h h1; simp; omega
      · have : i = posL rows key := by omega
        subst this; simp [e0]
    · have h1 := hs (posL rows key) (posL rows key + 1) h (by omega)
      have e1 := cmp_eq0 (show Lib.compareBytes (keyR rows[posL rows key]).data.toList key.data.toList = 0 from e0)
      have h2 : Lib.compareBytes (keyR rows[posL rows key]).data.toList (keyR rows[posL rows key + 1]).data.toList < 0 := h1
      rw [e1] at h2
      have h3 := cmp_anti key.data.toList (keyR rows[posL rows key + 1]).data.toList
      have h4 : 0 < Lib.compareBytes (keyR rows[posL rows key + 1]).data.toList key.data.toList := by omega
      exact decide_eq_true h4
  | false =>
    rw [if_neg (by simp)]
    refine idx_is hle (fun i h hi => ?_) fun h => ?_
    · have := hp.lt i h hi; simp; omega
    · have h1 := hp.ge _ h (Nat.le_refl _)
      have e := at_pos h
      rw [hf] at e
      have e0 : cmpR rows[posL rows key] key ≠ 0 := by simpa using e.symm
      simp; omega
/-- where the rows behind a key begin. -/
def aftL (rows : List BookRow) (a : ByteArray) : Nat := rows.findIdx fun r => decide (0 < cmpR r a)
theorem nxt_at {seq : Int} {rows : List BookRow} (hc : bookCheck seq rows = 0) (a : ByteArray) : nxtL seq rows a = rowAt rows (aftL rows a) := by
  unfold nxtL aftL
  rw [if_neg (by simpa using hc), next_idx hc a]
theorem aft_le (rows : List BookRow) (a : ByteArray) : aftL rows a ≤ rows.length := List.findIdx_le_length
theorem aft_lt {rows : List BookRow} {a : ByteArray} {i : Nat} (hi : i < rows.length) (h : i < aftL rows a) : ¬ 0 < cmpR rows[i] a := by
  have := List.not_of_lt_findIdx h
  simpa using this
theorem aft_ge {seq : Int} {rows : List BookRow} (hc : bookCheck seq rows = 0) {a : ByteArray} {i : Nat} (hi : i < rows.length) (h : aftL rows a ≤ i) : 0 < cmpR rows[i] a := by
  have hs := ord_sorted (check_ord hc)
  have hj : aftL rows a < rows.length := by omega
  have h0 : 0 < cmpR (rows[aftL rows a]'hj) a := by
    have := List.findIdx_getElem (p := fun r : BookRow => decide (0 < cmpR r a)) (xs := rows) (w := hj)
    exact of_decide_eq_true this
  rcases Nat.lt_or_ge (aftL rows a) i with h1 | h1
  · have h2 := hs (aftL rows a) i hi h1
    have h3 : Lib.compareBytes a.data.toList (keyR (rows[aftL rows a]'hj)).data.toList < 0 := by
      have := cmp_anti (keyR (rows[aftL rows a]'hj)).data.toList a.data.toList
      have h4 : 0 < Lib.compareBytes (keyR (rows[aftL rows a]'hj)).data.toList a.data.toList := h0
      omega
    have h5 : Lib.compareBytes (keyR (rows[aftL rows a]'hj)).data.toList (keyR rows[i]).data.toList < 0 := h2
    have h6 := cmp_trans h3 h5
    have h7 := cmp_anti a.data.toList (keyR rows[i]).data.toList
    show 0 < Lib.compareBytes (keyR rows[i]).data.toList a.data.toList
    omega
  · have : i = aftL rows a := by omega
    subst this; exact h0
theorem aft_mem {seq : Int} {rows : List BookRow} (hc : bookCheck seq rows = 0) {a : ByteArray} {x : BookRow} (h : x ∈ rows.drop (aftL rows a)) : 0 < cmpR x a := by
  obtain ⟨i, hi, rfl⟩ := List.getElem_of_mem h
  rw [List.length_drop] at hi
  rw [List.getElem_drop]
  exact aft_ge hc (by omega) (by omega)
end Go.Proofs.Ythlhbgedidipkaa
/- Plain functions (written by a program of mine). -/
namespace Go.Proofs.Ythlhbgedidipkaa
open Go.RowKit
def p_law26_SnapTurns_l1 (z9 : Int) : Nat → Int → SnapEyes → Option ((Int × SnapEyes))
  | 0, _, _ => none
  | n + 1, y10, y11 =>
    bif (decide (y10 < (8 : Int))) then
      (pos? y10).bind fun x13 =>
      bif ((andI .u8 (shrI .u8 z9 y10) (1 : Int)) == (1 : Int)) then
        (p_law26_who (IntKind.wrap .u8 y10)).bind fun v15 =>
        (app? y11.Users [v15]).bind fun l16 =>
        p_law26_SnapTurns_l1 z9 n (w64 (y10 + (1 : Int))) (SnapEyes.mk l16 y11.Keys)
      else
      p_law26_SnapTurns_l1 z9 n (w64 (y10 + (1 : Int))) y11
    else
    some (y10, y11)
def p_law26_SnapTurns_l3 (z77 : ByteArray) (z81 : SnapEyes) (z82 : BookState) : Nat → Int → Option (Bool ⊕ Int)
  | 0, _ => none
  | n + 1, y79 =>
    bif (decide (y79 < (z82.Rows.length : Int))) then
      (at? z82.Rows y79).bind fun x85 =>
      (p_snap_Sees z81 x85).bind fun v86 =>
      bif v86 then
        (p_pres_Key x85.User x85.Res).bind fun v88 =>
        bif (Op.bytesLess v88.toList z77.toList || v88.toList == z77.toList) then
          p_law26_SnapTurns_l3 z77 z81 z82 n (w64 (y79 + (1 : Int)))
        else
        some (.inl false)
      else
      p_law26_SnapTurns_l3 z77 z81 z82 n (w64 (y79 + (1 : Int)))
    else
    some (.inr y79)
def p_law26_SnapTurns_l2 (z27 : List Law26Deed) (z30 : SnapEyes) : Nat → ByteArray → Int → BookState → SnapState → Option (Bool ⊕ (ByteArray × Int × BookState × SnapState))
  | 0, _, _, _, _ => none
  | n + 1, y28, y29, y31, y32 =>
    bif (decide (y29 < (z27.length : Int))) then
      ((
        (at? z27 y29).bind fun x34 =>
        bif x34.Off then
          (at? z27 y29).bind fun x36 =>
          (p_law26_who x36.Who).bind fun v37 =>
          (p_book_Off y31 v37 (⟨#[]⟩ : ByteArray)).bind fun v38 =>
          some v38.1
        else
        (at? z27 y29).bind fun x39 =>
        (p_law26_who x39.Who).bind fun v40 =>
        (at? z27 y29).bind fun x41 =>
        (p_book_Set y31 v40 (⟨#[]⟩ : ByteArray) (w64 (Int.tmod x41.Show (5 : Int))) (0 : Int)).bind fun v42 =>
        some v42.1) : Option (BookState)).bind fun q44 =>
      (at? z27 y29).bind fun x45 =>
      bif x45.Next then
        (p_snap_Next y32 z30 q44).bind fun v47 =>
        bif (v47.2.2 != y32.On) then
          some (.inl false)
        else
        (p_snap_Check v47.1).bind fun v49 =>
        bif (v49 != (0 : Int)) then
          some (.inl false)
        else
        ((
          bif (v47.2.1.Kind == (34 : Int)) then
            (p_book_Get q44 v47.2.1.User v47.2.1.Res).bind fun v52 =>
            (p_pres_Key v47.2.1.User v47.2.1.Res).bind fun v53 =>
            bif v52.2 then
              (p_pres_Say v47.2.1.User v47.2.1.Res v52.1).bind fun v55 =>
              bif ((v55.Kind == v47.2.1.Kind) && ((v55.User.toList == v47.2.1.User.toList) && ((v55.Res.toList == v47.2.1.Res.toList) && ((v55.Name.toList == v47.2.1.Name.toList) && ((v55.Show == v47.2.1.Show) && ((v55.Prio == v47.2.1.Prio) && ((v55.Code == v47.2.1.Code) && ((v55.N == v47.2.1.N) && true)))))))) then
                bif (Op.bytesLess v53.toList y28.toList || v53.toList == y28.toList) then
                  some (.inl false)
                else
                (p_snap_Covers y32 v53).bind fun v58 =>
                bif v58 then
                  (p_snap_Covers v47.1 v53).bind fun v60 =>
                  bif v60 then
                    some (.inl false)
                  else
                  bif (v47.1.Told != w64 (y32.Told + (1 : Int))) then
                    some (.inl false)
                  else
                  some (.inr v53)
                else
                some (.inl false)
              else
              some (.inl false)
            else
            some (.inl false)
          else
          some (.inr y28)) : Option (Bool ⊕ ByteArray)).bind fun o63 => match o63 with
        | .inl q64 =>
          some (.inl q64)
        | .inr q65 =>
          bif (v47.2.1.Kind == (37 : Int)) then
            (p_law26_SnapTurns_l3 q65 z30 q44 fuel (0 : Int)).bind fun o90 => match o90 with
            | .inl q91 =>
              some (.inl q91)
            | .inr q92 =>
              p_law26_SnapTurns_l2 z27 z30 n q65 (w64 (y29 + (1 : Int))) q44 v47.1
          else
          p_law26_SnapTurns_l2 z27 z30 n q65 (w64 (y29 + (1 : Int))) q44 v47.1
      else
      p_law26_SnapTurns_l2 z27 z30 n y28 (w64 (y29 + (1 : Int))) q44 y32
    else
    some (.inr (y28, y29, y31, y32))
def p_law26_SnapTurns_l4 (z102 : SnapEyes) (z103 : BookState) : Nat → Int → SnapState → Option ((Int × SnapState))
  | 0, _, _ => none
  | n + 1, y101, y104 =>
    bif y104.On then
      bif (decide (y101 < (30 : Int))) then
        (p_snap_Next y104 z102 z103).bind fun v107 =>
        p_law26_SnapTurns_l4 z102 z103 n (w64 (y101 + (1 : Int))) v107.1
      else
      some (y101, y104)
    else
    some (y101, y104)
def p_law26_SnapTurns (a0 : List Law26Deed) (a1 : Int) : Option (Bool) :=
  bif (decide ((60 : Int) < (a0.length : Int))) then
    (p_law26_awake).bind fun v2 =>
    some v2
  else
  (p_law26_SnapTurns_l1 a1 fuel (0 : Int) (SnapEyes.mk [] [])).bind fun q18 =>
  (p_snap_Begin).bind fun v19 =>
  (p_law26_SnapTurns_l2 a0 q18.2 fuel (⟨#[]⟩ : ByteArray) (0 : Int) (BookState.mk (0 : Int) []) v19).bind fun o93 => match o93 with
  | .inl q94 =>
    some q94
  | .inr q95 =>
    (p_law26_SnapTurns_l4 q18.2 q95.2.2.1 fuel (0 : Int) q95.2.2.2).bind fun q109 =>
    (p_snap_Count q18.2 q95.2.2.1).bind fun v110 =>
    bif (decide (q109.1 ≤ w64 (v110 + (2 : Int)))) then
      bif ((q109.2.On == false) && ((q109.2.Begun == false) && ((q109.2.After.toList == (⟨#[]⟩ : ByteArray).toList) && ((q109.2.Told == (0 : Int)) && true)))) then
        (p_law26_awake).bind fun v113 =>
        some v113
      else
      some false
    else
    some false
end Go.Proofs.Ythlhbgedidipkaa
/- SnapTurns in plain words. -/
namespace Go.Proofs.Ythlhbgedidipkaa
open Go.RowKit
theorem less_cmp {a b : ByteArray} : Op.bytesLess a.toList b.toList = decide (Lib.compareBytes a.data.toList b.data.toList < 0) := by rw [cmp_less, tl_data, tl_data]
theorem eq_cmp' (a b : ByteArray) : (a.toList == b.toList) = (Lib.compareBytes a.data.toList b.data.toList == 0) := by
  by_cases h : a = b
  · subst h; simp [cmp_refl]
  · have h1 : (a.toList == b.toList) = false := by
      cases hh : (a.toList == b.toList) with
      | false => rfl
      | true => exact absurd (eqT_iff.1 hh) h
    have h2 : Lib.compareBytes a.data.toList b.data.toList ≠ 0 := fun e => h (by
      have := cmp_eq0 e
      cases a; cases b; congr 1; exact Array.ext' this)
    rw [h1]; simpa using h2
theorem leq_cmp (a b : ByteArray) : (Op.bytesLess a.toList b.toList || a.toList == b.toList) = decide (Lib.compareBytes a.data.toList b.data.toList ≤ 0) := by
  rw [less_cmp, eq_cmp']
  by_cases h1 : Lib.compareBytes a.data.toList b.data.toList < 0
  · simp [h1]; omega
  · by_cases h2 : Lib.compareBytes a.data.toList b.data.toList = 0
    · simp [h2]
    · have : ¬ Lib.compareBytes a.data.toList b.data.toList ≤ 0 := by omega
      simp [h1, h2, this]
/-- how a snapshot stands among deeds. -/
def SnapAt (k : Nat) (st : SnapState) (l : ByteArray) : Prop := (st = ⟨true, false, ⟨#[]⟩, 0⟩ ∧ l = ⟨#[]⟩) ∨ (∃ t : Int, st = ⟨true, true, l, t⟩ ∧ 0 ≤ t ∧ t ≤ k) ∨ st = snap0
theorem SnapAt.up {k : Nat} {st : SnapState} {l : ByteArray} (h : SnapAt k st l) : SnapAt (k + 1) st l := by
  rcases h with h | ⟨t, h, h0, h1⟩ | h
  · exact .inl h
  · exact .inr (.inl ⟨t, h, h0, by omega⟩)
  · exact .inr (.inr h)
theorem turns_l1 (z : Int) : ∀ (n k F : Nat) (acc : List ByteArray), k + n = 8 → n < F → acc.length ≤ k → ∃ us, p_law26_SnapTurns_l1 z F k ⟨acc, []⟩ = some (((8 : Nat) : Int), ⟨us, []⟩) ∧ us.length ≤ 8
  | 0, k, F + 1, acc, hk, hF, ha => by
    have : k = 8 := by omega
    subst this
    rw [p_law26_SnapTurns_l1]
    exact ⟨acc, rfl, ha⟩
  | n + 1, k, F + 1, acc, hk, hF, ha => by
    have hlt : k < 8 := by omega
    have h8 : decide ((k : Int) < (8 : Int)) = true := by simp; omega
    rw [p_law26_SnapTurns_l1, h8, pos_ok]
    simp only [cond_true, Option.bind_some]
    rw [u8_small hlt, who8_p (by omega), w64_succ (by omega)]
    simp only [Option.bind_some]
    rw [app_ok (by simp; omega)]
    simp only [Option.bind_some]
    cases andI .u8 (shrI .u8 z (k : Int)) (1 : Int) == (1 : Int) with
    | true =>
      simp only [cond_true]
      exact turns_l1 z n (k + 1) F _ (by omega) (by omega) (by simp; omega)
    | false =>
      simp only [cond_false]
      exact turns_l1 z n (k + 1) F _ (by omega) (by omega) (by omega)
/-- the round's deed. -/
theorem turns_deed {l : List Law26Deed} (hd : ∀ d ∈ l, DeedOK8 d) {k : Nat} (hlt : k < l.length) (hk : k < 900) {st : BookState} {has : List PresPres} (h : StF F8 st has k) :
    ∃ b has', ((at? l (k : Int)).bind fun x34 => bif x34.Off then (at? l (k : Int)).bind fun x36 => (p_law26_who x36.Who).bind fun v37 => (p_book_Off st v37 (⟨#[]⟩ : ByteArray)).bind fun v38 => some v38.1
      else (at? l (k : Int)).bind fun x39 => (p_law26_who x39.Who).bind fun v40 => (at? l (k : Int)).bind fun x41 => (p_book_Set st v40 (⟨#[]⟩ : ByteArray) (w64 (Int.tmod x41.Show (5 : Int))) (0 : Int)).bind fun v42 => some v42.1) = some b ∧ StF F8 b has' (k + 1) := by
  have hdd := hd _ (List.getElem_mem hlt)
  rw [at_lt hlt]
  simp only [Option.bind_some]
  rw [who8_p hdd.who, show8_p hdd]
  simp only [Option.bind_some]
  obtain ⟨q1, h1, e1, f1⟩ := h.off (m := l[k].Who.toNat % 8) hk (by show _ < 8; omega)
  obtain ⟨q2, h2, e2, f2⟩ := h.set (m := l[k].Who.toNat % 8) (sh := ((l[k].Show.toNat % 5 : Nat) : Int)) (prio := 0) hk (by show _ < 8; omega) (by omega) (by omega)
  have e1' : p_book_Off st (u20 (l[k].Who.toNat % 8)) ⟨#[]⟩ = some q1 := e1
  have e2' : p_book_Set st (u20 (l[k].Who.toNat % 8)) ⟨#[]⟩ ((l[k].Show.toNat % 5 : Nat) : Int) 0 = some q2 := e2
  cases l[k].Off with
  | true =>
    simp only [cond_true]
    rw [e1']
    exact ⟨_, _, rfl, f1⟩
  | false =>
    simp only [cond_false]
    rw [e2']
    exact ⟨_, _, rfl, f2⟩
/-- at Done, all that is seen was told. -/
theorem turns_l3 {e : SnapEyes} (he : fewE e) {b : BookState} (hn : b.Rows.length ≤ 1000) (hs : smallB b.Rows) {a : ByteArray} (hf : (b.Rows.drop (aftL b.Rows a)).filter (seesL e) = []) : ∀ (n k F : Nat), k + n = b.Rows.length → n < F →
    p_law26_SnapTurns_l3 a e b F k = some (.inr (b.Rows.length : Int))
  | 0, k, F + 1, hk, hF => by
    have : k = b.Rows.length := by omega
    subst this
    rw [p_law26_SnapTurns_l3, lt_ff (Nat.le_refl _)]; rfl
  | n + 1, k, F + 1, hk, hF => by
    have hlt : k < b.Rows.length := by omega
    have hx := hs _ (List.getElem_mem hlt)
    rw [p_law26_SnapTurns_l3, lt_tt hlt, at_lt hlt, w64_succ (by omega)]
    simp only [cond_true, Option.bind_some]
    rw [sees_p he hx]
    simp only [Option.bind_some]
    have ih := turns_l3 he hn hs hf n (k + 1) F (by omega) (by omega)
    cases hsee : seesL e b.Rows[k] with
    | false => exact ih
    | true =>
      simp only [cond_true]
      rw [key_p hx.1 hx.2]
      simp only [Option.bind_some]
      have hka : k < aftL b.Rows a := by
        rcases Nat.lt_or_ge k (aftL b.Rows a) with h | h
        · exact h
        · exfalso
          have hm : b.Rows[k] ∈ (b.Rows.drop (aftL b.Rows a)).filter (seesL e) := by
            refine List.mem_filter.2 ⟨?_, hsee⟩
            rw [List.mem_iff_getElem]
            exact ⟨k - aftL b.Rows a, by rw [List.length_drop]; omega, by rw [List.getElem_drop]; congr 1; omega⟩
          rw [hf] at hm; cases hm
      have hle := aft_lt hlt hka
      have : (Op.bytesLess (keyL b.Rows[k].User b.Rows[k].Res).toList a.toList || (keyL b.Rows[k].User b.Rows[k].Res).toList == a.toList) = true := by
        rw [leq_cmp]
        have h2 : ¬ 0 < Lib.compareBytes (keyR b.Rows[k]).data.toList a.data.toList := hle
        exact decide_eq_true (show Lib.compareBytes (keyR b.Rows[k]).data.toList a.data.toList ≤ 0 by omega)
      rw [this]
      exact ih
theorem get_row {st : BookState} {has : List PresPres} {k : Nat} (h : StF F8 st has k) (hk : k < 900) {x : BookRow} (hx : x ∈ st.Rows) : p_book_Get st x.User x.Res = some (x.P, true) ∧ x.P.On = true ∧ presCheckL x.P = 0 ∧ namedL x.User x.Res = true := by
  have hs := h.seq
  rw [h.rows] at hx
  obtain ⟨m, hm, ho, rfl⟩ := mem_tabR hx
  have hu := (F8.ok m hm).2
  refine ⟨?_, ho, h.ok.pres m hm ho, (ok8_at hm).2.2⟩
  have hg := get_p (st := st) (u := F8.u m) (r := F8.r m) (by have := h.len; omega) h.small (by omega) (by omega)
  rw [h.rows, tab_get h.ok (by omega) hm, if_pos ho] at hg
  exact hg
theorem turns_l2 {e : SnapEyes} (he : fewE e) (l : List Law26Deed) (hl : l.length ≤ 60) (hd : ∀ d ∈ l, DeedOK8 d) : ∀ (n k F : Nat) (last : ByteArray) (b : BookState) (has : List PresPres) (st : SnapState), k + n = l.length → n < F → StF F8 b has k → SnapAt k st last →
    ∃ last' b' has' st', p_law26_SnapTurns_l2 l e F last k b st = some (.inr (last', (l.length : Int), b', st')) ∧ StF F8 b' has' l.length ∧ SnapAt l.length st' last'
  | 0, k, F + 1, last, b, has, st, hk, hF, h, hst => by
    have : k = l.length := by omega
    subst this
    rw [p_law26_SnapTurns_l2, lt_ff (Nat.le_refl _)]
    exact ⟨last, b, has, st, rfl, h, hst⟩
  | n + 1, k, F + 1, last, b, has, st, hk, hF, h, hst => by
    have hlt : k < l.length := by omega
    obtain ⟨q, has', hq, hq2⟩ := turns_deed hd hlt (by omega) h
    rw [p_law26_SnapTurns_l2, lt_tt hlt]
    simp only [cond_true]
    rw [hq]
    simp only [Option.bind_some]
    rw [at_lt hlt, w64_succ (by omega)]
    simp only [Option.bind_some]
    cases l[k].Next with
    | false =>
      simp only [cond_false]
      exact turns_l2 he l hl hd n (k + 1) F last q has' st (by omega) (by omega) hq2 hst.up
    | true =>
      simp only [cond_true]
      have hn : q.Rows.length ≤ 1000 := by have := hq2.len; omega
      have hs := hq2.small
      have hc := hq2.check (by omega)
      rcases hst with ⟨rfl, rfl⟩ | ⟨t, rfl, h0, h1⟩ | rfl
      · rw [next_begin he hn hs hc]
        simp only [Option.bind_some, bne_self_eq_false, cond_false]
        rw [snapCheck_on _ 0 (by omega) (by omega)]
        simp only [Option.bind_some, bne_self_eq_false, cond_false]
        have k1 : ((snapS ((viewL e q).length : Int)).Kind == (34 : Int)) = false := rfl
        have k2 : ((snapS ((viewL e q).length : Int)).Kind == (37 : Int)) = false := rfl
        simp only [k1, k2, cond_false, Option.bind_some]
        exact turns_l2 he l hl hd n (k + 1) F ⟨#[]⟩ q has' _ (by omega) (by omega) hq2 (.inr (.inl ⟨0, rfl, by omega, by omega⟩))
      rotate_left
      · rw [next_off rfl]
        have k0 : p_snap_Check snap0 = some 0 := by kernel_rfl
        have k1 : (stz0.Kind == (34 : Int)) = false := rfl
        have k2 : (stz0.Kind == (37 : Int)) = false := rfl
        have k3 : (false != snap0.On) = false := rfl
        simp only [Option.bind_some, k3, cond_false, k0, bne_self_eq_false, k1, k2]
        exact turns_l2 he l hl hd n (k + 1) F last q has' _ (by omega) (by omega) hq2 (.inr (.inr rfl))
      · rw [next_row he hn hs hc h0 (by omega) (aft_le _ _) (nxt_at hc last)]
        cases hf : (q.Rows.drop (aftL q.Rows last)).filter (seesL e) with
        | nil =>
          have k0 : p_snap_Check snap0 = some 0 := by kernel_rfl
          have k1 : (doneS.Kind == (34 : Int)) = false := rfl
          have k2 : (doneS.Kind == (37 : Int)) = true := rfl
          simp only [Option.bind_some, bne_self_eq_false, cond_false, k0, k1, k2, cond_true]
          have h3 := turns_l3 he hn hs hf q.Rows.length 0 fuel (by omega) (by have := fuel_pos; omega)
          have h3' : p_law26_SnapTurns_l3 last e q fuel 0 = some (.inr (q.Rows.length : Int)) := h3
          rw [h3']
          simp only [Option.bind_some]
          exact turns_l2 he l hl hd n (k + 1) F last q has' _ (by omega) (by omega) hq2 (.inr (.inr rfl))
        | cons x r =>
          have hxm : x ∈ (q.Rows.drop (aftL q.Rows last)).filter (seesL e) := by rw [hf]; simp
          have hxd := (List.mem_filter.1 hxm).1
          have hxr := List.mem_of_mem_drop hxd
          have hxs := hs _ hxr
          obtain ⟨g1, g2, g3, g4⟩ := get_row hq2 (by omega) hxr
          have hsay : sayR x = ⟨34, x.User, x.Res, ⟨#[]⟩, x.P.Show, x.P.Prio, 0, x.P.Seq⟩ := by
            unfold sayR sayL; rw [if_neg (by simpa using g3), if_pos g4, if_pos g2]
          have hpos := aft_mem hc hxd
          simp only [Option.bind_some, bne_self_eq_false, cond_false]
          rw [snapCheck_on _ (t + 1) (by omega) (by omega)]
          simp only [Option.bind_some, bne_self_eq_false, cond_false]
          have k1 : ((sayR x).Kind == (34 : Int)) = true := by rw [hsay]; rfl
          have k2 : ((sayR x).Kind == (37 : Int)) = false := by rw [hsay]; rfl
          have u1 : (sayR x).User = x.User := by rw [hsay]
          have u2 : (sayR x).Res = x.Res := by rw [hsay]
          rw [k1, k2, u1, u2, g1, key_p hxs.1 hxs.2]
          simp only [Option.bind_some, cond_true]
          rw [say_p _ hxs.1 hxs.2]
          simp only [Option.bind_some]
          have hse : sayL x.User x.Res x.P = sayR x := rfl
          rw [hse, ← u1, ← u2]
          simp only [beq_self_eq_true, Bool.and_self, cond_true]
          rw [u1, u2]
          have hno : (Op.bytesLess (keyL x.User x.Res).toList last.toList || (keyL x.User x.Res).toList == last.toList) = false := by
            rw [leq_cmp]
            have : 0 < Lib.compareBytes (keyL x.User x.Res).data.toList last.data.toList := hpos
            exact decide_eq_false (by omega)
          rw [hno]
          simp only [cond_false]
          have c1 : p_snap_Covers ⟨true, true, last, t⟩ (keyL x.User x.Res) = some true := by
            unfold p_snap_Covers
            simp only [cond_true]
            rw [less_cmp]
            have := cmp_anti (keyL x.User x.Res).data.toList last.data.toList
            have h2 : 0 < Lib.compareBytes (keyL x.User x.Res).data.toList last.data.toList := hpos
            rw [decide_eq_true (by omega)]
          have c2 : p_snap_Covers ⟨true, true, keyR x, t + 1⟩ (keyL x.User x.Res) = some false := by
            unfold p_snap_Covers
            simp only [cond_true]
            rw [less_cmp]
            have : Lib.compareBytes (keyR x).data.toList (keyL x.User x.Res).data.toList = 0 := cmp_refl _
            rw [this]; rfl
          rw [c1, c2]
          simp only [Option.bind_some, cond_true, cond_false]
          rw [w64_id (show -9223372036854775808 ≤ t + 1 ∧ t + 1 ≤ 9223372036854775807 by omega)]
          simp only [bne_self_eq_false, cond_false, Option.bind_some]
          exact turns_l2 he l hl hd n (k + 1) F (keyR x) q has' _ (by omega) (by omega) hq2 (.inr (.inl ⟨t + 1, rfl, by omega, by omega⟩))
theorem turns_l4 {e : SnapEyes} {b : BookState} (he : fewE e) (hn : b.Rows.length ≤ 1000) (hs : smallB b.Rows) (hc : bookCheck b.Seq b.Rows = 0) : ∀ (rest : List BookRow) (j F k : Nat) (a : ByteArray) (t : Int), (b.Rows.drop j).filter (seesL e) = rest → rest.length + 1 < F → k + rest.length + 1 ≤ 30 → 0 ≤ t → t + (rest.length : Int) ≤ 10000 → j ≤ b.Rows.length → nxtL b.Seq b.Rows a = rowAt b.Rows j →
    p_law26_SnapTurns_l4 e b F k ⟨true, true, a, t⟩ = some (((k + rest.length + 1 : Nat) : Int), snap0)
  | [], j, F, k, a, t, hr, hF, hk, h0, h1, hj, hx => by
    obtain ⟨F, rfl⟩ : ∃ F', F = F' + 2 := ⟨F - 2, by simp at hF; omega⟩
    have h30 : decide ((k : Int) < (30 : Int)) = true := by simp at hk ⊢; omega
    rw [p_law26_SnapTurns_l4, h30, next_row he hn hs hc h0 (by omega) hj hx, hr]
    simp only [cond_true, Option.bind_some]
    rw [w64_succ (by omega), p_law26_SnapTurns_l4]
    rfl
  | x :: rest, j, F, k, a, t, hr, hF, hk, h0, h1, hj, hx => by
    simp only [List.length_cons] at hF hk h1
    obtain ⟨F, rfl⟩ : ∃ F', F = F' + 1 := ⟨F - 1, by omega⟩
    have h30 : decide ((k : Int) < (30 : Int)) = true := by simp; omega
    rw [p_law26_SnapTurns_l4, h30, next_row he hn hs hc h0 (by omega) hj hx, hr]
    simp only [cond_true, Option.bind_some]
    obtain ⟨i, hi, hlt, hxe, hr2⟩ := filter_next (seesL e) b.Rows (b.Rows.length - j) j (by omega) hr
    subst hxe
    rw [w64_succ (by omega), turns_l4 he hn hs hc rest (i + 1) F (k + 1) (keyR b.Rows[i]) (t + 1) hr2 (by omega) (by omega) (by omega) (by omega) (by omega) (nxt_key hc hlt)]
    simp only [List.length_cons]
    congr 2
    omega
theorem snapTurns_pure (l : List Law26Deed) (z : Int) (hw : ∀ d ∈ l, DeedOK8 d) : p_law26_SnapTurns l z = some true := by
  unfold p_law26_SnapTurns
  rw [awake26]
  by_cases hl : 60 < l.length
  · have : decide ((60 : Int) < (l.length : Int)) = true := by simp; omega
    rw [this]; rfl
  · have : decide ((60 : Int) < (l.length : Int)) = false := by simp; omega
    rw [this]
    simp only [cond_false]
    have hf := fuel_pos
    obtain ⟨us, hk1, hk2⟩ := turns_l1 z 8 0 fuel [] rfl (by omega) (by simp)
    have hk1' : p_law26_SnapTurns_l1 z fuel 0 ⟨[], []⟩ = some (((8 : Nat) : Int), ⟨us, []⟩) := hk1
    rw [hk1']
    have hb : p_snap_Begin = some ⟨true, false, ⟨#[]⟩, 0⟩ := rfl
    rw [hb]
    simp only [Option.bind_some]
    have he : fewE ⟨us, []⟩ := ⟨by show us.length ≤ 1000; omega, by simp⟩
    obtain ⟨last, b, has, st, h1, h2, h3⟩ := turns_l2 he l (by omega) hw l.length 0 fuel ⟨#[]⟩ ⟨0, []⟩ _ _ (by omega) (by omega) St8.init (.inl ⟨rfl, rfl⟩)
    have h1' : p_law26_SnapTurns_l2 l ⟨us, []⟩ fuel ⟨#[]⟩ 0 ⟨0, []⟩ ⟨true, false, ⟨#[]⟩, 0⟩ = some (.inr (last, (l.length : Int), b, st)) := h1
    rw [h1']
    simp only [Option.bind_some]
    have hn : b.Rows.length ≤ 1000 := by have := h2.len; omega
    have hs := h2.small
    have hc := h2.check (by omega)
    have hv : viewL ⟨us, []⟩ b = b.Rows.filter (seesL ⟨us, []⟩) := by unfold viewL; rw [if_neg (by simpa using hc)]
    have hvl : (viewL ⟨us, []⟩ b).length ≤ 16 := by have := viewL_len ⟨us, []⟩ b; have := h2.len; omega
    have hdrop : ∀ j, ((b.Rows.drop j).filter (seesL ⟨us, []⟩)).length ≤ (viewL ⟨us, []⟩ b).length := fun j => by
      rw [hv]; exact (List.Sublist.filter _ (List.drop_sublist j _)).length_le
    have main : ∃ m : Nat, p_law26_SnapTurns_l4 ⟨us, []⟩ b fuel 0 st = some ((m : Int), snap0) ∧ m ≤ (viewL ⟨us, []⟩ b).length + 2 := by
      rcases h3 with ⟨rfl, rfl⟩ | ⟨t, rfl, h0, h1⟩ | rfl
      · obtain ⟨F, hF⟩ : ∃ F, fuel = F + 1 := ⟨fuel - 1, by omega⟩
        have hd0 := hdrop 0
        have h4 := turns_l4 he hn hs hc _ 0 F 1 ⟨#[]⟩ 0 rfl (by omega) (by omega) (by omega) (by omega) (Nat.zero_le _) (nxt_empty hc (keys_full hc))
        refine ⟨1 + ((b.Rows.drop 0).filter (seesL ⟨us, []⟩)).length + 1, ?_, by omega⟩
        rw [hF, p_law26_SnapTurns_l4, next_begin he hn hs hc]
        exact h4
      · have hd0 := hdrop (aftL b.Rows last)
        have h4 := turns_l4 he hn hs hc _ (aftL b.Rows last) fuel 0 last t rfl (by omega) (by omega) h0 (by omega) (aft_le _ _) (nxt_at hc last)
        exact ⟨_, h4, by omega⟩
      · obtain ⟨F, hF⟩ : ∃ F, fuel = F + 1 := ⟨fuel - 1, by omega⟩
        refine ⟨0, ?_, by omega⟩
        rw [hF, p_law26_SnapTurns_l4]; rfl
    obtain ⟨m, hm1, hm2⟩ := main
    rw [hm1, count_p he hn hs]
    simp only [Option.bind_some]
    have hw2 : w64 (((viewL ⟨us, []⟩ b).length : Int) + (2 : Int)) = (((viewL ⟨us, []⟩ b).length + 2 : Nat) : Int) := by rw [w64_id (by omega)]; rfl
    rw [hw2, decide_eq_true (by omega)]
    simp [snap0]
end Go.Proofs.Ythlhbgedidipkaa
/- SnapTurns, of deeds that are read. -/
namespace Go.Proofs.Ythlhbgedidipkaa
open Go.RowKit
theorem snapTurns_wf (l : List Law26Deed) (n : Int) (h : ∀ x ∈ l, Law26Deed.Wf x) (_ : (Lit.int .u8 n).wf = true) : p_law26_SnapTurns l n = some true := snapTurns_pure l n fun d hd => ⟨bounds_u8 (h d hd).Who, bounds_u8 (h d hd).Show⟩
end Go.Proofs.Ythlhbgedidipkaa
