/- A part of the proof: 7 texts joined. -/
import Derived.Test.YtljeinlapkgjeaaQbA6
import Derived.Test.YtljeinlapkgjeaaQbA7
import Derived.Test.YtljeinlapkgjeaaQbA4
import Derived.HandedShaped
import Derived.Shelf.Vars
import Derived.Lib.SmallJoins
import Derived.Deep.Slices
import Derived.ProofKit
import Derived.Test.YtljeinlapkgjeaaChecked
import Derived.OpenShut
import Derived.KernelRfl
set_option linter.all false
/- BookKeeps in plain words. -/
namespace Go.Proofs.Ytljeinlapkgjeaa
open Go.RowKit
theorem arr_nat {n k : Nat} {l : List PresPres} (hl : l.length = n) (hk : k < n) : arr? n l (k : Int) = some (preT l k) := by
  unfold arr? preT
  rw [if_pos hl, at_lt (by omega), List.getD_eq_getElem?_getD, List.getElem?_eq_getElem (by omega)]; rfl
theorem who_p {d : Law24Deed} (h : DeedOK d) : w64 ((4 : Int) * w64 (Int.tmod d.Who (5 : Int))) = ((4 * dW d : Nat) : Int) := by
  have e : w64 ((dW d : Nat) : Int) = ((dW d : Nat) : Int) := w64_id (by unfold dW; omega)
  rw [show Int.tmod d.Who (5 : Int) = ((dW d : Nat) : Int) from tmod_nat h.who.1 5, e]
  rw [show (4 : Int) * ((dW d : Nat) : Int) = ((4 * dW d : Nat) : Int) by omega]
  exact w64_id (by unfold dW; omega)
theorem res_m {d : Law24Deed} (h : DeedOK d) : w64 (Int.tmod d.Res (4 : Int)) = ((dR d : Nat) : Int) := by
  rw [show Int.tmod d.Res (4 : Int) = ((dR d : Nat) : Int) from tmod_nat h.res.1 4]
  exact w64_id (by unfold dR; omega)
theorem place_p {d : Law24Deed} (h : DeedOK d) : w64 (w64 ((4 : Int) * w64 (Int.tmod d.Who (5 : Int))) + w64 (Int.tmod d.Res (4 : Int))) = ((dK d : Nat) : Int) := by
  rw [who_p h, res_m h, w64_id (by unfold dW dR; omega)]; unfold dK; omega
def mineN (has : List PresPres) (w : Nat) (k : Nat) : Nat := ((List.range 4).drop k).countP fun i => onF has (4 * w + i)
theorem mine_l (l : List Law24Deed) (k0 : Nat) (hk0 : k0 < l.length) (hd : DeedOK l[k0]) (has : List PresPres) (hl : has.length = 20) : ∀ (n k F a : Nat), k + n = 4 → n < F → a ≤ k →
    p_law24_BookKeeps_j_l2 l k0 has F a k = some (((a + mineN has (dW l[k0]) k : Nat) : Int), 4)
  | 0, k, F + 1, a, hk, hF, ha => by
    have : k = 4 := by omega
    subst this
    rw [p_law24_BookKeeps_j_l2]; rfl
  | n + 1, k, F + 1, a, hk, hF, ha => by
    have hlt : k < 4 := by omega
    have hm : mineN has (dW l[k0]) k = mineN has (dW l[k0]) (k + 1) + if onF has (4 * dW l[k0] + k) = true then 1 else 0 := by
      unfold mineN
      rw [drop_at (l := List.range 4) (k := k) (by simpa using hlt), List.countP_cons]
      simp
    rw [p_law24_BookKeeps_j_l2, decide_eq_true (show (k : Int) < 4 by omega), at_lt hk0]
    simp only [cond_true, Option.bind_some]
    have hb : dW l[k0] < 5 := by unfold dW; omega
    rw [who_p hd, w64_id (show _ ∧ _ by omega), show ((4 * dW l[k0] : Nat) : Int) + (k : Int) = ((4 * dW l[k0] + k : Nat) : Int) by omega, arr_nat hl (by omega)]
    simp only [Option.bind_some]
    rw [w64_succ (show k ≤ 1000000 by omega), w64_succ (show a ≤ 1000000 by omega), hm]
    have ho : (preT has (4 * dW l[k0] + k)).On = onF has (4 * dW l[k0] + k) := rfl
    rw [ho]
    cases h : onF has (4 * dW l[k0] + k) with
    | true =>
      simp only [cond_true, if_true]
      rw [mine_l l k0 hk0 hd has hl n (k + 1) F (a + 1) (by omega) (by omega) (by omega)]
      congr 3; omega
    | false =>
      simp only [cond_false]
      rw [mine_l l k0 hk0 hd has hl n (k + 1) F a (by omega) (by omega) (by omega)]
      simp
theorem mine_many {st : BookState} {has : List PresPres} {k : Nat} (h : St20 st has k) (w : Nat) (hw : w < 5) : mineN has w 0 = manyL st.Rows (u20 w) := by
  rw [h.rows, many20 has w hw]; rfl
theorem key_i (j : Nat) (hj : j < 20) : ((text? [IntKind.wrap .u8 ((97 : Int) + IntKind.wrap .u8 (w64 (Int.tdiv (j : Int) (4 : Int))))]).bind fun s => cat? s (⟨#[64, 120]⟩ : ByteArray)) = some (F20.u j) ∧ text? [IntKind.wrap .u8 ((114 : Int) + IntKind.wrap .u8 (Int.tmod (j : Int) (4 : Int)))] = some (F20.r j) := by
  have e1 : w64 (Int.tdiv (j : Int) (4 : Int)) = ((j / 4 : Nat) : Int) := by
    rw [show Int.tdiv (j : Int) (4 : Int) = ((j / 4 : Nat) : Int) from rfl]; exact w64_id (by omega)
  have e2 : Int.tmod (j : Int) (4 : Int) = ((j % 4 : Nat) : Int) := rfl
  have e3 : IntKind.wrap .u8 ((j / 4 : Nat) : Int) = ((j / 4 : Nat) : Int) := u8_in (by omega)
  have e4 : IntKind.wrap .u8 ((j % 4 : Nat) : Int) = ((j % 4 : Nat) : Int) := u8_in (by omega)
  rw [e1, e2, e3, e4]
  have a := text1 97 (j / 4) _ 0 rfl (by omega)
  have b := text1 114 (j % 4) _ 0 rfl (by omega)
  have a' : text? [IntKind.wrap .u8 ((97 : Int) + ((j / 4 : Nat) : Int))] = some ⟨#[UInt8.ofNat (97 + j / 4)]⟩ := a
  have b' : text? [IntKind.wrap .u8 ((114 : Int) + ((j % 4 : Nat) : Int))] = some ⟨#[UInt8.ofNat (114 + j % 4)]⟩ := b
  rw [a', b']
  refine ⟨?_, rfl⟩
  simp only [Option.bind_some]
  unfold cat?
  rw [if_pos (by show 1 + 2 ≤ _; omega)]; rfl
theorem getAll_l {st : BookState} {has : List PresPres} {m : Nat} (h : St20 st has m) (hm : m < 900) : ∀ (n k F a : Nat), k + n = 20 → n < F → a ≤ k →
    p_law24_BookKeeps_j_l3 st has F a k = some (.inr (((a + ((List.range 20).drop k).countP (onF has) : Nat) : Int), 20))
  | 0, k, F + 1, a, hk, hF, ha => by
    have : k = 20 := by omega
    subst this
    rw [p_law24_BookKeeps_j_l3]; rfl
  | n + 1, k, F + 1, a, hk, hF, ha => by
    have hlt : k < 20 := by omega
    have hsq := h.seq
    obtain ⟨ku, kr⟩ := key_i k hlt
    have hg : p_book_Get st (F20.u k) (F20.r k) = some (if onF has k = true then (preT has k, true) else (⟨false, 0, 0, 0⟩, false)) := by
      have hf := F20.ok k hlt
      rw [get_p (by have := h.len; omega) h.small (by omega) (by omega), h.rows]
      exact congrArg some (tab_get h.ok (by omega) hlt)
    rw [p_law24_BookKeeps_j_l3, decide_eq_true (show (k : Int) < 20 by omega)]
    simp only [cond_true]
    obtain ⟨s, hs1, hs2⟩ := Option.bind_eq_some_iff.1 ku
    rw [hs1]
    simp only [Option.bind_some]
    rw [hs2]
    simp only [Option.bind_some]
    rw [kr]
    simp only [Option.bind_some]
    rw [hg]
    simp only [Option.bind_some]
    rw [arr_nat (show has.length = 20 from h.ok.len) hlt]
    simp only [Option.bind_some]
    rw [w64_succ (show k ≤ 1000000 by omega), w64_succ (show a ≤ 1000000 by omega), drop_at (l := List.range 20) (k := k) (by simpa using hlt), List.countP_cons]
    have hr : (List.range 20)[k]'(by simpa using hlt) = k := by simp
    rw [hr]
    have ho : (preT has k).On = onF has k := rfl
    rw [ho]
    cases hh : onF has k with
    | true =>
      have hp : (preT has k).On = true := hh
      simp only [if_true, hp, bne_self_eq_false, cond_false, cond_true, beq_self_eq_true, Bool.and_self]
      rw [getAll_l h hm n (k + 1) F (a + 1) (by omega) (by omega) (by omega)]
      congr 3; omega
    | false =>
      simp only [Bool.false_eq_true, if_false, bne_self_eq_false, cond_false]
      rw [getAll_l h hm n (k + 1) F a (by omega) (by omega) (by omega)]
      simp
theorem equal_refl_l (rows : List BookRow) (hn : rows.length ≤ 1000) : ∀ (n k F : Nat), k + n = rows.length → n < F → p_slices_Equal_book_Row_l1 rows rows rows.length F k = some (.inr (rows.length : Int))
  | 0, k, F + 1, hk, hF => by
    have : k = rows.length := by omega
    rw [p_slices_Equal_book_Row_l1, lt_ff (by omega), this]; rfl
  | n + 1, k, F + 1, hk, hF => by
    have hlt : k < rows.length := by omega
    rw [p_slices_Equal_book_Row_l1, lt_tt hlt, at_lt hlt]
    simp only [cond_true, Option.bind_some, beq_self_eq_true, Bool.and_self]
    rw [w64_succ (by omega)]
    exact equal_refl_l rows hn n (k + 1) F (by omega) (by omega)
theorem same_refl {st : BookState} (hn : st.Rows.length ≤ 1000) : p_book_Same st st = some true := by
  unfold p_book_Same p_slices_Equal_book_Row
  have := equal_refl_l st.Rows hn st.Rows.length 0 fuel (by omega) (by have := fuel_pos; omega)
  have z0 : ((0 : Nat) : Int) = 0 := rfl
  rw [z0] at this
  simp [this]
theorem keeps_l (l : List Law24Deed) (hl : l.length ≤ 80) (hd : ∀ d ∈ l, DeedOK d) : ∀ (n k F : Nat) (st : BookState) (has : List PresPres), k + n = l.length → n < F → St20 st has k →
    ∃ st' has', p_law24_BookKeeps_j_l1 l F k st has = some (.inr ((l.length : Int), st', has'))
  | 0, k, F + 1, st, has, hk, hF, h => by
    have : k = l.length := by omega
    subst this
    rw [p_law24_BookKeeps_j_l1, lt_ff (Nat.le_refl _)]
    exact ⟨st, has, rfl⟩
  | n + 1, k, F + 1, st, has, hk, hF, h => by
    have hlt : k < l.length := by omega
    have hdd := hd _ (List.getElem_mem hlt)
    have hr := res_p hdd
    have hsh := show_p hdd
    have hpl := place_p hdd
    have hlen : has.length = 20 := h.ok.len
    have hkk := dK_lt l[k]
    have hw5 : dW l[k] < 5 := by unfold dW; omega
    have hsq := h.seq
    have hs0 := h.ok.seq0
    have hsl := h.len
    obtain ⟨s, hs1, hs2⟩ := Option.bind_eq_some_iff.1 (user_p hdd)
    have hmine := mine_l l k hlt hdd has hlen 4 0 fuel 0 (by omega) (by decide) (Nat.le_refl _)
    rw [Nat.zero_add, mine_many h _ hw5] at hmine
    have z0 : ((0 : Nat) : Int) = 0 := rfl
    rw [z0] at hmine
    obtain ⟨o1, o2⟩ := h.off (d := l[k]) (by omega)
    obtain ⟨s1, s2⟩ := h.set (d := l[k]) (prio := 0) (by omega) (by omega)
    have harr := arr_nat hlen hkk
    -- what follows, from a state that may be
    have rest : ∀ (st' : BookState) (has' : List PresPres), St20 st' has' (k + 1) → ∃ st'' has'', ((p_book_Check st').bind fun v88 =>
          bif (v88 != (0 : Int)) then
            some (.inl false)
          else
          (p_law24_BookKeeps_j_l3 st' has' fuel (0 : Int) (0 : Int)).bind fun o117 => match o117 with
          | .inl q118 =>
            some (.inl q118)
          | .inr q119 =>
            bif (q119.1 != (st'.Rows.length : Int)) then
              some (.inl false)
            else
            p_law24_BookKeeps_j_l1 l F (w64 ((k : Int) + (1 : Int))) st' has') = some (.inr ((l.length : Int), st'', has'')) := by
      intro st' has' h'
      have hq := h'.seq
      have hsl' := h'.len
      have hc : bookCheck st'.Seq st'.Rows = 0 := by rw [h'.rows]; exact tab_check h'.ok (by omega)
      have hg := getAll_l h' (by omega) 20 0 fuel 0 (by omega) (by decide) (Nat.le_refl _)
      rw [z0] at hg
      have hcount : ((List.range 20).drop 0).countP (onF has') = st'.Rows.length := by rw [h'.rows, tab_len]; rfl
      rw [Nat.zero_add, hcount] at hg
      obtain ⟨st'', has'', ih⟩ := keeps_l l hl hd n (k + 1) F st' has' (by omega) (by omega) h'
      refine ⟨st'', has'', ?_⟩
      rw [check_p st' (by omega) h'.small, hc]
      simp only [Option.bind_some, bne_self_eq_false, cond_false]
      rw [hg]
      simp only [bne_self_eq_false, cond_false, Option.bind_some]
      rw [w64_succ (by omega)]
      exact ih
    have same := same_refl (st := st) (by omega)
    have hset : ∀ p : PresPres, List.set has (Int.toNat ((dK l[k] : Nat) : Int)) p = has.set (dK l[k]) p := fun p => rfl
    rw [p_law24_BookKeeps_j_l1, lt_tt hlt, at_lt hlt]
    simp only [cond_true, Option.bind_some]
    rw [hs1]
    simp only [Option.bind_some]
    rw [hs2]
    simp only [Option.bind_some]
    rw [hr]
    simp only [Option.bind_some]
    rw [hmine]
    simp only [Option.bind_some]
    rw [hpl, harr, hsh]
    have hon : (preT has (dK l[k])).On = onF has (dK l[k]) := rfl
    cases hoff : l[k].Off with
    | true =>
      simp only [cond_true]
      rw [o1]
      simp only [Option.bind_some, hon]
      cases ho : onF has (dK l[k]) with
      | false =>
        have e6 : ((6 : Int) == 0) = false := rfl
        simp only [if_true, e6, bne_self_eq_false, cond_false, Option.bind_some, same, cond_true]
        exact rest st has h.up
      | true =>
        have e6 : ((0 : Int) == 0) = true := rfl
        simp only [Bool.true_eq_false, if_false, e6, bne_self_eq_false, cond_false, cond_true, Option.bind_some]
        rw [decide_eq_false (show ¬ st.Seq + 1 ≤ st.Seq by omega)]
        simp only [cond_false, bne_self_eq_false, Option.bind_some, hset]
        exact rest _ _ o2
    | false =>
      simp only [cond_false]
      rw [s1]
      simp only [Option.bind_some, hon]
      have e7 : ((7 : Int) == 0) = false := rfl
      have e0 : ((0 : Int) == 0) = true := rfl
      by_cases hno : onF has (dK l[k]) = false ∧ (16 ≤ st.Rows.length ∨ 3 ≤ manyL st.Rows (u20 (dW l[k])))
      · rw [if_pos hno, hno.1]
        simp only [cond_false, e7]
        by_cases h3 : manyL st.Rows (u20 (dW l[k])) < 3
        · rw [decide_eq_true (show ((manyL st.Rows (u20 (dW l[k])) : Nat) : Int) < 3 by omega), decide_eq_false (show ¬ (st.Rows.length : Int) < 16 by have := hno.2; omega)]
          simp only [cond_true, bne_self_eq_false, cond_false, Option.bind_some, same, e7]
          exact rest st has h.up
        · rw [decide_eq_false (show ¬ ((manyL st.Rows (u20 (dW l[k])) : Nat) : Int) < 3 by omega)]
          simp only [bne_self_eq_false, cond_false, Option.bind_some, same, e7, cond_true]
          exact rest st has h.up
      · have hn := s2 hno
        rw [if_neg hno]
        simp only [e0, bne_self_eq_false, cond_false, cond_true, Option.bind_some]
        cases ho : onF has (dK l[k]) with
        | true =>
          simp only [cond_true, Option.bind_some, e0]
          rw [decide_eq_false (show ¬ st.Seq + 1 ≤ st.Seq by omega)]
          simp only [cond_false, bne_self_eq_false, Option.bind_some, hset]
          exact rest _ _ hn
        | false =>
          have h3 : ¬ (16 ≤ st.Rows.length ∨ 3 ≤ manyL st.Rows (u20 (dW l[k]))) := fun g => hno ⟨ho, g⟩
          rw [decide_eq_true (show ((manyL st.Rows (u20 (dW l[k])) : Nat) : Int) < 3 by omega), decide_eq_true (show (st.Rows.length : Int) < 16 by omega)]
          simp only [cond_true, cond_false, bne_self_eq_false, Option.bind_some, e0]
          rw [decide_eq_false (show ¬ st.Seq + 1 ≤ st.Seq by omega)]
          simp only [cond_false, bne_self_eq_false, Option.bind_some, hset]
          exact rest _ _ hn
theorem bookKeeps_pure (l : List Law24Deed) (hw : ∀ d ∈ l, DeedOK d) : p_law24_BookKeeps_j l = some true := by
  unfold p_law24_BookKeeps_j
  by_cases h80 : 80 < l.length
  · rw [decide_eq_true (show (80 : Int) < (l.length : Int) by omega), awake24]; rfl
  rw [decide_eq_false (show ¬ (80 : Int) < (l.length : Int) by omega)]
  simp only [cond_false]
  obtain ⟨st, has, e⟩ := keeps_l l (by omega) hw l.length 0 fuel ⟨0, []⟩ _ (by omega) (by have := fuel_pos; omega) St20.init
  have z0 : ((0 : Nat) : Int) = 0 := rfl
  rw [z0] at e
  rw [e]
  simp only [Option.bind_some, awake24]
end Go.Proofs.Ytljeinlapkgjeaa
/- From the abstract contract to the statement: what is read, what it stands for, how it lasts. -/
namespace Go.Proofs.Ytljeinlapkgjeaa
open Go.ChangeShapes Go.WideShapes Go.ChangeAt Go.RowKit
theorem own0 : ownKnob Try.prog.godebug = none := by kernel_rfl
theorem laid0 : laidOutB Try.prog = true := by kernel_rfl
theorem maxLen_cell (W : World) (h : W.ShapedOpen Try.prog) : ∃ n, W.cell? ⟨0, 0, none⟩ = some (.int .i64 n) :=
  cell_of_shapedOpen_int (zero := #[.int .i64 0]) (t := 3) h (of_decide_eq_true (by kernel_rfl)) (by kernel_rfl) (by kernel_rfl) (by kernel_rfl) (by kernel_rfl) (by kernel_rfl)
theorem trodAll_below {H : Type} {enc : TypeId × Value → H} {P : Program} (hl : laidOutB P = true) {W W' : World} (hb : Below W.heap.size W W') :
    ∀ {ts : List TypeId} {vs : List Value} {ds : List (DataW H)} {ps : List MemPlace}, (∀ t ∈ ts, P.readableRec t = true ∧ t < P.types.size) → DataW.TrodAll enc P W 0 (fun _ => true) true ts vs ds ps →
      DataW.TrodAll enc P W' 0 (fun b => decide (b < W.heap.size)) true ts vs ds ps
  | [], [], [], _, _, h => h
  | t :: ts, v :: vs, d :: ds, ps, ht, h => by
    have hlt := h.lt
    obtain ⟨p, q, h1, h2, rfl⟩ := h
    exact ⟨p, q, Below.trod hl (ht t (by simp)).1 (ht t (by simp)).2 h1 hb (fun x hx => hlt x (by simp [hx])), trodAll_below hl hb (fun t' h' => ht t' (by simp [h'])) h2, rfl⟩
theorem rep_lits {m : Mem} {vs : List Value} (h : ∀ v ∈ vs, v.oneCell' = true) : Rep m noBk (.agg vs.toArray) (.agg (vs.map V.lit)) :=
  .agg (by simp) (by intro v hv; obtain ⟨a, ha, rfl⟩ := List.mem_map.1 hv; exact h a ha) fun j h1 h2 => by simp only [List.getElem_map, List.getElem_toArray]; exact .lit (h _ (List.getElem_mem _))
theorem flat_ok {α : Type} (f : α → V) (es : Nat) (hes : ∀ a, (f a).cells.length = es) : ∀ (l : List α) (Q : Nat → V → Prop), (∀ i (hi : i < l.length) j (hj : j < (f l[i]).cells.length), Q (i * es + j) (f l[i]).cells[j]) → ∀ k (hk : k < (cellsM f l).length), Q k (cellsM f l)[k]
  | [], _, _, k, hk => by simp [cellsM] at hk
  | a :: l, Q, h, k, hk => by
    have e : cellsM f (a :: l) = (f a).cells ++ cellsM f l := rfl
    have hea := hes a
    by_cases hlt : k < es
    · have h0 := h 0 (by simp) k (by simpa [hea] using hlt)
      simp only [e]
      rw [List.getElem_append_left (by omega)]
      simpa using h0
    · have h1 := flat_ok f es hes l (fun n v => Q (es + n) v) (fun i hi j hj => by
        have := h (i + 1) (by simp; omega) j (by simpa using hj)
        have e2 : (i + 1) * es + j = es + (i * es + j) := by rw [Nat.add_mul]; omega
        rw [e2] at this
        simpa using this) (k - es) (by rw [e, List.length_append] at hk; omega)
      have e3 : es + (k - es) = k := by omega
      rw [e3] at h1
      simp only [e]
      rw [List.getElem_append_right (by omega)]
      simpa [hea] using h1
/-- a slice that is read: what it stands for. -/
theorem rep_slice {α : Type} [Inhabited α] {f : α → V} {es : Nat} {W : World} {a : Addr} {len cap : Nat} (hes : ∀ a, (f a).cells.length = es) (h1 : ∀ a, ∀ v ∈ (f a).cells, v.one = true) (hp : 0 < es) (hc : len ≤ cap)
    (h : ∀ i, i < len → ∃ (x : α) (cs : List Value), W.cells? 0 (a.add (i * es)) es = some cs ∧ ∀ j (hj : j < (f x).cells.length) (hj' : j < cs.length), Rep (fun p => W.cell? p) noBk cs[j] (f x).cells[j]) :
    ∃ l : List α, l.length = len ∧ Rep (fun p => W.cell? p) noBk (.slice (some a) len cap) (.sl (l.map f) false) := by
  classical
  rcases Nat.eq_zero_or_pos len with rfl | hlen
  · exact ⟨[], rfl, .slnil (fun e => by cases e)⟩
  · have hx : ∀ i, ∃ x : α, i < len → ∃ cs : List Value, W.cells? 0 (a.add (i * es)) es = some cs ∧ ∀ j (hj : j < (f x).cells.length) (hj' : j < cs.length), Rep (fun p => W.cell? p) noBk cs[j] (f x).cells[j] := by
      intro i
      by_cases hi : i < len
      · obtain ⟨x, hx⟩ := h i hi; exact ⟨x, fun _ => hx⟩
      · exact ⟨default, fun g => absurd g hi⟩
    obtain ⟨g, hg⟩ := Classical.axiomOfChoice hx
    have cell : ∀ i (hi : i < len) j (hj : j < es), ∃ u, W.cell? ((a.add (i * es)).add j) = some u ∧ Rep (fun p => W.cell? p) noBk u ((f (g i)).cells[j]'(by rw [hes]; exact hj)) := by
      intro i hi j hj
      obtain ⟨cs, h2, h3⟩ := hg i hi
      obtain ⟨_, hl, hcell⟩ := World.cells?_some h2
      exact ⟨cs[j]'(by omega), by rw [hcell j hj]; simp [hl, hj], h3 j (by rw [hes]; exact hj) (by omega)⟩
    have hspot : a.spot = none := by
      obtain ⟨u, hu, _⟩ := cell 0 hlen 0 hp
      rw [Nat.zero_mul, show a.add 0 = a from rfl, show a.add 0 = a from rfl] at hu
      unfold World.cell? at hu
      cases hs : a.spot with
      | none => rfl
      | some s =>
        rw [hs] at hu
        split at hu <;> simp at hu
    obtain ⟨b, o, sp⟩ := a
    simp only at hspot
    subst hspot
    have add1 : ∀ i j, ((⟨b, o, none⟩ : Addr).add i).add j = ⟨b, o + (i + j), none⟩ := by
      intro i j
      unfold Addr.add
      by_cases hi : i = 0 <;> by_cases hj : j = 0 <;> simp [hi, hj, Nat.add_assoc]
    refine ⟨(List.range len).map g, by simp, ?_⟩
    have key : ∀ k (hk : k < (cellsM f ((List.range len).map g)).length), ∃ u, W.cell? ⟨b, o + k, none⟩ = some u ∧ Rep (fun p => W.cell? p) noBk u (cellsM f ((List.range len).map g))[k] :=
      flat_ok f es hes _ (fun k v => ∃ u, W.cell? ⟨b, o + k, none⟩ = some u ∧ Rep (fun p => W.cell? p) noBk u v) (fun i hi j hj => by
        have hi' : i < len := by simpa using hi
        simp only [List.getElem_map, List.getElem_range] at hj ⊢
        have := cell i hi' j (by rw [hes] at hj; exact hj)
        rw [add1] at this
        exact this)
    have hfl : (((List.range len).map g).map f).flatMap V.cells = cellsM f ((List.range len).map g) := cellsM_map f _
    refine .sl (us := fun k => (W.cell? ⟨b, o + k, none⟩).getD undef) (es := es) (by simp) hc (fun e => by cases e) ?_ ?_ ?_ ?_
    · intro x hx
      obtain ⟨y, _, rfl⟩ := List.mem_map.1 hx
      exact hes y
    · rw [hfl]
      intro u hu
      obtain ⟨y, _, hy⟩ := List.mem_flatMap.1 hu
      exact h1 y u hy
    · rw [hfl]
      intro k hk
      obtain ⟨u, hu, _⟩ := key k hk
      show W.cell? _ = _
      rw [hu]; rfl
    · intro k hk
      have hk' : k < (cellsM f ((List.range len).map g)).length := by rw [← hfl]; exact hk
      obtain ⟨u, hu, hr⟩ := key k hk'
      simp only [hu, Option.getD_some]
      have : ((((List.range len).map g).map f).flatMap V.cells)[k] = (cellsM f ((List.range len).map g))[k] := by simp only [hfl]
      rw [this]; exact hr
theorem cellsBool : Try.prog.cellsOf 4 = 1 := by kernel_rfl
theorem cellsInt : Try.prog.cellsOf 3 = 1 := by kernel_rfl
theorem rep_one {P : Program} {f : FuncId} {vs : List V} {W : World} {args : Array Value} (hc : CallsV P f vs (.b true)) (hg : ∃ n, W.cell? ⟨0, 0, none⟩ = some (.int .i64 n)) (ha : RepA (fun a => W.cell? a) noBk args vs) :
    Calls P f args W fun e W' => e = .returned (.bool true) ∧ Below W.heap.size W W' := by
  refine (hc (fun a => W.cell? a) W args hg (fun _ _ h => h) ha).mono ?_
  rintro e W' ⟨c, m', rfl, hb, _, _, _, hr⟩
  exact ⟨by rw [hr.int], hb⟩
theorem repA3 {m : Mem} {a b c : Value} {x y z : V} (h1 : Rep m noBk a x) (h2 : Rep m noBk b y) (h3 : Rep m noBk c z) : RepA m noBk #[a, b, c] [x, y, z] :=
  ⟨rfl, fun j g1 g2 => match j, g1 with
    | 0, _ => h1
    | 1, _ => h2
    | 2, _ => h3
    | j + 3, g => absurd g (by simp)⟩
end Go.Proofs.Ytljeinlapkgjeaa
/- What is read of arguments: what it stands for, type by type. -/
namespace Go.Proofs.Ytljeinlapkgjeaa
open Go.ChangeShapes Go.WideShapes Go.ChangeAt Go.RowKit Go.Joins Go.Deep
section
variable {H : Type} {enc : TypeId × Value → H} {P : Program} {W : World} {spare : Nat → Bool} {held : Bool} {fuel : Nat} {t e : TypeId} {cs : List Value} {y : DataW H × List MemPlace}
abbrev MW (W : World) : Mem := fun a => W.cell? a
theorem repL_one {m : Mem} {bk : Bks} {c : Value} {v : V} (h : Rep m bk c v) : RepL m bk [c] [v] :=
  ⟨rfl, fun j g1 g2 => match j, g1 with
    | 0, _ => h
    | j + 1, g => absurd g (by simp)⟩
theorem repL_nil {m : Mem} {bk : Bks} : RepL m bk [] [] := ⟨rfl, fun j g1 g2 => absurd g1 (by simp)⟩
theorem repL_app {m : Mem} {bk : Bks} {c1 c2 : List Value} {v1 v2 : List V} (h1 : RepL m bk c1 v1) (h2 : RepL m bk c2 v2) : RepL m bk (c1 ++ c2) (v1 ++ v2) := by
  obtain ⟨e1, h1⟩ := h1
  obtain ⟨e2, h2⟩ := h2
  refine ⟨by rw [List.length_append, List.length_append, e1, e2], fun j g1 g2 => ?_⟩
  rw [List.length_append] at g1
  by_cases h : j < c1.length
  · rw [List.getElem_append_left h, List.getElem_append_left (by omega)]
    exact h1 j h _
  · rw [List.getElem_append_right (by omega), List.getElem_append_right (by omega)]
    have := h2 (j - c1.length) (by omega) (by omega)
    have e : j - v1.length = j - c1.length := by omega
    simp only [e]
    exact this
theorem rd_int {k : IntKind} (ht : P.underlying t = some (.int k)) (h : DataW.trod enc P W 0 spare held fuel t cs = some y) : ∃ n, (Lit.int k n).wf = true ∧ RepL (MW W) noBk cs [.lit (.int k n)] := by
  obtain ⟨n, rfl, _, wf⟩ := DataW.trod_int ht h
  exact ⟨n, wf, repL_one (.lit rfl)⟩
theorem rd_bool (ht : P.underlying t = some .bool) (h : DataW.trod enc P W 0 spare held fuel t cs = some y) : ∃ b, RepL (MW W) noBk cs [.lit (.bool b)] := by
  obtain ⟨n, rfl, _⟩ := DataW.trod_bool ht h
  exact ⟨n, repL_one (.lit rfl)⟩
theorem rd_string (ht : P.underlying t = some .string) (h : DataW.trod enc P W 0 spare held fuel t cs = some y) : ∃ s, RepL (MW W) noBk cs [.lit (.string s)] := by
  obtain ⟨n, rfl, _⟩ := DataW.trod_string ht h
  exact ⟨n, repL_one (.lit rfl)⟩
theorem rd_slice {α : Type} {f : α → V} {es : Nat} {wf : α → Prop} (ht : P.underlying t = some (.slice e)) (hes : ∀ a, (f a).cells.length = es) (h1 : ∀ a, ∀ v ∈ (f a).cells, v.one = true) (hp : 0 < es) (hce : P.cellsOf e = es)
    (hel : ∀ n cs y, DataW.trod enc P W 0 spare held n e cs = some y → ∃ x, wf x ∧ RepL (MW W) noBk cs (f x).cells) (h : DataW.trod enc P W 0 spare held fuel t cs = some y) : ∃ l : List α, (∀ x ∈ l, wf x) ∧ RepL (MW W) noBk cs [.sl (l.map f) false] := by
  rcases open_slice ht h with ⟨rfl, _⟩ | ⟨a, len, cap, m, n, D, Pl, rfl, _, hl, _, hm, _, hall⟩
  · exact ⟨[], by simp, repL_one (.slnil fun e => by cases e)⟩
  · rcases Nat.eq_zero_or_pos len with rfl | hpos
    · exact ⟨[], by simp, repL_one (.slnil fun e => by cases e)⟩
    · have hlm : len ≤ m := by rw [hm]; split <;> omega
      have hx : ∀ i, i < len → ∃ (x : {x : α // wf x}) (cs : List Value), W.cells? 0 (a.add (i * es)) es = some cs ∧ ∀ j (hj : j < (f x.1).cells.length) (hj' : j < cs.length), Rep (fun p => W.cell? p) noBk cs[j] (f x.1).cells[j] := by
        intro i hi
        obtain ⟨cs', hc, hd⟩ := hall i (by omega)
        rw [hce] at hc
        obtain ⟨x, hw, hr⟩ := hel _ _ _ hd
        exact ⟨⟨x, hw⟩, cs', hc, fun j hj hj' => hr.2 j hj' hj⟩
      obtain ⟨x0, _⟩ := hx 0 hpos
      haveI : Inhabited {x : α // wf x} := ⟨x0⟩
      obtain ⟨l, _, hr⟩ := rep_slice (f := fun x : {x : α // wf x} => f x.1) (fun a => hes a.1) (fun a => h1 a.1) hp hl hx
      refine ⟨l.map (·.1), ?_, ?_⟩
      · intro x hx
        obtain ⟨y, _, rfl⟩ := List.mem_map.1 hx
        exact y.2
      · rw [List.map_map]; exact repL_one hr
theorem rep_aggL {m : Mem} {bk : Bks} {cs : Array Value} {vs : List V} (h : RepL m bk cs.toList vs) (h1 : ∀ u ∈ vs, u.one = true) : Rep m bk (.agg cs) (.agg vs) := rep_agg h h1
theorem get_some {α : Type} {xs : List α} {n i : Nat} (h : xs.length = n) (hi : i < n) : ∃ y, xs[i]? = some y := ⟨xs[i], List.getElem?_eq_getElem (by omega)⟩
theorem repA1 {m : Mem} {a : Value} {x : V} (h1 : Rep m noBk a x) : RepA m noBk #[a] [x] :=
  ⟨rfl, fun j g1 g2 => match j, g1 with
    | 0, _ => h1
    | j + 1, g => absurd g (by simp)⟩
theorem repA2 {m : Mem} {a b : Value} {x y : V} (h1 : Rep m noBk a x) (h2 : Rep m noBk b y) : RepA m noBk #[a, b] [x, y] :=
  ⟨rfl, fun j g1 g2 => match j, g1 with
    | 0, _ => h1
    | 1, _ => h2
    | j + 2, g => absurd g (by simp)⟩
/-- what a plain function tells as true is what the call returns. -/
theorem callsO_true {f : FuncId} {args : List V} {m : Option Bool} (h : CallsO P f args V.b m) (hm : m = some true) : CallsV P f args (.b true) := h true hm
theorem okWide_arr {w : World} {r : Reach} {base n : Nat} {v : Value} (ht : P.underlying t = some (.array n e)) (h : Value.okWide P w r base t v) : ∃ cs, v = .agg cs ∧ cs.size = P.cellsOf t := by
  simp only [Value.okWide, ht] at h
  obtain ⟨cs, h1, h2, _⟩ := h
  exact ⟨cs, h1, h2⟩
end
end Go.Proofs.Ytljeinlapkgjeaa
/- Readers of BookNext's parameters. -/
namespace Go.Proofs.Ytljeinlapkgjeaa
open Go.ChangeShapes Go.WideShapes Go.ChangeAt Go.RowKit Go.Joins Go.Deep
structure Law24Deed.Wf (x : Law24Deed) : Prop where
  Who : (Lit.int .u8 x.Who).wf = true
  Res : (Lit.int .u8 x.Res).wf = true
  Show : (Lit.int .u8 x.Show).wf = true
set_option maxRecDepth 100000 in
theorem rd_T91 {H : Type} {enc : TypeId × Value → H} {W : World} {spare : Nat → Bool} {held : Bool} {fuel : Nat} {cs : List Value} {y : DataW H × List MemPlace} (h : DataW.trod enc Try.prog W 0 spare held fuel 91 cs = some y) : ∃ x : Law24Deed, Law24Deed.Wf x ∧ RepL (MW W) noBk cs [.y8 x.Who, .y8 x.Res, .y8 x.Show, .b x.Off] := by
  obtain ⟨xs, n, _, _, hl, hx, hall⟩ := DataW.trod_struct Try.underlying91 h
  have hce : Try.prog.cellsOf 91 = 4 := by kernel_rfl
  rw [hce] at hl
  match cs, hl, hall with
  | [c0, c1, c2, c3], _, hall =>
    obtain ⟨y0, hy0⟩ := get_some hx (show 0 < 4 by omega)
    have g0 : DataW.trod enc Try.prog W 0 spare held n 5 [c0] = some y0 := by
      have hz : Try.prog.cellsOf 5 = 1 := by kernel_rfl
      have g : DataW.trod enc Try.prog W 0 spare held n 5 (([c0, c1, c2, c3].drop 0).take (Try.prog.cellsOf 5)) = some y0 := (hall 0 _ rfl).trans hy0
      rw [hz] at g; exact g
    obtain ⟨x0, w0, r0⟩ := rd_int Try.underlying5 g0
    obtain ⟨y1, hy1⟩ := get_some hx (show 1 < 4 by omega)
    have g1 : DataW.trod enc Try.prog W 0 spare held n 5 [c1] = some y1 := by
      have hz : Try.prog.cellsOf 5 = 1 := by kernel_rfl
      have g : DataW.trod enc Try.prog W 0 spare held n 5 (([c0, c1, c2, c3].drop 1).take (Try.prog.cellsOf 5)) = some y1 := (hall 1 _ rfl).trans hy1
      rw [hz] at g; exact g
    obtain ⟨x1, w1, r1⟩ := rd_int Try.underlying5 g1
    obtain ⟨y2, hy2⟩ := get_some hx (show 2 < 4 by omega)
    have g2 : DataW.trod enc Try.prog W 0 spare held n 5 [c2] = some y2 := by
      have hz : Try.prog.cellsOf 5 = 1 := by kernel_rfl
      have g : DataW.trod enc Try.prog W 0 spare held n 5 (([c0, c1, c2, c3].drop 2).take (Try.prog.cellsOf 5)) = some y2 := (hall 2 _ rfl).trans hy2
      rw [hz] at g; exact g
    obtain ⟨x2, w2, r2⟩ := rd_int Try.underlying5 g2
    obtain ⟨y3, hy3⟩ := get_some hx (show 3 < 4 by omega)
    have g3 : DataW.trod enc Try.prog W 0 spare held n 4 [c3] = some y3 := by
      have hz : Try.prog.cellsOf 4 = 1 := by kernel_rfl
      have g : DataW.trod enc Try.prog W 0 spare held n 4 (([c0, c1, c2, c3].drop 3).take (Try.prog.cellsOf 4)) = some y3 := (hall 3 _ rfl).trans hy3
      rw [hz] at g; exact g
    obtain ⟨x3, r3⟩ := rd_bool Try.underlying4 g3
    exact ⟨⟨x0, x1, x2, x3⟩, ⟨w0, w1, w2⟩, repL_app r0 (repL_app r1 (repL_app r2 (repL_app r3 (repL_nil))))⟩
theorem rd_T88 {H : Type} {enc : TypeId × Value → H} {W : World} {spare : Nat → Bool} {held : Bool} {fuel : Nat} {cs : List Value} {y : DataW H × List MemPlace} (h : DataW.trod enc Try.prog W 0 spare held fuel 88 cs = some y) : ∃ x : List Law24Deed, (∀ z ∈ x, Law24Deed.Wf z) ∧ RepL (MW W) noBk cs [(fun l : List Law24Deed => V.sl (l.map Law24Deed.v) false) x] :=
  rd_slice (f := Law24Deed.v) (es := 4) (wf := Law24Deed.Wf) Try.underlying88 (fun _ => rfl) (by intro a v hv; simp [V.cells] at hv; first | (subst hv; rfl) | (rcases hv with rfl | rfl | rfl | rfl <;> rfl)) (by omega) (by kernel_rfl) (fun n cs y h => rd_T91 h) h
end Go.Proofs.Ytljeinlapkgjeaa
/- BookKeeps, of deeds that are read. -/
namespace Go.Proofs.Ytljeinlapkgjeaa
open Go.RowKit
theorem bookKeeps_wf (l : List Law24Deed) (h : ∀ x ∈ l, Law24Deed.Wf x) : p_law24_BookKeeps_j l = some true := bookKeeps_pure l fun d hd => ⟨bounds_u8 (h d hd).Who, bounds_u8 (h d hd).Res, bounds_u8 (h d hd).Show⟩
end Go.Proofs.Ytljeinlapkgjeaa
/- That the program's functions yield what the plain ones tell (written by a program of mine). -/
namespace Go.Proofs.Ytljeinlapkgjeaa
open Go.RowKit
def gc64 : BCode := (.seq (.reg 0 [⟨(some 4), .mv (.const (.bool false)), none, 0⟩] none 0 []) (.seq (.reg 0 [⟨(some 5), .mv (.tmp 1), none, 0⟩, ⟨(some 6), .cl 61 [(.tmp 5)], none, 0⟩, ⟨(some 7), .bin .eql (.tmp 6) (.const (.int .i64 0)), none, 0⟩, ⟨(some 8), .mv (.tmp 7), none, 0⟩, ⟨(some 9), .mv (.tmp 0), (some (8, true)), 0⟩, ⟨(some 10), .cl 60 [(.tmp 9)], (some (8, true)), 0⟩, ⟨(some 11), .pick (.tmp 8) (.tmp 10) (.const (.bool false)), none, 0⟩, ⟨(some 4), .mv (.tmp 11), none, 0⟩] none 0 []) .ret))
theorem gc64_ok : compF Try.prog Try.f64 = some (gc64.er, 12, [.tmp 4]) := by unfold gc64; kernel_rfl
set_option maxRecDepth 100000 in
set_option maxHeartbeats 4000000 in
theorem p_pres_named_v (a0 : ByteArray) (a1 : ByteArray) : CallsO Try.prog 64 [.s a0, .s a1] V.b (p_pres_named a0 a1) := by
  refine callsO_comp mix Try.func64 gc64_ok fun r H => ?_
  rw [p_pres_named] at H
  conv => whnf
  refine ask_c (p_addr_Resource_v _) H rfl rfl (fun v1 H => ?_); conv => whnf
  refine tst_d H (fun b2 H => ?_) (fun b2 H => ?_)
  · conv => whnf
    iterate 2 (refine Tst.F ?_; conv => whnf)
    exact fin0_c (enc := V.b) H (.inr rfl) (.cons (.tmp rfl) (.nil)) rfl rfl
  conv => whnf
  refine Tst.T ?_; conv => whnf
  refine ask_c (p_addr_IsBare_v _) H rfl rfl (fun v3 H => ?_); conv => whnf
  refine Tst.T ?_; conv => whnf
  exact fin0_c (enc := V.b) H (.inr rfl) (.cons (.tmp rfl) (.nil)) rfl rfl
def gc33 : BCode := (.seq (.reg 0 [⟨(some 4), .mv (.const (.string ⟨#[]⟩)), none, 0⟩] none 0 []) (.seq (.seq (.reg 0 [⟨(some 5), .mv (.tmp 0), none, 0⟩, ⟨(some 6), .mv (.tmp 1), none, 0⟩, ⟨(some 7), .cl 64 [(.tmp 5), (.tmp 6)], none, 0⟩, ⟨(some 8), .un .not (.tmp 7), none, 0⟩] none 0 []) (.cond (.tmp 8) (.seq (.reg 0 [⟨(some 4), .mv (.const (.string ⟨#[]⟩)), none, 0⟩] none 0 []) .ret) .skip)) (.seq (.reg 0 [⟨(some 9), .mv (.tmp 0), none, 0⟩, ⟨(some 10), .bin .add (.tmp 9) (.const (.string ⟨#[32]⟩)), none, 0⟩, ⟨(some 11), .mv (.tmp 1), none, 0⟩, ⟨(some 12), .bin .add (.tmp 10) (.tmp 11), none, 0⟩, ⟨(some 4), .mv (.tmp 12), none, 0⟩] none 0 []) .ret)))
theorem gc33_ok : compF Try.prog Try.f33 = some (gc33.er, 13, [.tmp 4]) := by unfold gc33; kernel_rfl
set_option maxRecDepth 100000 in
set_option maxHeartbeats 4000000 in
theorem p_pres_Key_v (a0 : ByteArray) (a1 : ByteArray) : CallsO Try.prog 33 [.s a0, .s a1] V.s (p_pres_Key a0 a1) := by
  refine callsO_comp mix Try.func33 gc33_ok fun r H => ?_
  rw [p_pres_Key] at H
  conv => whnf
  refine ask_c (p_pres_named_v _ _) H rfl rfl (fun v1 H => ?_); conv => whnf
  refine Tst.not ?_
  refine tst_d H (fun b2 H => ?_) (fun b2 H => ?_)
  · conv => whnf
    exact fin0_c (enc := V.s) H (.inr rfl) (.cons (.tmp rfl) (.nil)) rfl rfl
  conv => whnf
  refine cat_c H (fun s3 H => ?_); conv => whnf
  refine cat_c H (fun s4 H => ?_); conv => whnf
  exact fin0_c (enc := V.s) H (.inr rfl) (.cons (.tmp rfl) (.nil)) rfl rfl
def gc88 : BCode := (.seq (.reg 1 [⟨(some 1), .bx (.tmp 0), none, 0⟩, ⟨(some 2), .mv (.const (.string ⟨#[]⟩)), none, 1⟩] none 0 []) (.seq (.reg 0 [⟨(some 3), .fa 0 (.tmp 1), none, 0⟩, ⟨(some 4), .ld 1 false (.tmp 3), none, 0⟩, ⟨(some 5), .fa 1 (.tmp 1), none, 0⟩, ⟨(some 6), .ld 1 false (.tmp 5), none, 0⟩, ⟨(some 7), .cl 33 [(.tmp 4), (.tmp 6)], none, 0⟩, ⟨(some 2), .mv (.tmp 7), none, 0⟩] none 0 []) .ret))
theorem gc88_ok : compF Try.prog Try.f88 = some (gc88.er, 8, [.tmp 2]) := by unfold gc88; kernel_rfl
set_option maxRecDepth 100000 in
set_option maxHeartbeats 4000000 in
theorem p_book_Row_key_v (a0 : BookRow) : CallsO Try.prog 88 [.agg [.s a0.User, .s a0.Res, .b a0.P.On, .i a0.P.Show, .i a0.P.Prio, .i a0.P.Seq]] V.s (p_book_Row_key a0) := by
  refine callsO_comp mix Try.func88 gc88_ok fun r H => ?_
  rw [p_book_Row_key] at H
  conv => whnf
  refine ask_c (p_pres_Key_v _ _) H rfl rfl (fun v1 H => ?_); conv => whnf
  exact fin0_c (enc := V.s) H (.inr rfl) (.cons (.tmp rfl) (.nil)) rfl rfl
def gc95 : BCode := (.seq (.reg 1 [⟨(some 1), .bx (.tmp 0), none, 0⟩, ⟨(some 2), .mv (.const (.bool false)), none, 1⟩] none 0 []) (.seq (.reg 0 [⟨(some 3), .ld 6 true (.tmp 1), none, 0⟩, ⟨(some 4), .cl 88 [(.tmp 3)], none, 0⟩, ⟨(some 5), .bin .eql (.tmp 4) (.const (.string ⟨#[]⟩)), none, 0⟩, ⟨(some 2), .mv (.tmp 5), none, 0⟩] none 0 []) .ret))
theorem gc95_ok : compF Try.prog Try.f95 = some (gc95.er, 6, [.tmp 2]) := by unfold gc95; kernel_rfl
set_option maxRecDepth 100000 in
set_option maxHeartbeats 4000000 in
theorem p_book_Check_1_v (a0 : BookRow) : CallsO Try.prog 95 [.agg [.s a0.User, .s a0.Res, .b a0.P.On, .i a0.P.Show, .i a0.P.Prio, .i a0.P.Seq]] V.b (p_book_Check_1 a0) := by
  refine callsO_comp mix Try.func95 gc95_ok fun r H => ?_
  rw [p_book_Check_1] at H
  conv => whnf
  refine ask_c (p_book_Row_key_v _) H rfl rfl (fun v1 H => ?_); conv => whnf
  exact fin0_c (enc := V.b) H (.inr rfl) (.cons (.tmp rfl) (.nil)) rfl rfl
def gc122 : BCode := (.seq (.reg 0 [⟨(some 4), .mv (.const (.int .i64 0)), none, 0⟩] none 0 []) (.seq (.seq (.reg 0 [⟨(some 6), .mv (.tmp 0), none, 0⟩, ⟨(some 7), .lens (.tmp 6), none, 0⟩, ⟨(some 8), .mv (.const (.int .i64 0)), none, 0⟩] none 0 []) (.block 0 (.loop (.seq (.reg 0 [⟨(some 9), .bin .lss (.tmp 8) (.tmp 7), none, 0⟩] none 0 []) (.seq (.cond (.tmp 9) .skip (.exit 0)) (.seq (.block 1 (.seq (.reg 0 [⟨(some 10), .mv (.tmp 8), none, 0⟩, ⟨(some 5), .mv (.tmp 10), none, 0⟩] none 0 []) (.seq (.reg 0 [⟨(some 11), .mv (.tmp 1), none, 0⟩, ⟨(some 12), .mv (.tmp 0), none, 0⟩, ⟨(some 13), .mv (.tmp 5), none, 0⟩, ⟨(some 14), .ixs 6 (.tmp 12) (.tmp 13), none, 0⟩, ⟨(some 15), .ld 6 true (.tmp 14), none, 0⟩, ⟨(some 16), .cv (.tmp 11) [(.tmp 15)], none, 0⟩] none 0 []) (.cond (.tmp 16) (.seq (.reg 0 [⟨(some 17), .mv (.tmp 5), none, 0⟩, ⟨(some 4), .mv (.tmp 17), none, 0⟩] none 0 []) .ret) .skip)))) (.reg 0 [⟨(some 18), .bin .add (.tmp 8) (.const (.int .i64 1)), none, 0⟩, ⟨(some 8), .mv (.tmp 18), none, 0⟩] none 0 []))))))) (.seq (.reg 0 [⟨(some 4), .mv (.const (.int .i64 (-1))), none, 0⟩] none 0 []) .ret)))
theorem gc122_ok : compF Try.prog Try.f122 = some (gc122.er, 19, [.tmp 4]) := by unfold gc122; kernel_rfl
set_option maxRecDepth 100000 in
set_option maxHeartbeats 4000000 in
theorem p_slices_IndexFunc_book_Row_v {u1 : Bool} (a0 : List BookRow) (a1 : BookRow → Option Bool) {a1_g : Nat} {a1_k : List V} (a1_h : Clo1 Try.prog a1_g a1_k BookRow.v V.b a1) : CallsO Try.prog 122 [.sl (List.map BookRow.v a0) u1, .clo (.func a1_g) a1_k] V.i (p_slices_IndexFunc_book_Row a0 a1) := by
  refine callsO_comp mix Try.func122 gc122_ok fun r H => ?_
  rw [p_slices_IndexFunc_book_Row] at H
  conv => whnf
  refine LenQ.M ?_; conv => whnf
  obtain ⟨o2, HL3, HQ4⟩ := bind_c H
  refine loop_c [4, 8] [5, 9, 10, 11, 12, 13, 14, 15, 16, 17, 18] [5, 9, 10, 11, 12, 13, 14, 15, 16, 17, 18] (fun n vals st => (∃ y6, p_slices_IndexFunc_book_Row_l1  a1 a0 (a0.length : Int) n y6 = some o2 ∧ vals = [.i (0 : Int), .i y6] ∧ st = [])) fuel 0 [] (⟨_, HL3, rfl, rfl⟩) (Nat.zero_le _) rfl (by simp only [maskF, setF, List.set_cons_zero, List.set_cons_succ, V.ren.renL, V.ren, renL_id _ a1_h.own] <;> rfl) (by simp only [maskF, setF, List.set_cons_zero, List.set_cons_succ, V.idlt.belowL, V.idlt, fun n => idltL_up (n := n) _ a1_h.own] <;> rfl) rfl trivial ?_
  rintro (_ | n5) _ _ (⟨y6, H, rfl, rfl⟩)
  · rw [p_slices_IndexFunc_book_Row_l1] at H; cases H
  rw [p_slices_IndexFunc_book_Row_l1] at H
  conv => whnf
  refine tst_d H (fun b7 H => ?_) (fun b7 H => ?_)
  · conv => whnf
    obtain rfl := Option.some.inj H
    have H := HQ4
    dsimp only at H
    exact fin0_c (enc := V.i) H (.inr rfl) (.cons (.tmp rfl) (.nil)) rfl rfl
  conv => whnf
  refine ixs_c (f := BookRow.v) H (fun _ => rfl) (fun x8 H => ?_); conv => whnf
  refine askC_c a1_h H (.cons (fzagg (.cons (.id rfl) (.cons (.id rfl) (.cons (.id rfl) (.cons (.id rfl) (.cons (.id rfl) (.cons (.id rfl) (.nil))))))) rfl) (.nil)) (fun v9 H => ?_); conv => whnf
  refine tst_c H (fun b10 H => ?_) (fun b10 H => ?_)
  · conv => whnf
    obtain rfl := Option.some.inj H
    have H := HQ4
    dsimp only at H
    exact fin0_c (enc := V.i) H (.inr rfl) (.cons (.tmp rfl) (.nil)) rfl rfl
  conv => whnf
  refine Ari.w ?_; conv => whnf
  exact again_c [5, 9, 10, 11, 12, 13, 14, 15, 16, 17, 18] n5 0 [] (⟨_, H, rfl, rfl⟩) (Nat.lt_succ_self _) (Nat.zero_le _) rfl (by simp only [maskF, setF, List.set_cons_zero, List.set_cons_succ, V.ren.renL, V.ren, renL_id _ a1_h.own] <;> rfl) (by simp only [maskF, setF, List.set_cons_zero, List.set_cons_succ, V.idlt.belowL, V.idlt, fun n => idltL_up (n := n) _ a1_h.own] <;> rfl) rfl trivial
def gc94 : BCode := (.seq (.reg 0 [⟨(some 4), .mv (.const (.bool false)), none, 0⟩] none 0 []) (.seq (.reg 0 [⟨(some 5), .mv (.tmp 0), none, 0⟩, ⟨(some 6), .mv (.tmp 1), none, 0⟩, ⟨(some 7), .cl 122 [(.tmp 5), (.tmp 6)], none, 0⟩, ⟨(some 8), .bin .geq (.tmp 7) (.const (.int .i64 0)), none, 0⟩, ⟨(some 4), .mv (.tmp 8), none, 0⟩] none 0 []) .ret))
theorem gc94_ok : compF Try.prog Try.f94 = some (gc94.er, 9, [.tmp 4]) := by unfold gc94; kernel_rfl
set_option maxRecDepth 100000 in
set_option maxHeartbeats 4000000 in
theorem p_slices_ContainsFunc_book_Row_v {u1 : Bool} (a0 : List BookRow) (a1 : BookRow → Option Bool) {a1_g : Nat} {a1_k : List V} (a1_h : Clo1 Try.prog a1_g a1_k BookRow.v V.b a1) : CallsO Try.prog 94 [.sl (List.map BookRow.v a0) u1, .clo (.func a1_g) a1_k] V.b (p_slices_ContainsFunc_book_Row a0 a1) := by
  refine callsO_comp mix Try.func94 gc94_ok fun r H => ?_
  rw [p_slices_ContainsFunc_book_Row] at H
  conv => whnf
  refine askF_c (p_slices_IndexFunc_book_Row_v _ _ a1_h) H (.cons (.c (.slw)) (.cons (.c (.id a1_h.own)) (.nil))) (fun v1 H => ?_); conv => whnf
  exact fin0_c (enc := V.b) H (.inr rfl) (.cons (.tmp rfl) (.nil)) rfl rfl
def gc57 : BCode := (.seq (.reg 0 [⟨(some 6), .mv (.const (.bool false)), none, 0⟩] none 0 []) (.seq (.reg 0 [⟨(some 7), .mv (.tmp 1), none, 0⟩, ⟨(some 8), .mv (.tmp 0), none, 0⟩, ⟨(some 9), .bin .leq (.tmp 7) (.tmp 8), none, 0⟩, ⟨(some 10), .mv (.tmp 9), none, 0⟩, ⟨(some 11), .mv (.tmp 0), (some (10, true)), 0⟩, ⟨(some 12), .mv (.tmp 2), (some (10, true)), 0⟩, ⟨(some 13), .bin .leq (.tmp 11) (.tmp 12), (some (10, true)), 0⟩, ⟨(some 14), .pick (.tmp 10) (.tmp 13) (.const (.bool false)), none, 0⟩, ⟨(some 6), .mv (.tmp 14), none, 0⟩] none 0 []) .ret))
theorem gc57_ok : compF Try.prog Try.f57 = some (gc57.er, 15, [.tmp 6]) := by unfold gc57; kernel_rfl
set_option maxRecDepth 100000 in
set_option maxHeartbeats 4000000 in
theorem p_pres_in_v (a0 : Int) (a1 : Int) (a2 : Int) : CallsO Try.prog 57 [.i a0, .i a1, .i a2] V.b (p_pres_in a0 a1 a2) := by
  refine callsO_comp mix Try.func57 gc57_ok fun r H => ?_
  rw [p_pres_in] at H
  conv => whnf
  refine tst_c H (fun b1 H => ?_) (fun b1 H => ?_)
  · conv => whnf
    iterate 3 (refine Tst.T ?_; conv => whnf)
    exact fin0_c (enc := V.b) H (.inr rfl) (.cons (.tmp rfl) (.nil)) rfl rfl
  conv => whnf
  iterate 3 (refine Tst.F ?_; conv => whnf)
  exact fin0_c (enc := V.b) H (.inr rfl) (.cons (.tmp rfl) (.nil)) rfl rfl
def gc13 : BCode := (.seq (.reg 1 [⟨(some 1), .bx (.tmp 0), none, 0⟩, ⟨(some 2), .mv (.const (.int .i64 0)), none, 1⟩] none 0 []) (.seq (.seq (.reg 0 [⟨(some 4), .fa 1 (.tmp 1), none, 0⟩, ⟨(some 5), .ld 1 false (.tmp 4), none, 0⟩, ⟨(some 6), .cl 57 [(.tmp 5), (.const (.int .i64 0)), (.const (.int .i64 4))], none, 0⟩, ⟨(some 7), .un .not (.tmp 6), none, 0⟩, ⟨(some 8), .mv (.tmp 7), none, 0⟩, ⟨(some 9), .fa 2 (.tmp 1), (some (8, false)), 0⟩, ⟨(some 10), .ld 1 false (.tmp 9), (some (8, false)), 0⟩, ⟨(some 11), .cl 57 [(.tmp 10), (.const (.int .i64 (-128))), (.const (.int .i64 127))], (some (8, false)), 0⟩, ⟨(some 12), .un .not (.tmp 11), (some (8, false)), 0⟩, ⟨(some 13), .pick (.tmp 8) (.const (.bool true)) (.tmp 12), none, 0⟩, ⟨(some 14), .mv (.tmp 13), none, 0⟩, ⟨(some 15), .fa 3 (.tmp 1), (some (14, false)), 0⟩, ⟨(some 16), .ld 1 false (.tmp 15), (some (14, false)), 0⟩, ⟨(some 17), .cl 57 [(.tmp 16), (.const (.int .i64 0)), (.const (.int .i64 1099511627776))], (some (14, false)), 0⟩, ⟨(some 18), .un .not (.tmp 17), (some (14, false)), 0⟩, ⟨(some 19), .pick (.tmp 14) (.const (.bool true)) (.tmp 18), none, 0⟩] none 0 []) (.cond (.tmp 19) (.seq (.reg 0 [⟨(some 2), .mv (.const (.int .i64 8)), none, 0⟩] none 0 []) .ret) .skip)) (.seq (.seq (.reg 1 [⟨(some 20), .fa 3 (.tmp 1), none, 0⟩, ⟨(some 21), .ld 1 false (.tmp 20), none, 0⟩, ⟨(some 22), .bd [(.lit (.bool false)), (.lit (.int .i64 0)), (.lit (.int .i64 0)), (.lit (.int .i64 0))] [(3, 1, (.tmp 21))], none, 0⟩, ⟨(some 3), .al (.agg [(.lit (.bool false)), (.lit (.int .i64 0)), (.lit (.int .i64 0)), (.lit (.int .i64 0))]), none, 0⟩, ⟨none, .st 4 (.tmp 3) (.tmp 22), none, 1⟩] none 0 []) (.seq (.reg 0 [⟨(some 23), .fa 0 (.tmp 1), none, 0⟩, ⟨(some 24), .ld 1 false (.tmp 23), none, 0⟩, ⟨(some 25), .un .not (.tmp 24), none, 0⟩, ⟨(some 26), .mv (.tmp 25), none, 0⟩, ⟨(some 27), .ld 4 true (.tmp 1), (some (26, true)), 0⟩, ⟨(some 28), .ld 4 true (.tmp 3), (some (26, true)), 0⟩, ⟨(some 29), .eqa true [0, 1, 1, 1] (.tmp 27) (.tmp 28), (some (26, true)), 0⟩, ⟨(some 30), .pick (.tmp 26) (.tmp 29) (.const (.bool false)), none, 0⟩] none 0 []) (.cond (.tmp 30) (.seq (.reg 0 [⟨(some 2), .mv (.const (.int .i64 4)), none, 0⟩] none 0 []) .ret) .skip))) (.seq (.reg 0 [⟨(some 2), .mv (.const (.int .i64 0)), none, 0⟩] none 0 []) .ret))))
theorem gc13_ok : compF Try.prog Try.f13 = some (gc13.er, 31, [.tmp 2]) := by unfold gc13; kernel_rfl
set_option maxRecDepth 100000 in
set_option maxHeartbeats 4000000 in
theorem p_pres_Check_v (a0 : PresPres) : CallsO Try.prog 13 [.agg [.b a0.On, .i a0.Show, .i a0.Prio, .i a0.Seq]] V.i (p_pres_Check a0) := by
  refine callsO_comp mix Try.func13 gc13_ok fun r H => ?_
  rw [p_pres_Check] at H
  conv => whnf
  refine ask_c (p_pres_in_v _ _ _) H rfl rfl (fun v1 H => ?_); conv => whnf
  refine Tst.not ?_
  refine tst_d H (fun b2 H => ?_) (fun b2 H => ?_)
  · conv => whnf
    iterate 10 (refine Tst.T ?_; conv => whnf)
    exact fin0_c (enc := V.i) H (.inr rfl) (.cons (.tmp rfl) (.nil)) rfl rfl
  conv => whnf
  iterate 2 (refine Tst.F ?_; conv => whnf)
  refine ask_c (p_pres_in_v _ _ _) H rfl rfl (fun v3 H => ?_); conv => whnf
  iterate 2 (refine Tst.F ?_; conv => whnf)
  refine Tst.not ?_
  refine tst_d H (fun b4 H => ?_) (fun b4 H => ?_)
  · conv => whnf
    iterate 5 (refine Tst.T ?_; conv => whnf)
    exact fin0_c (enc := V.i) H (.inr rfl) (.cons (.tmp rfl) (.nil)) rfl rfl
  conv => whnf
  iterate 2 (refine Tst.F ?_; conv => whnf)
  refine ask_c (p_pres_in_v _ _ _) H rfl rfl (fun v5 H => ?_); conv => whnf
  iterate 2 (refine Tst.F ?_; conv => whnf)
  refine Tst.not ?_
  refine tst_d H (fun b6 H => ?_) (fun b6 H => ?_)
  · conv => whnf
    exact fin0_c (enc := V.i) H (.inr rfl) (.cons (.tmp rfl) (.nil)) rfl rfl
  conv => whnf
  refine ⟨Nat.le_of_ble_eq_true rfl, ?_⟩; conv => whnf
  refine Tst.not ?_
  refine tst_c H (fun b7 H => ?_) (fun b7 H => ?_)
  · conv => whnf
    iterate 4 (refine Tst.F ?_; conv => whnf)
    exact fin0_c (enc := V.i) H (.inr rfl) (.cons (.tmp rfl) (.nil)) rfl rfl
  conv => whnf
  iterate 3 (refine Tst.T ?_; conv => whnf)
  refine Tst.not ?_
  refine tst_c H (fun b8 H => ?_) (fun b8 H => ?_)
  · conv => whnf
    exact fin0_c (enc := V.i) H (.inr rfl) (.cons (.tmp rfl) (.nil)) rfl rfl
  conv => whnf
  exact fin0_c (enc := V.i) H (.inr rfl) (.cons (.tmp rfl) (.nil)) rfl rfl
def gc96 : BCode := (.seq (.reg 1 [⟨(some 1), .bx (.tmp 0), none, 0⟩, ⟨(some 2), .mv (.const (.int .i64 0)), none, 1⟩] none 0 []) (.seq (.seq (.reg 0 [⟨(some 6), .fa 1 (.tmp 1), none, 0⟩, ⟨(some 7), .ld 1 false (.tmp 6), none, 0⟩, ⟨(some 8), .lens (.tmp 7), none, 0⟩, ⟨(some 9), .mv (.const (.int .i64 0)), none, 0⟩] none 0 []) (.block 0 (.loop (.seq (.reg 0 [⟨(some 10), .bin .lss (.tmp 9) (.tmp 8), none, 0⟩] none 0 []) (.seq (.cond (.tmp 10) .skip (.exit 0)) (.seq (.block 1 (.seq (.reg 1 [⟨(some 11), .ixs 6 (.tmp 7) (.tmp 9), none, 0⟩, ⟨(some 12), .ld 6 true (.tmp 11), none, 0⟩, ⟨(some 4), .al (.agg [(.lit (.string ⟨#[]⟩)), (.lit (.string ⟨#[]⟩)), (.lit (.bool false)), (.lit (.int .i64 0)), (.lit (.int .i64 0)), (.lit (.int .i64 0))]), none, 0⟩, ⟨none, .st 6 (.tmp 4) (.tmp 12), none, 1⟩] none 0 []) (.seq (.seq (.reg 0 [⟨(some 13), .fa 2 (.tmp 4), none, 0⟩, ⟨(some 14), .ld 4 true (.tmp 13), none, 0⟩, ⟨(some 15), .cl 13 [(.tmp 14)], none, 0⟩, ⟨(some 5), .mv (.tmp 15), none, 0⟩] none 0 []) (.seq (.reg 0 [⟨(some 16), .mv (.tmp 5), none, 0⟩, ⟨(some 17), .bin .neq (.tmp 16) (.const (.int .i64 0)), none, 0⟩] none 0 []) (.cond (.tmp 17) (.seq (.reg 0 [⟨(some 18), .mv (.tmp 5), none, 0⟩, ⟨(some 2), .mv (.tmp 18), none, 0⟩] none 0 []) .ret) .skip))) (.seq (.reg 0 [⟨(some 19), .fa 2 (.tmp 4), none, 0⟩, ⟨(some 20), .fa 0 (.tmp 19), none, 0⟩, ⟨(some 21), .ld 1 false (.tmp 20), none, 0⟩, ⟨(some 22), .un .not (.tmp 21), none, 0⟩] none 0 []) (.cond (.tmp 22) (.seq (.reg 0 [⟨(some 2), .mv (.const (.int .i64 4)), none, 0⟩] none 0 []) .ret) .skip))))) (.reg 0 [⟨(some 23), .bin .add (.tmp 9) (.const (.int .i64 1)), none, 0⟩, ⟨(some 9), .mv (.tmp 23), none, 0⟩] none 0 []))))))) (.seq (.reg 0 [⟨(some 2), .mv (.const (.int .i64 0)), none, 0⟩] none 0 []) .ret)))
theorem gc96_ok : compF Try.prog Try.f96 = some (gc96.er, 24, [.tmp 2]) := by unfold gc96; kernel_rfl
set_option maxRecDepth 100000 in
set_option maxHeartbeats 4000000 in
theorem p_book_State_errors_v {u1 : Bool} (a0 : BookState) : CallsO Try.prog 96 [.agg [.i a0.Seq, .sl (List.map BookRow.v a0.Rows) u1]] V.i (p_book_State_errors a0) := by
  refine callsO_comp mix Try.func96 gc96_ok fun r H => ?_
  rw [p_book_State_errors] at H
  conv => whnf
  refine LenQ.M ?_; conv => whnf
  obtain ⟨o2, HL3, HQ4⟩ := bind_c H
  refine loop_c [2, 9] [4, 5, 10, 11, 12, 13, 14, 15, 16, 17, 18, 19, 20, 21, 22, 23, 1, 6] [4, 5, 10, 11, 12, 13, 14, 15, 16, 17, 18, 19, 20, 21, 22, 23, 1, 6] (fun n vals st => (∃ y6, p_book_State_errors_l1  a0.Rows (a0.Rows.length : Int) n y6 = some o2 ∧ vals = [.i (0 : Int), .i y6] ∧ st = [])) fuel 0 [] (⟨_, HL3, rfl, rfl⟩) (Nat.zero_le _) rfl (by kernel_rfl) (by kernel_rfl) rfl trivial ?_
  rintro (_ | n5) _ _ (⟨y6, H, rfl, rfl⟩)
  · rw [p_book_State_errors_l1] at H; cases H
  rw [p_book_State_errors_l1] at H
  conv => whnf
  refine tst_d H (fun b7 H => ?_) (fun b7 H => ?_)
  · conv => whnf
    obtain rfl := Option.some.inj H
    have H := HQ4
    dsimp only at H
    exact fin0_c (enc := V.i) H (.inr rfl) (.cons (.tmp rfl) (.nil)) rfl rfl
  conv => whnf
  refine ixs_c (f := BookRow.v) H (fun _ => rfl) (fun x8 H => ?_); conv => whnf
  refine ⟨Nat.le_of_ble_eq_true rfl, ?_⟩; conv => whnf
  refine ask_c (p_pres_Check_v _) H rfl rfl (fun v9 H => ?_); conv => whnf
  refine tst_c H (fun b10 H => ?_) (fun b10 H => ?_)
  · conv => whnf
    obtain rfl := Option.some.inj H
    have H := HQ4
    dsimp only at H
    exact fin0_c (enc := V.i) H (.inr rfl) (.cons (.tmp rfl) (.nil)) rfl rfl
  conv => whnf
  refine Tst.not ?_
  refine tst_d H (fun b11 H => ?_) (fun b11 H => ?_)
  · conv => whnf
    obtain rfl := Option.some.inj H
    have H := HQ4
    dsimp only at H
    exact fin0_c (enc := V.i) H (.inr rfl) (.cons (.tmp rfl) (.nil)) rfl rfl
  conv => whnf
  refine Ari.w ?_; conv => whnf
  exact again_c [4, 5, 10, 11, 12, 13, 14, 15, 16, 17, 18, 19, 20, 21, 22, 23, 1, 6] n5 0 [] (⟨_, H, rfl, rfl⟩) (Nat.lt_succ_self _) (Nat.zero_le _) rfl (by kernel_rfl) (by kernel_rfl) rfl trivial
def gc123 : BCode := (.seq (.reg 1 [⟨(some 2), .bx (.tmp 0), none, 0⟩, ⟨(some 3), .mv (.const (.bool false)), none, 1⟩] none 0 []) (.seq (.reg 0 [⟨(some 4), .fa 2 (.tmp 2), none, 0⟩, ⟨(some 5), .fa 3 (.tmp 4), none, 0⟩, ⟨(some 6), .ld 1 false (.tmp 5), none, 0⟩, ⟨(some 7), .fa 2 (.tmp 1), none, 0⟩, ⟨(some 8), .fa 3 (.tmp 7), none, 0⟩, ⟨(some 9), .ld 1 false (.tmp 8), none, 0⟩, ⟨(some 10), .bin .eql (.tmp 6) (.tmp 9), none, 0⟩, ⟨(some 3), .mv (.tmp 10), none, 0⟩] none 0 []) .ret))
theorem gc123_ok : compF Try.prog Try.f123 = some (gc123.er, 11, [.tmp 3]) := by unfold gc123; kernel_rfl
set_option maxRecDepth 100000 in
set_option maxHeartbeats 4000000 in
theorem p_book_State_ordered_1_v (a0 : BookRow) (c0 : BookRow) : CallsO Try.prog 123 [.agg [.s a0.User, .s a0.Res, .b a0.P.On, .i a0.P.Show, .i a0.P.Prio, .i a0.P.Seq], .eptr [.s c0.User, .s c0.Res, .b c0.P.On, .i c0.P.Show, .i c0.P.Prio, .i c0.P.Seq]] V.b (p_book_State_ordered_1 a0 c0) := by
  refine callsO_comp mix Try.func123 gc123_ok fun r H => ?_
  rw [p_book_State_ordered_1] at H
  conv => whnf
  refine ⟨Nat.le_of_ble_eq_true rfl, ?_⟩; conv => whnf
  refine ⟨Nat.le_of_ble_eq_true rfl, ?_⟩; conv => whnf
  exact fin0_c (enc := V.b) H (.inr rfl) (.cons (.tmp rfl) (.nil)) rfl rfl
def gc97 : BCode := (.seq (.reg 1 [⟨(some 1), .bx (.tmp 0), none, 0⟩, ⟨(some 2), .mv (.const (.bool false)), none, 1⟩] none 0 []) (.seq (.seq (.reg 0 [⟨(some 5), .fa 1 (.tmp 1), none, 0⟩, ⟨(some 6), .ld 1 false (.tmp 5), none, 0⟩, ⟨(some 7), .lens (.tmp 6), none, 0⟩, ⟨(some 8), .mv (.const (.int .i64 0)), none, 0⟩] none 0 []) (.block 0 (.loop (.seq (.reg 0 [⟨(some 9), .bin .lss (.tmp 8) (.tmp 7), none, 0⟩] none 0 []) (.seq (.cond (.tmp 9) .skip (.exit 0)) (.seq (.block 1 (.seq (.reg 1 [⟨(some 10), .mv (.tmp 8), none, 0⟩, ⟨(some 11), .ixs 6 (.tmp 6) (.tmp 8), none, 0⟩, ⟨(some 12), .ld 6 true (.tmp 11), none, 0⟩, ⟨(some 4), .al (.agg [(.lit (.string ⟨#[]⟩)), (.lit (.string ⟨#[]⟩)), (.lit (.bool false)), (.lit (.int .i64 0)), (.lit (.int .i64 0)), (.lit (.int .i64 0))]), none, 0⟩, ⟨(some 3), .mv (.tmp 10), none, 1⟩, ⟨none, .st 6 (.tmp 4) (.tmp 12), none, 1⟩] none 0 []) (.seq (.seq (.reg 0 [⟨(some 13), .fa 2 (.tmp 4), none, 0⟩, ⟨(some 14), .fa 3 (.tmp 13), none, 0⟩, ⟨(some 15), .ld 1 false (.tmp 14), none, 0⟩, ⟨(some 16), .bin .lss (.tmp 15) (.const (.int .i64 1)), none, 0⟩, ⟨(some 17), .mv (.tmp 16), none, 0⟩, ⟨(some 18), .fa 2 (.tmp 4), (some (17, false)), 0⟩, ⟨(some 19), .fa 3 (.tmp 18), (some (17, false)), 0⟩, ⟨(some 20), .ld 1 false (.tmp 19), (some (17, false)), 0⟩, ⟨(some 21), .fa 0 (.tmp 1), (some (17, false)), 0⟩, ⟨(some 22), .ld 1 false (.tmp 21), (some (17, false)), 0⟩, ⟨(some 23), .bin .gtr (.tmp 20) (.tmp 22), (some (17, false)), 0⟩, ⟨(some 24), .pick (.tmp 17) (.const (.bool true)) (.tmp 23), none, 0⟩] none 0 []) (.cond (.tmp 24) (.seq (.reg 0 [⟨(some 2), .mv (.const (.bool false)), none, 0⟩] none 0 []) .ret) .skip)) (.seq (.seq (.reg 0 [⟨(some 25), .mv (.tmp 3), none, 0⟩, ⟨(some 26), .bin .gtr (.tmp 25) (.const (.int .i64 0)), none, 0⟩, ⟨(some 27), .mv (.tmp 26), none, 0⟩, ⟨(some 28), .fa 1 (.tmp 1), (some (27, true)), 0⟩, ⟨(some 29), .ld 1 false (.tmp 28), (some (27, true)), 0⟩, ⟨(some 30), .mv (.tmp 3), (some (27, true)), 0⟩, ⟨(some 31), .bin .sub (.tmp 30) (.const (.int .i64 1)), (some (27, true)), 0⟩, ⟨(some 32), .ixs 6 (.tmp 29) (.tmp 31), (some (27, true)), 0⟩, ⟨(some 33), .ld 6 true (.tmp 32), (some (27, true)), 0⟩, ⟨(some 34), .cl 88 [(.tmp 33)], (some (27, true)), 0⟩, ⟨(some 35), .ld 6 true (.tmp 4), (some (27, true)), 0⟩, ⟨(some 36), .cl 88 [(.tmp 35)], (some (27, true)), 0⟩, ⟨(some 37), .bin .geq (.tmp 34) (.tmp 36), (some (27, true)), 0⟩, ⟨(some 38), .pick (.tmp 27) (.tmp 37) (.const (.bool false)), none, 0⟩] (some [[], [0], [0, 1], [1, 0, 2], [2, 0, 1, 3], [1, 0, 2], [2, 0, 1, 5], [5, 6, 3, 1, 0, 2, 4], [4, 2, 0, 1, 3, 6, 5, 7], [7, 5, 6, 3, 1, 0, 2, 4, 8], [1, 0, 2], [8, 4, 3, 6, 5, 7, 9, 2, 0, 1, 10], [10, 11, 8, 4, 2, 0, 1, 3, 6, 5, 7, 9], [9, 7, 5, 6, 3, 4, 8, 11, 10, 12, 1, 0, 2]]) 0 []) (.cond (.tmp 38) (.seq (.reg 0 [⟨(some 2), .mv (.const (.bool false)), none, 0⟩] none 0 []) .ret) .skip)) (.seq (.reg 0 [⟨(some 39), .fa 1 (.tmp 1), none, 0⟩, ⟨(some 40), .ld 1 false (.tmp 39), none, 0⟩, ⟨(some 41), .mv (.tmp 3), none, 0⟩, ⟨(some 42), .sls 6 (.tmp 40) none (some (.tmp 41)) none, none, 0⟩, ⟨(some 43), .mf (.func 123) [(.tmp 4)], none, 0⟩, ⟨(some 44), .cl 94 [(.tmp 42), (.tmp 43)], none, 0⟩] none 0 [4]) (.cond (.tmp 44) (.seq (.reg 0 [⟨(some 2), .mv (.const (.bool false)), none, 0⟩] none 0 []) .ret) .skip)))))) (.reg 0 [⟨(some 45), .bin .add (.tmp 8) (.const (.int .i64 1)), none, 0⟩, ⟨(some 8), .mv (.tmp 45), none, 0⟩] none 0 []))))))) (.seq (.reg 0 [⟨(some 2), .mv (.const (.bool true)), none, 0⟩] none 0 []) .ret)))
theorem gc97_ok : compF Try.prog Try.f97 = some (gc97.er, 46, [.tmp 2]) := by unfold gc97; kernel_rfl
set_option maxRecDepth 100000 in
set_option maxHeartbeats 4000000 in
theorem p_book_State_ordered_v {u1 : Bool} (a0 : BookState) : CallsO Try.prog 97 [.agg [.i a0.Seq, .sl (List.map BookRow.v a0.Rows) u1]] V.b (p_book_State_ordered a0) := by
  refine callsO_comp mix Try.func97 gc97_ok fun r H => ?_
  rw [p_book_State_ordered] at H
  conv => whnf
  refine LenQ.M ?_; conv => whnf
  obtain ⟨o2, HL3, HQ4⟩ := bind_c H
  refine loop_c [2, 8] [3, 4, 9, 10, 11, 12, 13, 14, 15, 16, 17, 18, 19, 20, 21, 22, 23, 24, 25, 26, 27, 28, 29, 30, 31, 32, 33, 34, 35, 36, 37, 38, 39, 40, 41, 42, 43, 44, 45, 5] [3, 4, 9, 10, 11, 12, 13, 14, 15, 16, 17, 18, 19, 20, 21, 22, 23, 24, 25, 26, 27, 28, 29, 30, 31, 32, 33, 34, 35, 36, 37, 38, 39, 40, 41, 42, 43, 44, 45, 5] (fun n vals st => (∃ y6, p_book_State_ordered_l1  a0.Rows (a0.Rows.length : Int) a0 n y6 = some o2 ∧ vals = [.b false, .i y6] ∧ st = [.live [.i a0.Seq, .sl (List.map BookRow.v a0.Rows) u1] 0])) fuel 1 [] (⟨_, HL3, rfl, rfl⟩) (Nat.zero_le _) rfl (by kernel_rfl) (by kernel_rfl) rfl ⟨⟨rfl, rfl, rfl⟩, trivial⟩ ?_
  rintro (_ | n5) _ _ (⟨y6, H, rfl, rfl⟩)
  · rw [p_book_State_ordered_l1] at H; cases H
  rw [p_book_State_ordered_l1] at H
  conv => whnf
  refine tst_d H (fun b7 H => ?_) (fun b7 H => ?_)
  · conv => whnf
    obtain rfl := Option.some.inj H
    have H := HQ4
    dsimp only at H
    exact fin0_c (enc := V.b) H (.inr rfl) (.cons (.tmp rfl) (.nil)) rfl rfl
  conv => whnf
  refine ixs_c (f := BookRow.v) H (fun _ => rfl) (fun x8 H => ?_); conv => whnf
  refine ⟨Nat.le_of_ble_eq_true rfl, ?_⟩; conv => whnf
  refine tst_c H (fun b9 H => ?_) (fun b9 H => ?_)
  · conv => whnf
    iterate 7 (refine Tst.T ?_; conv => whnf)
    obtain rfl := Option.some.inj H
    have H := HQ4
    dsimp only at H
    exact fin0_c (enc := V.b) H (.inr rfl) (.cons (.tmp rfl) (.nil)) rfl rfl
  conv => whnf
  iterate 6 (refine Tst.F ?_; conv => whnf)
  refine tst_c H (fun b10 H => ?_) (fun b10 H => ?_)
  · conv => whnf
    obtain rfl := Option.some.inj H
    have H := HQ4
    dsimp only at H
    exact fin0_c (enc := V.b) H (.inr rfl) (.cons (.tmp rfl) (.nil)) rfl rfl
  conv => whnf
  refine tst_d H (fun b11 H => ?_) (fun b11 H => ?_)
  · conv => whnf
    iterate 10 (refine Tst.F ?_; conv => whnf)
    refine FootQ.mk ⟨rfl, ?_⟩; conv => whnf
    refine Tst.F ?_; conv => whnf
    refine ⟨Nat.zero_le _, ?_⟩; conv => whnf
    refine slsH_c (f := BookRow.v) H (fun _ => rfl) (fun x19 H => ?_); conv => whnf
    refine askF_c (p_slices_ContainsFunc_book_Row_v _ _ ⟨⟨_, Try.func123, by kernel_rfl, by kernel_rfl⟩, rfl, fun x0 => p_book_State_ordered_1_v _ _⟩) H (.cons (.c (.id rfl)) (.cons (.c (.clo (.cons (.ptr rfl (Nat.le_of_ble_eq_true rfl) (.cons (.id rfl) (.cons (.id rfl) (.cons (.id rfl) (.cons (.id rfl) (.cons (.id rfl) (.cons (.id rfl) (.nil)))))))) (.nil)))) (.nil))) (fun v20 H => ?_); conv => whnf
    refine tst_c H (fun b21 H => ?_) (fun b21 H => ?_)
    · conv => whnf
      obtain rfl := Option.some.inj H
      have H := HQ4
      dsimp only at H
      exact fin0_c (enc := V.b) H (.inr rfl) (.cons (.tmp rfl) (.nil)) rfl rfl
    conv => whnf
    refine Ari.w ?_; conv => whnf
    exact again_c [3, 4, 9, 10, 11, 12, 13, 14, 15, 16, 17, 18, 19, 20, 21, 22, 23, 24, 25, 26, 27, 28, 29, 30, 31, 32, 33, 34, 35, 36, 37, 38, 39, 40, 41, 42, 43, 44, 45, 5] n5 1 [] (⟨_, H, rfl, rfl⟩) (Nat.lt_succ_self _) (Nat.zero_le _) rfl (by kernel_rfl) (by kernel_rfl) rfl ⟨⟨rfl, rfl, rfl⟩, trivial⟩
  conv => whnf
  iterate 3 (refine Tst.T ?_; conv => whnf)
  refine Ari.w ?_; conv => whnf
  refine Tst.T ?_; conv => whnf
  refine ixs_c (f := BookRow.v) H (fun _ => rfl) (fun x12 H => ?_); conv => whnf
  iterate 2 (refine Tst.T ?_; conv => whnf)
  refine ask_c (p_book_Row_key_v _) H rfl rfl (fun v13 H => ?_); conv => whnf
  iterate 2 (refine Tst.T ?_; conv => whnf)
  refine ask_c (p_book_Row_key_v _) H rfl rfl (fun v14 H => ?_); conv => whnf
  iterate 2 (refine Tst.T ?_; conv => whnf)
  refine FootQ.mk ⟨rfl, ?_⟩; conv => whnf
  refine Tst.not ?_
  refine tst_d H (fun b15 H => ?_) (fun b15 H => ?_)
  · conv => whnf
    obtain rfl := Option.some.inj H
    have H := HQ4
    dsimp only at H
    exact fin0_c (enc := V.b) H (.inr rfl) (.cons (.tmp rfl) (.nil)) rfl rfl
  conv => whnf
  refine ⟨Nat.zero_le _, ?_⟩; conv => whnf
  refine slsH_c (f := BookRow.v) H (fun _ => rfl) (fun x16 H => ?_); conv => whnf
  refine askF_c (p_slices_ContainsFunc_book_Row_v _ _ ⟨⟨_, Try.func123, by kernel_rfl, by kernel_rfl⟩, rfl, fun x0 => p_book_State_ordered_1_v _ _⟩) H (.cons (.c (.id rfl)) (.cons (.c (.clo (.cons (.ptr rfl (Nat.le_of_ble_eq_true rfl) (.cons (.id rfl) (.cons (.id rfl) (.cons (.id rfl) (.cons (.id rfl) (.cons (.id rfl) (.cons (.id rfl) (.nil)))))))) (.nil)))) (.nil))) (fun v17 H => ?_); conv => whnf
  refine tst_c H (fun b18 H => ?_) (fun b18 H => ?_)
  · conv => whnf
    obtain rfl := Option.some.inj H
    have H := HQ4
    dsimp only at H
    exact fin0_c (enc := V.b) H (.inr rfl) (.cons (.tmp rfl) (.nil)) rfl rfl
  conv => whnf
  refine Ari.w ?_; conv => whnf
  exact again_c [3, 4, 9, 10, 11, 12, 13, 14, 15, 16, 17, 18, 19, 20, 21, 22, 23, 24, 25, 26, 27, 28, 29, 30, 31, 32, 33, 34, 35, 36, 37, 38, 39, 40, 41, 42, 43, 44, 45, 5] n5 1 [] (⟨_, H, rfl, rfl⟩) (Nat.lt_succ_self _) (Nat.zero_le _) rfl (by kernel_rfl) (by kernel_rfl) rfl ⟨⟨rfl, rfl, rfl⟩, trivial⟩
end Go.Proofs.Ytljeinlapkgjeaa
/- That the program's functions yield what the plain ones tell (written by a program of mine). -/
namespace Go.Proofs.Ytljeinlapkgjeaa
open Go.RowKit
def gc89 : BCode := (.seq (.reg 1 [⟨(some 2), .bx (.tmp 0), none, 0⟩, ⟨(some 4), .mv (.const (.int .i64 0)), none, 1⟩] none 0 []) (.seq (.reg 0 [⟨(some 5), .mv (.const (.int .i64 0)), none, 0⟩] none 0 []) (.seq (.seq (.reg 0 [⟨(some 8), .fa 1 (.tmp 2), none, 0⟩, ⟨(some 9), .ld 1 false (.tmp 8), none, 0⟩, ⟨(some 10), .lens (.tmp 9), none, 0⟩, ⟨(some 11), .mv (.const (.int .i64 0)), none, 0⟩] none 0 []) (.block 0 (.loop (.seq (.reg 0 [⟨(some 12), .bin .lss (.tmp 11) (.tmp 10), none, 0⟩] none 0 []) (.seq (.cond (.tmp 12) .skip (.exit 0)) (.seq (.block 1 (.seq (.reg 1 [⟨(some 13), .ixs 6 (.tmp 9) (.tmp 11), none, 0⟩, ⟨(some 14), .ld 6 true (.tmp 13), none, 0⟩, ⟨(some 7), .al (.agg [(.lit (.string ⟨#[]⟩)), (.lit (.string ⟨#[]⟩)), (.lit (.bool false)), (.lit (.int .i64 0)), (.lit (.int .i64 0)), (.lit (.int .i64 0))]), none, 0⟩, ⟨none, .st 6 (.tmp 7) (.tmp 14), none, 1⟩] none 0 []) (.seq (.reg 0 [⟨(some 15), .fa 0 (.tmp 7), none, 0⟩, ⟨(some 16), .ld 1 false (.tmp 15), none, 0⟩, ⟨(some 17), .mv (.tmp 1), none, 0⟩, ⟨(some 18), .bin .eql (.tmp 16) (.tmp 17), none, 0⟩] none 0 []) (.cond (.tmp 18) (.reg 0 [⟨(some 19), .mv (.tmp 5), none, 0⟩, ⟨(some 20), .bin .add (.tmp 19) (.const (.int .i64 1)), none, 0⟩, ⟨(some 5), .mv (.tmp 20), none, 0⟩] none 0 []) .skip)))) (.reg 0 [⟨(some 21), .bin .add (.tmp 11) (.const (.int .i64 1)), none, 0⟩, ⟨(some 11), .mv (.tmp 21), none, 0⟩] none 0 []))))))) (.seq (.reg 0 [⟨(some 22), .mv (.tmp 5), none, 0⟩, ⟨(some 4), .mv (.tmp 22), none, 0⟩] none 0 []) .ret))))
theorem gc89_ok : compF Try.prog Try.f89 = some (gc89.er, 23, [.tmp 4]) := by unfold gc89; kernel_rfl
set_option maxRecDepth 100000 in
set_option maxHeartbeats 4000000 in
theorem p_book_State_many_v {u1 : Bool} (a0 : BookState) (a1 : ByteArray) : CallsO Try.prog 89 [.agg [.i a0.Seq, .sl (List.map BookRow.v a0.Rows) u1], .s a1] V.i (p_book_State_many a0 a1) := by
  refine callsO_comp mix Try.func89 gc89_ok fun r H => ?_
  rw [p_book_State_many] at H
  conv => whnf
  refine LenQ.M ?_; conv => whnf
  obtain ⟨o2, HL3, HQ4⟩ := bind_c H
  refine loop_c [5, 11] [7, 12, 13, 14, 15, 16, 17, 18, 19, 20, 21, 2, 8] [7, 12, 13, 14, 15, 16, 17, 18, 19, 20, 21, 2, 8] (fun n vals st => (∃ y6 y7, p_book_State_many_l1  a1 a0.Rows (a0.Rows.length : Int) n y6 y7 = some o2 ∧ vals = [.i y6, .i y7] ∧ st = [])) fuel 0 [] (⟨_, _, HL3, rfl, rfl⟩) (Nat.zero_le _) rfl (by kernel_rfl) (by kernel_rfl) rfl trivial ?_
  rintro (_ | n5) _ _ (⟨y6, y7, H, rfl, rfl⟩)
  · rw [p_book_State_many_l1] at H; cases H
  rw [p_book_State_many_l1] at H
  conv => whnf
  refine tst_d H (fun b8 H => ?_) (fun b8 H => ?_)
  · conv => whnf
    obtain rfl := Option.some.inj H
    have H := HQ4
    dsimp only at H
    exact fin0_c (enc := V.i) H (.inr rfl) (.cons (.tmp rfl) (.nil)) rfl rfl
  conv => whnf
  refine ixs_c (f := BookRow.v) H (fun _ => rfl) (fun x9 H => ?_); conv => whnf
  refine ⟨Nat.le_of_ble_eq_true rfl, ?_⟩; conv => whnf
  refine tst_d H (fun b10 H => ?_) (fun b10 H => ?_)
  · conv => whnf
    refine Ari.w ?_; conv => whnf
    exact again_c [7, 12, 13, 14, 15, 16, 17, 18, 19, 20, 21, 2, 8] n5 0 [] (⟨_, _, H, rfl, rfl⟩) (Nat.lt_succ_self _) (Nat.zero_le _) rfl (by kernel_rfl) (by kernel_rfl) rfl trivial
  conv => whnf
  iterate 2 (refine Ari.w ?_; conv => whnf)
  exact again_c [7, 12, 13, 14, 15, 16, 17, 18, 19, 20, 21, 2, 8] n5 0 [] (⟨_, _, H, rfl, rfl⟩) (Nat.lt_succ_self _) (Nat.zero_le _) rfl (by kernel_rfl) (by kernel_rfl) rfl trivial
def gc98 : BCode := (.seq (.reg 1 [⟨(some 2), .bx (.tmp 0), none, 0⟩, ⟨(some 3), .mv (.const (.bool false)), none, 1⟩] none 0 []) (.seq (.reg 0 [⟨(some 4), .ld 2 true (.tmp 1), none, 0⟩, ⟨(some 5), .fa 0 (.tmp 2), none, 0⟩, ⟨(some 6), .ld 1 false (.tmp 5), none, 0⟩, ⟨(some 7), .cl 89 [(.tmp 4), (.tmp 6)], none, 0⟩, ⟨(some 8), .bin .gtr (.tmp 7) (.const (.int .i64 3)), none, 0⟩, ⟨(some 3), .mv (.tmp 8), none, 0⟩] none 0 []) .ret))
theorem gc98_ok : compF Try.prog Try.f98 = some (gc98.er, 9, [.tmp 3]) := by unfold gc98; kernel_rfl
set_option maxRecDepth 100000 in
set_option maxHeartbeats 4000000 in
theorem p_book_Check_2_v {u1 : Bool} (a0 : BookRow) (c0 : BookState) : CallsO Try.prog 98 [.agg [.s a0.User, .s a0.Res, .b a0.P.On, .i a0.P.Show, .i a0.P.Prio, .i a0.P.Seq], .eptr [.i c0.Seq, .sl (List.map BookRow.v c0.Rows) u1]] V.b (p_book_Check_2 a0 c0) := by
  refine callsO_comp mix Try.func98 gc98_ok fun r H => ?_
  rw [p_book_Check_2] at H
  conv => whnf
  refine ask_c (p_book_State_many_v _ _) H rfl rfl (fun v1 H => ?_); conv => whnf
  exact fin0_c (enc := V.b) H (.inr rfl) (.cons (.tmp rfl) (.nil)) rfl rfl
def gc51 : BCode := (.seq (.reg 1 [⟨(some 1), .bx (.tmp 0), none, 0⟩, ⟨(some 2), .mv (.const (.int .i64 0)), none, 1⟩] none 0 []) (.seq (.block 0 (.seq (.reg 0 [⟨(some 5), .fa 1 (.tmp 1), none, 0⟩, ⟨(some 6), .ld 1 false (.tmp 5), none, 0⟩, ⟨(some 7), .lens (.tmp 6), none, 0⟩, ⟨(some 8), .bin .gtr (.tmp 7) (.const (.int .i64 16)), none, 0⟩, ⟨(some 4), .mv (.tmp 8), none, 0⟩] none 0 []) (.cond (.tmp 4) (.seq (.reg 0 [⟨(some 2), .mv (.const (.int .i64 5)), none, 0⟩] none 0 []) .ret) (.seq (.seq (.reg 0 [⟨(some 10), .fa 0 (.tmp 1), none, 0⟩, ⟨(some 11), .ld 1 false (.tmp 10), none, 0⟩, ⟨(some 12), .bin .lss (.tmp 11) (.const (.int .i64 0)), none, 0⟩, ⟨(some 9), .mv (.tmp 12), none, 0⟩] none 0 []) (.cond (.tmp 9) .skip (.reg 0 [⟨(some 13), .fa 0 (.tmp 1), none, 0⟩, ⟨(some 14), .ld 1 false (.tmp 13), none, 0⟩, ⟨(some 15), .bin .gtr (.tmp 14) (.const (.int .i64 1099511627776)), none, 0⟩, ⟨(some 9), .mv (.tmp 15), none, 0⟩] none 0 []))) (.cond (.tmp 9) (.seq (.reg 0 [⟨(some 2), .mv (.const (.int .i64 8)), none, 0⟩] none 0 []) .ret) (.seq (.reg 0 [⟨(some 17), .fa 1 (.tmp 1), none, 0⟩, ⟨(some 18), .ld 1 false (.tmp 17), none, 0⟩, ⟨(some 19), .cl 94 [(.tmp 18), (.func 95)], none, 0⟩, ⟨(some 16), .mv (.tmp 19), none, 0⟩] none 0 []) (.cond (.tmp 16) (.seq (.reg 0 [⟨(some 2), .mv (.const (.int .i64 11)), none, 0⟩] none 0 []) .ret) .skip))))))) (.seq (.seq (.reg 0 [⟨(some 20), .ld 2 true (.tmp 1), none, 0⟩, ⟨(some 21), .cl 96 [(.tmp 20)], none, 0⟩, ⟨(some 3), .mv (.tmp 21), none, 0⟩] none 0 []) (.seq (.reg 0 [⟨(some 22), .mv (.tmp 3), none, 0⟩, ⟨(some 23), .bin .neq (.tmp 22) (.const (.int .i64 0)), none, 0⟩] none 0 []) (.cond (.tmp 23) (.seq (.reg 0 [⟨(some 24), .mv (.tmp 3), none, 0⟩, ⟨(some 2), .mv (.tmp 24), none, 0⟩] none 0 []) .ret) .skip))) (.seq (.block 1 (.seq (.reg 0 [⟨(some 26), .ld 2 true (.tmp 1), none, 0⟩, ⟨(some 27), .cl 97 [(.tmp 26)], none, 0⟩, ⟨(some 28), .un .not (.tmp 27), none, 0⟩, ⟨(some 25), .mv (.tmp 28), none, 0⟩] none 0 []) (.cond (.tmp 25) (.seq (.reg 0 [⟨(some 2), .mv (.const (.int .i64 10)), none, 0⟩] none 0 []) .ret) (.seq (.reg 0 [⟨(some 30), .fa 1 (.tmp 1), none, 0⟩, ⟨(some 31), .ld 1 false (.tmp 30), none, 0⟩, ⟨(some 32), .mf (.func 98) [(.tmp 1)], none, 0⟩, ⟨(some 33), .cl 94 [(.tmp 31), (.tmp 32)], none, 0⟩, ⟨(some 29), .mv (.tmp 33), none, 0⟩] none 0 [1]) (.cond (.tmp 29) (.seq (.reg 0 [⟨(some 2), .mv (.const (.int .i64 7)), none, 0⟩] none 0 []) .ret) .skip))))) (.seq (.reg 0 [⟨(some 2), .mv (.const (.int .i64 0)), none, 0⟩] none 0 []) .ret)))))
theorem gc51_ok : compF Try.prog Try.f51 = some (gc51.er, 34, [.tmp 2]) := by unfold gc51; kernel_rfl
set_option maxRecDepth 100000 in
set_option maxHeartbeats 4000000 in
theorem p_book_Check_v {u1 : Bool} (a0 : BookState) : CallsO Try.prog 51 [.agg [.i a0.Seq, .sl (List.map BookRow.v a0.Rows) u1]] V.i (p_book_Check a0) := by
  refine callsO_comp mix Try.func51 gc51_ok fun r H => ?_
  rw [p_book_Check] at H
  conv => whnf
  refine LenQ.M ?_; conv => whnf
  refine tst_c H (fun b1 H => ?_) (fun b1 H => ?_)
  · conv => whnf
    exact fin0_c (enc := V.i) H (.inr rfl) (.cons (.tmp rfl) (.nil)) rfl rfl
  conv => whnf
  refine tst_c H (fun b2 H => ?_) (fun b2 H => ?_)
  · conv => whnf
    refine Tst.T ?_; conv => whnf
    exact fin0_c (enc := V.i) H (.inr rfl) (.cons (.tmp rfl) (.nil)) rfl rfl
  conv => whnf
  refine tst_c H (fun b3 H => ?_) (fun b3 H => ?_)
  · conv => whnf
    exact fin0_c (enc := V.i) H (.inr rfl) (.cons (.tmp rfl) (.nil)) rfl rfl
  conv => whnf
  refine askF_c (p_slices_ContainsFunc_book_Row_v _ _ ⟨⟨_, Try.func95, by kernel_rfl, by kernel_rfl⟩, rfl, fun x0 => p_book_Check_1_v _⟩) H (.cons (.c (.slw)) (.cons (.c (.clo (.nil))) (.nil))) (fun v4 H => ?_); conv => whnf
  refine tst_c H (fun b5 H => ?_) (fun b5 H => ?_)
  · conv => whnf
    exact fin0_c (enc := V.i) H (.inr rfl) (.cons (.tmp rfl) (.nil)) rfl rfl
  conv => whnf
  refine ask_c (p_book_State_errors_v _) H rfl rfl (fun v6 H => ?_); conv => whnf
  refine tst_c H (fun b7 H => ?_) (fun b7 H => ?_)
  · conv => whnf
    exact fin0_c (enc := V.i) H (.inr rfl) (.cons (.tmp rfl) (.nil)) rfl rfl
  conv => whnf
  refine ask_c (p_book_State_ordered_v _) H rfl rfl (fun v8 H => ?_); conv => whnf
  refine Tst.not ?_
  refine tst_d H (fun b9 H => ?_) (fun b9 H => ?_)
  · conv => whnf
    exact fin0_c (enc := V.i) H (.inr rfl) (.cons (.tmp rfl) (.nil)) rfl rfl
  conv => whnf
  refine ⟨Nat.zero_le _, ?_⟩; conv => whnf
  refine askF_c (p_slices_ContainsFunc_book_Row_v _ _ ⟨⟨_, Try.func98, by kernel_rfl, by kernel_rfl⟩, rfl, fun x0 => p_book_Check_2_v _ _⟩) H (.cons (.c (.slw)) (.cons (.c (.clo (.cons (.ptr rfl (Nat.le_of_ble_eq_true rfl) (.cons (.id rfl) (.cons (.id rfl) (.nil)))) (.nil)))) (.nil))) (fun v10 H => ?_); conv => whnf
  refine tst_c H (fun b11 H => ?_) (fun b11 H => ?_)
  · conv => whnf
    exact fin0_c (enc := V.i) H (.inr rfl) (.cons (.tmp rfl) (.nil)) rfl rfl
  conv => whnf
  exact fin0_c (enc := V.i) H (.inr rfl) (.cons (.tmp rfl) (.nil)) rfl rfl
def gc118 : BCode := (.seq (.reg 1 [⟨(some 2), .bx (.tmp 0), none, 0⟩, ⟨(some 4), .mv (.const (.int .i64 0)), none, 1⟩] none 0 []) (.seq (.reg 0 [⟨(some 5), .ld 6 true (.tmp 2), none, 0⟩, ⟨(some 6), .cl 88 [(.tmp 5)], none, 0⟩, ⟨(some 7), .mv (.tmp 1), none, 0⟩, ⟨(some 8), .cl 119 [(.tmp 6), (.tmp 7)], none, 0⟩, ⟨(some 4), .mv (.tmp 8), none, 0⟩] none 0 []) .ret))
theorem gc118_ok : compF Try.prog Try.f118 = some (gc118.er, 9, [.tmp 4]) := by unfold gc118; kernel_rfl
set_option maxRecDepth 100000 in
set_option maxHeartbeats 4000000 in
theorem p_book_State_find_1_v (a0 : BookRow) (a1 : ByteArray) : CallsO Try.prog 118 [.agg [.s a0.User, .s a0.Res, .b a0.P.On, .i a0.P.Show, .i a0.P.Prio, .i a0.P.Seq], .s a1] V.i (p_book_State_find_1 a0 a1) := by
  refine callsO_comp mix Try.func118 gc118_ok fun r H => ?_
  rw [p_book_State_find_1] at H
  conv => whnf
  refine ask_c (p_book_Row_key_v _) H rfl rfl (fun v1 H => ?_); conv => whnf
  refine ask_c (p_strings_Compare_v _ _) H rfl rfl (fun v2 H => ?_); conv => whnf
  exact fin0_c (enc := V.i) H (.inr rfl) (.cons (.tmp rfl) (.nil)) rfl rfl
def gc117 : BCode := (.seq (.reg 0 [⟨(some 6), .mv (.const (.int .i64 0)), none, 0⟩, ⟨(some 7), .mv (.const (.bool false)), none, 0⟩] none 0 []) (.seq (.reg 0 [⟨(some 12), .mv (.tmp 0), none, 0⟩, ⟨(some 13), .lens (.tmp 12), none, 0⟩, ⟨(some 8), .mv (.tmp 13), none, 0⟩] none 0 []) (.seq (.reg 0 [⟨(some 14), .mv (.tmp 8), none, 0⟩, ⟨(some 9), .mv (.const (.int .i64 0)), none, 0⟩, ⟨(some 10), .mv (.tmp 14), none, 0⟩] none 0 []) (.seq (.block 0 (.loop (.seq (.seq (.reg 0 [⟨(some 15), .mv (.tmp 9), none, 0⟩, ⟨(some 16), .mv (.tmp 10), none, 0⟩, ⟨(some 17), .bin .lss (.tmp 15) (.tmp 16), none, 0⟩] none 0 []) (.cond (.tmp 17) .skip (.exit 0))) (.block 1 (.seq (.reg 0 [⟨(some 18), .mv (.tmp 9), none, 0⟩, ⟨(some 19), .mv (.tmp 10), none, 0⟩, ⟨(some 20), .bin .add (.tmp 18) (.tmp 19), none, 0⟩, ⟨(some 21), .cvi .u64 (.tmp 20), none, 0⟩, ⟨(some 22), .bin .shr (.tmp 21) (.const (.int .u64 1)), none, 0⟩, ⟨(some 23), .cvi .i64 (.tmp 22), none, 0⟩, ⟨(some 11), .mv (.tmp 23), none, 0⟩] none 0 []) (.seq (.reg 0 [⟨(some 24), .mv (.tmp 2), none, 0⟩, ⟨(some 25), .mv (.tmp 0), none, 0⟩, ⟨(some 26), .mv (.tmp 11), none, 0⟩, ⟨(some 27), .ixs 6 (.tmp 25) (.tmp 26), none, 0⟩, ⟨(some 28), .ld 6 true (.tmp 27), none, 0⟩, ⟨(some 29), .mv (.tmp 1), none, 0⟩, ⟨(some 30), .cv (.tmp 24) [(.tmp 28), (.tmp 29)], none, 0⟩, ⟨(some 31), .bin .lss (.tmp 30) (.const (.int .i64 0)), none, 0⟩] none 0 []) (.cond (.tmp 31) (.reg 0 [⟨(some 32), .mv (.tmp 11), none, 0⟩, ⟨(some 33), .bin .add (.tmp 32) (.const (.int .i64 1)), none, 0⟩, ⟨(some 9), .mv (.tmp 33), none, 0⟩] none 0 []) (.reg 0 [⟨(some 34), .mv (.tmp 11), none, 0⟩, ⟨(some 10), .mv (.tmp 34), none, 0⟩] none 0 [])))))))) (.seq (.reg 0 [⟨(some 35), .mv (.tmp 9), none, 0⟩, ⟨(some 36), .mv (.tmp 9), none, 0⟩, ⟨(some 37), .mv (.tmp 8), none, 0⟩, ⟨(some 38), .bin .lss (.tmp 36) (.tmp 37), none, 0⟩, ⟨(some 39), .mv (.tmp 38), none, 0⟩, ⟨(some 40), .mv (.tmp 2), (some (39, true)), 0⟩, ⟨(some 41), .mv (.tmp 0), (some (39, true)), 0⟩, ⟨(some 42), .mv (.tmp 9), (some (39, true)), 0⟩, ⟨(some 43), .ixs 6 (.tmp 41) (.tmp 42), (some (39, true)), 0⟩, ⟨(some 44), .ld 6 true (.tmp 43), (some (39, true)), 0⟩, ⟨(some 45), .mv (.tmp 1), (some (39, true)), 0⟩, ⟨(some 46), .cv (.tmp 40) [(.tmp 44), (.tmp 45)], (some (39, true)), 0⟩, ⟨(some 47), .bin .eql (.tmp 46) (.const (.int .i64 0)), (some (39, true)), 0⟩, ⟨(some 48), .pick (.tmp 39) (.tmp 47) (.const (.bool false)), none, 0⟩, ⟨(some 6), .mv (.tmp 35), none, 0⟩, ⟨(some 7), .mv (.tmp 48), none, 0⟩] none 0 []) .ret)))))
theorem gc117_ok : compF Try.prog Try.f117 = some (gc117.er, 49, [.tmp 6, .tmp 7]) := by unfold gc117; kernel_rfl
set_option maxRecDepth 100000 in
set_option maxHeartbeats 4000000 in
theorem p_slices_BinarySearchFunc_book_Row_v {u1 : Bool} (a0 : List BookRow) (a1 : ByteArray) (a2 : BookRow → ByteArray → Option Int) {a2_g : Nat} {a2_k : List V} (a2_h : Clo2 Try.prog a2_g a2_k BookRow.v V.s V.i a2) : CallsO Try.prog 117 [.sl (List.map BookRow.v a0) u1, .s a1, .clo (.func a2_g) a2_k] (fun r : Int × Bool => .tup [V.i r.1, V.b r.2]) (p_slices_BinarySearchFunc_book_Row a0 a1 a2) := by
  refine callsO_comp mix Try.func117 gc117_ok fun r H => ?_
  rw [p_slices_BinarySearchFunc_book_Row] at H
  conv => whnf
  refine LenQ.M ?_; conv => whnf
  obtain ⟨o2, HL3, HQ4⟩ := bind_c H
  refine loop_c [9, 10] [11, 15, 16, 17, 18, 19, 20, 21, 22, 23, 24, 25, 26, 27, 28, 29, 30, 31, 32, 33, 34] [11, 15, 16, 17, 18, 19, 20, 21, 22, 23, 24, 25, 26, 27, 28, 29, 30, 31, 32, 33, 34] (fun n vals st => (∃ y6 y7, p_slices_BinarySearchFunc_book_Row_l1  a2 a0 a1 n y6 y7 = some o2 ∧ vals = [.i y6, .i y7] ∧ st = [])) fuel 0 [] (⟨_, _, HL3, rfl, rfl⟩) (Nat.zero_le _) rfl (by simp only [maskF, setF, List.set_cons_zero, List.set_cons_succ, V.ren.renL, V.ren, renL_id _ a2_h.own] <;> rfl) (by simp only [maskF, setF, List.set_cons_zero, List.set_cons_succ, V.idlt.belowL, V.idlt, fun n => idltL_up (n := n) _ a2_h.own] <;> rfl) rfl trivial ?_
  rintro (_ | n5) _ _ (⟨y6, y7, H, rfl, rfl⟩)
  · rw [p_slices_BinarySearchFunc_book_Row_l1] at H; cases H
  rw [p_slices_BinarySearchFunc_book_Row_l1] at H
  conv => whnf
  refine tst_d H (fun b8 H => ?_) (fun b8 H => ?_)
  · conv => whnf
    obtain rfl := Option.some.inj H
    have H := HQ4
    dsimp only at H
    refine tst_d H (fun b12 H => ?_) (fun b12 H => ?_)
    · conv => whnf
      iterate 8 (refine Tst.F ?_; conv => whnf)
      exact fin0_c (enc := (fun r : Int × Bool => .tup [V.i r.1, V.b r.2])) H (.inr rfl) (.cons (.tmp rfl) (.cons (.tmp rfl) (.nil))) rfl rfl
    conv => whnf
    iterate 3 (refine Tst.T ?_; conv => whnf)
    refine ixs_c (f := BookRow.v) H (fun _ => rfl) (fun x13 H => ?_); conv => whnf
    iterate 3 (refine Tst.T ?_; conv => whnf)
    refine askC2_c a2_h H (.cons (fzagg (.cons (.id rfl) (.cons (.id rfl) (.cons (.id rfl) (.cons (.id rfl) (.cons (.id rfl) (.cons (.id rfl) (.nil))))))) rfl) (.cons (.c (.id rfl)) (.nil))) (fun v14 H => ?_); conv => whnf
    iterate 2 (refine Tst.T ?_; conv => whnf)
    exact fin0_c (enc := (fun r : Int × Bool => .tup [V.i r.1, V.b r.2])) H (.inr rfl) (.cons (.tmp rfl) (.cons (.tmp rfl) (.nil))) rfl rfl
  conv => whnf
  iterate 2 (refine Ari.w ?_; conv => whnf)
  refine Shr.ok (by decide) ?_; conv => whnf
  refine Ari.w ?_; conv => whnf
  refine ixs_c (f := BookRow.v) H (fun _ => rfl) (fun x9 H => ?_); conv => whnf
  refine askC2_c a2_h H (.cons (fzagg (.cons (.id rfl) (.cons (.id rfl) (.cons (.id rfl) (.cons (.id rfl) (.cons (.id rfl) (.cons (.id rfl) (.nil))))))) rfl) (.cons (.c (.id rfl)) (.nil))) (fun v10 H => ?_); conv => whnf
  refine tst_d H (fun b11 H => ?_) (fun b11 H => ?_)
  · conv => whnf
    exact again_c [11, 15, 16, 17, 18, 19, 20, 21, 22, 23, 24, 25, 26, 27, 28, 29, 30, 31, 32, 33, 34] n5 0 [] (⟨_, _, H, rfl, rfl⟩) (Nat.lt_succ_self _) (Nat.zero_le _) rfl (by simp only [maskF, setF, List.set_cons_zero, List.set_cons_succ, V.ren.renL, V.ren, renL_id _ a2_h.own] <;> rfl) (by simp only [maskF, setF, List.set_cons_zero, List.set_cons_succ, V.idlt.belowL, V.idlt, fun n => idltL_up (n := n) _ a2_h.own] <;> rfl) rfl trivial
  conv => whnf
  refine Ari.w ?_; conv => whnf
  exact again_c [11, 15, 16, 17, 18, 19, 20, 21, 22, 23, 24, 25, 26, 27, 28, 29, 30, 31, 32, 33, 34] n5 0 [] (⟨_, _, H, rfl, rfl⟩) (Nat.lt_succ_self _) (Nat.zero_le _) rfl (by simp only [maskF, setF, List.set_cons_zero, List.set_cons_succ, V.ren.renL, V.ren, renL_id _ a2_h.own] <;> rfl) (by simp only [maskF, setF, List.set_cons_zero, List.set_cons_succ, V.idlt.belowL, V.idlt, fun n => idltL_up (n := n) _ a2_h.own] <;> rfl) rfl trivial
def gc87 : BCode := (.seq (.reg 1 [⟨(some 2), .bx (.tmp 0), none, 0⟩, ⟨(some 4), .mv (.const (.int .i64 0)), none, 1⟩, ⟨(some 5), .mv (.const (.bool false)), none, 1⟩] none 0 []) (.seq (.reg 0 [⟨(some 6), .fa 1 (.tmp 2), none, 0⟩, ⟨(some 7), .ld 1 false (.tmp 6), none, 0⟩, ⟨(some 8), .mv (.tmp 1), none, 0⟩, ⟨(some 9), .cl 117 [(.tmp 7), (.tmp 8), (.func 118)], none, 0⟩, ⟨(some 10), .ex (.tmp 9) 0, none, 0⟩, ⟨(some 11), .ex (.tmp 9) 1, none, 0⟩, ⟨(some 4), .mv (.tmp 10), none, 0⟩, ⟨(some 5), .mv (.tmp 11), none, 0⟩] none 0 []) .ret))
theorem gc87_ok : compF Try.prog Try.f87 = some (gc87.er, 12, [.tmp 4, .tmp 5]) := by unfold gc87; kernel_rfl
set_option maxRecDepth 100000 in
set_option maxHeartbeats 4000000 in
theorem p_book_State_find_v {u1 : Bool} (a0 : BookState) (a1 : ByteArray) : CallsO Try.prog 87 [.agg [.i a0.Seq, .sl (List.map BookRow.v a0.Rows) u1], .s a1] (fun r : Int × Bool => .tup [V.i r.1, V.b r.2]) (p_book_State_find a0 a1) := by
  refine callsO_comp mix Try.func87 gc87_ok fun r H => ?_
  rw [p_book_State_find] at H
  conv => whnf
  refine askF_c (p_slices_BinarySearchFunc_book_Row_v _ _ _ ⟨⟨_, Try.func118, by kernel_rfl, by kernel_rfl⟩, rfl, fun x0 x1 => p_book_State_find_1_v _ _⟩) H (.cons (.c (.slw)) (.cons (.c (.id rfl)) (.cons (.c (.clo (.nil))) (.nil)))) (fun v1 H => ?_); conv => whnf
  exact fin0_c (enc := (fun r : Int × Bool => .tup [V.i r.1, V.b r.2])) H (.inr rfl) (.cons (.tmp rfl) (.cons (.tmp rfl) (.nil))) rfl rfl
end Go.Proofs.Ytljeinlapkgjeaa
