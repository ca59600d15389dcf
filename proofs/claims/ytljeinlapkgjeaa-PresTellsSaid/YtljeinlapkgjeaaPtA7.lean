/- A part of the proof: 8 texts joined. -/
import Derived.Test.YtljeinlapkgjeaaPtA6
import Derived.Test.YtljeinlapkgjeaaPtA3
import Derived.KernelRfl
import Derived.HandedShaped
import Derived.Shelf.Vars
import Derived.Lib.SmallJoins
import Derived.Deep.Slices
import Derived.ProofKit
import Derived.Test.YtljeinlapkgjeaaChecked
set_option linter.unusedSimpArgs false
set_option linter.unusedVariables false
/- pres: functions over slices of presences. -/
namespace Go.Proofs.Ytljeinlapkgjeaa
open Go.RowKit
def PresD.cells (p : PresD) : List Value := [.bool p.on, .int .i64 p.sh, .int .i64 p.prio, .int .i64 p.seq]
def presCells (l : List PresD) : List Value := l.flatMap PresD.cells
theorem presCells_len (l : List PresD) : (presCells l).length = l.length * 4 := by
  induction l with
  | nil => rfl
  | cons p l ih => simp only [presCells, List.flatMap_cons, List.length_append, List.length_cons] at *; rw [ih]; simp [PresD.cells]; omega
theorem presCells_at (l : List PresD) : ∀ (k : Nat) (hk : k < l.length), (presCells l)[k * 4]? = some (.bool l[k].on) ∧ (presCells l)[k * 4 + 1]? = some (.int .i64 l[k].sh) ∧ (presCells l)[k * 4 + 2]? = some (.int .i64 l[k].prio) ∧ (presCells l)[k * 4 + 3]? = some (.int .i64 l[k].seq) := by
  induction l with
  | nil => intro k hk; simp at hk
  | cons p l ih =>
    intro k hk
    cases k with
    | zero => simp [presCells, PresD.cells]
    | succ k =>
      have := ih k (by simpa using hk)
      have e : ∀ j, (presCells (p :: l))[(k + 1) * 4 + j]? = (presCells l)[k * 4 + j]? := by
        intro j
        have : presCells (p :: l) = p.cells ++ presCells l := rfl
        rw [this, List.getElem?_append_right (by simp [PresD.cells]; omega)]
        congr 1
        simp [PresD.cells]; omega
      have e0 := e 0
      simp only [Nat.add_zero] at e0
      rw [e0, e, e, e]
      exact this
/-- a slice of presences, read at k. -/
theorem Sl.pres {w : World} {B n : Nat} {A : Option Addr} {l : List PresD} (h : Sl w B 4 A n (presCells l)) : n = l.length := by
  have := h.1; rw [presCells_len] at this; omega
theorem Sl.pres_at {w : World} {B n : Nat} {A : Option Addr} {l : List PresD} (h : Sl w B 4 A n (presCells l)) {k : Nat} (hk : k < l.length) :
    ∃ b o, A = some ⟨b, o, none⟩ ∧ b < B ∧ ∀ i, (hi : i < l.length) → w.cell? ⟨b, o + i * 4, none⟩ = some (.bool l[i].on) ∧ w.cell? ⟨b, o + i * 4 + 1, none⟩ = some (.int .i64 l[i].sh) ∧ w.cell? ⟨b, o + i * 4 + 2, none⟩ = some (.int .i64 l[i].prio) ∧ w.cell? ⟨b, o + i * 4 + 3, none⟩ = some (.int .i64 l[i].seq) := by
  have hn := h.pres
  obtain ⟨b, o, e, hb, hc⟩ := h.2 (by omega)
  refine ⟨b, o, e, hb, fun i hi => ?_⟩
  obtain ⟨h0, h1, h2, h3⟩ := presCells_at l i hi
  exact ⟨hc _ _ h0, by rw [Nat.add_assoc]; exact hc _ _ h1, by rw [Nat.add_assoc]; exact hc _ _ h2, by rw [Nat.add_assoc]; exact hc _ _ h3⟩
/-- the state of Best behind the first k: -/
def bestTo (l : List PresD) : Nat → Int
  | 0 => -1
  | k + 1 => let b := bestTo l k; let p := l.getD k ⟨false, 0, 0, 0⟩
    if p.on = true ∧ (b < 0 ∨ betterL p (l.getD b.toNat ⟨false, 0, 0, 0⟩) = true) then k else b
theorem bestTo_bd (l : List PresD) (k : Nat) : -1 ≤ bestTo l k ∧ bestTo l k < k ∨ k = 0 ∧ bestTo l k = -1 := by
  induction k with
  | zero => exact .inr ⟨rfl, rfl⟩
  | succ k ih => left; simp only [bestTo]; split <;> omega
set_option maxHeartbeats 400000 in
theorem best_c (A : Option Addr) (n cap : Nat) (l : List PresD) (w : World) (h : Sl w w.heap.size 4 A n (presCells l)) (hn : n ≤ 1000) (hcap : n ≤ cap) :
    Calls Try.prog 19 #[.slice A n cap] w (Ret w (.int .i64 (bestTo l l.length))) := by
  have hnl := h.pres
  have H := Lib.hid h
  have HN := Lib.hid hnl
  clear h hnl
  go_enter Try.func19, Try.ntmps19
  go_wp2
  go_loopw [3, 4, 5, 8] (fun b _ _ i wr => ∃ k : Nat, k ≤ n ∧ i = .int .i64 k ∧ b = .int .i64 (bestTo l k) ∧ Below w.heap.size w wr) (fun _ _ _ i _ => n - (intOf i).toNat)
  case atStart => exact ⟨0, Nat.zero_le _, rfl, rfl, Below.refl _ _⟩
  case round =>
    obtain ⟨k, hk, rfl, rfl, hB⟩ := hrel
    by_cases hlt : k < n
    · obtain ⟨b, o, rfl, hb, hc⟩ := Sl.pres_at ((H.out).below hB (Nat.le_refl _)) (k := k) (by rw [← HN.out]; exact hlt)
      have hkl : k < l.length := by rw [← HN.out]; exact hlt
      have hck := hc k hkl
      have hstep : bestTo l (k + 1) = if l[k].on = true ∧ (bestTo l k < 0 ∨ betterL l[k] (l.getD (bestTo l k).toNat ⟨false, 0, 0, 0⟩) = true) then (k : Int) else bestTo l k := by
        simp [bestTo, hkl]
      have hbd := bestTo_bd l k
      have hbd' : -1 ≤ bestTo l k ∧ bestTo l k < n := by have := HN.out; omega
      clear hbd
      obtain ⟨p, hp⟩ : ∃ p, p = l[k] := ⟨_, rfl⟩
      rw [← hp] at hck hstep
      clear hp
      obtain ⟨on, sh, pr, sq⟩ := p
      obtain ⟨c0, c1, c2, c3⟩ := hck
      obtain ⟨bt, hbt⟩ : ∃ bt, bestTo l k = bt := ⟨_, rfl⟩
      rw [hbt] at hstep hbd' ⊢
      have HS := Lib.hid hstep
      have HBT := Lib.hid hbt
      clear hstep hbt
      cases on with
      | false =>
        clear hc
        go_wp2
        go_quiet (fail)
        go_wp2
        have hs := HS.out
        rw [if_neg (by simp)] at hs
        exact ⟨⟨k + 1, by omega, by go_num, by rw [hs], (by (with_reducible repeat (first | assumption | exact Below.refl _ _ | (refine below_alloc ?_ _) | (refine Below.setCell ?_ (by first | exact Nat.le_refl _ | (simp; done) | (simp at *; omega)) _) | (refine below_drewN ?_ _) | (refine Below.drew ?_))))⟩, by simp [intOf]; omega⟩
      | true =>
        by_cases hz : bt = -1
        · subst hz
          clear hc
          go_wp2
          go_quiet (fail)
          go_wp2
          have hs := HS.out
          rw [if_pos (by simp)] at hs
          exact ⟨⟨k + 1, by omega, by go_num, by rw [hs], (by (with_reducible repeat (first | assumption | exact Below.refl _ _ | (refine below_alloc ?_ _) | (refine Below.setCell ?_ (by first | exact Nat.le_refl _ | (simp; done) | (simp at *; omega)) _) | (refine below_drewN ?_ _) | (refine Below.drew ?_))))⟩, by simp [intOf]; omega⟩
        · obtain ⟨m, rfl⟩ := Int.eq_ofNat_of_zero_le (a := bt) (by omega)
          have hmm : m < l.length := by have := HN.out; omega
          obtain ⟨d0, d1, d2, d3⟩ := hc m hmm
          clear hc
          have hz' : ((m : Int) == -1) = false := by simp
          have hml : (m : Int) < n := by rw [HN.out]; omega
          go_wp2
          go_region_held3 (fun w' => Below w.heap.size w w' ∧ wr.heap.size < w'.heap.size ∧ w'.cell? ⟨wr.heap.size, 0, none⟩ = some (.bool true) ∧ w'.cell? ⟨wr.heap.size, 1, none⟩ = some (.int .i64 sh) ∧ w'.cell? ⟨wr.heap.size, 2, none⟩ = some (.int .i64 pr) ∧ w'.cell? ⟨wr.heap.size, 3, none⟩ = some (.int .i64 sq) ∧ w'.cell? ⟨b, o + m * 4, none⟩ = some (.bool l[m].on) ∧ w'.cell? ⟨b, o + m * 4 + 1, none⟩ = some (.int .i64 l[m].sh) ∧ w'.cell? ⟨b, o + m * 4 + 2, none⟩ = some (.int .i64 l[m].prio) ∧ w'.cell? ⟨b, o + m * 4 + 3, none⟩ = some (.int .i64 l[m].seq)) (first | (refine ⟨(by (with_reducible repeat (first | assumption | exact Below.refl _ _ | (refine below_alloc ?_ _) | (refine Below.setCell ?_ (by first | exact Nat.le_refl _ | (simp; done) | (simp at *; omega)) _) | (refine below_drewN ?_ _) | (refine Below.drew ?_)))), by first | exact Nat.lt_succ_self _ | (simp; done), ?_⟩; go_keep) | (obtain ⟨hx0, hx1, hx2⟩ := (‹Below w.heap.size w _ ∧ wr.heap.size < _ ∧ _›); have hbx := Nat.lt_of_lt_of_le hb hx0.size; obtain ⟨hc1, _⟩ := bcell hb1; exact ⟨below_then hx0 hb1, Nat.lt_of_lt_of_le hx1 hb1.size, by simp only [hc1, hx1, hbx]; exact hx2⟩)) (first | (go_at_call 17; refine (better_c _ _ _ _ _ _ _ _ _).mono ?_; rintro e w' ⟨rfl, hb1⟩))
          obtain ⟨hx0, hx1, hx2⟩ := (‹Below w.heap.size w _ ∧ wr.heap.size < _ ∧ _›)
          clear hx2
          have hs := HS.out
          have hg : l.getD (m : Int).toNat ⟨false, 0, 0, 0⟩ = ⟨l[m].on, l[m].sh, l[m].prio, l[m].seq⟩ := by simp [hmm]
          rw [hg] at hs
          obtain ⟨bb, hbb⟩ : ∃ bb, betterL ⟨true, sh, pr, sq⟩ ⟨l[m].on, l[m].sh, l[m].prio, l[m].seq⟩ = bb := ⟨_, rfl⟩
          rw [hbb] at hs ⊢
          clear HS hg hbb d0 d1 d2 d3 c0 c1 c2 c3
          cases bb with
          | true =>
            rw [if_pos (by simp)] at hs
            have HS := Lib.hid hs
            clear hs
            go_wp2
            exact ⟨⟨k + 1, by omega, by go_num, by rw [HS.out], (by (with_reducible repeat (first | assumption | exact Below.refl _ _ | (refine below_alloc ?_ _) | (refine Below.setCell ?_ (by first | exact Nat.le_refl _ | (simp; done) | (simp at *; omega)) _) | (refine below_drewN ?_ _) | (refine Below.drew ?_))))⟩, by simp [intOf]; omega⟩
          | false =>
            rw [if_neg (by simp)] at hs
            have HS := Lib.hid hs
            clear hs
            go_wp2
            exact ⟨⟨k + 1, by omega, by go_num, by rw [HS.out], (by (with_reducible repeat (first | assumption | exact Below.refl _ _ | (refine below_alloc ?_ _) | (refine Below.setCell ?_ (by first | exact Nat.le_refl _ | (simp; done) | (simp at *; omega)) _) | (refine below_drewN ?_ _) | (refine Below.drew ?_))))⟩, by simp [intOf]; omega⟩
    · have hkn : k = l.length := by have := HN.out; omega
      have HK := Lib.hid hkn
      clear hkn
      go_wp2
      go_ret
      exact ⟨ret_i (by rw [HK.out]), hB⟩
end Go.Proofs.Ytljeinlapkgjeaa
/- pres, callboyref23, callboylaw23: the last one; the references' best and last; a copy of a slice of presences. -/
namespace Go.Proofs.Ytljeinlapkgjeaa
open Go.RowKit
theorem Try.infoPres : (Try.prog.info? 26).map (fun i => (i.zero, i.size, i.bytes)) = some (some (.agg #[.bool false, .int .i64 0, .int .i64 0, .int .i64 0]), 4, 32) := by kernel_rfl
theorem presCells_snoc (l : List PresD) (k : Nat) (hk : k < l.length) : presCells (l.take (k + 1)) = presCells (l.take k) ++ (l[k]).cells := by
  rw [List.take_succ_eq_append_getElem hk]; unfold presCells; rw [List.flatMap_append]; simp
theorem agg_oneCell4 (b : Bool) (x y z : Int) : ∀ u ∈ (#[Value.bool b, .int .i64 x, .int .i64 y, .int .i64 z] : Array Value).toList, u.oneCell' = true := by
  intro u hu; simp at hu; rcases hu with rfl | rfl | rfl | rfl <;> rfl
set_option maxHeartbeats 400000 in
theorem own23_c (A : Option Addr) (n cap : Nat) (l : List PresD) (w : World) (h : Sl w w.heap.size 4 A n (presCells l)) (hn : n ≤ 1000) (hcap : n ≤ cap) :
    Calls Try.prog 20 #[.slice A n cap] w (RetSl w 26 4 l.length (presCells l)) := by
  have hnl := h.pres
  have H := Lib.hid h
  have HN := Lib.hid hnl
  clear h hnl
  obtain ⟨i0, hi, hz0, hz1, hz2⟩ := info_parts Try.infoPres
  go_enter Try.func20, Try.ntmps20
  go_wp2
  go_loopw [3, 4] (fun v i wr => ∃ k : Nat, k ≤ n ∧ i = .int .i64 k ∧ (∃ A' c', v = .slice A' k c' ∧ wr.ownsRow w.heap.size 26 4 v k (presCells (l.take k))) ∧ Below w.heap.size w wr) (fun _ i _ => n - (intOf i).toNat)
  case atStart => exact ⟨0, Nat.zero_le _, rfl, ⟨none, 0, rfl, World.ownsRow_nil _ _ _ _⟩, Below.refl _ _⟩
  case round =>
    obtain ⟨k, hk, rfl, ⟨A', c', rfl, hown⟩, hB⟩ := hrel
    by_cases hlt : k < n
    · have hkl : k < l.length := by rw [← HN.out]; exact hlt
      obtain ⟨b, o, rfl, hb, hc⟩ := Sl.pres_at ((H.out).below hB (Nat.le_refl _)) hkl
      obtain ⟨c0, c1, c2, c3⟩ := hc k hkl
      have HO := Lib.hid hown
      have hB' := Lib.hid hB.size
      have HS := Lib.hid (presCells_snoc l k hkl)
      clear hc
      go_wp2_with (at_builtin; refine append_new rfl _ _ 33 rfl w.heap.size 26 i0 _ 4 32 Try.underlying33 hi hz0 hz1 hz2 rfl (by decide) _ k _ rfl hown _ rfl rfl (agg_oneCell4 _ _ _ _) (by omega) (by decide) hB'.out ?_; intro A2 c2' w2 hown2 hg2 hB2)
      exact ⟨⟨k + 1, by omega, by go_num, ⟨A2, c2', rfl, by rw [HS.out]; exact hown2⟩, hB.trans hB2⟩, by simp [intOf]; omega⟩
    · have hkn : k = l.length := by have := HN.out; omega
      have HK := Lib.hid hkn
      clear hkn
      go_wp2
      go_ret
      refine ⟨A', c', by rw [← HK.out]; rfl, ?_, hB⟩
      have := hown
      rw [HK.out] at this
      simpa using this
def lastTo (l : List PresD) : Nat → PresD
  | 0 => ⟨false, 0, 0, 0⟩
  | k + 1 => let p := l.getD k ⟨false, 0, 0, 0⟩; if k = 0 ∨ newerL p (lastTo l k) = true then p else lastTo l k
def PresD.arr (p : PresD) : Array Value := #[.bool p.on, .int .i64 p.sh, .int .i64 p.prio, .int .i64 p.seq]
set_option maxHeartbeats 400000 in
theorem last_c (A : Option Addr) (n cap : Nat) (l : List PresD) (w : World) (h : Sl w w.heap.size 4 A n (presCells l)) (hn : n ≤ 1000) (hcap : n ≤ cap) :
    Calls Try.prog 22 #[.slice A n cap] w (Ret w (.agg (lastTo l l.length).arr)) := by
  have hnl := h.pres
  have H := Lib.hid h
  have HN := Lib.hid hnl
  clear h hnl
  go_enter Try.func22, Try.ntmps22
  go_wp2
  go_loopw [4, 5, 8] (fun _ _ i wr => ∃ k : Nat, k ≤ n ∧ i = .int .i64 k ∧ Bk wr w.heap.size 26 (PresD.arr ⟨false, 0, 0, 0⟩) ∧ Bk wr (w.heap.size + 1) 26 (lastTo l k).arr ∧ Below w.heap.size w wr) (fun _ _ i _ => n - (intOf i).toNat)
  case atStart => exact ⟨0, Nat.zero_le _, rfl, (Bk.new _ _ _).alloc _, by have := Bk.new (w.alloc (.cells (PresD.arr ⟨false, 0, 0, 0⟩) 26)) 26 (PresD.arr ⟨false, 0, 0, 0⟩); rwa [World.size_alloc] at this, (by (with_reducible repeat (first | assumption | exact Below.refl _ _ | (refine below_alloc ?_ _) | (refine Below.setCell ?_ (by first | exact Nat.le_refl _ | (simp; done) | (simp at *; omega)) _) | (refine below_drewN ?_ _) | (refine Below.drew ?_))))⟩
  case round =>
    obtain ⟨k, hk, rfl, hb1, hb2, hB⟩ := hrel
    have c10 := hb1.cell 0
    have c11 := hb1.cell 1
    have c12 := hb1.cell 2
    have c13 := hb1.cell 3
    have c20 := hb2.cell 0
    have c21 := hb2.cell 1
    have c22 := hb2.cell 2
    have c23 := hb2.cell 3
    have f1 := hb1.frozen
    have f2 := hb2.frozen
    have hl2 := hb2.lt
    have hl1 := hb1.lt
    have hne : w.heap.size ≠ w.heap.size + 1 := by omega
    simp only [PresD.arr, List.getElem?_toArray, List.getElem?_cons_zero, List.getElem?_cons_succ] at c10 c11 c12 c13 c20 c21 c22 c23
    by_cases hlt : k < n
    · have hkl : k < l.length := by rw [← HN.out]; exact hlt
      obtain ⟨b, o, rfl, hb, hc⟩ := Sl.pres_at ((H.out).below hB (Nat.le_refl _)) hkl
      obtain ⟨c0, c1, c2, c3⟩ := hc k hkl
      clear hc
      have hstep : lastTo l (k + 1) = if k = 0 ∨ newerL l[k] (lastTo l k) = true then l[k] else lastTo l k := by simp [lastTo, hkl]
      have HS := Lib.hid hstep
      clear hstep
      obtain ⟨bb, hbb⟩ : ∃ bb, newerL ⟨l[k].on, l[k].sh, l[k].prio, l[k].seq⟩ ⟨(lastTo l k).on, (lastTo l k).sh, (lastTo l k).prio, (lastTo l k).seq⟩ = bb := ⟨_, rfl⟩
      have hbb' : newerL l[k] (lastTo l k) = bb := hbb
      have HB := Lib.hid hbb
      have HB' := Lib.hid hbb'
      have Hb2 := Lib.hid hb2
      clear hbb hbb' hb2
      by_cases hk0 : k = 0
      · have hz' : ((k : Int) == 0) = true := by simp [hk0]
        have HK0 := Lib.hid hk0
        clear hk0
        go_wp2
        exact ⟨⟨k + 1, by omega, by go_num, (by (with_reducible repeat (first | assumption | (refine Bk.alloc ?_ _) | (refine Bk.drewN ?_ _) | (refine Bk.drew ?_) | (refine Bk.then ?_ (by assumption)) | (refine Bk.far ?_ (by first | assumption | (simp; done) | (simp; omega)) _)))), by rw [HS.out, if_pos (.inl HK0.out)]; exact (Bk.set4 Hb2.out _ _ _ _).alloc _, (by (with_reducible repeat (first | assumption | exact Below.refl _ _ | (refine below_alloc ?_ _) | (refine Below.setCell ?_ (by first | exact Nat.le_refl _ | (simp; done) | (simp at *; omega)) _) | (refine below_drewN ?_ _) | (refine Below.drew ?_))))⟩, by simp [intOf]; omega⟩
      · have hz' : ((k : Int) == 0) = false := by simp; omega
        go_wp2_with (go_at_call 15; (with_reducible refine (newer_c _ _ _ _ _ _ _ _ _).mono ?_); rintro e w1 ⟨rfl, hcb1⟩; obtain ⟨hcc1, hcf1⟩ := bcell hcb1; have hcz1 := hcb1.size; have hcB1 : Below w.heap.size w w1 := below_then (by (with_reducible repeat (first | assumption | exact Below.refl _ _ | (refine below_alloc ?_ _) | (refine Below.setCell ?_ (by first | exact Nat.le_refl _ | (simp; done) | (simp at *; omega)) _) | (refine below_drewN ?_ _) | (refine Below.drew ?_)))) hcb1)
        · have hv : newerL l[k] (lastTo l k) = true := by assumption
          exact ⟨⟨k + 1, by omega, by go_num, ((((((hb1.alloc _).then hcb1).far hne _).far hne _).far hne _).far hne _), by rw [HS.out, if_pos (.inr hv)]; exact Bk.set4 ((Hb2.out.alloc _).then hcb1) _ _ _ _, (by (with_reducible repeat (first | assumption | exact Below.refl _ _ | (refine below_alloc ?_ _) | (refine Below.setCell ?_ (by first | exact Nat.le_refl _ | (simp; done) | (simp at *; omega)) _) | (refine below_drewN ?_ _) | (refine Below.drew ?_))))⟩, by simp [intOf]; omega⟩
        · have hv : newerL l[k] (lastTo l k) = false := by assumption
          exact ⟨⟨k + 1, by omega, by go_num, (hb1.alloc _).then hcb1, by rw [HS.out, if_neg (by rw [hv]; simp [hk0])]; exact (Hb2.out.alloc _).then hcb1, (by (with_reducible repeat (first | assumption | exact Below.refl _ _ | (refine below_alloc ?_ _) | (refine Below.setCell ?_ (by first | exact Nat.le_refl _ | (simp; done) | (simp at *; omega)) _) | (refine below_drewN ?_ _) | (refine Below.drew ?_))))⟩, by simp [intOf]; omega⟩
    · have hkn : k = l.length := by have := HN.out; omega
      have HK := Lib.hid hkn
      clear hkn
      go_wp2
      refine bodyPost_ret (v := .agg (lastTo l k).arr) (by simp [results, Try.results22, go_sem, PresD.arr, *]) rfl ⟨by rw [HK.out], (by (with_reducible repeat (first | assumption | exact Below.refl _ _ | (refine below_alloc ?_ _) | (refine Below.setCell ?_ (by first | exact Nat.le_refl _ | (simp; done) | (simp at *; omega)) _) | (refine below_drewN ?_ _) | (refine Below.drew ?_))))⟩
end Go.Proofs.Ytljeinlapkgjeaa
/- callboyref23: the best and the last of many. -/
namespace Go.Proofs.Ytljeinlapkgjeaa
open Go.RowKit
set_option maxHeartbeats 400000 in
theorem refBest_c (A : Option Addr) (n cap : Nat) (l : List PresD) (w : World) (h : Sl w w.heap.size 4 A n (presCells l)) (hn : n ≤ 1000) (hcap : n ≤ cap) :
    Calls Try.prog 21 #[.slice A n cap] w (Ret w (.int .i64 (bestTo l l.length))) := by
  have hnl := h.pres
  have H := Lib.hid h
  have HN := Lib.hid hnl
  clear h hnl
  go_enter Try.func21, Try.ntmps21
  go_wp2
  go_loopw [3, 4] (fun b i wr => ∃ k : Nat, k ≤ n ∧ i = .int .i64 k ∧ b = .int .i64 (bestTo l k) ∧ Below w.heap.size w wr) (fun _ i _ => n - (intOf i).toNat)
  case atStart => exact ⟨0, Nat.zero_le _, rfl, rfl, Below.refl _ _⟩
  case round =>
    obtain ⟨k, hk, rfl, rfl, hB⟩ := hrel
    by_cases hlt : k < n
    · obtain ⟨b, o, rfl, hb, hc⟩ := Sl.pres_at ((H.out).below hB (Nat.le_refl _)) (k := k) (by rw [← HN.out]; exact hlt)
      have hkl : k < l.length := by rw [← HN.out]; exact hlt
      have hck := hc k hkl
      have hstep : bestTo l (k + 1) = if l[k].on = true ∧ (bestTo l k < 0 ∨ betterL l[k] (l.getD (bestTo l k).toNat ⟨false, 0, 0, 0⟩) = true) then (k : Int) else bestTo l k := by
        simp [bestTo, hkl]
      have hbd := bestTo_bd l k
      have hbd' : -1 ≤ bestTo l k ∧ bestTo l k < n := by have := HN.out; omega
      clear hbd
      obtain ⟨p, hp⟩ : ∃ p, p = l[k] := ⟨_, rfl⟩
      rw [← hp] at hck hstep
      clear hp
      obtain ⟨on, sh, pr, sq⟩ := p
      obtain ⟨c0, c1, c2, c3⟩ := hck
      obtain ⟨bt, hbt⟩ : ∃ bt, bestTo l k = bt := ⟨_, rfl⟩
      rw [hbt] at hstep hbd' ⊢
      have HS := Lib.hid hstep
      have HBT := Lib.hid hbt
      clear hstep hbt
      cases on with
      | false =>
        clear hc
        go_wp2
        go_quiet (fail)
        go_wp2
        have hs := HS.out
        rw [if_neg (by simp)] at hs
        exact ⟨⟨k + 1, by omega, by go_num, by rw [hs], (by (with_reducible repeat (first | assumption | exact Below.refl _ _ | (refine below_alloc ?_ _) | (refine Below.setCell ?_ (by first | exact Nat.le_refl _ | (simp; done) | (simp at *; omega)) _) | (refine below_drewN ?_ _) | (refine Below.drew ?_))))⟩, by simp [intOf]; omega⟩
      | true =>
        by_cases hz : bt = -1
        · subst hz
          clear hc
          go_wp2
          go_quiet (fail)
          go_wp2
          have hs := HS.out
          rw [if_pos (by simp)] at hs
          exact ⟨⟨k + 1, by omega, by go_num, by rw [hs], (by (with_reducible repeat (first | assumption | exact Below.refl _ _ | (refine below_alloc ?_ _) | (refine Below.setCell ?_ (by first | exact Nat.le_refl _ | (simp; done) | (simp at *; omega)) _) | (refine below_drewN ?_ _) | (refine Below.drew ?_))))⟩, by simp [intOf]; omega⟩
        · obtain ⟨m, rfl⟩ := Int.eq_ofNat_of_zero_le (a := bt) (by omega)
          have hmm : m < l.length := by have := HN.out; omega
          obtain ⟨d0, d1, d2, d3⟩ := hc m hmm
          clear hc
          have hz' : decide ((m : Int) < 0) = false := by simp
          have hml : (m : Int) < n := by rw [HN.out]; omega
          go_wp2
          go_region_held3 (fun w' => Below w.heap.size w w' ∧ w'.cell? ⟨b, o + k * 4, none⟩ = some (.bool true) ∧ w'.cell? ⟨b, o + k * 4 + 1, none⟩ = some (.int .i64 sh) ∧ w'.cell? ⟨b, o + k * 4 + 2, none⟩ = some (.int .i64 pr) ∧ w'.cell? ⟨b, o + k * 4 + 3, none⟩ = some (.int .i64 sq) ∧ w'.cell? ⟨b, o + m * 4, none⟩ = some (.bool l[m].on) ∧ w'.cell? ⟨b, o + m * 4 + 1, none⟩ = some (.int .i64 l[m].sh) ∧ w'.cell? ⟨b, o + m * 4 + 2, none⟩ = some (.int .i64 l[m].prio) ∧ w'.cell? ⟨b, o + m * 4 + 3, none⟩ = some (.int .i64 l[m].seq)) (first | (refine ⟨(by (with_reducible repeat (first | assumption | exact Below.refl _ _ | (refine below_alloc ?_ _) | (refine Below.setCell ?_ (by first | exact Nat.le_refl _ | (simp; done) | (simp at *; omega)) _) | (refine below_drewN ?_ _) | (refine Below.drew ?_)))), ?_⟩; go_keep) | (obtain ⟨hx0, hx2⟩ := (‹Below w.heap.size w _ ∧ _›); have hbx := Nat.lt_of_lt_of_le hb hx0.size; obtain ⟨hc1, _⟩ := bcell hb1; exact ⟨below_then hx0 hb1, by simp only [hc1, hbx]; exact hx2⟩)) (first | (go_at_call 18; refine (refBetter_c _ _ _ _ _ _ _ _ _).mono ?_; rintro e w' ⟨rfl, hb1⟩))
          obtain ⟨hx0, hx2⟩ := (‹Below w.heap.size w _ ∧ _›)
          clear hx2
          have hs := HS.out
          have hg : l.getD (m : Int).toNat ⟨false, 0, 0, 0⟩ = ⟨l[m].on, l[m].sh, l[m].prio, l[m].seq⟩ := by simp [hmm]
          rw [hg] at hs
          obtain ⟨bb, hbb⟩ : ∃ bb, betterL ⟨true, sh, pr, sq⟩ ⟨l[m].on, l[m].sh, l[m].prio, l[m].seq⟩ = bb := ⟨_, rfl⟩
          rw [hbb] at hs ⊢
          clear HS hg hbb d0 d1 d2 d3 c0 c1 c2 c3
          cases bb with
          | true =>
            rw [if_pos (by simp)] at hs
            have HS := Lib.hid hs
            clear hs
            go_wp2
            exact ⟨⟨k + 1, by omega, by go_num, by rw [HS.out], (by (with_reducible repeat (first | assumption | exact Below.refl _ _ | (refine below_alloc ?_ _) | (refine Below.setCell ?_ (by first | exact Nat.le_refl _ | (simp; done) | (simp at *; omega)) _) | (refine below_drewN ?_ _) | (refine Below.drew ?_))))⟩, by simp [intOf]; omega⟩
          | false =>
            rw [if_neg (by simp)] at hs
            have HS := Lib.hid hs
            clear hs
            go_wp2
            exact ⟨⟨k + 1, by omega, by go_num, by rw [HS.out], (by (with_reducible repeat (first | assumption | exact Below.refl _ _ | (refine below_alloc ?_ _) | (refine Below.setCell ?_ (by first | exact Nat.le_refl _ | (simp; done) | (simp at *; omega)) _) | (refine below_drewN ?_ _) | (refine Below.drew ?_))))⟩, by simp [intOf]; omega⟩
    · have hkn : k = l.length := by have := HN.out; omega
      have HK := Lib.hid hkn
      clear hkn
      go_wp2
      go_ret
      exact ⟨ret_i (by rw [HK.out]), hB⟩
set_option maxHeartbeats 400000 in
theorem refLast0_c (A : Option Addr) (cap : Nat) (w : World) :
    Calls Try.prog 23 #[.slice A 0 cap] w (Ret w (.agg (PresD.arr ⟨false, 0, 0, 0⟩))) := by
  go_enter Try.func23, Try.ntmps23
  go_wp2
  refine bodyPost_ret (v := .agg (PresD.arr ⟨false, 0, 0, 0⟩)) (by simp [results, Try.results23, go_sem, PresD.arr]) rfl ⟨rfl, (by (with_reducible repeat (first | assumption | exact Below.refl _ _ | (refine below_alloc ?_ _) | (refine Below.setCell ?_ (by first | exact Nat.le_refl _ | (simp; done) | (simp at *; omega)) _) | (refine below_drewN ?_ _) | (refine Below.drew ?_))))⟩
set_option maxHeartbeats 400000 in
theorem refLast_c (A : Option Addr) (n cap : Nat) (l : List PresD) (w : World) (h : Sl w w.heap.size 4 A n (presCells l)) (hn : n ≤ 1000) (hcap : n ≤ cap) (hn0 : 0 < n) :
    Calls Try.prog 23 #[.slice A n cap] w (Ret w (.agg (lastTo l l.length).arr)) := by
  have hnl := h.pres
  have h0l : 0 < l.length := by omega
  obtain ⟨b, o, rfl, hb, hc⟩ := h.pres_at h0l
  obtain ⟨c0, c1, c2, c3⟩ := hc 0 h0l
  simp only [Nat.zero_mul, Nat.add_zero] at c0 c1 c2 c3
  have H := Lib.hid h
  have HN := Lib.hid hnl
  have hz : ((n : Int) == 0) = false := by simp; omega
  have h1 : lastTo l 1 = l[0] := by simp [lastTo, h0l]
  have H1 := Lib.hid h1
  clear h hnl hc h1
  go_enter Try.func23, Try.ntmps23
  go_wp2
  clear c0 c1 c2 c3
  go_loopw [4] (fun i wr => ∃ k : Nat, 1 ≤ k ∧ k ≤ n ∧ i = .int .i64 k ∧ Bk wr w.heap.size 23 (PresD.arr ⟨false, 0, 0, 0⟩) ∧ Bk wr (w.heap.size + 1) 23 (lastTo l k).arr ∧ Below w.heap.size w wr) (fun i _ => n - (intOf i).toNat)
  case atStart =>
    refine ⟨1, Nat.le_refl _, hn0, rfl, (Bk.new _ _ _).alloc _, ?_, (by (with_reducible repeat (first | assumption | exact Below.refl _ _ | (refine below_alloc ?_ _) | (refine Below.setCell ?_ (by first | exact Nat.le_refl _ | (simp; done) | (simp at *; omega)) _) | (refine below_drewN ?_ _) | (refine Below.drew ?_))))⟩
    rw [H1.out]
    have := Bk.new (w.alloc (.cells (PresD.arr ⟨false, 0, 0, 0⟩) 23)) 23 (PresD.arr l[0])
    rwa [World.size_alloc] at this
  case round =>
    obtain ⟨k, hk1, hk, rfl, hb1, hb2, hB⟩ := hrel
    have c10 := hb1.cell 0
    have c11 := hb1.cell 1
    have c12 := hb1.cell 2
    have c13 := hb1.cell 3
    have c20 := hb2.cell 0
    have c21 := hb2.cell 1
    have c22 := hb2.cell 2
    have c23 := hb2.cell 3
    have f1 := hb1.frozen
    have f2 := hb2.frozen
    have hl2 := hb2.lt
    have hl1 := hb1.lt
    have hne : w.heap.size ≠ w.heap.size + 1 := by omega
    simp only [PresD.arr, List.getElem?_toArray, List.getElem?_cons_zero, List.getElem?_cons_succ] at c10 c11 c12 c13 c20 c21 c22 c23
    by_cases hlt : k < n
    · have hkl : k < l.length := by rw [← HN.out]; exact hlt
      obtain ⟨_, _, he, _, hc⟩ := Sl.pres_at ((H.out).below hB (Nat.le_refl _)) hkl
      obtain ⟨rfl, rfl⟩ : b = _ ∧ o = _ := by injection he with he; injection he with he1 he2; exact ⟨he1, he2⟩
      obtain ⟨c0, c1, c2, c3⟩ := hc k hkl
      clear hc he
      have hstep : lastTo l (k + 1) = if k = 0 ∨ newerL l[k] (lastTo l k) = true then l[k] else lastTo l k := by simp [lastTo, hkl]
      have HS := Lib.hid hstep
      clear hstep
      have hbw : b < wr.heap.size := Nat.lt_of_lt_of_le hb hB.size
      go_wp2
      go_region_held3 (fun w' => Below w.heap.size w w' ∧ Bk w' w.heap.size 23 (PresD.arr ⟨false, 0, 0, 0⟩) ∧ Bk w' (w.heap.size + 1) 23 (lastTo l k).arr ∧ w'.cell? ⟨w.heap.size + 1, 0, none⟩ = some (.bool (lastTo l k).on) ∧ w'.cell? ⟨w.heap.size + 1, 1, none⟩ = some (.int .i64 (lastTo l k).sh) ∧ w'.cell? ⟨w.heap.size + 1, 2, none⟩ = some (.int .i64 (lastTo l k).prio) ∧ w'.cell? ⟨w.heap.size + 1, 3, none⟩ = some (.int .i64 (lastTo l k).seq) ∧ w'.cell? ⟨b, o + k * 4, none⟩ = some (.bool l[k].on) ∧ w'.cell? ⟨b, o + k * 4 + 1, none⟩ = some (.int .i64 l[k].sh) ∧ w'.cell? ⟨b, o + k * 4 + 2, none⟩ = some (.int .i64 l[k].prio) ∧ w'.cell? ⟨b, o + k * 4 + 3, none⟩ = some (.int .i64 l[k].seq)) (first | (refine ⟨(by (with_reducible repeat (first | assumption | exact Below.refl _ _ | (refine below_alloc ?_ _) | (refine Below.setCell ?_ (by first | exact Nat.le_refl _ | (simp; done) | (simp at *; omega)) _) | (refine below_drewN ?_ _) | (refine Below.drew ?_)))), hb1.drew, hb2.drew, ?_⟩; go_keep) | (obtain ⟨hx0, hxa, hxb, hx2⟩ := (‹Below w.heap.size w _ ∧ _ ∧ _ ∧ _›); have hbx := Nat.lt_of_lt_of_le hb hx0.size; have hby := hxb.lt; obtain ⟨hc1, _⟩ := bcell hbn; exact ⟨below_then hx0 hbn, hxa.then hbn, hxb.then hbn, by simp only [hc1, hbx, hby]; exact hx2⟩)) (first | (go_at_call 16; refine (refNewer_c _ _ _ _ _ _ _ _ _).mono ?_; rintro e w' ⟨rfl, hbn⟩))
      obtain ⟨hx0, hxa, hxb, d0, d1, d2, d3, e0, e1, e2, e3⟩ := (‹Below w.heap.size w _ ∧ _ ∧ _ ∧ _›)
      have g2 := hxb.frozen
      have hl3 := hxb.lt
      go_wp2
      · have hv : newerL l[k] (lastTo l k) = true := by assumption
        exact ⟨⟨k + 1, by omega, by omega, by go_num, (((hxa.far hne _).far hne _).far hne _).far hne _, by rw [HS.out, if_pos (.inr hv)]; exact Bk.set4 hxb _ _ _ _, (by (with_reducible repeat (first | assumption | exact Below.refl _ _ | (refine below_alloc ?_ _) | (refine Below.setCell ?_ (by first | exact Nat.le_refl _ | (simp; done) | (simp at *; omega)) _) | (refine below_drewN ?_ _) | (refine Below.drew ?_))))⟩, by simp [intOf]; omega⟩
      · have hv : newerL l[k] (lastTo l k) = false := by assumption
        exact ⟨⟨k + 1, by omega, by omega, by go_num, hxa, by rw [HS.out, if_neg (by rw [hv]; simp; omega)]; exact hxb, (by (with_reducible repeat (first | assumption | exact Below.refl _ _ | (refine below_alloc ?_ _) | (refine Below.setCell ?_ (by first | exact Nat.le_refl _ | (simp; done) | (simp at *; omega)) _) | (refine below_drewN ?_ _) | (refine Below.drew ?_))))⟩, by simp [intOf]; omega⟩
    · have hkn : k = l.length := by have := HN.out; omega
      have HK := Lib.hid hkn
      clear hkn
      go_wp2
      refine bodyPost_ret (v := .agg (lastTo l k).arr) (by simp [results, Try.results23, go_sem, PresD.arr, *]) rfl ⟨by rw [HK.out], (by (with_reducible repeat (first | assumption | exact Below.refl _ _ | (refine below_alloc ?_ _) | (refine Below.setCell ?_ (by first | exact Nat.le_refl _ | (simp; done) | (simp at *; omega)) _) | (refine below_drewN ?_ _) | (refine Below.drew ?_))))⟩
end Go.Proofs.Ytljeinlapkgjeaa
/- Contracts that were proved by the kit's walk, said in the abstract. -/
namespace Go.Proofs.Ytljeinlapkgjeaa
open Go.RowKit
theorem callsV_old {P : Program} {f : FuncId} {args : List V} {rv : V} {v : Value} (cs : Array Value) (ha : ∀ (m : Mem) (cargs : Array Value), RepA m noBk cargs args → cargs = cs) (hc : ∀ w, ML w → Calls P f cs w (Ret w v)) (hr : ∀ m, Rep m noBk v rv) : CallsV P f args rv := by
  intro m w cargs hg hmem hargs
  obtain rfl := ha m cargs hargs
  obtain ⟨n, hn⟩ := hg
  have hml := hmem _ _ hn
  refine (hc w ⟨by have := cell_lt hml; omega, n, hml⟩).mono ?_
  rintro e w' ⟨rfl, hb⟩
  exact ⟨v, m, rfl, hb, fun a u h => (hb.cell (cell_lt (hmem a u h))).trans (hmem a u h), fun _ _ h => h, fun _ _ h => .inl h, hr m⟩
theorem lits_eq {m : Mem} {cargs : Array Value} : ∀ {vs : List Value}, RepA m noBk cargs (vs.map V.lit) → cargs = vs.toArray := by
  intro vs h
  apply Array.ext
  · have := h.1; simpa using this
  · intro i h1 h2
    have hl : i < (vs.map V.lit).length := by simpa using h2
    have := h.2 i h1 hl
    simp only [List.getElem_map] at this
    rw [this.int]; simp
theorem agg_lits {m : Mem} {bk : Bks} {c : Value} {vs : List Value} (h : Rep m bk c (.agg (vs.map V.lit))) : c = .agg vs.toArray := by
  obtain ⟨ds, rfl, hl, _, h2⟩ := agg_inv h
  congr 1
  apply Array.ext
  · simpa using hl
  · intro i g1 g2
    have hl2 : i < (vs.map V.lit).length := by simpa using g2
    have := h2 i g1 hl2
    simp only [List.getElem_map] at this
    rw [this.int]; simp
theorem ret_of {w : World} {v : Value} {P : Program} {f : FuncId} {cs : Array Value} (h : Calls P f cs w fun e w' => e = .returned v ∧ w = w') : Calls P f cs w (Ret w v) := h.mono fun e w' ⟨h1, h2⟩ => ⟨h1, h2 ▸ Below.refl _ _⟩
theorem tup_lits {m : Mem} {vs : List Value} (h : ∀ v ∈ vs, v.oneCell' = true) : Rep m noBk (.tuple vs.toArray) (.tup (vs.map V.lit)) :=
  .tup (by simp) fun j h1 h2 => by simp only [List.getElem_map, List.getElem_toArray]; exact .lit (h _ (List.getElem_mem _))
theorem isBare_v (s : ByteArray) (hs : s.size ≤ 100000) : CallsV Try.prog 60 [.s s] (.b (isBareL s.data.toList)) :=
  callsV_old #[.string s] (fun _ _ h => lits_eq (vs := [.string s]) h) (fun w hm => isBare_c s w hm hs) fun _ => .lit rfl
theorem refIsBare_v (s : ByteArray) (hs : s.size ≤ 100000) : CallsV Try.prog 62 [.s s] (.b (isBareL s.data.toList)) :=
  callsV_old #[.string s] (fun _ _ h => lits_eq (vs := [.string s]) h) (fun w _ => refIsBare_c s w hs) fun _ => .lit rfl
theorem res_v (s : ByteArray) (hs : s.size ≤ 100000) : CallsV Try.prog 61 [.s s] (.i (resL s.data.toList)) :=
  callsV_old #[.string s] (fun _ _ h => lits_eq (vs := [.string s]) h) (fun w _ => res_c s w hs) fun _ => .lit rfl
theorem refRes_v (s : ByteArray) (hs : s.size ≤ 100000) : CallsV Try.prog 63 [.s s] (.i (resL s.data.toList)) :=
  callsV_old #[.string s] (fun _ _ h => lits_eq (vs := [.string s]) h) (fun w _ => refRes_c s w hs) fun _ => .lit rfl
theorem plain_v (s : ByteArray) (hs : s.size ≤ 100000) : CallsV Try.prog 70 [.s s] (.b (plainL s.data.toList)) :=
  callsV_old #[.string s] (fun _ _ h => lits_eq (vs := [.string s]) h) (fun w _ => plain_c s w (by omega)) fun _ => .lit rfl
theorem cut_v (s : ByteArray) (c : UInt8) (hs : s.size ≤ 100000) : CallsV Try.prog 59 [.s s, .s ⟨#[c]⟩] (.tup [.s (ba (s.data.toList.take (findL s.data.toList c))), .s (ba (s.data.toList.drop (findL s.data.toList c + 1))), .b (decide (findL s.data.toList c < s.data.toList.length))]) :=
  callsV_old #[.string s, .string ⟨#[c]⟩] (fun _ _ h => lits_eq (vs := [.string s, .string ⟨#[c]⟩]) h) (fun w hm => cut_c s c w hm (by omega)) fun _ => tup_lits (vs := [.string _, .string _, .bool _]) (by simp [Value.oneCell'])
abbrev V.u8 (k : UInt8) : V := .lit (.int .u8 k.toNat)
theorem has_v (k : UInt8) : CallsV Try.prog 66 [.u8 k] (.s (ba (hasN k.toNat))) :=
  callsV_old #[.int .u8 k.toNat] (fun _ _ h => lits_eq (vs := [.int .u8 k.toNat]) h) (fun w _ => ret_of (has_c k w)) fun _ => .lit rfl
theorem refHas_v (k : UInt8) : CallsV Try.prog 125 [.u8 k] (.s (ba (hasN k.toNat))) :=
  callsV_old #[.int .u8 k.toNat] (fun _ _ h => lits_eq (vs := [.int .u8 k.toNat]) h) (fun w _ => ret_of (refHas_c k w)) fun _ => .lit rfl
theorem known_v (k : UInt8) : CallsV Try.prog 67 [.u8 k] (.b (knownN k.toNat)) :=
  callsV_old #[.int .u8 k.toNat] (fun _ _ h => lits_eq (vs := [.int .u8 k.toNat]) h) (fun w _ => ret_of (known_c k w)) fun _ => .lit rfl
theorem stzIn_v (n a b : Int) : CallsV Try.prog 69 [.i n, .i a, .i b] (.b (decide (a ≤ n) && decide (n ≤ b))) :=
  callsV_old #[.int .i64 n, .int .i64 a, .int .i64 b] (fun _ _ h => lits_eq (vs := [.int .i64 n, .int .i64 a, .int .i64 b]) h) (fun w _ => ret_of (stzIn_c n a b w)) fun _ => .lit rfl
def StzD.l (s : StzD) : List Value := [.int .u8 s.kind.toNat, .string s.user, .string s.res, .string s.name, .int .i64 s.show_, .int .i64 s.prio, .int .i64 s.code, .int .i64 s.n]
def stzV (s : StzD) : V := .agg [.u8 s.kind, .s s.user, .s s.res, .s s.name, .i s.show_, .i s.prio, .i s.code, .i s.n]
theorem refStzCheck_v (s : StzD) (hu : s.user.size ≤ 100000) (hr : s.res.size ≤ 100000) (hn : s.name.size ≤ 100000) : CallsV Try.prog 58 [stzV s] (.i (checkS s)) :=
  callsV_old #[.agg s.arr] (fun m c h => by
    have h1 : c.size = 1 := h.1
    have h0 := h.2 0 (by omega) (by simp)
    have e := agg_lits (vs := s.l) (show Rep m noBk c[0] (.agg (s.l.map V.lit)) from h0)
    apply Array.ext
    · simpa using h1
    · intro i g1 g2
      have : i = 0 := by omega
      subst this
      rw [e]; rfl) (fun w _ => refStzCheck_c s w hu hr hn) fun _ => .lit rfl
end Go.Proofs.Ytljeinlapkgjeaa
/- The abstract codes of functions, and that they are the program's (written by a program of mine). -/
namespace Go.Proofs.Ytljeinlapkgjeaa
open Go.RowKit
theorem mix : Try.prog.follows .mixedOrders = true := by kernel_rfl
def ac57 : ACode := (.seq (.reg 0 [⟨(some 6), .mv (.const (.bool false)), none, 0⟩] none) (.seq (.reg 0 [⟨(some 7), .mv (.tmp 1), none, 0⟩, ⟨(some 8), .mv (.tmp 0), none, 0⟩, ⟨(some 9), .bin .leq (.tmp 7) (.tmp 8), none, 0⟩, ⟨(some 10), .mv (.tmp 9), none, 0⟩, ⟨(some 11), .mv (.tmp 0), (some (10, true)), 0⟩, ⟨(some 12), .mv (.tmp 2), (some (10, true)), 0⟩, ⟨(some 13), .bin .leq (.tmp 11) (.tmp 12), (some (10, true)), 0⟩, ⟨(some 14), .pick (.tmp 10) (.tmp 13) (.const (.bool false)), none, 0⟩, ⟨(some 6), .mv (.tmp 14), none, 0⟩] none) .ret))
theorem ac57_ok : compF Try.prog Try.f57 = some (ac57, 15, [.tmp 6]) := by unfold ac57; kernel_rfl
def ac13 : ACode := (.seq (.reg 1 [⟨(some 1), .bx (.tmp 0), none, 0⟩, ⟨(some 2), .mv (.const (.int .i64 0)), none, 1⟩] none) (.seq (.seq (.reg 0 [⟨(some 4), .fa 1 (.tmp 1), none, 0⟩, ⟨(some 5), .ld 1 false (.tmp 4), none, 0⟩, ⟨(some 6), .cl 57 [(.tmp 5), (.const (.int .i64 0)), (.const (.int .i64 4))], none, 0⟩, ⟨(some 7), .un .not (.tmp 6), none, 0⟩, ⟨(some 8), .mv (.tmp 7), none, 0⟩, ⟨(some 9), .fa 2 (.tmp 1), (some (8, false)), 0⟩, ⟨(some 10), .ld 1 false (.tmp 9), (some (8, false)), 0⟩, ⟨(some 11), .cl 57 [(.tmp 10), (.const (.int .i64 (-128))), (.const (.int .i64 127))], (some (8, false)), 0⟩, ⟨(some 12), .un .not (.tmp 11), (some (8, false)), 0⟩, ⟨(some 13), .pick (.tmp 8) (.const (.bool true)) (.tmp 12), none, 0⟩, ⟨(some 14), .mv (.tmp 13), none, 0⟩, ⟨(some 15), .fa 3 (.tmp 1), (some (14, false)), 0⟩, ⟨(some 16), .ld 1 false (.tmp 15), (some (14, false)), 0⟩, ⟨(some 17), .cl 57 [(.tmp 16), (.const (.int .i64 0)), (.const (.int .i64 1099511627776))], (some (14, false)), 0⟩, ⟨(some 18), .un .not (.tmp 17), (some (14, false)), 0⟩, ⟨(some 19), .pick (.tmp 14) (.const (.bool true)) (.tmp 18), none, 0⟩] none) (.cond (.tmp 19) (.seq (.reg 0 [⟨(some 2), .mv (.const (.int .i64 8)), none, 0⟩] none) .ret) .skip)) (.seq (.seq (.reg 1 [⟨(some 20), .fa 3 (.tmp 1), none, 0⟩, ⟨(some 21), .ld 1 false (.tmp 20), none, 0⟩, ⟨(some 22), .bd [(.lit (.bool false)), (.lit (.int .i64 0)), (.lit (.int .i64 0)), (.lit (.int .i64 0))] [(3, 1, (.tmp 21))], none, 0⟩, ⟨(some 3), .al (.agg [(.lit (.bool false)), (.lit (.int .i64 0)), (.lit (.int .i64 0)), (.lit (.int .i64 0))]), none, 0⟩, ⟨none, .st 4 (.tmp 3) (.tmp 22), none, 1⟩] none) (.seq (.reg 0 [⟨(some 23), .fa 0 (.tmp 1), none, 0⟩, ⟨(some 24), .ld 1 false (.tmp 23), none, 0⟩, ⟨(some 25), .un .not (.tmp 24), none, 0⟩, ⟨(some 26), .mv (.tmp 25), none, 0⟩, ⟨(some 27), .ld 4 true (.tmp 1), (some (26, true)), 0⟩, ⟨(some 28), .ld 4 true (.tmp 3), (some (26, true)), 0⟩, ⟨(some 29), .eqa true [0, 1, 1, 1] (.tmp 27) (.tmp 28), (some (26, true)), 0⟩, ⟨(some 30), .pick (.tmp 26) (.tmp 29) (.const (.bool false)), none, 0⟩] none) (.cond (.tmp 30) (.seq (.reg 0 [⟨(some 2), .mv (.const (.int .i64 4)), none, 0⟩] none) .ret) .skip))) (.seq (.reg 0 [⟨(some 2), .mv (.const (.int .i64 0)), none, 0⟩] none) .ret))))
theorem ac13_ok : compF Try.prog Try.f13 = some (ac13, 31, [.tmp 2]) := by unfold ac13; kernel_rfl
def ac15 : ACode := (.seq (.reg 2 [⟨(some 2), .bx (.tmp 0), none, 0⟩, ⟨(some 3), .bx (.tmp 1), none, 1⟩, ⟨(some 4), .mv (.const (.bool false)), none, 2⟩] none) (.seq (.reg 0 [⟨(some 5), .fa 3 (.tmp 3), none, 0⟩, ⟨(some 6), .ld 1 false (.tmp 5), none, 0⟩, ⟨(some 7), .fa 3 (.tmp 2), none, 0⟩, ⟨(some 8), .ld 1 false (.tmp 7), none, 0⟩, ⟨(some 9), .bin .lss (.tmp 6) (.tmp 8), none, 0⟩, ⟨(some 4), .mv (.tmp 9), none, 0⟩] none) .ret))
theorem ac15_ok : compF Try.prog Try.f15 = some (ac15, 10, [.tmp 4]) := by unfold ac15; kernel_rfl
def ac17 : ACode := (.seq (.reg 2 [⟨(some 2), .bx (.tmp 0), none, 0⟩, ⟨(some 3), .bx (.tmp 1), none, 1⟩, ⟨(some 4), .mv (.const (.bool false)), none, 2⟩] none) (.seq (.seq (.reg 0 [⟨(some 5), .fa 0 (.tmp 2), none, 0⟩, ⟨(some 6), .ld 1 false (.tmp 5), none, 0⟩, ⟨(some 7), .un .not (.tmp 6), none, 0⟩, ⟨(some 8), .mv (.tmp 7), none, 0⟩, ⟨(some 9), .fa 0 (.tmp 3), (some (8, false)), 0⟩, ⟨(some 10), .ld 1 false (.tmp 9), (some (8, false)), 0⟩, ⟨(some 11), .un .not (.tmp 10), (some (8, false)), 0⟩, ⟨(some 12), .pick (.tmp 8) (.const (.bool true)) (.tmp 11), none, 0⟩] none) (.cond (.tmp 12) (.seq (.reg 0 [⟨(some 13), .fa 0 (.tmp 2), none, 0⟩, ⟨(some 14), .ld 1 false (.tmp 13), none, 0⟩, ⟨(some 15), .mv (.tmp 14), none, 0⟩, ⟨(some 16), .fa 0 (.tmp 3), (some (15, true)), 0⟩, ⟨(some 17), .ld 1 false (.tmp 16), (some (15, true)), 0⟩, ⟨(some 18), .un .not (.tmp 17), (some (15, true)), 0⟩, ⟨(some 19), .pick (.tmp 15) (.tmp 18) (.const (.bool false)), none, 0⟩, ⟨(some 4), .mv (.tmp 19), none, 0⟩] none) .ret) .skip)) (.seq (.seq (.reg 0 [⟨(some 20), .fa 2 (.tmp 2), none, 0⟩, ⟨(some 21), .ld 1 false (.tmp 20), none, 0⟩, ⟨(some 22), .fa 2 (.tmp 3), none, 0⟩, ⟨(some 23), .ld 1 false (.tmp 22), none, 0⟩, ⟨(some 24), .bin .eql (.tmp 21) (.tmp 23), none, 0⟩] none) (.cond (.tmp 24) (.seq (.reg 0 [⟨(some 25), .ld 4 true (.tmp 2), none, 0⟩, ⟨(some 26), .ld 4 true (.tmp 3), none, 0⟩, ⟨(some 27), .cl 15 [(.tmp 25), (.tmp 26)], none, 0⟩, ⟨(some 4), .mv (.tmp 27), none, 0⟩] none) .ret) .skip)) (.seq (.reg 0 [⟨(some 28), .fa 2 (.tmp 3), none, 0⟩, ⟨(some 29), .ld 1 false (.tmp 28), none, 0⟩, ⟨(some 30), .fa 2 (.tmp 2), none, 0⟩, ⟨(some 31), .ld 1 false (.tmp 30), none, 0⟩, ⟨(some 32), .bin .lss (.tmp 29) (.tmp 31), none, 0⟩, ⟨(some 4), .mv (.tmp 32), none, 0⟩] none) .ret))))
theorem ac17_ok : compF Try.prog Try.f17 = some (ac17, 33, [.tmp 4]) := by unfold ac17; kernel_rfl
def ac19 : ACode := (.seq (.reg 0 [⟨(some 2), .mv (.const (.int .i64 0)), none, 0⟩] none) (.seq (.reg 0 [⟨(some 3), .mv (.const (.int .i64 (-1))), none, 0⟩] none) (.seq (.seq (.reg 0 [⟨(some 6), .mv (.tmp 0), none, 0⟩, ⟨(some 7), .lens (.tmp 6), none, 0⟩, ⟨(some 8), .mv (.const (.int .i64 0)), none, 0⟩] none) (.block 0 (.loop (.seq (.reg 0 [⟨(some 9), .bin .lss (.tmp 8) (.tmp 7), none, 0⟩] none) (.seq (.cond (.tmp 9) .skip (.exit 0)) (.seq (.block 1 (.seq (.reg 1 [⟨(some 10), .mv (.tmp 8), none, 0⟩, ⟨(some 11), .ixs 4 (.tmp 6) (.tmp 8), none, 0⟩, ⟨(some 12), .ld 4 true (.tmp 11), none, 0⟩, ⟨(some 5), .al (.agg [(.lit (.bool false)), (.lit (.int .i64 0)), (.lit (.int .i64 0)), (.lit (.int .i64 0))]), none, 0⟩, ⟨(some 4), .mv (.tmp 10), none, 1⟩, ⟨none, .st 4 (.tmp 5) (.tmp 12), none, 1⟩] none) (.seq (.reg 0 [⟨(some 13), .fa 0 (.tmp 5), none, 0⟩, ⟨(some 14), .ld 1 false (.tmp 13), none, 0⟩, ⟨(some 15), .mv (.tmp 14), none, 0⟩, ⟨(some 16), .mv (.tmp 3), (some (15, true)), 0⟩, ⟨(some 17), .bin .eql (.tmp 16) (.const (.int .i64 (-1))), (some (15, true)), 0⟩, ⟨(some 18), .mv (.tmp 17), (some (15, true)), 0⟩, ⟨(some 19), .ld 4 true (.tmp 5), (some (18, false)), 0⟩, ⟨(some 20), .mv (.tmp 0), (some (18, false)), 0⟩, ⟨(some 21), .mv (.tmp 3), (some (18, false)), 0⟩, ⟨(some 22), .ixs 4 (.tmp 20) (.tmp 21), (some (18, false)), 0⟩, ⟨(some 23), .ld 4 true (.tmp 22), (some (18, false)), 0⟩, ⟨(some 24), .cl 17 [(.tmp 19), (.tmp 23)], (some (18, false)), 0⟩, ⟨(some 25), .pick (.tmp 18) (.const (.bool true)) (.tmp 24), (some (15, true)), 0⟩, ⟨(some 26), .pick (.tmp 15) (.tmp 25) (.const (.bool false)), none, 0⟩] (some [[], [0], [0, 1], [1, 0, 2], [2, 0, 1, 3], [3, 1, 0, 2, 4], [4, 2, 0, 1, 3, 5], [4, 2, 0, 1, 3, 5], [4, 2, 0, 1, 3, 5], [8, 5, 3, 1, 0, 2, 4, 7], [7, 4, 2, 0, 1, 3, 5, 8, 9], [9, 8, 7, 10, 5, 3, 1, 0, 2, 4, 6], [6, 10, 7, 8, 9, 11, 4, 2, 0, 1, 3, 5], [5, 3, 4, 11, 9, 8, 7, 10, 6, 12, 1, 0, 2]])) (.cond (.tmp 26) (.reg 0 [⟨(some 27), .mv (.tmp 4), none, 0⟩, ⟨(some 3), .mv (.tmp 27), none, 0⟩] none) .skip)))) (.reg 0 [⟨(some 28), .bin .add (.tmp 8) (.const (.int .i64 1)), none, 0⟩, ⟨(some 8), .mv (.tmp 28), none, 0⟩] none))))))) (.seq (.reg 0 [⟨(some 29), .mv (.tmp 3), none, 0⟩, ⟨(some 2), .mv (.tmp 29), none, 0⟩] none) .ret))))
theorem ac19_ok : compF Try.prog Try.f19 = some (ac19, 30, [.tmp 2]) := by unfold ac19; kernel_rfl
def ac22 : ACode := (.seq (.reg 1 [⟨(some 2), .al (.agg [(.lit (.bool false)), (.lit (.int .i64 0)), (.lit (.int .i64 0)), (.lit (.int .i64 0))]), none, 0⟩] none) (.seq (.reg 1 [⟨(some 3), .al (.agg [(.lit (.bool false)), (.lit (.int .i64 0)), (.lit (.int .i64 0)), (.lit (.int .i64 0))]), none, 0⟩] none) (.seq (.seq (.reg 0 [⟨(some 6), .mv (.tmp 0), none, 0⟩, ⟨(some 7), .lens (.tmp 6), none, 0⟩, ⟨(some 8), .mv (.const (.int .i64 0)), none, 0⟩] none) (.block 0 (.loop (.seq (.reg 0 [⟨(some 9), .bin .lss (.tmp 8) (.tmp 7), none, 0⟩] none) (.seq (.cond (.tmp 9) .skip (.exit 0)) (.seq (.block 1 (.seq (.reg 1 [⟨(some 10), .mv (.tmp 8), none, 0⟩, ⟨(some 11), .ixs 4 (.tmp 6) (.tmp 8), none, 0⟩, ⟨(some 12), .ld 4 true (.tmp 11), none, 0⟩, ⟨(some 5), .al (.agg [(.lit (.bool false)), (.lit (.int .i64 0)), (.lit (.int .i64 0)), (.lit (.int .i64 0))]), none, 0⟩, ⟨(some 4), .mv (.tmp 10), none, 1⟩, ⟨none, .st 4 (.tmp 5) (.tmp 12), none, 1⟩] none) (.seq (.reg 0 [⟨(some 13), .mv (.tmp 4), none, 0⟩, ⟨(some 14), .bin .eql (.tmp 13) (.const (.int .i64 0)), none, 0⟩, ⟨(some 15), .mv (.tmp 14), none, 0⟩, ⟨(some 16), .ld 4 true (.tmp 5), (some (15, false)), 0⟩, ⟨(some 17), .ld 4 true (.tmp 3), (some (15, false)), 0⟩, ⟨(some 18), .cl 15 [(.tmp 16), (.tmp 17)], (some (15, false)), 0⟩, ⟨(some 19), .pick (.tmp 15) (.const (.bool true)) (.tmp 18), none, 0⟩] none) (.cond (.tmp 19) (.reg 0 [⟨(some 20), .ld 4 true (.tmp 5), none, 0⟩, ⟨none, .st 4 (.tmp 3) (.tmp 20), none, 0⟩] none) .skip)))) (.reg 0 [⟨(some 21), .bin .add (.tmp 8) (.const (.int .i64 1)), none, 0⟩, ⟨(some 8), .mv (.tmp 21), none, 0⟩] none))))))) (.seq (.reg 0 [⟨(some 22), .ld 4 true (.tmp 3), none, 0⟩, ⟨none, .st 4 (.tmp 2) (.tmp 22), none, 0⟩] none) .ret))))
theorem ac22_ok : compF Try.prog Try.f22 = some (ac22, 23, [.cell 2 4 true]) := by unfold ac22; kernel_rfl
def ac24 : ACode := (.seq (.reg 0 [⟨(some 2), .mv (.const (.string ⟨#[]⟩)), none, 0⟩] none) (.seq (.seq (.reg 0 [⟨(some 3), .mv (.tmp 0), none, 0⟩, ⟨(some 4), .cl 57 [(.tmp 3), (.const (.int .i64 0)), (.const (.int .i64 4))], none, 0⟩, ⟨(some 5), .un .not (.tmp 4), none, 0⟩] none) (.cond (.tmp 5) (.seq (.reg 0 [⟨(some 2), .mv (.const (.string ⟨#[]⟩)), none, 0⟩] none) .ret) .skip)) (.seq (.reg 0 [⟨(some 6), .bd [(.lit (.string ⟨#[]⟩)), (.lit (.string ⟨#[]⟩)), (.lit (.string ⟨#[]⟩)), (.lit (.string ⟨#[]⟩)), (.lit (.string ⟨#[]⟩))] [(0, 1, (.const (.string ⟨#[99, 104, 97, 116]⟩))), (1, 1, (.const (.string ⟨#[104, 101, 114, 101]⟩))), (2, 1, (.const (.string ⟨#[97, 119, 97, 121]⟩))), (3, 1, (.const (.string ⟨#[120, 97]⟩))), (4, 1, (.const (.string ⟨#[100, 110, 100]⟩)))], none, 0⟩, ⟨(some 7), .mv (.tmp 0), none, 0⟩, ⟨(some 8), .ixg 5 1 false (.tmp 6) (.tmp 7), none, 0⟩, ⟨(some 2), .mv (.tmp 8), none, 0⟩] none) .ret)))
theorem ac24_ok : compF Try.prog Try.f24 = some (ac24, 9, [.tmp 2]) := by unfold ac24; kernel_rfl
def ac14 : ACode := (.seq (.reg 1 [⟨(some 1), .bx (.tmp 0), none, 0⟩, ⟨(some 2), .mv (.const (.int .i64 0)), none, 1⟩] none) (.seq (.seq (.reg 0 [⟨(some 3), .fa 1 (.tmp 1), none, 0⟩, ⟨(some 4), .ld 1 false (.tmp 3), none, 0⟩, ⟨(some 5), .bin .lss (.tmp 4) (.const (.int .i64 0)), none, 0⟩, ⟨(some 6), .mv (.tmp 5), none, 0⟩, ⟨(some 7), .fa 1 (.tmp 1), (some (6, false)), 0⟩, ⟨(some 8), .ld 1 false (.tmp 7), (some (6, false)), 0⟩, ⟨(some 9), .bin .gtr (.tmp 8) (.const (.int .i64 4)), (some (6, false)), 0⟩, ⟨(some 10), .pick (.tmp 6) (.const (.bool true)) (.tmp 9), none, 0⟩, ⟨(some 11), .mv (.tmp 10), none, 0⟩, ⟨(some 12), .fa 2 (.tmp 1), (some (11, false)), 0⟩, ⟨(some 13), .ld 1 false (.tmp 12), (some (11, false)), 0⟩, ⟨(some 14), .bin .lss (.tmp 13) (.const (.int .i64 (-128))), (some (11, false)), 0⟩, ⟨(some 15), .pick (.tmp 11) (.const (.bool true)) (.tmp 14), none, 0⟩, ⟨(some 16), .mv (.tmp 15), none, 0⟩, ⟨(some 17), .fa 2 (.tmp 1), (some (16, false)), 0⟩, ⟨(some 18), .ld 1 false (.tmp 17), (some (16, false)), 0⟩, ⟨(some 19), .bin .gtr (.tmp 18) (.const (.int .i64 127)), (some (16, false)), 0⟩, ⟨(some 20), .pick (.tmp 16) (.const (.bool true)) (.tmp 19), none, 0⟩, ⟨(some 21), .mv (.tmp 20), none, 0⟩, ⟨(some 22), .fa 3 (.tmp 1), (some (21, false)), 0⟩, ⟨(some 23), .ld 1 false (.tmp 22), (some (21, false)), 0⟩, ⟨(some 24), .bin .lss (.tmp 23) (.const (.int .i64 0)), (some (21, false)), 0⟩, ⟨(some 25), .pick (.tmp 21) (.const (.bool true)) (.tmp 24), none, 0⟩, ⟨(some 26), .mv (.tmp 25), none, 0⟩, ⟨(some 27), .fa 3 (.tmp 1), (some (26, false)), 0⟩, ⟨(some 28), .ld 1 false (.tmp 27), (some (26, false)), 0⟩, ⟨(some 29), .bin .gtr (.tmp 28) (.const (.int .i64 1099511627776)), (some (26, false)), 0⟩, ⟨(some 30), .pick (.tmp 26) (.const (.bool true)) (.tmp 29), none, 0⟩] none) (.cond (.tmp 30) (.seq (.reg 0 [⟨(some 2), .mv (.const (.int .i64 8)), none, 0⟩] none) .ret) .skip)) (.seq (.seq (.reg 0 [⟨(some 31), .fa 0 (.tmp 1), none, 0⟩, ⟨(some 32), .ld 1 false (.tmp 31), none, 0⟩, ⟨(some 33), .un .not (.tmp 32), none, 0⟩, ⟨(some 34), .mv (.tmp 33), none, 0⟩, ⟨(some 35), .fa 1 (.tmp 1), (some (34, true)), 0⟩, ⟨(some 36), .ld 1 false (.tmp 35), (some (34, true)), 0⟩, ⟨(some 37), .bin .neq (.tmp 36) (.const (.int .i64 0)), (some (34, true)), 0⟩, ⟨(some 38), .mv (.tmp 37), (some (34, true)), 0⟩, ⟨(some 39), .fa 2 (.tmp 1), (some (38, false)), 0⟩, ⟨(some 40), .ld 1 false (.tmp 39), (some (38, false)), 0⟩, ⟨(some 41), .bin .neq (.tmp 40) (.const (.int .i64 0)), (some (38, false)), 0⟩, ⟨(some 42), .pick (.tmp 38) (.const (.bool true)) (.tmp 41), (some (34, true)), 0⟩, ⟨(some 43), .pick (.tmp 34) (.tmp 42) (.const (.bool false)), none, 0⟩] none) (.cond (.tmp 43) (.seq (.reg 0 [⟨(some 2), .mv (.const (.int .i64 4)), none, 0⟩] none) .ret) .skip)) (.seq (.reg 0 [⟨(some 2), .mv (.const (.int .i64 0)), none, 0⟩] none) .ret))))
theorem ac14_ok : compF Try.prog Try.f14 = some (ac14, 44, [.tmp 2]) := by unfold ac14; kernel_rfl
def ac16 : ACode := (.seq (.reg 2 [⟨(some 2), .bx (.tmp 0), none, 0⟩, ⟨(some 3), .bx (.tmp 1), none, 1⟩, ⟨(some 4), .mv (.const (.bool false)), none, 2⟩] none) (.seq (.reg 0 [⟨(some 5), .fa 3 (.tmp 2), none, 0⟩, ⟨(some 6), .ld 1 false (.tmp 5), none, 0⟩, ⟨(some 7), .fa 3 (.tmp 3), none, 0⟩, ⟨(some 8), .ld 1 false (.tmp 7), none, 0⟩, ⟨(some 9), .bin .gtr (.tmp 6) (.tmp 8), none, 0⟩, ⟨(some 4), .mv (.tmp 9), none, 0⟩] none) .ret))
theorem ac16_ok : compF Try.prog Try.f16 = some (ac16, 10, [.tmp 4]) := by unfold ac16; kernel_rfl
def ac18 : ACode := (.seq (.reg 2 [⟨(some 2), .bx (.tmp 0), none, 0⟩, ⟨(some 3), .bx (.tmp 1), none, 1⟩, ⟨(some 4), .mv (.const (.bool false)), none, 2⟩] none) (.seq (.block 0 (.seq (.reg 0 [⟨(some 6), .fa 0 (.tmp 2), none, 0⟩, ⟨(some 7), .ld 1 false (.tmp 6), none, 0⟩, ⟨(some 8), .un .not (.tmp 7), none, 0⟩, ⟨(some 5), .mv (.tmp 8), none, 0⟩] none) (.cond (.tmp 5) (.seq (.reg 0 [⟨(some 4), .mv (.const (.bool false)), none, 0⟩] none) .ret) (.seq (.reg 0 [⟨(some 10), .fa 0 (.tmp 3), none, 0⟩, ⟨(some 11), .ld 1 false (.tmp 10), none, 0⟩, ⟨(some 12), .un .not (.tmp 11), none, 0⟩, ⟨(some 9), .mv (.tmp 12), none, 0⟩] none) (.cond (.tmp 9) (.seq (.reg 0 [⟨(some 4), .mv (.const (.bool true)), none, 0⟩] none) .ret) (.seq (.reg 0 [⟨(some 14), .fa 2 (.tmp 2), none, 0⟩, ⟨(some 15), .ld 1 false (.tmp 14), none, 0⟩, ⟨(some 16), .fa 2 (.tmp 3), none, 0⟩, ⟨(some 17), .ld 1 false (.tmp 16), none, 0⟩, ⟨(some 18), .bin .neq (.tmp 15) (.tmp 17), none, 0⟩, ⟨(some 13), .mv (.tmp 18), none, 0⟩] none) (.cond (.tmp 13) (.seq (.reg 0 [⟨(some 19), .fa 2 (.tmp 2), none, 0⟩, ⟨(some 20), .ld 1 false (.tmp 19), none, 0⟩, ⟨(some 21), .fa 2 (.tmp 3), none, 0⟩, ⟨(some 22), .ld 1 false (.tmp 21), none, 0⟩, ⟨(some 23), .bin .gtr (.tmp 20) (.tmp 22), none, 0⟩, ⟨(some 4), .mv (.tmp 23), none, 0⟩] none) .ret) .skip))))))) (.seq (.reg 0 [⟨(some 24), .ld 4 true (.tmp 2), none, 0⟩, ⟨(some 25), .ld 4 true (.tmp 3), none, 0⟩, ⟨(some 26), .cl 16 [(.tmp 24), (.tmp 25)], none, 0⟩, ⟨(some 4), .mv (.tmp 26), none, 0⟩] none) .ret)))
theorem ac18_ok : compF Try.prog Try.f18 = some (ac18, 27, [.tmp 4]) := by unfold ac18; kernel_rfl
def ac21 : ACode := (.seq (.reg 0 [⟨(some 2), .mv (.const (.int .i64 0)), none, 0⟩] none) (.seq (.reg 0 [⟨(some 3), .mv (.const (.int .i64 (-1))), none, 0⟩] none) (.seq (.seq (.reg 0 [⟨(some 4), .mv (.const (.int .i64 0)), none, 0⟩] none) (.block 0 (.loop (.seq (.seq (.reg 0 [⟨(some 5), .mv (.tmp 4), none, 0⟩, ⟨(some 6), .mv (.tmp 0), none, 0⟩, ⟨(some 7), .lens (.tmp 6), none, 0⟩, ⟨(some 8), .bin .lss (.tmp 5) (.tmp 7), none, 0⟩] none) (.cond (.tmp 8) .skip (.exit 0))) (.seq (.block 1 (.seq (.reg 0 [⟨(some 11), .mv (.tmp 0), none, 0⟩, ⟨(some 12), .mv (.tmp 4), none, 0⟩, ⟨(some 13), .ixs 4 (.tmp 11) (.tmp 12), none, 0⟩, ⟨(some 14), .fa 0 (.tmp 13), none, 0⟩, ⟨(some 15), .ld 1 false (.tmp 14), none, 0⟩, ⟨(some 16), .mv (.tmp 15), none, 0⟩, ⟨(some 17), .mv (.tmp 3), (some (16, true)), 0⟩, ⟨(some 18), .bin .lss (.tmp 17) (.const (.int .i64 0)), (some (16, true)), 0⟩, ⟨(some 19), .mv (.tmp 18), (some (16, true)), 0⟩, ⟨(some 20), .mv (.tmp 0), (some (19, false)), 0⟩, ⟨(some 21), .mv (.tmp 4), (some (19, false)), 0⟩, ⟨(some 22), .ixs 4 (.tmp 20) (.tmp 21), (some (19, false)), 0⟩, ⟨(some 23), .ld 4 true (.tmp 22), (some (19, false)), 0⟩, ⟨(some 24), .mv (.tmp 0), (some (19, false)), 0⟩, ⟨(some 25), .mv (.tmp 3), (some (19, false)), 0⟩, ⟨(some 26), .ixs 4 (.tmp 24) (.tmp 25), (some (19, false)), 0⟩, ⟨(some 27), .ld 4 true (.tmp 26), (some (19, false)), 0⟩, ⟨(some 28), .cl 18 [(.tmp 23), (.tmp 27)], (some (19, false)), 0⟩, ⟨(some 29), .pick (.tmp 19) (.const (.bool true)) (.tmp 28), (some (16, true)), 0⟩, ⟨(some 30), .pick (.tmp 16) (.tmp 29) (.const (.bool false)), none, 0⟩] (some [[], [], [1, 0], [0, 1, 2], [2, 1, 0, 3], [3, 0, 1, 2, 4], [4, 2, 1, 0, 3, 5], [5, 3, 0, 1, 2, 4, 6], [6, 4, 2, 1, 0, 3, 5, 7], [7, 5, 3, 0, 1, 2, 4, 6, 8], [7, 5, 3, 0, 1, 2, 4, 6, 8], [10, 8, 6, 4, 2, 1, 0, 3, 5, 7, 9], [9, 7, 5, 3, 0, 1, 2, 4, 6, 8, 10, 11], [7, 5, 3, 0, 1, 2, 4, 6, 8], [7, 5, 3, 0, 1, 2, 4, 6, 8], [14, 8, 6, 4, 2, 1, 0, 3, 5, 7, 13], [13, 7, 5, 3, 0, 1, 2, 4, 6, 8, 14, 15], [15, 14, 13, 16, 11, 10, 8, 6, 4, 2, 1, 0, 3, 5, 7, 9, 12], [12, 9, 10, 11, 16, 13, 14, 15, 17, 7, 5, 3, 0, 1, 2, 4, 6, 8], [8, 6, 7, 17, 15, 14, 13, 16, 11, 10, 9, 12, 18, 4, 2, 1, 0, 3, 5]])) (.cond (.tmp 30) (.reg 0 [⟨(some 31), .mv (.tmp 4), none, 0⟩, ⟨(some 3), .mv (.tmp 31), none, 0⟩] none) .skip))) (.reg 0 [⟨(some 9), .mv (.tmp 4), none, 0⟩, ⟨(some 10), .bin .add (.tmp 9) (.const (.int .i64 1)), none, 0⟩, ⟨(some 4), .mv (.tmp 10), none, 0⟩] none)))))) (.seq (.reg 0 [⟨(some 32), .mv (.tmp 3), none, 0⟩, ⟨(some 2), .mv (.tmp 32), none, 0⟩] none) .ret))))
theorem ac21_ok : compF Try.prog Try.f21 = some (ac21, 33, [.tmp 2]) := by unfold ac21; kernel_rfl
def ac23 : ACode := (.seq (.reg 1 [⟨(some 2), .al (.agg [(.lit (.bool false)), (.lit (.int .i64 0)), (.lit (.int .i64 0)), (.lit (.int .i64 0))]), none, 0⟩] none) (.seq (.seq (.reg 0 [⟨(some 5), .mv (.tmp 0), none, 0⟩, ⟨(some 6), .lens (.tmp 5), none, 0⟩, ⟨(some 7), .bin .eql (.tmp 6) (.const (.int .i64 0)), none, 0⟩] none) (.cond (.tmp 7) (.seq (.reg 0 [⟨(some 8), .bd [(.lit (.bool false)), (.lit (.int .i64 0)), (.lit (.int .i64 0)), (.lit (.int .i64 0))] [], none, 0⟩, ⟨none, .st 4 (.tmp 2) (.tmp 8), none, 0⟩] none) .ret) .skip)) (.seq (.reg 1 [⟨(some 9), .mv (.tmp 0), none, 0⟩, ⟨(some 10), .ixs 4 (.tmp 9) (.const (.int .i64 0)), none, 0⟩, ⟨(some 11), .ld 4 true (.tmp 10), none, 0⟩, ⟨(some 3), .al (.agg [(.lit (.bool false)), (.lit (.int .i64 0)), (.lit (.int .i64 0)), (.lit (.int .i64 0))]), none, 0⟩, ⟨none, .st 4 (.tmp 3) (.tmp 11), none, 1⟩] none) (.seq (.seq (.reg 0 [⟨(some 4), .mv (.const (.int .i64 1)), none, 0⟩] none) (.block 0 (.loop (.seq (.seq (.reg 0 [⟨(some 12), .mv (.tmp 4), none, 0⟩, ⟨(some 13), .mv (.tmp 0), none, 0⟩, ⟨(some 14), .lens (.tmp 13), none, 0⟩, ⟨(some 15), .bin .lss (.tmp 12) (.tmp 14), none, 0⟩] none) (.cond (.tmp 15) .skip (.exit 0))) (.seq (.block 1 (.seq (.reg 0 [⟨(some 18), .mv (.tmp 0), none, 0⟩, ⟨(some 19), .mv (.tmp 4), none, 0⟩, ⟨(some 20), .ixs 4 (.tmp 18) (.tmp 19), none, 0⟩, ⟨(some 21), .ld 4 true (.tmp 20), none, 0⟩, ⟨(some 22), .ld 4 true (.tmp 3), none, 0⟩, ⟨(some 23), .cl 16 [(.tmp 21), (.tmp 22)], none, 0⟩] (some [[], [], [1, 0], [0, 1, 2], [], [4, 2, 1, 0, 3]])) (.cond (.tmp 23) (.reg 0 [⟨(some 24), .mv (.tmp 0), none, 0⟩, ⟨(some 25), .mv (.tmp 4), none, 0⟩, ⟨(some 26), .ixs 4 (.tmp 24) (.tmp 25), none, 0⟩, ⟨(some 27), .ld 4 true (.tmp 26), none, 0⟩, ⟨none, .st 4 (.tmp 3) (.tmp 27), none, 0⟩] none) .skip))) (.reg 0 [⟨(some 16), .mv (.tmp 4), none, 0⟩, ⟨(some 17), .bin .add (.tmp 16) (.const (.int .i64 1)), none, 0⟩, ⟨(some 4), .mv (.tmp 17), none, 0⟩] none)))))) (.seq (.reg 0 [⟨(some 28), .ld 4 true (.tmp 3), none, 0⟩, ⟨none, .st 4 (.tmp 2) (.tmp 28), none, 0⟩] none) .ret)))))
theorem ac23_ok : compF Try.prog Try.f23 = some (ac23, 29, [.cell 2 4 true]) := by unfold ac23; kernel_rfl
def ac25 : ACode := (.seq (.reg 0 [⟨(some 2), .mv (.const (.string ⟨#[]⟩)), none, 0⟩] none) (.seq (.seq (.reg 0 [⟨(some 3), .mv (.tmp 0), none, 0⟩] none) (.block 0 (.seq (.reg 0 [⟨(some 5), .bin .eql (.tmp 3) (.const (.int .i64 0)), none, 0⟩, ⟨(some 4), .mv (.tmp 5), none, 0⟩] none) (.cond (.tmp 4) (.seq (.reg 0 [⟨(some 2), .mv (.const (.string ⟨#[99, 104, 97, 116]⟩)), none, 0⟩] none) .ret) (.seq (.reg 0 [⟨(some 7), .bin .eql (.tmp 3) (.const (.int .i64 1)), none, 0⟩, ⟨(some 6), .mv (.tmp 7), none, 0⟩] none) (.cond (.tmp 6) (.seq (.reg 0 [⟨(some 2), .mv (.const (.string ⟨#[104, 101, 114, 101]⟩)), none, 0⟩] none) .ret) (.seq (.reg 0 [⟨(some 9), .bin .eql (.tmp 3) (.const (.int .i64 2)), none, 0⟩, ⟨(some 8), .mv (.tmp 9), none, 0⟩] none) (.cond (.tmp 8) (.seq (.reg 0 [⟨(some 2), .mv (.const (.string ⟨#[97, 119, 97, 121]⟩)), none, 0⟩] none) .ret) (.seq (.reg 0 [⟨(some 11), .bin .eql (.tmp 3) (.const (.int .i64 3)), none, 0⟩, ⟨(some 10), .mv (.tmp 11), none, 0⟩] none) (.cond (.tmp 10) (.seq (.reg 0 [⟨(some 2), .mv (.const (.string ⟨#[120, 97]⟩)), none, 0⟩] none) .ret) (.seq (.reg 0 [⟨(some 13), .bin .eql (.tmp 3) (.const (.int .i64 4)), none, 0⟩, ⟨(some 12), .mv (.tmp 13), none, 0⟩] none) (.cond (.tmp 12) (.seq (.reg 0 [⟨(some 2), .mv (.const (.string ⟨#[100, 110, 100]⟩)), none, 0⟩] none) .ret) .skip)))))))))))) (.seq (.reg 0 [⟨(some 2), .mv (.const (.string ⟨#[]⟩)), none, 0⟩] none) .ret)))
theorem ac25_ok : compF Try.prog Try.f25 = some (ac25, 14, [.tmp 2]) := by unfold ac25; kernel_rfl
def ac20 : ACode := (.seq (.reg 0 [⟨(some 2), .mv (.const (.slice none 0 0)), none, 0⟩] none) (.seq (.reg 0 [⟨(some 3), .mv (.const (.slice none 0 0)), none, 0⟩] none) (.seq (.seq (.reg 0 [⟨(some 4), .mv (.const (.int .i64 0)), none, 0⟩] none) (.block 0 (.loop (.seq (.seq (.reg 0 [⟨(some 5), .mv (.tmp 4), none, 0⟩, ⟨(some 6), .mv (.tmp 0), none, 0⟩, ⟨(some 7), .lens (.tmp 6), none, 0⟩, ⟨(some 8), .bin .lss (.tmp 5) (.tmp 7), none, 0⟩] none) (.cond (.tmp 8) .skip (.exit 0))) (.seq (.block 1 (.reg 2 [⟨(some 11), .mv (.tmp 3), none, 0⟩, ⟨(some 12), .mv (.tmp 0), none, 0⟩, ⟨(some 13), .mv (.tmp 4), none, 0⟩, ⟨(some 14), .ixs 4 (.tmp 12) (.tmp 13), none, 0⟩, ⟨(some 15), .ld 4 true (.tmp 14), none, 0⟩, ⟨(some 16), .bs 4 1 [(.lit (.bool false)), (.lit (.int .i64 0)), (.lit (.int .i64 0)), (.lit (.int .i64 0))] [(0, (.tmp 15))], none, 0⟩, ⟨(some 17), .ap 4 32 (.tmp 11) (.tmp 16), none, 1⟩, ⟨(some 3), .mv (.tmp 17), none, 2⟩] none)) (.reg 0 [⟨(some 9), .mv (.tmp 4), none, 0⟩, ⟨(some 10), .bin .add (.tmp 9) (.const (.int .i64 1)), none, 0⟩, ⟨(some 4), .mv (.tmp 10), none, 0⟩] none)))))) (.seq (.reg 0 [⟨(some 18), .mv (.tmp 3), none, 0⟩, ⟨(some 2), .mv (.tmp 18), none, 0⟩] none) .ret))))
theorem ac20_ok : compF Try.prog Try.f20 = some (ac20, 19, [.tmp 2]) := by unfold ac20; kernel_rfl
end Go.Proofs.Ytljeinlapkgjeaa
/- Presences in the abstract: which may be, newer, better, best, last; both texts. -/
namespace Go.Proofs.Ytljeinlapkgjeaa
open Go.RowKit
def presD (p : PresD) : V := .agg [.b p.on, .i p.sh, .i p.prio, .i p.seq]
theorem presIn_v (n a b : Int) : CallsV Try.prog 57 [.i n, .i a, .i b] (.b (decide (a ≤ n ∧ n ≤ b))) := by
  refine callsV_comp mix Try.func57 ac57_ok ?_
  unfold ac57
  simp only [List.length_cons, List.length_nil, List.replicate_succ, List.replicate_zero, List.cons_append, List.nil_append, Nat.reduceAdd, Nat.reduceSub]
  repeat' (first | (first | refine w_blk ?_ | refine w_seq ?_ | refine w_reg (by (try simp only [List.length_cons, List.length_nil, Nat.reduceAdd]); rfl) (by (try simp only [List.replicate_succ, List.replicate_zero, List.cons_append, List.nil_append, List.append_nil]); rfl) (fun K' hK' => ?_) | refine w_condT rfl ?_ | refine w_condF rfl ?_ | refine w_cond rfl (fun hb => ?_) (fun hb => ?_) | refine w_ret ?_ | refine w_skip ?_ | refine w_exit ?_ | refine q_seqN ?_ | refine q_seqR ?_ | refine q_seqE ?_ | refine q_blkN ?_ | refine q_blkR ?_ | refine q_blkH ?_ | refine q_blkE rfl ?_ | refine q_loopR ?_ | refine q_loopE ?_ | (refine x_end ?_; refine hK' _ _ _ ?_; clear hK' K'; first | refine q_regT ?_ | refine q_regD rfl ?_)) | ((first | refine x_mv rfl ?_ | refine x_off rfl ?_ | refine x_ldP rfl rfl rfl (Nat.le_of_ble_eq_true rfl) ?_ | refine x_faP rfl rfl ?_ | refine x_ldE rfl rfl (Nat.le_of_ble_eq_true rfl) ?_ | refine x_faE rfl rfl (Nat.le_of_ble_eq_true rfl) ?_ | refine x_add rfl rfl rfl (by omega) ?_ | refine x_sub rfl rfl rfl (by omega) ?_ | refine x_cat rfl rfl rfl (by omega) ?_ | refine x_binI rfl rfl rfl rfl ?_ | refine x_binS rfl rfl rfl rfl ?_ | refine x_pick rfl rfl ?_ | refine x_un rfl rfl rfl ?_ | refine x_bx rfl rfl rfl ?_ | refine x_al rfl rfl rfl ?_ | refine x_st rfl rfl rfl rfl rfl (Nat.le_of_ble_eq_true rfl) (Nat.le_of_ble_eq_true rfl) ?_ | refine x_eqa rfl rfl rfl rfl rfl rfl ?_ | refine x_bd rfl rfl ?_ | refine x_ex rfl rfl rfl ?_ | refine x_fd rfl rfl (Nat.le_of_ble_eq_true rfl) ?_ | refine x_lenM rfl rfl ?_ | refine x_lenS rfl rfl ?_ | refine x_lent rfl rfl ?_ | refine x_lenO rfl rfl ?_ | refine x_binb rfl rfl rfl ?_ | refine x_cvs rfl rfl ?_ | refine x_cvi0 rfl rfl (by omega) ?_ | refine x_bs rfl rfl rfl rfl ?_ | refine x_mf rfl ?_ | refine x_s2b rfl rfl rfl ?_ | refine x_eqpP rfl rfl rfl ?_ | refine x_eqpN rfl rfl rfl ?_ | refine x_ncP rfl rfl ?_ | refine x_ncE rfl rfl ?_ | refine x_ncC rfl rfl ?_); simp only [putF, List.set_cons_zero, List.set_cons_succ, evO, List.getD_cons_zero, List.getD_cons_succ, V.ofValue, ofC, V.cells, partV, List.drop_zero, List.drop_succ_cons, List.take_succ_cons, List.take_zero, Nat.reduceAdd, Nat.reduceMul, Nat.zero_add, Nat.add_zero, if_true, if_false, Bool.false_eq_true, List.nil_append, List.cons_append, List.append_nil, List.map_cons, List.map_nil, presD]) | (refine x_case rfl (fun hb => ?_) (fun hb => ?_) <;> simp only [putF, List.set_cons_zero, List.set_cons_succ, evO, List.getD_cons_zero, List.getD_cons_succ, V.ofValue, ofC, V.cells, partV, List.drop_zero, List.drop_succ_cons, List.take_succ_cons, List.take_zero, Nat.reduceAdd, Nat.reduceMul, Nat.zero_add, Nat.add_zero, if_true, if_false, Bool.false_eq_true, List.nil_append, List.cons_append, List.append_nil, List.map_cons, List.map_nil, presD]))
  all_goals refine f_lit (by simp) rfl ?_
  all_goals (congr 1; grind)
theorem presCheck_v (p : PresD) : CallsV Try.prog 13 [presD p] (.i (presCheckL p)) := by
  obtain ⟨b, s, q, n⟩ := p
  obtain ⟨v, hv⟩ : ∃ v, presCheckL ⟨b, s, q, n⟩ = v := ⟨_, rfl⟩
  rw [hv]
  refine callsV_comp mix Try.func13 ac13_ok ?_
  unfold ac13
  simp only [List.length_cons, List.length_nil, List.replicate_succ, List.replicate_zero, List.cons_append, List.nil_append, Nat.reduceAdd, Nat.reduceSub]
  repeat' (first | (first | refine w_blk ?_ | refine w_seq ?_ | refine w_reg (by (try simp only [List.length_cons, List.length_nil, Nat.reduceAdd]); rfl) (by (try simp only [List.replicate_succ, List.replicate_zero, List.cons_append, List.nil_append, List.append_nil]); rfl) (fun K' hK' => ?_) | refine w_condT rfl ?_ | refine w_condF rfl ?_ | refine w_cond rfl (fun hb => ?_) (fun hb => ?_) | refine w_ret ?_ | refine w_skip ?_ | refine w_exit ?_ | refine q_seqN ?_ | refine q_seqR ?_ | refine q_seqE ?_ | refine q_blkN ?_ | refine q_blkR ?_ | refine q_blkH ?_ | refine q_blkE rfl ?_ | refine q_loopR ?_ | refine q_loopE ?_ | (refine x_end ?_; refine hK' _ _ _ ?_; clear hK' K'; first | refine q_regT ?_ | refine q_regD rfl ?_)) | ((first | refine x_mv rfl ?_ | refine x_off rfl ?_ | refine x_ldP rfl rfl rfl (Nat.le_of_ble_eq_true rfl) ?_ | refine x_faP rfl rfl ?_ | refine x_ldE rfl rfl (Nat.le_of_ble_eq_true rfl) ?_ | refine x_faE rfl rfl (Nat.le_of_ble_eq_true rfl) ?_ | refine x_add rfl rfl rfl (by omega) ?_ | refine x_sub rfl rfl rfl (by omega) ?_ | refine x_cat rfl rfl rfl (by omega) ?_ | refine x_binI rfl rfl rfl rfl ?_ | refine x_binS rfl rfl rfl rfl ?_ | refine x_pick rfl rfl ?_ | refine x_un rfl rfl rfl ?_ | refine x_bx rfl rfl rfl ?_ | refine x_al rfl rfl rfl ?_ | refine x_st rfl rfl rfl rfl rfl (Nat.le_of_ble_eq_true rfl) (Nat.le_of_ble_eq_true rfl) ?_ | refine x_eqa rfl rfl rfl rfl rfl rfl ?_ | refine x_bd rfl rfl ?_ | refine x_ex rfl rfl rfl ?_ | refine x_fd rfl rfl (Nat.le_of_ble_eq_true rfl) ?_ | refine x_lenM rfl rfl ?_ | refine x_lenS rfl rfl ?_ | refine x_lent rfl rfl ?_ | refine x_lenO rfl rfl ?_ | refine x_binb rfl rfl rfl ?_ | refine x_cvs rfl rfl ?_ | refine x_cvi0 rfl rfl (by omega) ?_ | refine x_bs rfl rfl rfl rfl ?_ | refine x_mf rfl ?_ | refine x_s2b rfl rfl rfl ?_ | refine x_eqpP rfl rfl rfl ?_ | refine x_eqpN rfl rfl rfl ?_ | refine x_ncP rfl rfl ?_ | refine x_ncE rfl rfl ?_ | refine x_ncC rfl rfl ?_); simp only [putF, List.set_cons_zero, List.set_cons_succ, evO, List.getD_cons_zero, List.getD_cons_succ, V.ofValue, ofC, V.cells, partV, List.drop_zero, List.drop_succ_cons, List.take_succ_cons, List.take_zero, Nat.reduceAdd, Nat.reduceMul, Nat.zero_add, Nat.add_zero, if_true, if_false, Bool.false_eq_true, List.nil_append, List.cons_append, List.append_nil, List.map_cons, List.map_nil, presD]) | (refine x_cl0 rfl (presIn_v _ _ _) rfl rfl ?_; simp only [putF, List.set_cons_zero, List.set_cons_succ, evO, List.getD_cons_zero, List.getD_cons_succ, V.ofValue, ofC, V.cells, partV, List.drop_zero, List.drop_succ_cons, List.take_succ_cons, List.take_zero, Nat.reduceAdd, Nat.reduceMul, Nat.zero_add, Nat.add_zero, if_true, if_false, Bool.false_eq_true, List.nil_append, List.cons_append, List.append_nil, List.map_cons, List.map_nil, presD]) | (refine x_case rfl (fun hb => ?_) (fun hb => ?_) <;> simp only [putF, List.set_cons_zero, List.set_cons_succ, evO, List.getD_cons_zero, List.getD_cons_succ, V.ofValue, ofC, V.cells, partV, List.drop_zero, List.drop_succ_cons, List.take_succ_cons, List.take_zero, Nat.reduceAdd, Nat.reduceMul, Nat.zero_add, Nat.add_zero, if_true, if_false, Bool.false_eq_true, List.nil_append, List.cons_append, List.append_nil, List.map_cons, List.map_nil, presD]))
  all_goals refine f_lit (by simp) rfl ?_
  all_goals (congr 1; rw [← hv]; simp [presCheckL] at *; first | done | grind)
theorem refPresCheck_v (p : PresD) : CallsV Try.prog 14 [presD p] (.i (presCheckL p)) := by
  obtain ⟨b, s, q, n⟩ := p
  obtain ⟨v, hv⟩ : ∃ v, presCheckL ⟨b, s, q, n⟩ = v := ⟨_, rfl⟩
  rw [hv]
  refine callsV_comp mix Try.func14 ac14_ok ?_
  unfold ac14
  simp only [List.length_cons, List.length_nil, List.replicate_succ, List.replicate_zero, List.cons_append, List.nil_append, Nat.reduceAdd, Nat.reduceSub]
  repeat' (first | (first | refine w_blk ?_ | refine w_seq ?_ | refine w_reg (by (try simp only [List.length_cons, List.length_nil, Nat.reduceAdd]); rfl) (by (try simp only [List.replicate_succ, List.replicate_zero, List.cons_append, List.nil_append, List.append_nil]); rfl) (fun K' hK' => ?_) | refine w_condT rfl ?_ | refine w_condF rfl ?_ | refine w_cond rfl (fun hb => ?_) (fun hb => ?_) | refine w_ret ?_ | refine w_skip ?_ | refine w_exit ?_ | refine q_seqN ?_ | refine q_seqR ?_ | refine q_seqE ?_ | refine q_blkN ?_ | refine q_blkR ?_ | refine q_blkH ?_ | refine q_blkE rfl ?_ | refine q_loopR ?_ | refine q_loopE ?_ | (refine x_end ?_; refine hK' _ _ _ ?_; clear hK' K'; first | refine q_regT ?_ | refine q_regD rfl ?_)) | ((first | refine x_mv rfl ?_ | refine x_off rfl ?_ | refine x_ldP rfl rfl rfl (Nat.le_of_ble_eq_true rfl) ?_ | refine x_faP rfl rfl ?_ | refine x_ldE rfl rfl (Nat.le_of_ble_eq_true rfl) ?_ | refine x_faE rfl rfl (Nat.le_of_ble_eq_true rfl) ?_ | refine x_add rfl rfl rfl (by omega) ?_ | refine x_sub rfl rfl rfl (by omega) ?_ | refine x_cat rfl rfl rfl (by omega) ?_ | refine x_binI rfl rfl rfl rfl ?_ | refine x_binS rfl rfl rfl rfl ?_ | refine x_pick rfl rfl ?_ | refine x_un rfl rfl rfl ?_ | refine x_bx rfl rfl rfl ?_ | refine x_al rfl rfl rfl ?_ | refine x_st rfl rfl rfl rfl rfl (Nat.le_of_ble_eq_true rfl) (Nat.le_of_ble_eq_true rfl) ?_ | refine x_eqa rfl rfl rfl rfl rfl rfl ?_ | refine x_bd rfl rfl ?_ | refine x_ex rfl rfl rfl ?_ | refine x_fd rfl rfl (Nat.le_of_ble_eq_true rfl) ?_ | refine x_lenM rfl rfl ?_ | refine x_lenS rfl rfl ?_ | refine x_lent rfl rfl ?_ | refine x_lenO rfl rfl ?_ | refine x_binb rfl rfl rfl ?_ | refine x_cvs rfl rfl ?_ | refine x_cvi0 rfl rfl (by omega) ?_ | refine x_bs rfl rfl rfl rfl ?_ | refine x_mf rfl ?_ | refine x_s2b rfl rfl rfl ?_ | refine x_eqpP rfl rfl rfl ?_ | refine x_eqpN rfl rfl rfl ?_ | refine x_ncP rfl rfl ?_ | refine x_ncE rfl rfl ?_ | refine x_ncC rfl rfl ?_); simp only [putF, List.set_cons_zero, List.set_cons_succ, evO, List.getD_cons_zero, List.getD_cons_succ, V.ofValue, ofC, V.cells, partV, List.drop_zero, List.drop_succ_cons, List.take_succ_cons, List.take_zero, Nat.reduceAdd, Nat.reduceMul, Nat.zero_add, Nat.add_zero, if_true, if_false, Bool.false_eq_true, List.nil_append, List.cons_append, List.append_nil, List.map_cons, List.map_nil, presD]) | (refine x_case rfl (fun hb => ?_) (fun hb => ?_) <;> simp only [putF, List.set_cons_zero, List.set_cons_succ, evO, List.getD_cons_zero, List.getD_cons_succ, V.ofValue, ofC, V.cells, partV, List.drop_zero, List.drop_succ_cons, List.take_succ_cons, List.take_zero, Nat.reduceAdd, Nat.reduceMul, Nat.zero_add, Nat.add_zero, if_true, if_false, Bool.false_eq_true, List.nil_append, List.cons_append, List.append_nil, List.map_cons, List.map_nil, presD]))
  all_goals refine f_lit (by simp) rfl ?_
  all_goals (congr 1; rw [← hv]; simp [presCheckL] at *; first | done | grind)
theorem newer_v (p q : PresD) : CallsV Try.prog 15 [presD p, presD q] (.b (newerL p q)) := by
  refine callsV_comp mix Try.func15 ac15_ok ?_
  unfold ac15
  simp only [List.length_cons, List.length_nil, List.replicate_succ, List.replicate_zero, List.cons_append, List.nil_append, Nat.reduceAdd, Nat.reduceSub]
  repeat' (first | (first | refine w_blk ?_ | refine w_seq ?_ | refine w_reg (by (try simp only [List.length_cons, List.length_nil, Nat.reduceAdd]); rfl) (by (try simp only [List.replicate_succ, List.replicate_zero, List.cons_append, List.nil_append, List.append_nil]); rfl) (fun K' hK' => ?_) | refine w_condT rfl ?_ | refine w_condF rfl ?_ | refine w_cond rfl (fun hb => ?_) (fun hb => ?_) | refine w_ret ?_ | refine w_skip ?_ | refine w_exit ?_ | refine q_seqN ?_ | refine q_seqR ?_ | refine q_seqE ?_ | refine q_blkN ?_ | refine q_blkR ?_ | refine q_blkH ?_ | refine q_blkE rfl ?_ | refine q_loopR ?_ | refine q_loopE ?_ | (refine x_end ?_; refine hK' _ _ _ ?_; clear hK' K'; first | refine q_regT ?_ | refine q_regD rfl ?_)) | ((first | refine x_mv rfl ?_ | refine x_off rfl ?_ | refine x_ldP rfl rfl rfl (Nat.le_of_ble_eq_true rfl) ?_ | refine x_faP rfl rfl ?_ | refine x_ldE rfl rfl (Nat.le_of_ble_eq_true rfl) ?_ | refine x_faE rfl rfl (Nat.le_of_ble_eq_true rfl) ?_ | refine x_add rfl rfl rfl (by omega) ?_ | refine x_sub rfl rfl rfl (by omega) ?_ | refine x_cat rfl rfl rfl (by omega) ?_ | refine x_binI rfl rfl rfl rfl ?_ | refine x_binS rfl rfl rfl rfl ?_ | refine x_pick rfl rfl ?_ | refine x_un rfl rfl rfl ?_ | refine x_bx rfl rfl rfl ?_ | refine x_al rfl rfl rfl ?_ | refine x_st rfl rfl rfl rfl rfl (Nat.le_of_ble_eq_true rfl) (Nat.le_of_ble_eq_true rfl) ?_ | refine x_eqa rfl rfl rfl rfl rfl rfl ?_ | refine x_bd rfl rfl ?_ | refine x_ex rfl rfl rfl ?_ | refine x_fd rfl rfl (Nat.le_of_ble_eq_true rfl) ?_ | refine x_lenM rfl rfl ?_ | refine x_lenS rfl rfl ?_ | refine x_lent rfl rfl ?_ | refine x_lenO rfl rfl ?_ | refine x_binb rfl rfl rfl ?_ | refine x_cvs rfl rfl ?_ | refine x_cvi0 rfl rfl (by omega) ?_ | refine x_bs rfl rfl rfl rfl ?_ | refine x_mf rfl ?_ | refine x_s2b rfl rfl rfl ?_ | refine x_eqpP rfl rfl rfl ?_ | refine x_eqpN rfl rfl rfl ?_ | refine x_ncP rfl rfl ?_ | refine x_ncE rfl rfl ?_ | refine x_ncC rfl rfl ?_); simp only [putF, List.set_cons_zero, List.set_cons_succ, evO, List.getD_cons_zero, List.getD_cons_succ, V.ofValue, ofC, V.cells, partV, List.drop_zero, List.drop_succ_cons, List.take_succ_cons, List.take_zero, Nat.reduceAdd, Nat.reduceMul, Nat.zero_add, Nat.add_zero, if_true, if_false, Bool.false_eq_true, List.nil_append, List.cons_append, List.append_nil, List.map_cons, List.map_nil, presD]) | (refine x_case rfl (fun hb => ?_) (fun hb => ?_) <;> simp only [putF, List.set_cons_zero, List.set_cons_succ, evO, List.getD_cons_zero, List.getD_cons_succ, V.ofValue, ofC, V.cells, partV, List.drop_zero, List.drop_succ_cons, List.take_succ_cons, List.take_zero, Nat.reduceAdd, Nat.reduceMul, Nat.zero_add, Nat.add_zero, if_true, if_false, Bool.false_eq_true, List.nil_append, List.cons_append, List.append_nil, List.map_cons, List.map_nil, presD]))
  all_goals refine f_lit (by simp) rfl ?_
  all_goals rfl
theorem refNewer_v (p q : PresD) : CallsV Try.prog 16 [presD p, presD q] (.b (newerL p q)) := by
  refine callsV_comp mix Try.func16 ac16_ok ?_
  unfold ac16
  simp only [List.length_cons, List.length_nil, List.replicate_succ, List.replicate_zero, List.cons_append, List.nil_append, Nat.reduceAdd, Nat.reduceSub]
  repeat' (first | (first | refine w_blk ?_ | refine w_seq ?_ | refine w_reg (by (try simp only [List.length_cons, List.length_nil, Nat.reduceAdd]); rfl) (by (try simp only [List.replicate_succ, List.replicate_zero, List.cons_append, List.nil_append, List.append_nil]); rfl) (fun K' hK' => ?_) | refine w_condT rfl ?_ | refine w_condF rfl ?_ | refine w_cond rfl (fun hb => ?_) (fun hb => ?_) | refine w_ret ?_ | refine w_skip ?_ | refine w_exit ?_ | refine q_seqN ?_ | refine q_seqR ?_ | refine q_seqE ?_ | refine q_blkN ?_ | refine q_blkR ?_ | refine q_blkH ?_ | refine q_blkE rfl ?_ | refine q_loopR ?_ | refine q_loopE ?_ | (refine x_end ?_; refine hK' _ _ _ ?_; clear hK' K'; first | refine q_regT ?_ | refine q_regD rfl ?_)) | ((first | refine x_mv rfl ?_ | refine x_off rfl ?_ | refine x_ldP rfl rfl rfl (Nat.le_of_ble_eq_true rfl) ?_ | refine x_faP rfl rfl ?_ | refine x_ldE rfl rfl (Nat.le_of_ble_eq_true rfl) ?_ | refine x_faE rfl rfl (Nat.le_of_ble_eq_true rfl) ?_ | refine x_add rfl rfl rfl (by omega) ?_ | refine x_sub rfl rfl rfl (by omega) ?_ | refine x_cat rfl rfl rfl (by omega) ?_ | refine x_binI rfl rfl rfl rfl ?_ | refine x_binS rfl rfl rfl rfl ?_ | refine x_pick rfl rfl ?_ | refine x_un rfl rfl rfl ?_ | refine x_bx rfl rfl rfl ?_ | refine x_al rfl rfl rfl ?_ | refine x_st rfl rfl rfl rfl rfl (Nat.le_of_ble_eq_true rfl) (Nat.le_of_ble_eq_true rfl) ?_ | refine x_eqa rfl rfl rfl rfl rfl rfl ?_ | refine x_bd rfl rfl ?_ | refine x_ex rfl rfl rfl ?_ | refine x_fd rfl rfl (Nat.le_of_ble_eq_true rfl) ?_ | refine x_lenM rfl rfl ?_ | refine x_lenS rfl rfl ?_ | refine x_lent rfl rfl ?_ | refine x_lenO rfl rfl ?_ | refine x_binb rfl rfl rfl ?_ | refine x_cvs rfl rfl ?_ | refine x_cvi0 rfl rfl (by omega) ?_ | refine x_bs rfl rfl rfl rfl ?_ | refine x_mf rfl ?_ | refine x_s2b rfl rfl rfl ?_ | refine x_eqpP rfl rfl rfl ?_ | refine x_eqpN rfl rfl rfl ?_ | refine x_ncP rfl rfl ?_ | refine x_ncE rfl rfl ?_ | refine x_ncC rfl rfl ?_); simp only [putF, List.set_cons_zero, List.set_cons_succ, evO, List.getD_cons_zero, List.getD_cons_succ, V.ofValue, ofC, V.cells, partV, List.drop_zero, List.drop_succ_cons, List.take_succ_cons, List.take_zero, Nat.reduceAdd, Nat.reduceMul, Nat.zero_add, Nat.add_zero, if_true, if_false, Bool.false_eq_true, List.nil_append, List.cons_append, List.append_nil, List.map_cons, List.map_nil, presD]) | (refine x_case rfl (fun hb => ?_) (fun hb => ?_) <;> simp only [putF, List.set_cons_zero, List.set_cons_succ, evO, List.getD_cons_zero, List.getD_cons_succ, V.ofValue, ofC, V.cells, partV, List.drop_zero, List.drop_succ_cons, List.take_succ_cons, List.take_zero, Nat.reduceAdd, Nat.reduceMul, Nat.zero_add, Nat.add_zero, if_true, if_false, Bool.false_eq_true, List.nil_append, List.cons_append, List.append_nil, List.map_cons, List.map_nil, presD]))
  all_goals refine f_lit (by simp) rfl ?_
  all_goals rfl
theorem better_v (p q : PresD) : CallsV Try.prog 17 [presD p, presD q] (.b (betterL p q)) := by
  refine callsV_comp mix Try.func17 ac17_ok ?_
  unfold ac17
  simp only [List.length_cons, List.length_nil, List.replicate_succ, List.replicate_zero, List.cons_append, List.nil_append, Nat.reduceAdd, Nat.reduceSub]
  repeat' (first | (first | refine w_blk ?_ | refine w_seq ?_ | refine w_reg (by (try simp only [List.length_cons, List.length_nil, Nat.reduceAdd]); rfl) (by (try simp only [List.replicate_succ, List.replicate_zero, List.cons_append, List.nil_append, List.append_nil]); rfl) (fun K' hK' => ?_) | refine w_condT rfl ?_ | refine w_condF rfl ?_ | refine w_cond rfl (fun hb => ?_) (fun hb => ?_) | refine w_ret ?_ | refine w_skip ?_ | refine w_exit ?_ | refine q_seqN ?_ | refine q_seqR ?_ | refine q_seqE ?_ | refine q_blkN ?_ | refine q_blkR ?_ | refine q_blkH ?_ | refine q_blkE rfl ?_ | refine q_loopR ?_ | refine q_loopE ?_ | (refine x_end ?_; refine hK' _ _ _ ?_; clear hK' K'; first | refine q_regT ?_ | refine q_regD rfl ?_)) | ((first | refine x_mv rfl ?_ | refine x_off rfl ?_ | refine x_ldP rfl rfl rfl (Nat.le_of_ble_eq_true rfl) ?_ | refine x_faP rfl rfl ?_ | refine x_ldE rfl rfl (Nat.le_of_ble_eq_true rfl) ?_ | refine x_faE rfl rfl (Nat.le_of_ble_eq_true rfl) ?_ | refine x_add rfl rfl rfl (by omega) ?_ | refine x_sub rfl rfl rfl (by omega) ?_ | refine x_cat rfl rfl rfl (by omega) ?_ | refine x_binI rfl rfl rfl rfl ?_ | refine x_binS rfl rfl rfl rfl ?_ | refine x_pick rfl rfl ?_ | refine x_un rfl rfl rfl ?_ | refine x_bx rfl rfl rfl ?_ | refine x_al rfl rfl rfl ?_ | refine x_st rfl rfl rfl rfl rfl (Nat.le_of_ble_eq_true rfl) (Nat.le_of_ble_eq_true rfl) ?_ | refine x_eqa rfl rfl rfl rfl rfl rfl ?_ | refine x_bd rfl rfl ?_ | refine x_ex rfl rfl rfl ?_ | refine x_fd rfl rfl (Nat.le_of_ble_eq_true rfl) ?_ | refine x_lenM rfl rfl ?_ | refine x_lenS rfl rfl ?_ | refine x_lent rfl rfl ?_ | refine x_lenO rfl rfl ?_ | refine x_binb rfl rfl rfl ?_ | refine x_cvs rfl rfl ?_ | refine x_cvi0 rfl rfl (by omega) ?_ | refine x_bs rfl rfl rfl rfl ?_ | refine x_mf rfl ?_ | refine x_s2b rfl rfl rfl ?_ | refine x_eqpP rfl rfl rfl ?_ | refine x_eqpN rfl rfl rfl ?_ | refine x_ncP rfl rfl ?_ | refine x_ncE rfl rfl ?_ | refine x_ncC rfl rfl ?_); simp only [putF, List.set_cons_zero, List.set_cons_succ, evO, List.getD_cons_zero, List.getD_cons_succ, V.ofValue, ofC, V.cells, partV, List.drop_zero, List.drop_succ_cons, List.take_succ_cons, List.take_zero, Nat.reduceAdd, Nat.reduceMul, Nat.zero_add, Nat.add_zero, if_true, if_false, Bool.false_eq_true, List.nil_append, List.cons_append, List.append_nil, List.map_cons, List.map_nil, presD]) | (refine x_cl0 rfl (newer_v _ _) rfl rfl ?_; simp only [putF, List.set_cons_zero, List.set_cons_succ, evO, List.getD_cons_zero, List.getD_cons_succ, V.ofValue, ofC, V.cells, partV, List.drop_zero, List.drop_succ_cons, List.take_succ_cons, List.take_zero, Nat.reduceAdd, Nat.reduceMul, Nat.zero_add, Nat.add_zero, if_true, if_false, Bool.false_eq_true, List.nil_append, List.cons_append, List.append_nil, List.map_cons, List.map_nil, presD]) | (refine x_case rfl (fun hb => ?_) (fun hb => ?_) <;> simp only [putF, List.set_cons_zero, List.set_cons_succ, evO, List.getD_cons_zero, List.getD_cons_succ, V.ofValue, ofC, V.cells, partV, List.drop_zero, List.drop_succ_cons, List.take_succ_cons, List.take_zero, Nat.reduceAdd, Nat.reduceMul, Nat.zero_add, Nat.add_zero, if_true, if_false, Bool.false_eq_true, List.nil_append, List.cons_append, List.append_nil, List.map_cons, List.map_nil, presD]))
  all_goals refine f_lit (by simp) rfl ?_
  all_goals (congr 1; simp [betterL, newerL] at *; first | done | grind)
theorem refBetter_v (p q : PresD) : CallsV Try.prog 18 [presD p, presD q] (.b (betterL p q)) := by
  refine callsV_comp mix Try.func18 ac18_ok ?_
  unfold ac18
  simp only [List.length_cons, List.length_nil, List.replicate_succ, List.replicate_zero, List.cons_append, List.nil_append, Nat.reduceAdd, Nat.reduceSub]
  repeat' (first | (first | refine w_blk ?_ | refine w_seq ?_ | refine w_reg (by (try simp only [List.length_cons, List.length_nil, Nat.reduceAdd]); rfl) (by (try simp only [List.replicate_succ, List.replicate_zero, List.cons_append, List.nil_append, List.append_nil]); rfl) (fun K' hK' => ?_) | refine w_condT rfl ?_ | refine w_condF rfl ?_ | refine w_cond rfl (fun hb => ?_) (fun hb => ?_) | refine w_ret ?_ | refine w_skip ?_ | refine w_exit ?_ | refine q_seqN ?_ | refine q_seqR ?_ | refine q_seqE ?_ | refine q_blkN ?_ | refine q_blkR ?_ | refine q_blkH ?_ | refine q_blkE rfl ?_ | refine q_loopR ?_ | refine q_loopE ?_ | (refine x_end ?_; refine hK' _ _ _ ?_; clear hK' K'; first | refine q_regT ?_ | refine q_regD rfl ?_)) | ((first | refine x_mv rfl ?_ | refine x_off rfl ?_ | refine x_ldP rfl rfl rfl (Nat.le_of_ble_eq_true rfl) ?_ | refine x_faP rfl rfl ?_ | refine x_ldE rfl rfl (Nat.le_of_ble_eq_true rfl) ?_ | refine x_faE rfl rfl (Nat.le_of_ble_eq_true rfl) ?_ | refine x_add rfl rfl rfl (by omega) ?_ | refine x_sub rfl rfl rfl (by omega) ?_ | refine x_cat rfl rfl rfl (by omega) ?_ | refine x_binI rfl rfl rfl rfl ?_ | refine x_binS rfl rfl rfl rfl ?_ | refine x_pick rfl rfl ?_ | refine x_un rfl rfl rfl ?_ | refine x_bx rfl rfl rfl ?_ | refine x_al rfl rfl rfl ?_ | refine x_st rfl rfl rfl rfl rfl (Nat.le_of_ble_eq_true rfl) (Nat.le_of_ble_eq_true rfl) ?_ | refine x_eqa rfl rfl rfl rfl rfl rfl ?_ | refine x_bd rfl rfl ?_ | refine x_ex rfl rfl rfl ?_ | refine x_fd rfl rfl (Nat.le_of_ble_eq_true rfl) ?_ | refine x_lenM rfl rfl ?_ | refine x_lenS rfl rfl ?_ | refine x_lent rfl rfl ?_ | refine x_lenO rfl rfl ?_ | refine x_binb rfl rfl rfl ?_ | refine x_cvs rfl rfl ?_ | refine x_cvi0 rfl rfl (by omega) ?_ | refine x_bs rfl rfl rfl rfl ?_ | refine x_mf rfl ?_ | refine x_s2b rfl rfl rfl ?_ | refine x_eqpP rfl rfl rfl ?_ | refine x_eqpN rfl rfl rfl ?_ | refine x_ncP rfl rfl ?_ | refine x_ncE rfl rfl ?_ | refine x_ncC rfl rfl ?_); simp only [putF, List.set_cons_zero, List.set_cons_succ, evO, List.getD_cons_zero, List.getD_cons_succ, V.ofValue, ofC, V.cells, partV, List.drop_zero, List.drop_succ_cons, List.take_succ_cons, List.take_zero, Nat.reduceAdd, Nat.reduceMul, Nat.zero_add, Nat.add_zero, if_true, if_false, Bool.false_eq_true, List.nil_append, List.cons_append, List.append_nil, List.map_cons, List.map_nil, presD]) | (refine x_cl0 rfl (refNewer_v _ _) rfl rfl ?_; simp only [putF, List.set_cons_zero, List.set_cons_succ, evO, List.getD_cons_zero, List.getD_cons_succ, V.ofValue, ofC, V.cells, partV, List.drop_zero, List.drop_succ_cons, List.take_succ_cons, List.take_zero, Nat.reduceAdd, Nat.reduceMul, Nat.zero_add, Nat.add_zero, if_true, if_false, Bool.false_eq_true, List.nil_append, List.cons_append, List.append_nil, List.map_cons, List.map_nil, presD]) | (refine x_case rfl (fun hb => ?_) (fun hb => ?_) <;> simp only [putF, List.set_cons_zero, List.set_cons_succ, evO, List.getD_cons_zero, List.getD_cons_succ, V.ofValue, ofC, V.cells, partV, List.drop_zero, List.drop_succ_cons, List.take_succ_cons, List.take_zero, Nat.reduceAdd, Nat.reduceMul, Nat.zero_add, Nat.add_zero, if_true, if_false, Bool.false_eq_true, List.nil_append, List.cons_append, List.append_nil, List.map_cons, List.map_nil, presD]))
  all_goals refine f_lit (by simp) rfl ?_
  all_goals (congr 1; simp [betterL, newerL] at *; first | done | grind)
theorem best_v (l : List PresD) (full : Bool) (hn : l.length ≤ 1000) : CallsV Try.prog 19 [.sl (l.map presD) full] (.i (bestTo l l.length)) := by
  refine callsV_comp mix Try.func19 ac19_ok ?_
  unfold ac19
  simp only [List.length_cons, List.length_nil, List.replicate_succ, List.replicate_zero, List.cons_append, List.nil_append, Nat.reduceAdd, Nat.reduceSub]
  repeat' (first | (first | refine w_blk ?_ | refine w_seq ?_ | refine w_reg (by (try simp only [List.length_cons, List.length_nil, Nat.reduceAdd]); rfl) (by (try simp only [List.replicate_succ, List.replicate_zero, List.cons_append, List.nil_append, List.append_nil]); rfl) (fun K' hK' => ?_) | refine w_condT rfl ?_ | refine w_condF rfl ?_ | refine w_cond rfl (fun hb => ?_) (fun hb => ?_) | refine w_ret ?_ | refine w_skip ?_ | refine w_exit ?_ | refine q_seqN ?_ | refine q_seqR ?_ | refine q_seqE ?_ | refine q_blkN ?_ | refine q_blkR ?_ | refine q_blkH ?_ | refine q_blkE rfl ?_ | refine q_loopR ?_ | refine q_loopE ?_ | (refine x_end ?_; refine hK' _ _ _ ?_; clear hK' K'; first | refine q_regT ?_ | refine q_regD rfl ?_)) | ((first | refine x_mv rfl ?_ | refine x_off rfl ?_ | refine x_ldP rfl rfl rfl (Nat.le_of_ble_eq_true rfl) ?_ | refine x_faP rfl rfl ?_ | refine x_ldE rfl rfl (Nat.le_of_ble_eq_true rfl) ?_ | refine x_faE rfl rfl (Nat.le_of_ble_eq_true rfl) ?_ | refine x_add rfl rfl rfl (by omega) ?_ | refine x_sub rfl rfl rfl (by omega) ?_ | refine x_cat rfl rfl rfl (by omega) ?_ | refine x_binI rfl rfl rfl rfl ?_ | refine x_binS rfl rfl rfl rfl ?_ | refine x_pick rfl rfl ?_ | refine x_un rfl rfl rfl ?_ | refine x_bx rfl rfl rfl ?_ | refine x_al rfl rfl rfl ?_ | refine x_st rfl rfl rfl rfl rfl (Nat.le_of_ble_eq_true rfl) (Nat.le_of_ble_eq_true rfl) ?_ | refine x_eqa rfl rfl rfl rfl rfl rfl ?_ | refine x_bd rfl rfl ?_ | refine x_ex rfl rfl rfl ?_ | refine x_fd rfl rfl (Nat.le_of_ble_eq_true rfl) ?_ | refine x_lenM rfl rfl ?_ | refine x_lenS rfl rfl ?_ | refine x_lent rfl rfl ?_ | refine x_lenO rfl rfl ?_ | refine x_binb rfl rfl rfl ?_ | refine x_cvs rfl rfl ?_ | refine x_cvi0 rfl rfl (by omega) ?_ | refine x_bs rfl rfl rfl rfl ?_ | refine x_mf rfl ?_ | refine x_s2b rfl rfl rfl ?_ | refine x_eqpP rfl rfl rfl ?_ | refine x_eqpN rfl rfl rfl ?_ | refine x_ncP rfl rfl ?_ | refine x_ncE rfl rfl ?_ | refine x_ncC rfl rfl ?_); simp only [putF, List.set_cons_zero, List.set_cons_succ, evO, List.getD_cons_zero, List.getD_cons_succ, V.ofValue, ofC, V.cells, partV, List.drop_zero, List.drop_succ_cons, List.take_succ_cons, List.take_zero, Nat.reduceAdd, Nat.reduceMul, Nat.zero_add, Nat.add_zero, if_true, if_false, Bool.false_eq_true, List.nil_append, List.cons_append, List.append_nil, List.map_cons, List.map_nil, presD]) | (refine x_case rfl (fun hb => ?_) (fun hb => ?_) <;> simp only [putF, List.set_cons_zero, List.set_cons_succ, evO, List.getD_cons_zero, List.getD_cons_succ, V.ofValue, ofC, V.cells, partV, List.drop_zero, List.drop_succ_cons, List.take_succ_cons, List.take_zero, Nat.reduceAdd, Nat.reduceMul, Nat.zero_add, Nat.add_zero, if_true, if_false, Bool.false_eq_true, List.nil_append, List.cons_append, List.append_nil, List.map_cons, List.map_nil, presD]))
  refine w_loop [3, 8] [4, 5, 9, 10, 11, 12, 13, 14, 15, 16, 17, 18, 19, 20, 21, 22, 23, 24, 25, 26, 27, 28] (fun n vals st => ∃ k : Nat, k + n = l.length ∧ vals = [.i (bestTo l k), .i k] ∧ st = []) l.length 0 [] [.i (-1), .i 0] (by refine wk0_intro (by omega) (by simp only [setF, maskF, List.set_cons_zero, List.set_cons_succ]; repeat' (first | exact trivial | refine ⟨?_, ?_⟩ | exact .inr (.inl ⟨rfl, rfl, rfl⟩) | exact .inr (.inr ⟨rfl, rfl⟩) | exact .inl rfl)) rfl rfl (by repeat' (first | exact trivial | refine ⟨rfl, ?_⟩ | refine wkS_live0 (by assumption) ?_))) ⟨0, by omega, rfl, rfl⟩ ?_
  rintro n vals st ⟨k, hk, rfl, rfl⟩
  simp only [setF, maskF, List.set_cons_zero, List.set_cons_succ]
  have hbd := bestTo_bd l k
  repeat' (first | (first | refine w_blk ?_ | refine w_seq ?_ | refine w_reg (by (try simp only [List.length_cons, List.length_nil, Nat.reduceAdd]); rfl) (by (try simp only [List.replicate_succ, List.replicate_zero, List.cons_append, List.nil_append, List.append_nil]); rfl) (fun K' hK' => ?_) | refine w_condT rfl ?_ | refine w_condF rfl ?_ | refine w_cond rfl (fun hb => ?_) (fun hb => ?_) | refine w_ret ?_ | refine w_skip ?_ | refine w_exit ?_ | refine q_seqN ?_ | refine q_seqR ?_ | refine q_seqE ?_ | refine q_blkN ?_ | refine q_blkR ?_ | refine q_blkH ?_ | refine q_blkE rfl ?_ | refine q_loopR ?_ | refine q_loopE ?_ | (refine x_end ?_; refine hK' _ _ _ ?_; clear hK' K'; first | refine q_regT ?_ | refine q_regD rfl ?_)) | ((first | refine x_mv rfl ?_ | refine x_off rfl ?_ | refine x_ldP rfl rfl rfl (Nat.le_of_ble_eq_true rfl) ?_ | refine x_faP rfl rfl ?_ | refine x_ldE rfl rfl (Nat.le_of_ble_eq_true rfl) ?_ | refine x_faE rfl rfl (Nat.le_of_ble_eq_true rfl) ?_ | refine x_add rfl rfl rfl (by omega) ?_ | refine x_sub rfl rfl rfl (by omega) ?_ | refine x_cat rfl rfl rfl (by omega) ?_ | refine x_binI rfl rfl rfl rfl ?_ | refine x_binS rfl rfl rfl rfl ?_ | refine x_pick rfl rfl ?_ | refine x_un rfl rfl rfl ?_ | refine x_bx rfl rfl rfl ?_ | refine x_al rfl rfl rfl ?_ | refine x_st rfl rfl rfl rfl rfl (Nat.le_of_ble_eq_true rfl) (Nat.le_of_ble_eq_true rfl) ?_ | refine x_eqa rfl rfl rfl rfl rfl rfl ?_ | refine x_bd rfl rfl ?_ | refine x_ex rfl rfl rfl ?_ | refine x_fd rfl rfl (Nat.le_of_ble_eq_true rfl) ?_ | refine x_lenM rfl rfl ?_ | refine x_lenS rfl rfl ?_ | refine x_lent rfl rfl ?_ | refine x_lenO rfl rfl ?_ | refine x_binb rfl rfl rfl ?_ | refine x_cvs rfl rfl ?_ | refine x_cvi0 rfl rfl (by omega) ?_ | refine x_bs rfl rfl rfl rfl ?_ | refine x_mf rfl ?_ | refine x_s2b rfl rfl rfl ?_ | refine x_eqpP rfl rfl rfl ?_ | refine x_eqpN rfl rfl rfl ?_ | refine x_ncP rfl rfl ?_ | refine x_ncE rfl rfl ?_ | refine x_ncC rfl rfl ?_); simp only [putF, List.set_cons_zero, List.set_cons_succ, evO, List.getD_cons_zero, List.getD_cons_succ, V.ofValue, ofC, V.cells, partV, List.drop_zero, List.drop_succ_cons, List.take_succ_cons, List.take_zero, Nat.reduceAdd, Nat.reduceMul, Nat.zero_add, Nat.add_zero, if_true, if_false, Bool.false_eq_true, List.nil_append, List.cons_append, List.append_nil, List.map_cons, List.map_nil, presD]) | (refine x_case rfl (fun hb => ?_) (fun hb => ?_) <;> simp only [putF, List.set_cons_zero, List.set_cons_succ, evO, List.getD_cons_zero, List.getD_cons_succ, V.ofValue, ofC, V.cells, partV, List.drop_zero, List.drop_succ_cons, List.take_succ_cons, List.take_zero, Nat.reduceAdd, Nat.reduceMul, Nat.zero_add, Nat.add_zero, if_true, if_false, Bool.false_eq_true, List.nil_append, List.cons_append, List.append_nil, List.map_cons, List.map_nil, presD]))
  · have hlt : k < l.length := by simpa using hb
    clear hb
    have hstep : bestTo l (k + 1) = if l[k].on = true ∧ (bestTo l k < 0 ∨ betterL l[k] (l.getD (bestTo l k).toNat ⟨false, 0, 0, 0⟩) = true) then (k : Int) else bestTo l k := by
      simp [bestTo, hlt]
    obtain ⟨m, hm, hm2⟩ : ∃ m : Nat, m < l.length ∧ (bestTo l k = -1 ∨ bestTo l k = m) := by
      by_cases hz : bestTo l k = -1
      · exact ⟨0, by omega, .inl hz⟩
      · exact ⟨(bestTo l k).toNat, by omega, .inr (by omega)⟩
    generalize bestTo l k = bt at *
    rcases hm2 with rfl | rfl
    all_goals repeat' (first | (first | refine w_blk ?_ | refine w_seq ?_ | refine w_reg (by (try simp only [List.length_cons, List.length_nil, Nat.reduceAdd]); rfl) (by (try simp only [List.replicate_succ, List.replicate_zero, List.cons_append, List.nil_append, List.append_nil]); rfl) (fun K' hK' => ?_) | refine w_condT rfl ?_ | refine w_condF rfl ?_ | refine w_cond rfl (fun hb => ?_) (fun hb => ?_) | refine w_ret ?_ | refine w_skip ?_ | refine w_exit ?_ | refine q_seqN ?_ | refine q_seqR ?_ | refine q_seqE ?_ | refine q_blkN ?_ | refine q_blkR ?_ | refine q_blkH ?_ | refine q_blkE rfl ?_ | refine q_loopR ?_ | refine q_loopE ?_ | (refine x_end ?_; refine hK' _ _ _ ?_; clear hK' K'; first | refine q_regT ?_ | refine q_regD rfl ?_)) | ((first | refine x_mv rfl ?_ | refine x_off rfl ?_ | refine x_ldP rfl rfl rfl (Nat.le_of_ble_eq_true rfl) ?_ | refine x_faP rfl rfl ?_ | refine x_ldE rfl rfl (Nat.le_of_ble_eq_true rfl) ?_ | refine x_faE rfl rfl (Nat.le_of_ble_eq_true rfl) ?_ | refine x_add rfl rfl rfl (by omega) ?_ | refine x_sub rfl rfl rfl (by omega) ?_ | refine x_cat rfl rfl rfl (by omega) ?_ | refine x_binI rfl rfl rfl rfl ?_ | refine x_binS rfl rfl rfl rfl ?_ | refine x_pick rfl rfl ?_ | refine x_un rfl rfl rfl ?_ | refine x_bx rfl rfl rfl ?_ | refine x_al rfl rfl rfl ?_ | refine x_st rfl rfl rfl rfl rfl (Nat.le_of_ble_eq_true rfl) (Nat.le_of_ble_eq_true rfl) ?_ | refine x_eqa rfl rfl rfl rfl rfl rfl ?_ | refine x_bd rfl rfl ?_ | refine x_ex rfl rfl rfl ?_ | refine x_fd rfl rfl (Nat.le_of_ble_eq_true rfl) ?_ | refine x_lenM rfl rfl ?_ | refine x_lenS rfl rfl ?_ | refine x_lent rfl rfl ?_ | refine x_lenO rfl rfl ?_ | refine x_binb rfl rfl rfl ?_ | refine x_cvs rfl rfl ?_ | refine x_cvi0 rfl rfl (by omega) ?_ | refine x_bs rfl rfl rfl rfl ?_ | refine x_mf rfl ?_ | refine x_s2b rfl rfl rfl ?_ | refine x_eqpP rfl rfl rfl ?_ | refine x_eqpN rfl rfl rfl ?_ | refine x_ncP rfl rfl ?_ | refine x_ncE rfl rfl ?_ | refine x_ncC rfl rfl ?_); simp only [putF, List.set_cons_zero, List.set_cons_succ, evO, List.getD_cons_zero, List.getD_cons_succ, V.ofValue, ofC, V.cells, partV, List.drop_zero, List.drop_succ_cons, List.take_succ_cons, List.take_zero, Nat.reduceAdd, Nat.reduceMul, Nat.zero_add, Nat.add_zero, if_true, if_false, Bool.false_eq_true, List.nil_append, List.cons_append, List.append_nil, List.map_cons, List.map_nil, presD]) | (refine x_cl0 rfl (better_v _ _) rfl rfl ?_; simp only [putF, List.set_cons_zero, List.set_cons_succ, evO, List.getD_cons_zero, List.getD_cons_succ, V.ofValue, ofC, V.cells, partV, List.drop_zero, List.drop_succ_cons, List.take_succ_cons, List.take_zero, Nat.reduceAdd, Nat.reduceMul, Nat.zero_add, Nat.add_zero, if_true, if_false, Bool.false_eq_true, List.nil_append, List.cons_append, List.append_nil, List.map_cons, List.map_nil, presD]) | (refine x_ixM rfl rfl rfl rfl (by assumption) (fun _ => rfl) ?_; simp only [putF, List.set_cons_zero, List.set_cons_succ, evO, List.getD_cons_zero, List.getD_cons_succ, V.ofValue, ofC, V.cells, partV, List.drop_zero, List.drop_succ_cons, List.take_succ_cons, List.take_zero, Nat.reduceAdd, Nat.reduceMul, Nat.zero_add, Nat.add_zero, if_true, if_false, Bool.false_eq_true, List.nil_append, List.cons_append, List.append_nil, List.map_cons, List.map_nil, presD]) | (refine x_case rfl (fun hb => ?_) (fun hb => ?_) <;> simp only [putF, List.set_cons_zero, List.set_cons_succ, evO, List.getD_cons_zero, List.getD_cons_succ, V.ofValue, ofC, V.cells, partV, List.drop_zero, List.drop_succ_cons, List.take_succ_cons, List.take_zero, Nat.reduceAdd, Nat.reduceMul, Nat.zero_add, Nat.add_zero, if_true, if_false, Bool.false_eq_true, List.nil_append, List.cons_append, List.append_nil, List.map_cons, List.map_nil, presD]))
    all_goals refine q_loop (n - 1) 0 [] [_, _] (by omega) (by refine wk0_intro (by omega) (by simp only [setF, maskF, List.set_cons_zero, List.set_cons_succ]; repeat' (first | exact trivial | refine ⟨?_, ?_⟩ | exact .inr (.inl ⟨rfl, rfl, rfl⟩) | exact .inr (.inr ⟨rfl, rfl⟩) | exact .inl rfl)) rfl rfl (by repeat' (first | exact trivial | refine ⟨rfl, ?_⟩ | refine wkS_live0 (by assumption) ?_))) ⟨k + 1, by omega, ?_, rfl⟩
    all_goals (rw [hstep]; simp at *; grind)
  · refine f_lit (by simp) rfl ?_
    have : k = l.length := by simp at hb; omega
    rw [this]
end Go.Proofs.Ytljeinlapkgjeaa
/- From the abstract contract to the statement: what is read, what it stands for, how it lasts. -/
namespace Go.Proofs.Ytljeinlapkgjeaa
open Go.ChangeShapes Go.WideShapes Go.ChangeAt Go.RowKit
theorem own0 : ownKnob Try.prog.godebug = none := by kernel_rfl
theorem laid0 : laidOutB Try.prog = true := by kernel_rfl
theorem maxLen_cell (W : World) (h : W.ShapedOpen Try.prog) : ∃ n, W.cell? ⟨0, 0, none⟩ = some (.int .i64 n) :=
  cell_of_shapedOpen_int (zero := #[.int .i64 0]) (t := 3) h (of_decide_eq_true (by kernel_rfl)) (by kernel_rfl) (by kernel_rfl) (by kernel_rfl) (by kernel_rfl) (by kernel_rfl)
theorem trodAll_below {H : Type} {enc : TypeId × Value → H} {P : Program} (hl : laidOutB P = true) {W W' : World} (hb : Below W.heap.size W W') :
    ∀ {ts : List TypeId} {vs : List Value} {ds : List (DataW H)} {ps : List MemPlace}, (∀ t ∈ ts, P.readableRec t = true ∧ t < P.types.size) → DataW.TrodAll enc P W 0 (fun _ => true) true ts vs ds ps →
      DataW.TrodAll enc P W' 0 (fun b => decide (b < W.heap.size)) true ts vs ds ps
  | [], [], [], _, _, h => h
  | t :: ts, v :: vs, d :: ds, ps, ht, h => by
    have hlt := h.lt
    obtain ⟨p, q, h1, h2, rfl⟩ := h
    exact ⟨p, q, Below.trod hl (ht t (by simp)).1 (ht t (by simp)).2 h1 hb (fun x hx => hlt x (by simp [hx])), trodAll_below hl hb (fun t' h' => ht t' (by simp [h'])) h2, rfl⟩
theorem rep_lits {m : Mem} {vs : List Value} (h : ∀ v ∈ vs, v.oneCell' = true) : Rep m noBk (.agg vs.toArray) (.agg (vs.map V.lit)) :=
  .agg (by simp) (by intro v hv; obtain ⟨a, ha, rfl⟩ := List.mem_map.1 hv; exact h a ha) fun j h1 h2 => by simp only [List.getElem_map, List.getElem_toArray]; exact .lit (h _ (List.getElem_mem _))
theorem flat_ok {α : Type} (f : α → V) (es : Nat) (hes : ∀ a, (f a).cells.length = es) : ∀ (l : List α) (Q : Nat → V → Prop), (∀ i (hi : i < l.length) j (hj : j < (f l[i]).cells.length), Q (i * es + j) (f l[i]).cells[j]) → ∀ k (hk : k < (cellsM f l).length), Q k (cellsM f l)[k]
  | [], _, _, k, hk => by simp [cellsM] at hk
  | a :: l, Q, h, k, hk => by
    have e : cellsM f (a :: l) = (f a).cells ++ cellsM f l := rfl
    have hea := hes a
    by_cases hlt : k < es
    · have h0 := h 0 (by simp) k (by simpa [hea] using hlt)
      simp only [e]
      rw [List.getElem_append_left (by omega)]
      simpa using h0
    · have h1 := flat_ok f es hes l (fun n v => Q (es + n) v) (fun i hi j hj => by
        have := h (i + 1) (by simp; omega) j (by simpa using hj)
        have e2 : (i + 1) * es + j = es + (i * es + j) := by rw [Nat.add_mul]; omega
        rw [e2] at this
        simpa using this) (k - es) (by rw [e, List.length_append] at hk; omega)
      have e3 : es + (k - es) = k := by omega
      rw [e3] at h1
      simp only [e]
      rw [List.getElem_append_right (by omega)]
      simpa [hea] using h1
/-- a slice that is read: what it stands for. -/
theorem rep_slice {α : Type} [Inhabited α] {f : α → V} {es : Nat} {W : World} {a : Addr} {len cap : Nat} (hes : ∀ a, (f a).cells.length = es) (h1 : ∀ a, ∀ v ∈ (f a).cells, v.one = true) (hp : 0 < es) (hc : len ≤ cap)
    (h : ∀ i, i < len → ∃ (x : α) (cs : List Value), W.cells? 0 (a.add (i * es)) es = some cs ∧ ∀ j (hj : j < (f x).cells.length) (hj' : j < cs.length), Rep (fun p => W.cell? p) noBk cs[j] (f x).cells[j]) :
    ∃ l : List α, l.length = len ∧ Rep (fun p => W.cell? p) noBk (.slice (some a) len cap) (.sl (l.map f) false) := by
  classical
  rcases Nat.eq_zero_or_pos len with rfl | hlen
  · exact ⟨[], rfl, .slnil (fun e => by cases e)⟩
  · have hx : ∀ i, ∃ x : α, i < len → ∃ cs : List Value, W.cells? 0 (a.add (i * es)) es = some cs ∧ ∀ j (hj : j < (f x).cells.length) (hj' : j < cs.length), Rep (fun p => W.cell? p) noBk cs[j] (f x).cells[j] := by
      intro i
      by_cases hi : i < len
      · obtain ⟨x, hx⟩ := h i hi; exact ⟨x, fun _ => hx⟩
      · exact ⟨default, fun g => absurd g hi⟩
    obtain ⟨g, hg⟩ := Classical.axiomOfChoice hx
    have cell : ∀ i (hi : i < len) j (hj : j < es), ∃ u, W.cell? ((a.add (i * es)).add j) = some u ∧ Rep (fun p => W.cell? p) noBk u ((f (g i)).cells[j]'(by rw [hes]; exact hj)) := by
      intro i hi j hj
      obtain ⟨cs, h2, h3⟩ := hg i hi
      obtain ⟨_, hl, hcell⟩ := World.cells?_some h2
      exact ⟨cs[j]'(by omega), by rw [hcell j hj]; simp [hl, hj], h3 j (by rw [hes]; exact hj) (by omega)⟩
    have hspot : a.spot = none := by
      obtain ⟨u, hu, _⟩ := cell 0 hlen 0 hp
      rw [Nat.zero_mul, show a.add 0 = a from rfl, show a.add 0 = a from rfl] at hu
      unfold World.cell? at hu
      cases hs : a.spot with
      | none => rfl
      | some s =>
        rw [hs] at hu
        split at hu <;> simp at hu
    obtain ⟨b, o, sp⟩ := a
    simp only at hspot
    subst hspot
    have add1 : ∀ i j, ((⟨b, o, none⟩ : Addr).add i).add j = ⟨b, o + (i + j), none⟩ := by
      intro i j
      unfold Addr.add
      by_cases hi : i = 0 <;> by_cases hj : j = 0 <;> simp [hi, hj, Nat.add_assoc]
    refine ⟨(List.range len).map g, by simp, ?_⟩
    have key : ∀ k (hk : k < (cellsM f ((List.range len).map g)).length), ∃ u, W.cell? ⟨b, o + k, none⟩ = some u ∧ Rep (fun p => W.cell? p) noBk u (cellsM f ((List.range len).map g))[k] :=
      flat_ok f es hes _ (fun k v => ∃ u, W.cell? ⟨b, o + k, none⟩ = some u ∧ Rep (fun p => W.cell? p) noBk u v) (fun i hi j hj => by
        have hi' : i < len := by simpa using hi
        simp only [List.getElem_map, List.getElem_range] at hj ⊢
        have := cell i hi' j (by rw [hes] at hj; exact hj)
        rw [add1] at this
        exact this)
    have hfl : (((List.range len).map g).map f).flatMap V.cells = cellsM f ((List.range len).map g) := cellsM_map f _
    refine .sl (us := fun k => (W.cell? ⟨b, o + k, none⟩).getD undef) (es := es) (by simp) hc (fun e => by cases e) ?_ ?_ ?_ ?_
    · intro x hx
      obtain ⟨y, _, rfl⟩ := List.mem_map.1 hx
      exact hes y
    · rw [hfl]
      intro u hu
      obtain ⟨y, _, hy⟩ := List.mem_flatMap.1 hu
      exact h1 y u hy
    · rw [hfl]
      intro k hk
      obtain ⟨u, hu, _⟩ := key k hk
      show W.cell? _ = _
      rw [hu]; rfl
    · intro k hk
      have hk' : k < (cellsM f ((List.range len).map g)).length := by rw [← hfl]; exact hk
      obtain ⟨u, hu, hr⟩ := key k hk'
      simp only [hu, Option.getD_some]
      have : ((((List.range len).map g).map f).flatMap V.cells)[k] = (cellsM f ((List.range len).map g))[k] := by simp only [hfl]
      rw [this]; exact hr
end Go.Proofs.Ytljeinlapkgjeaa
/- Presences that are read: what they stand for. -/
namespace Go.Proofs.Ytljeinlapkgjeaa
open Go.ChangeShapes Go.WideShapes Go.ChangeAt Go.RowKit Go.Joins Go.Deep
theorem cellsRefPres : Try.prog.cellsOf 23 = 4 := by kernel_rfl
theorem cellsBool : Try.prog.cellsOf 4 = 1 := by kernel_rfl
theorem cellsInt : Try.prog.cellsOf 3 = 1 := by kernel_rfl
set_option maxRecDepth 100000 in
theorem readPres {H : Type} {enc : TypeId × Value → H} {W : World} {base b0 : Nat} {spare : Nat → Bool} {held : Bool} {r : Reach} {v : Value} {d : DataW H} {p : List MemPlace} (m : Mem)
    (hv : Value.okWide Try.prog W r b0 23 v) (h : DataW.Trod enc Try.prog W base spare held 23 v d p) : ∃ x : PresD, Rep m noBk v (presD x) := by
  obtain ⟨c0, c1, c2, c3, y0, y1, y2, y3, n, rfl, _, _, h0, h1, h2, h3⟩ := open_agg4 Try.underlying23 (by kernel_rfl) cellsRefPres hv h
  obtain ⟨b, e0, _⟩ := DataW.trod_bool Try.underlying4 h0
  obtain ⟨n1, e1, _⟩ := DataW.trod_int Try.underlying3 h1
  obtain ⟨n2, e2, _⟩ := DataW.trod_int Try.underlying3 h2
  obtain ⟨n3, e3, _⟩ := DataW.trod_int Try.underlying3 h3
  simp at e0 e1 e2 e3
  subst e0 e1 e2 e3
  exact ⟨⟨b, n1, n2, n3⟩, rep_lits (vs := [.bool b, .int .i64 n1, .int .i64 n2, .int .i64 n3]) (by intro v hv; simp at hv; rcases hv with rfl | rfl | rfl | rfl <;> rfl)⟩
instance : Inhabited PresD := ⟨⟨false, 0, 0, 0⟩⟩
set_option maxRecDepth 100000 in
theorem readPresS {H : Type} {enc : TypeId × Value → H} {W : World} {b0 : Nat} {r : Reach} {v : Value} {d : DataW H} {p : List MemPlace}
    (hv : Value.okWide Try.prog W r b0 24 v) (h : DataW.Trod enc Try.prog W 0 (fun _ => true) true 24 v d p) : ∃ l : List PresD, Rep (fun a => W.cell? a) noBk v (.sl (l.map presD) false) := by
  obtain ⟨a0, len, cap, rfl⟩ := okWide_slice Try.underlying24 hv
  obtain ⟨fuel, hf⟩ := h
  rcases open_slice Try.underlying24 hf with ⟨hcs, _⟩ | ⟨a, len', cap', m, n, D, Pl, hcs, _, hl, _, hm, _, hel⟩
  · simp [Value.cells] at hcs
    obtain ⟨rfl, rfl, rfl⟩ := hcs
    exact ⟨[], .slnil (fun e => by cases e)⟩
  · simp [Value.cells] at hcs
    obtain ⟨rfl, rfl, rfl⟩ := hcs
    simp at hm
    subst hm
    obtain ⟨l, _, hr⟩ := rep_slice (f := presD) (es := 4) (W := W) (a := a) (fun _ => rfl) (fun a v hv => by simp [presD, V.cells] at hv; rcases hv with rfl | rfl | rfl | rfl <;> rfl) (by omega) hl (fun i hi => by
      obtain ⟨cs, hc, ht⟩ := hel i (by omega)
      rw [cellsRefPres] at hc
      obtain ⟨y0, y1, y2, y3, n', _, hlen, h0, h1, h2, h3⟩ := trod_struct4 Try.underlying23 ht
      rw [cellsRefPres] at hlen
      match cs, hlen with
      | [c0, c1, c2, c3], _ =>
        rw [cellsBool] at h0
        rw [cellsInt] at h1 h2 h3
        obtain ⟨b, e0, _⟩ := DataW.trod_bool Try.underlying4 h0
        obtain ⟨n1, e1, _⟩ := DataW.trod_int Try.underlying3 h1
        obtain ⟨n2, e2, _⟩ := DataW.trod_int Try.underlying3 h2
        obtain ⟨n3, e3, _⟩ := DataW.trod_int Try.underlying3 h3
        simp at e0 e1 e2 e3
        subst e0 e1 e2 e3
        refine ⟨⟨b, n1, n2, n3⟩, _, hc, fun j hj hj' => ?_⟩
        match j, hj with
        | 0, _ => exact .lit rfl
        | 1, _ => exact .lit rfl
        | 2, _ => exact .lit rfl
        | 3, _ => exact .lit rfl
        | j + 4, hj => simp [presD, V.cells] at hj; omega)
    exact ⟨l, hr⟩
end Go.Proofs.Ytljeinlapkgjeaa
