/- A part of the proof: 4 texts joined. -/
import Derived.Test.YtljeinlapkgjeaaPuA7
import Derived.Test.YtljeinlapkgjeaaPuA1
import Derived.Laws.OwnMore
import Derived.Laws.IdiomCopy
import Derived.Laws.IdiomStrings
import Derived.Deep.AppendSrc
set_option linter.all false
/- pres: functions over slices of presences. -/
namespace Go.Proofs.Ytljeinlapkgjeaa
open Go.RowKit
def PresD.cells (p : PresD) : List Value := [.bool p.on, .int .i64 p.sh, .int .i64 p.prio, .int .i64 p.seq]
def presCells (l : List PresD) : List Value := l.flatMap PresD.cells
theorem presCells_len (l : List PresD) : (presCells l).length = l.length * 4 := by
  induction l with
  | nil => rfl
  | cons p l ih => simp only [presCells, List.flatMap_cons, List.length_append, List.length_cons] at *; rw [ih]; simp [PresD.cells]; omega
theorem presCells_at (l : List PresD) : ∀ (k : Nat) (hk : k < l.length), (presCells l)[k * 4]? = some (.bool l[k].on) ∧ (presCells l)[k * 4 + 1]? = some (.int .i64 l[k].sh) ∧ (presCells l)[k * 4 + 2]? = some (.int .i64 l[k].prio) ∧ (presCells l)[k * 4 + 3]? = some (.int .i64 l[k].seq) := by
  induction l with
  | nil => intro k hk; simp at hk
  | cons p l ih =>
    intro k hk
    cases k with
    | zero => simp [presCells, PresD.cells]
    | succ k =>
      have := ih k (by simpa using hk)
      have e : ∀ j, (presCells (p :: l))[(k + 1) * 4 + j]? = (presCells l)[k * 4 + j]? := by
        intro j
        have : presCells (p :: l) = p.cells ++ presCells l := rfl
        rw [this, List.getElem?_append_right (by simp [PresD.cells]; omega)]
        congr 1
        simp [PresD.cells]; omega
      have e0 := e 0
      simp only [Nat.add_zero] at e0
      rw [e0, e, e, e]
      exact this
/-- a slice of presences, read at k. -/
theorem Sl.pres {w : World} {B n : Nat} {A : Option Addr} {l : List PresD} (h : Sl w B 4 A n (presCells l)) : n = l.length := by
  have := h.1; rw [presCells_len] at this; omega
theorem Sl.pres_at {w : World} {B n : Nat} {A : Option Addr} {l : List PresD} (h : Sl w B 4 A n (presCells l)) {k : Nat} (hk : k < l.length) :
    ∃ b o, A = some ⟨b, o, none⟩ ∧ b < B ∧ ∀ i, (hi : i < l.length) → w.cell? ⟨b, o + i * 4, none⟩ = some (.bool l[i].on) ∧ w.cell? ⟨b, o + i * 4 + 1, none⟩ = some (.int .i64 l[i].sh) ∧ w.cell? ⟨b, o + i * 4 + 2, none⟩ = some (.int .i64 l[i].prio) ∧ w.cell? ⟨b, o + i * 4 + 3, none⟩ = some (.int .i64 l[i].seq) := by
  have hn := h.pres
  obtain ⟨b, o, e, hb, hc⟩ := h.2 (by omega)
  refine ⟨b, o, e, hb, fun i hi => ?_⟩
  obtain ⟨h0, h1, h2, h3⟩ := presCells_at l i hi
  exact ⟨hc _ _ h0, by rw [Nat.add_assoc]; exact hc _ _ h1, by rw [Nat.add_assoc]; exact hc _ _ h2, by rw [Nat.add_assoc]; exact hc _ _ h3⟩
/-- the state of Best behind the first k: -/
def bestTo (l : List PresD) : Nat → Int
  | 0 => -1
  | k + 1 => let b := bestTo l k; let p := l.getD k ⟨false, 0, 0, 0⟩
    if p.on = true ∧ (b < 0 ∨ betterL p (l.getD b.toNat ⟨false, 0, 0, 0⟩) = true) then k else b
theorem bestTo_bd (l : List PresD) (k : Nat) : -1 ≤ bestTo l k ∧ bestTo l k < k ∨ k = 0 ∧ bestTo l k = -1 := by
  induction k with
  | zero => exact .inr ⟨rfl, rfl⟩
  | succ k ih => left; simp only [bestTo]; split <;> omega
set_option maxHeartbeats 400000 in
theorem best_c (A : Option Addr) (n cap : Nat) (l : List PresD) (w : World) (h : Sl w w.heap.size 4 A n (presCells l)) (hn : n ≤ 1000) (hcap : n ≤ cap) :
    Calls Try.prog 19 #[.slice A n cap] w (Ret w (.int .i64 (bestTo l l.length))) := by
  have hnl := h.pres
  have H := Lib.hid h
  have HN := Lib.hid hnl
  clear h hnl
  go_enter Try.func19, Try.ntmps19
  go_wp2
  go_loopw [3, 4, 5, 8] (fun b _ _ i wr => ∃ k : Nat, k ≤ n ∧ i = .int .i64 k ∧ b = .int .i64 (bestTo l k) ∧ Below w.heap.size w wr) (fun _ _ _ i _ => n - (intOf i).toNat)
  case atStart => exact ⟨0, Nat.zero_le _, rfl, rfl, Below.refl _ _⟩
  case round =>
    obtain ⟨k, hk, rfl, rfl, hB⟩ := hrel
    by_cases hlt : k < n
    · obtain ⟨b, o, rfl, hb, hc⟩ := Sl.pres_at ((H.out).below hB (Nat.le_refl _)) (k := k) (by rw [← HN.out]; exact hlt)
      have hkl : k < l.length := by rw [← HN.out]; exact hlt
      have hck := hc k hkl
      have hstep : bestTo l (k + 1) = if l[k].on = true ∧ (bestTo l k < 0 ∨ betterL l[k] (l.getD (bestTo l k).toNat ⟨false, 0, 0, 0⟩) = true) then (k : Int) else bestTo l k := by
        simp [bestTo, hkl]
      have hbd := bestTo_bd l k
      have hbd' : -1 ≤ bestTo l k ∧ bestTo l k < n := by have := HN.out; omega
      clear hbd
      obtain ⟨p, hp⟩ : ∃ p, p = l[k] := ⟨_, rfl⟩
      rw [← hp] at hck hstep
      clear hp
      obtain ⟨on, sh, pr, sq⟩ := p
      obtain ⟨c0, c1, c2, c3⟩ := hck
      obtain ⟨bt, hbt⟩ : ∃ bt, bestTo l k = bt := ⟨_, rfl⟩
      rw [hbt] at hstep hbd' ⊢
      have HS := Lib.hid hstep
      have HBT := Lib.hid hbt
      clear hstep hbt
      cases on with
      | false =>
        clear hc
        go_wp2
        go_quiet (fail)
        go_wp2
        have hs := HS.out
        rw [if_neg (by simp)] at hs
        exact ⟨⟨k + 1, by omega, by go_num, by rw [hs], (by (with_reducible repeat (first | assumption | exact Below.refl _ _ | (refine below_alloc ?_ _) | (refine Below.setCell ?_ (by first | exact Nat.le_refl _ | (simp; done) | (simp at *; omega)) _) | (refine below_drewN ?_ _) | (refine Below.drew ?_))))⟩, by simp [intOf]; omega⟩
      | true =>
        by_cases hz : bt = -1
        · subst hz
          clear hc
          go_wp2
          go_quiet (fail)
          go_wp2
          have hs := HS.out
          rw [if_pos (by simp)] at hs
          exact ⟨⟨k + 1, by omega, by go_num, by rw [hs], (by (with_reducible repeat (first | assumption | exact Below.refl _ _ | (refine below_alloc ?_ _) | (refine Below.setCell ?_ (by first | exact Nat.le_refl _ | (simp; done) | (simp at *; omega)) _) | (refine below_drewN ?_ _) | (refine Below.drew ?_))))⟩, by simp [intOf]; omega⟩
        · obtain ⟨m, rfl⟩ := Int.eq_ofNat_of_zero_le (a := bt) (by omega)
          have hmm : m < l.length := by have := HN.out; omega
          obtain ⟨d0, d1, d2, d3⟩ := hc m hmm
          clear hc
          have hz' : ((m : Int) == -1) = false := by simp
          have hml : (m : Int) < n := by rw [HN.out]; omega
          go_wp2
          go_region_held3 (fun w' => Below w.heap.size w w' ∧ wr.heap.size < w'.heap.size ∧ w'.cell? ⟨wr.heap.size, 0, none⟩ = some (.bool true) ∧ w'.cell? ⟨wr.heap.size, 1, none⟩ = some (.int .i64 sh) ∧ w'.cell? ⟨wr.heap.size, 2, none⟩ = some (.int .i64 pr) ∧ w'.cell? ⟨wr.heap.size, 3, none⟩ = some (.int .i64 sq) ∧ w'.cell? ⟨b, o + m * 4, none⟩ = some (.bool l[m].on) ∧ w'.cell? ⟨b, o + m * 4 + 1, none⟩ = some (.int .i64 l[m].sh) ∧ w'.cell? ⟨b, o + m * 4 + 2, none⟩ = some (.int .i64 l[m].prio) ∧ w'.cell? ⟨b, o + m * 4 + 3, none⟩ = some (.int .i64 l[m].seq)) (first | (refine ⟨(by (with_reducible repeat (first | assumption | exact Below.refl _ _ | (refine below_alloc ?_ _) | (refine Below.setCell ?_ (by first | exact Nat.le_refl _ | (simp; done) | (simp at *; omega)) _) | (refine below_drewN ?_ _) | (refine Below.drew ?_)))), by first | exact Nat.lt_succ_self _ | (simp; done), ?_⟩; go_keep) | (obtain ⟨hx0, hx1, hx2⟩ := (‹Below w.heap.size w _ ∧ wr.heap.size < _ ∧ _›); have hbx := Nat.lt_of_lt_of_le hb hx0.size; obtain ⟨hc1, _⟩ := bcell hb1; exact ⟨below_then hx0 hb1, Nat.lt_of_lt_of_le hx1 hb1.size, by simp only [hc1, hx1, hbx]; exact hx2⟩)) (first | (go_at_call 17; refine (better_c _ _ _ _ _ _ _ _ _).mono ?_; rintro e w' ⟨rfl, hb1⟩))
          obtain ⟨hx0, hx1, hx2⟩ := (‹Below w.heap.size w _ ∧ wr.heap.size < _ ∧ _›)
          clear hx2
          have hs := HS.out
          have hg : l.getD (m : Int).toNat ⟨false, 0, 0, 0⟩ = ⟨l[m].on, l[m].sh, l[m].prio, l[m].seq⟩ := by simp [hmm]
          rw [hg] at hs
          obtain ⟨bb, hbb⟩ : ∃ bb, betterL ⟨true, sh, pr, sq⟩ ⟨l[m].on, l[m].sh, l[m].prio, l[m].seq⟩ = bb := ⟨_, rfl⟩
          rw [hbb] at hs ⊢
          clear HS hg hbb d0 d1 d2 d3 c0 c1 c2 c3
          cases bb with
          | true =>
            rw [if_pos (by simp)] at hs
            have HS := Lib.hid hs
            clear hs
            go_wp2
            exact ⟨⟨k + 1, by omega, by go_num, by rw [HS.out], (by (with_reducible repeat (first | assumption | exact Below.refl _ _ | (refine below_alloc ?_ _) | (refine Below.setCell ?_ (by first | exact Nat.le_refl _ | (simp; done) | (simp at *; omega)) _) | (refine below_drewN ?_ _) | (refine Below.drew ?_))))⟩, by simp [intOf]; omega⟩
          | false =>
            rw [if_neg (by simp)] at hs
            have HS := Lib.hid hs
            clear hs
            go_wp2
            exact ⟨⟨k + 1, by omega, by go_num, by rw [HS.out], (by (with_reducible repeat (first | assumption | exact Below.refl _ _ | (refine below_alloc ?_ _) | (refine Below.setCell ?_ (by first | exact Nat.le_refl _ | (simp; done) | (simp at *; omega)) _) | (refine below_drewN ?_ _) | (refine Below.drew ?_))))⟩, by simp [intOf]; omega⟩
    · have hkn : k = l.length := by have := HN.out; omega
      have HK := Lib.hid hkn
      clear hkn
      go_wp2
      go_ret
      exact ⟨ret_i (by rw [HK.out]), hB⟩
end Go.Proofs.Ytljeinlapkgjeaa
/- pres, callboyref23, callboylaw23: the last one; the references' best and last; a copy of a slice of presences. -/
namespace Go.Proofs.Ytljeinlapkgjeaa
open Go.RowKit
theorem Try.infoPres : (Try.prog.info? 26).map (fun i => (i.zero, i.size, i.bytes)) = some (some (.agg #[.bool false, .int .i64 0, .int .i64 0, .int .i64 0]), 4, 32) := by kernel_rfl
theorem presCells_snoc (l : List PresD) (k : Nat) (hk : k < l.length) : presCells (l.take (k + 1)) = presCells (l.take k) ++ (l[k]).cells := by
  rw [List.take_succ_eq_append_getElem hk]; unfold presCells; rw [List.flatMap_append]; simp
theorem agg_oneCell4 (b : Bool) (x y z : Int) : ∀ u ∈ (#[Value.bool b, .int .i64 x, .int .i64 y, .int .i64 z] : Array Value).toList, u.oneCell' = true := by
  intro u hu; simp at hu; rcases hu with rfl | rfl | rfl | rfl <;> rfl
set_option maxHeartbeats 400000 in
theorem own23_c (A : Option Addr) (n cap : Nat) (l : List PresD) (w : World) (h : Sl w w.heap.size 4 A n (presCells l)) (hn : n ≤ 1000) (hcap : n ≤ cap) :
    Calls Try.prog 20 #[.slice A n cap] w (RetSl w 26 4 l.length (presCells l)) := by
  have hnl := h.pres
  have H := Lib.hid h
  have HN := Lib.hid hnl
  clear h hnl
  obtain ⟨i0, hi, hz0, hz1, hz2⟩ := info_parts Try.infoPres
  go_enter Try.func20, Try.ntmps20
  go_wp2
  go_loopw [3, 4] (fun v i wr => ∃ k : Nat, k ≤ n ∧ i = .int .i64 k ∧ (∃ A' c', v = .slice A' k c' ∧ wr.ownsRow w.heap.size 26 4 v k (presCells (l.take k))) ∧ Below w.heap.size w wr) (fun _ i _ => n - (intOf i).toNat)
  case atStart => exact ⟨0, Nat.zero_le _, rfl, ⟨none, 0, rfl, World.ownsRow_nil _ _ _ _⟩, Below.refl _ _⟩
  case round =>
    obtain ⟨k, hk, rfl, ⟨A', c', rfl, hown⟩, hB⟩ := hrel
    by_cases hlt : k < n
    · have hkl : k < l.length := by rw [← HN.out]; exact hlt
      obtain ⟨b, o, rfl, hb, hc⟩ := Sl.pres_at ((H.out).below hB (Nat.le_refl _)) hkl
      obtain ⟨c0, c1, c2, c3⟩ := hc k hkl
      have HO := Lib.hid hown
      have hB' := Lib.hid hB.size
      have HS := Lib.hid (presCells_snoc l k hkl)
      clear hc
      go_wp2_with (at_builtin; refine append_new rfl _ _ 33 rfl w.heap.size 26 i0 _ 4 32 Try.underlying33 hi hz0 hz1 hz2 rfl (by decide) _ k _ rfl hown _ rfl rfl (agg_oneCell4 _ _ _ _) (by omega) (by decide) hB'.out ?_; intro A2 c2' w2 hown2 hg2 hB2)
      exact ⟨⟨k + 1, by omega, by go_num, ⟨A2, c2', rfl, by rw [HS.out]; exact hown2⟩, hB.trans hB2⟩, by simp [intOf]; omega⟩
    · have hkn : k = l.length := by have := HN.out; omega
      have HK := Lib.hid hkn
      clear hkn
      go_wp2
      go_ret
      refine ⟨A', c', by rw [← HK.out]; rfl, ?_, hB⟩
      have := hown
      rw [HK.out] at this
      simpa using this
def lastTo (l : List PresD) : Nat → PresD
  | 0 => ⟨false, 0, 0, 0⟩
  | k + 1 => let p := l.getD k ⟨false, 0, 0, 0⟩; if k = 0 ∨ newerL p (lastTo l k) = true then p else lastTo l k
def PresD.arr (p : PresD) : Array Value := #[.bool p.on, .int .i64 p.sh, .int .i64 p.prio, .int .i64 p.seq]
set_option maxHeartbeats 400000 in
theorem last_c (A : Option Addr) (n cap : Nat) (l : List PresD) (w : World) (h : Sl w w.heap.size 4 A n (presCells l)) (hn : n ≤ 1000) (hcap : n ≤ cap) :
    Calls Try.prog 22 #[.slice A n cap] w (Ret w (.agg (lastTo l l.length).arr)) := by
  have hnl := h.pres
  have H := Lib.hid h
  have HN := Lib.hid hnl
  clear h hnl
  go_enter Try.func22, Try.ntmps22
  go_wp2
  go_loopw [4, 5, 8] (fun _ _ i wr => ∃ k : Nat, k ≤ n ∧ i = .int .i64 k ∧ Bk wr w.heap.size 26 (PresD.arr ⟨false, 0, 0, 0⟩) ∧ Bk wr (w.heap.size + 1) 26 (lastTo l k).arr ∧ Below w.heap.size w wr) (fun _ _ i _ => n - (intOf i).toNat)
  case atStart => exact ⟨0, Nat.zero_le _, rfl, (Bk.new _ _ _).alloc _, by have := Bk.new (w.alloc (.cells (PresD.arr ⟨false, 0, 0, 0⟩) 26)) 26 (PresD.arr ⟨false, 0, 0, 0⟩); rwa [World.size_alloc] at this, (by (with_reducible repeat (first | assumption | exact Below.refl _ _ | (refine below_alloc ?_ _) | (refine Below.setCell ?_ (by first | exact Nat.le_refl _ | (simp; done) | (simp at *; omega)) _) | (refine below_drewN ?_ _) | (refine Below.drew ?_))))⟩
  case round =>
    obtain ⟨k, hk, rfl, hb1, hb2, hB⟩ := hrel
    have c10 := hb1.cell 0
    have c11 := hb1.cell 1
    have c12 := hb1.cell 2
    have c13 := hb1.cell 3
    have c20 := hb2.cell 0
    have c21 := hb2.cell 1
    have c22 := hb2.cell 2
    have c23 := hb2.cell 3
    have f1 := hb1.frozen
    have f2 := hb2.frozen
    have hl2 := hb2.lt
    have hl1 := hb1.lt
    have hne : w.heap.size ≠ w.heap.size + 1 := by omega
    simp only [PresD.arr, List.getElem?_toArray, List.getElem?_cons_zero, List.getElem?_cons_succ] at c10 c11 c12 c13 c20 c21 c22 c23
    by_cases hlt : k < n
    · have hkl : k < l.length := by rw [← HN.out]; exact hlt
      obtain ⟨b, o, rfl, hb, hc⟩ := Sl.pres_at ((H.out).below hB (Nat.le_refl _)) hkl
      obtain ⟨c0, c1, c2, c3⟩ := hc k hkl
      clear hc
      have hstep : lastTo l (k + 1) = if k = 0 ∨ newerL l[k] (lastTo l k) = true then l[k] else lastTo l k := by simp [lastTo, hkl]
      have HS := Lib.hid hstep
      clear hstep
      obtain ⟨bb, hbb⟩ : ∃ bb, newerL ⟨l[k].on, l[k].sh, l[k].prio, l[k].seq⟩ ⟨(lastTo l k).on, (lastTo l k).sh, (lastTo l k).prio, (lastTo l k).seq⟩ = bb := ⟨_, rfl⟩
      have hbb' : newerL l[k] (lastTo l k) = bb := hbb
      have HB := Lib.hid hbb
      have HB' := Lib.hid hbb'
      have Hb2 := Lib.hid hb2
      clear hbb hbb' hb2
      by_cases hk0 : k = 0
      · have hz' : ((k : Int) == 0) = true := by simp [hk0]
        have HK0 := Lib.hid hk0
        clear hk0
        go_wp2
        exact ⟨⟨k + 1, by omega, by go_num, (by (with_reducible repeat (first | assumption | (refine Bk.alloc ?_ _) | (refine Bk.drewN ?_ _) | (refine Bk.drew ?_) | (refine Bk.then ?_ (by assumption)) | (refine Bk.far ?_ (by first | assumption | (simp; done) | (simp; omega)) _)))), by rw [HS.out, if_pos (.inl HK0.out)]; exact (Bk.set4 Hb2.out _ _ _ _).alloc _, (by (with_reducible repeat (first | assumption | exact Below.refl _ _ | (refine below_alloc ?_ _) | (refine Below.setCell ?_ (by first | exact Nat.le_refl _ | (simp; done) | (simp at *; omega)) _) | (refine below_drewN ?_ _) | (refine Below.drew ?_))))⟩, by simp [intOf]; omega⟩
      · have hz' : ((k : Int) == 0) = false := by simp; omega
        go_wp2_with (go_at_call 15; (with_reducible refine (newer_c _ _ _ _ _ _ _ _ _).mono ?_); rintro e w1 ⟨rfl, hcb1⟩; obtain ⟨hcc1, hcf1⟩ := bcell hcb1; have hcz1 := hcb1.size; have hcB1 : Below w.heap.size w w1 := below_then (by (with_reducible repeat (first | assumption | exact Below.refl _ _ | (refine below_alloc ?_ _) | (refine Below.setCell ?_ (by first | exact Nat.le_refl _ | (simp; done) | (simp at *; omega)) _) | (refine below_drewN ?_ _) | (refine Below.drew ?_)))) hcb1)
        · have hv : newerL l[k] (lastTo l k) = true := by assumption
          exact ⟨⟨k + 1, by omega, by go_num, ((((((hb1.alloc _).then hcb1).far hne _).far hne _).far hne _).far hne _), by rw [HS.out, if_pos (.inr hv)]; exact Bk.set4 ((Hb2.out.alloc _).then hcb1) _ _ _ _, (by (with_reducible repeat (first | assumption | exact Below.refl _ _ | (refine below_alloc ?_ _) | (refine Below.setCell ?_ (by first | exact Nat.le_refl _ | (simp; done) | (simp at *; omega)) _) | (refine below_drewN ?_ _) | (refine Below.drew ?_))))⟩, by simp [intOf]; omega⟩
        · have hv : newerL l[k] (lastTo l k) = false := by assumption
          exact ⟨⟨k + 1, by omega, by go_num, (hb1.alloc _).then hcb1, by rw [HS.out, if_neg (by rw [hv]; simp [hk0])]; exact (Hb2.out.alloc _).then hcb1, (by (with_reducible repeat (first | assumption | exact Below.refl _ _ | (refine below_alloc ?_ _) | (refine Below.setCell ?_ (by first | exact Nat.le_refl _ | (simp; done) | (simp at *; omega)) _) | (refine below_drewN ?_ _) | (refine Below.drew ?_))))⟩, by simp [intOf]; omega⟩
    · have hkn : k = l.length := by have := HN.out; omega
      have HK := Lib.hid hkn
      clear hkn
      go_wp2
      refine bodyPost_ret (v := .agg (lastTo l k).arr) (by simp [results, Try.results22, go_sem, PresD.arr, *]) rfl ⟨by rw [HK.out], (by (with_reducible repeat (first | assumption | exact Below.refl _ _ | (refine below_alloc ?_ _) | (refine Below.setCell ?_ (by first | exact Nat.le_refl _ | (simp; done) | (simp at *; omega)) _) | (refine below_drewN ?_ _) | (refine Below.drew ?_))))⟩
end Go.Proofs.Ytljeinlapkgjeaa
/- callboyref23: the best and the last of many. -/
namespace Go.Proofs.Ytljeinlapkgjeaa
open Go.RowKit
set_option maxHeartbeats 400000 in
theorem refBest_c (A : Option Addr) (n cap : Nat) (l : List PresD) (w : World) (h : Sl w w.heap.size 4 A n (presCells l)) (hn : n ≤ 1000) (hcap : n ≤ cap) :
    Calls Try.prog 21 #[.slice A n cap] w (Ret w (.int .i64 (bestTo l l.length))) := by
  have hnl := h.pres
  have H := Lib.hid h
  have HN := Lib.hid hnl
  clear h hnl
  go_enter Try.func21, Try.ntmps21
  go_wp2
  go_loopw [3, 4] (fun b i wr => ∃ k : Nat, k ≤ n ∧ i = .int .i64 k ∧ b = .int .i64 (bestTo l k) ∧ Below w.heap.size w wr) (fun _ i _ => n - (intOf i).toNat)
  case atStart => exact ⟨0, Nat.zero_le _, rfl, rfl, Below.refl _ _⟩
  case round =>
    obtain ⟨k, hk, rfl, rfl, hB⟩ := hrel
    by_cases hlt : k < n
    · obtain ⟨b, o, rfl, hb, hc⟩ := Sl.pres_at ((H.out).below hB (Nat.le_refl _)) (k := k) (by rw [← HN.out]; exact hlt)
      have hkl : k < l.length := by rw [← HN.out]; exact hlt
      have hck := hc k hkl
      have hstep : bestTo l (k + 1) = if l[k].on = true ∧ (bestTo l k < 0 ∨ betterL l[k] (l.getD (bestTo l k).toNat ⟨false, 0, 0, 0⟩) = true) then (k : Int) else bestTo l k := by
        simp [bestTo, hkl]
      have hbd := bestTo_bd l k
      have hbd' : -1 ≤ bestTo l k ∧ bestTo l k < n := by have := HN.out; omega
      clear hbd
      obtain ⟨p, hp⟩ : ∃ p, p = l[k] := ⟨_, rfl⟩
      rw [← hp] at hck hstep
      clear hp
      obtain ⟨on, sh, pr, sq⟩ := p
      obtain ⟨c0, c1, c2, c3⟩ := hck
      obtain ⟨bt, hbt⟩ : ∃ bt, bestTo l k = bt := ⟨_, rfl⟩
      rw [hbt] at hstep hbd' ⊢
      have HS := Lib.hid hstep
      have HBT := Lib.hid hbt
      clear hstep hbt
      cases on with
      | false =>
        clear hc
        go_wp2
        go_quiet (fail)
        go_wp2
        have hs := HS.out
        rw [if_neg (by simp)] at hs
        exact ⟨⟨k + 1, by omega, by go_num, by rw [hs], (by (with_reducible repeat (first | assumption | exact Below.refl _ _ | (refine below_alloc ?_ _) | (refine Below.setCell ?_ (by first | exact Nat.le_refl _ | (simp; done) | (simp at *; omega)) _) | (refine below_drewN ?_ _) | (refine Below.drew ?_))))⟩, by simp [intOf]; omega⟩
      | true =>
        by_cases hz : bt = -1
        · subst hz
          clear hc
          go_wp2
          go_quiet (fail)
          go_wp2
          have hs := HS.out
          rw [if_pos (by simp)] at hs
          exact ⟨⟨k + 1, by omega, by go_num, by rw [hs], (by (with_reducible repeat (first | assumption | exact Below.refl _ _ | (refine below_alloc ?_ _) | (refine Below.setCell ?_ (by first | exact Nat.le_refl _ | (simp; done) | (simp at *; omega)) _) | (refine below_drewN ?_ _) | (refine Below.drew ?_))))⟩, by simp [intOf]; omega⟩
        · obtain ⟨m, rfl⟩ := Int.eq_ofNat_of_zero_le (a := bt) (by omega)
          have hmm : m < l.length := by have := HN.out; omega
          obtain ⟨d0, d1, d2, d3⟩ := hc m hmm
          clear hc
          have hz' : decide ((m : Int) < 0) = false := by simp
          have hml : (m : Int) < n := by rw [HN.out]; omega
          go_wp2
          go_region_held3 (fun w' => Below w.heap.size w w' ∧ w'.cell? ⟨b, o + k * 4, none⟩ = some (.bool true) ∧ w'.cell? ⟨b, o + k * 4 + 1, none⟩ = some (.int .i64 sh) ∧ w'.cell? ⟨b, o + k * 4 + 2, none⟩ = some (.int .i64 pr) ∧ w'.cell? ⟨b, o + k * 4 + 3, none⟩ = some (.int .i64 sq) ∧ w'.cell? ⟨b, o + m * 4, none⟩ = some (.bool l[m].on) ∧ w'.cell? ⟨b, o + m * 4 + 1, none⟩ = some (.int .i64 l[m].sh) ∧ w'.cell? ⟨b, o + m * 4 + 2, none⟩ = some (.int .i64 l[m].prio) ∧ w'.cell? ⟨b, o + m * 4 + 3, none⟩ = some (.int .i64 l[m].seq)) (first | (refine ⟨(by (with_reducible repeat (first | assumption | exact Below.refl _ _ | (refine below_alloc ?_ _) | (refine Below.setCell ?_ (by first | exact Nat.le_refl _ | (simp; done) | (simp at *; omega)) _) | (refine below_drewN ?_ _) | (refine Below.drew ?_)))), ?_⟩; go_keep) | (obtain ⟨hx0, hx2⟩ := (‹Below w.heap.size w _ ∧ _›); have hbx := Nat.lt_of_lt_of_le hb hx0.size; obtain ⟨hc1, _⟩ := bcell hb1; exact ⟨below_then hx0 hb1, by simp only [hc1, hbx]; exact hx2⟩)) (first | (go_at_call 18; refine (refBetter_c _ _ _ _ _ _ _ _ _).mono ?_; rintro e w' ⟨rfl, hb1⟩))
          obtain ⟨hx0, hx2⟩ := (‹Below w.heap.size w _ ∧ _›)
          clear hx2
          have hs := HS.out
          have hg : l.getD (m : Int).toNat ⟨false, 0, 0, 0⟩ = ⟨l[m].on, l[m].sh, l[m].prio, l[m].seq⟩ := by simp [hmm]
          rw [hg] at hs
          obtain ⟨bb, hbb⟩ : ∃ bb, betterL ⟨true, sh, pr, sq⟩ ⟨l[m].on, l[m].sh, l[m].prio, l[m].seq⟩ = bb := ⟨_, rfl⟩
          rw [hbb] at hs ⊢
          clear HS hg hbb d0 d1 d2 d3 c0 c1 c2 c3
          cases bb with
          | true =>
            rw [if_pos (by simp)] at hs
            have HS := Lib.hid hs
            clear hs
            go_wp2
            exact ⟨⟨k + 1, by omega, by go_num, by rw [HS.out], (by (with_reducible repeat (first | assumption | exact Below.refl _ _ | (refine below_alloc ?_ _) | (refine Below.setCell ?_ (by first | exact Nat.le_refl _ | (simp; done) | (simp at *; omega)) _) | (refine below_drewN ?_ _) | (refine Below.drew ?_))))⟩, by simp [intOf]; omega⟩
          | false =>
            rw [if_neg (by simp)] at hs
            have HS := Lib.hid hs
            clear hs
            go_wp2
            exact ⟨⟨k + 1, by omega, by go_num, by rw [HS.out], (by (with_reducible repeat (first | assumption | exact Below.refl _ _ | (refine below_alloc ?_ _) | (refine Below.setCell ?_ (by first | exact Nat.le_refl _ | (simp; done) | (simp at *; omega)) _) | (refine below_drewN ?_ _) | (refine Below.drew ?_))))⟩, by simp [intOf]; omega⟩
    · have hkn : k = l.length := by have := HN.out; omega
      have HK := Lib.hid hkn
      clear hkn
      go_wp2
      go_ret
      exact ⟨ret_i (by rw [HK.out]), hB⟩
set_option maxHeartbeats 400000 in
theorem refLast0_c (A : Option Addr) (cap : Nat) (w : World) :
    Calls Try.prog 23 #[.slice A 0 cap] w (Ret w (.agg (PresD.arr ⟨false, 0, 0, 0⟩))) := by
  go_enter Try.func23, Try.ntmps23
  go_wp2
  refine bodyPost_ret (v := .agg (PresD.arr ⟨false, 0, 0, 0⟩)) (by simp [results, Try.results23, go_sem, PresD.arr]) rfl ⟨rfl, (by (with_reducible repeat (first | assumption | exact Below.refl _ _ | (refine below_alloc ?_ _) | (refine Below.setCell ?_ (by first | exact Nat.le_refl _ | (simp; done) | (simp at *; omega)) _) | (refine below_drewN ?_ _) | (refine Below.drew ?_))))⟩
set_option maxHeartbeats 400000 in
theorem refLast_c (A : Option Addr) (n cap : Nat) (l : List PresD) (w : World) (h : Sl w w.heap.size 4 A n (presCells l)) (hn : n ≤ 1000) (hcap : n ≤ cap) (hn0 : 0 < n) :
    Calls Try.prog 23 #[.slice A n cap] w (Ret w (.agg (lastTo l l.length).arr)) := by
  have hnl := h.pres
  have h0l : 0 < l.length := by omega
  obtain ⟨b, o, rfl, hb, hc⟩ := h.pres_at h0l
  obtain ⟨c0, c1, c2, c3⟩ := hc 0 h0l
  simp only [Nat.zero_mul, Nat.add_zero] at c0 c1 c2 c3
  have H := Lib.hid h
  have HN := Lib.hid hnl
  have hz : ((n : Int) == 0) = false := by simp; omega
  have h1 : lastTo l 1 = l[0] := by simp [lastTo, h0l]
  have H1 := Lib.hid h1
  clear h hnl hc h1
  go_enter Try.func23, Try.ntmps23
  go_wp2
  clear c0 c1 c2 c3
  go_loopw [4] (fun i wr => ∃ k : Nat, 1 ≤ k ∧ k ≤ n ∧ i = .int .i64 k ∧ Bk wr w.heap.size 23 (PresD.arr ⟨false, 0, 0, 0⟩) ∧ Bk wr (w.heap.size + 1) 23 (lastTo l k).arr ∧ Below w.heap.size w wr) (fun i _ => n - (intOf i).toNat)
  case atStart =>
    refine ⟨1, Nat.le_refl _, hn0, rfl, (Bk.new _ _ _).alloc _, ?_, (by (with_reducible repeat (first | assumption | exact Below.refl _ _ | (refine below_alloc ?_ _) | (refine Below.setCell ?_ (by first | exact Nat.le_refl _ | (simp; done) | (simp at *; omega)) _) | (refine below_drewN ?_ _) | (refine Below.drew ?_))))⟩
    rw [H1.out]
    have := Bk.new (w.alloc (.cells (PresD.arr ⟨false, 0, 0, 0⟩) 23)) 23 (PresD.arr l[0])
    rwa [World.size_alloc] at this
  case round =>
    obtain ⟨k, hk1, hk, rfl, hb1, hb2, hB⟩ := hrel
    have c10 := hb1.cell 0
    have c11 := hb1.cell 1
    have c12 := hb1.cell 2
    have c13 := hb1.cell 3
    have c20 := hb2.cell 0
    have c21 := hb2.cell 1
    have c22 := hb2.cell 2
    have c23 := hb2.cell 3
    have f1 := hb1.frozen
    have f2 := hb2.frozen
    have hl2 := hb2.lt
    have hl1 := hb1.lt
    have hne : w.heap.size ≠ w.heap.size + 1 := by omega
    simp only [PresD.arr, List.getElem?_toArray, List.getElem?_cons_zero, List.getElem?_cons_succ] at c10 c11 c12 c13 c20 c21 c22 c23
    by_cases hlt : k < n
    · have hkl : k < l.length := by rw [← HN.out]; exact hlt
      obtain ⟨_, _, he, _, hc⟩ := Sl.pres_at ((H.out).below hB (Nat.le_refl _)) hkl
      obtain ⟨rfl, rfl⟩ : b = _ ∧ o = _ := by injection he with he; injection he with he1 he2; exact ⟨he1, he2⟩
      obtain ⟨c0, c1, c2, c3⟩ := hc k hkl
      clear hc he
      have hstep : lastTo l (k + 1) = if k = 0 ∨ newerL l[k] (lastTo l k) = true then l[k] else lastTo l k := by simp [lastTo, hkl]
      have HS := Lib.hid hstep
      clear hstep
      have hbw : b < wr.heap.size := Nat.lt_of_lt_of_le hb hB.size
      go_wp2
      go_region_held3 (fun w' => Below w.heap.size w w' ∧ Bk w' w.heap.size 23 (PresD.arr ⟨false, 0, 0, 0⟩) ∧ Bk w' (w.heap.size + 1) 23 (lastTo l k).arr ∧ w'.cell? ⟨w.heap.size + 1, 0, none⟩ = some (.bool (lastTo l k).on) ∧ w'.cell? ⟨w.heap.size + 1, 1, none⟩ = some (.int .i64 (lastTo l k).sh) ∧ w'.cell? ⟨w.heap.size + 1, 2, none⟩ = some (.int .i64 (lastTo l k).prio) ∧ w'.cell? ⟨w.heap.size + 1, 3, none⟩ = some (.int .i64 (lastTo l k).seq) ∧ w'.cell? ⟨b, o + k * 4, none⟩ = some (.bool l[k].on) ∧ w'.cell? ⟨b, o + k * 4 + 1, none⟩ = some (.int .i64 l[k].sh) ∧ w'.cell? ⟨b, o + k * 4 + 2, none⟩ = some (.int .i64 l[k].prio) ∧ w'.cell? ⟨b, o + k * 4 + 3, none⟩ = some (.int .i64 l[k].seq)) (first | (refine ⟨(by (with_reducible repeat (first | assumption | exact Below.refl _ _ | (refine below_alloc ?_ _) | (refine Below.setCell ?_ (by first | exact Nat.le_refl _ | (simp; done) | (simp at *; omega)) _) | (refine below_drewN ?_ _) | (refine Below.drew ?_)))), hb1.drew, hb2.drew, ?_⟩; go_keep) | (obtain ⟨hx0, hxa, hxb, hx2⟩ := (‹Below w.heap.size w _ ∧ _ ∧ _ ∧ _›); have hbx := Nat.lt_of_lt_of_le hb hx0.size; have hby := hxb.lt; obtain ⟨hc1, _⟩ := bcell hbn; exact ⟨below_then hx0 hbn, hxa.then hbn, hxb.then hbn, by simp only [hc1, hbx, hby]; exact hx2⟩)) (first | (go_at_call 16; refine (refNewer_c _ _ _ _ _ _ _ _ _).mono ?_; rintro e w' ⟨rfl, hbn⟩))
      obtain ⟨hx0, hxa, hxb, d0, d1, d2, d3, e0, e1, e2, e3⟩ := (‹Below w.heap.size w _ ∧ _ ∧ _ ∧ _›)
      have g2 := hxb.frozen
      have hl3 := hxb.lt
      go_wp2
      · have hv : newerL l[k] (lastTo l k) = true := by assumption
        exact ⟨⟨k + 1, by omega, by omega, by go_num, (((hxa.far hne _).far hne _).far hne _).far hne _, by rw [HS.out, if_pos (.inr hv)]; exact Bk.set4 hxb _ _ _ _, (by (with_reducible repeat (first | assumption | exact Below.refl _ _ | (refine below_alloc ?_ _) | (refine Below.setCell ?_ (by first | exact Nat.le_refl _ | (simp; done) | (simp at *; omega)) _) | (refine below_drewN ?_ _) | (refine Below.drew ?_))))⟩, by simp [intOf]; omega⟩
      · have hv : newerL l[k] (lastTo l k) = false := by assumption
        exact ⟨⟨k + 1, by omega, by omega, by go_num, hxa, by rw [HS.out, if_neg (by rw [hv]; simp; omega)]; exact hxb, (by (with_reducible repeat (first | assumption | exact Below.refl _ _ | (refine below_alloc ?_ _) | (refine Below.setCell ?_ (by first | exact Nat.le_refl _ | (simp; done) | (simp at *; omega)) _) | (refine below_drewN ?_ _) | (refine Below.drew ?_))))⟩, by simp [intOf]; omega⟩
    · have hkn : k = l.length := by have := HN.out; omega
      have HK := Lib.hid hkn
      clear hkn
      go_wp2
      refine bodyPost_ret (v := .agg (lastTo l k).arr) (by simp [results, Try.results23, go_sem, PresD.arr, *]) rfl ⟨by rw [HK.out], (by (with_reducible repeat (first | assumption | exact Below.refl _ _ | (refine below_alloc ?_ _) | (refine Below.setCell ?_ (by first | exact Nat.le_refl _ | (simp; done) | (simp at *; omega)) _) | (refine below_drewN ?_ _) | (refine Below.drew ?_))))⟩
end Go.Proofs.Ytljeinlapkgjeaa
/- An abstract walk: values without addresses, what they stand for in a memory, and how that lasts. -/
namespace Go.Proofs.Ytljeinlapkgjeaa
open Go.RowKit
inductive V where
  | lit (v : Value)
  | agg (cs : List V)
  | tup (vs : List V)
  | sl (xs : List V) (full : Bool)
  | osl (id off n es : Nat) (full : Bool)
  | ptr (id off : Nat)
  | eptr (cs : List V)
  | clo (fn : Fn) (caps : List V)
  | any
  deriving Inhabited
abbrev V.i (n : Int) : V := .lit (.int .i64 n)
abbrev V.b (n : Bool) : V := .lit (.bool n)
abbrev V.s (n : ByteArray) : V := .lit (.string n)
def V.cells : V → List V
  | .agg cs => cs
  | v => [v]
def V.one : V → Bool
  | .lit v => v.oneCell'
  | .agg _ | .tup _ | .any => false
  | _ => true
abbrev Mem := Addr → Option Value
abbrev Bks := Nat → Option (Nat × Nat)
def noBk : Bks := fun _ => none
inductive Rep (m : Mem) : Bks → Value → V → Prop
  | lit {bk v} (h : v.oneCell' = true) : Rep m bk v (.lit v)
  | agg {bk} {cs : Array Value} {vs : List V} (hl : cs.size = vs.length) (h1 : ∀ v ∈ vs, v.one = true) (h : ∀ j (h1 : j < cs.size) (h2 : j < vs.length), Rep m bk cs[j] vs[j]) : Rep m bk (.agg cs) (.agg vs)
  | tup {bk} {cs : Array Value} {vs : List V} (hl : cs.size = vs.length) (h : ∀ j (h1 : j < cs.size) (h2 : j < vs.length), Rep m bk cs[j] vs[j]) : Rep m bk (.tuple cs) (.tup vs)
  | sl {bk b o n cap es full} {xs : List V} {us : Nat → Value} (hn : n = xs.length) (hc : n ≤ cap) (hf : full = true → cap = n) (hes : ∀ x ∈ xs, x.cells.length = es)
      (h1 : ∀ u ∈ xs.flatMap V.cells, u.one = true) (hm : ∀ k, k < (xs.flatMap V.cells).length → m ⟨b, o + k, none⟩ = some (us k))
      (h : ∀ k (hk : k < (xs.flatMap V.cells).length), Rep m noBk (us k) (xs.flatMap V.cells)[k]) : Rep m bk (.slice (some ⟨b, o, none⟩) n cap) (.sl xs full)
  | slnil {bk A cap full} (hf : full = true → cap = 0) : Rep m bk (.slice A 0 cap) (.sl [] full)
  | osl {bk : Bks} {id b sz off n cap es full} (hb : bk id = some (b, sz)) (hc : n ≤ cap) (hf : full = true → cap = n) (hs : off + cap * es ≤ sz) : Rep m bk (.slice (some ⟨b, off, none⟩) n cap) (.osl id off n es full)
  | ptr {bk : Bks} {id b sz off} (hb : bk id = some (b, sz)) : Rep m bk (.pointer (some ⟨b, off, none⟩)) (.ptr id off)
  | eptr {bk b o} {us : Nat → Value} {cs : List V} (h1 : ∀ u ∈ cs, u.one = true) (hm : ∀ k, k < cs.length → m ⟨b, o + k, none⟩ = some (us k)) (h : ∀ k (hk : k < cs.length), Rep m noBk (us k) cs[k]) :
      Rep m bk (.pointer (some ⟨b, o, none⟩)) (.eptr cs)
  | clo {bk fn} {cs : Array Value} {vs : List V} (hl : cs.size = vs.length) (h : ∀ j (h1 : j < cs.size) (h2 : j < vs.length), Rep m bk cs[j] vs[j]) : Rep m bk (.func fn #[] cs) (.clo fn vs)
  | any {bk v} : Rep m bk v .any
theorem Rep.mono {m m' : Mem} (hm : ∀ a u, m a = some u → m' a = some u) {bk : Bks} {c : Value} {v : V} (h : Rep m bk c v) : ∀ {bk' : Bks}, (∀ id x, bk id = some x → bk' id = some x) → Rep m' bk' c v := by
  induction h with
  | lit h => intro _ _; exact .lit h
  | agg hl h1 _ ih => intro bk' hb; exact .agg hl h1 fun j a b => ih j a b hb
  | tup hl _ ih => intro bk' hb; exact .tup hl fun j a b => ih j a b hb
  | sl hn hc hf hes h1 hm' _ ih => intro bk' hb; exact .sl hn hc hf hes h1 (fun k hk => hm _ _ (hm' k hk)) fun k hk => ih k hk fun _ _ h => h
  | slnil hf => intro _ _; exact .slnil hf
  | osl hb hc hf hs => intro bk' hbk; exact .osl (hbk _ _ hb) hc hf hs
  | ptr hb => intro bk' hbk; exact .ptr (hbk _ _ hb)
  | eptr h1 hm' _ ih => intro bk' hb; exact .eptr h1 (fun k hk => hm _ _ (hm' k hk)) fun k hk => ih k hk fun _ _ h => h
  | clo hl _ ih => intro bk' hb; exact .clo hl fun j a b => ih j a b hb
  | any => intro _ _; exact .any
/-- a value all of whose own blocks have numbers below n. -/
def V.idlt (n : Nat) : V → Bool
  | .lit _ | .sl _ _ | .eptr _ | .any => true
  | .agg cs | .tup cs | .clo _ cs => belowL n cs
  | .osl id _ _ _ _ | .ptr id _ => decide (id < n)
where belowL (n : Nat) : List V → Bool
  | [] => true
  | v :: vs => v.idlt n && belowL n vs
theorem belowL_get {n : Nat} : ∀ {l : List V}, V.idlt.belowL n l = true → ∀ j (h : j < l.length), l[j].idlt n = true
  | v :: vs, h, 0, _ => by simp [V.idlt.belowL] at h; simpa using h.1
  | v :: vs, h, j + 1, hj => by simp [V.idlt.belowL] at h; simpa using belowL_get h.2 j (by simpa using hj)
def cutBk (n : Nat) (bk : Bks) : Bks := fun id => if id < n then bk id else none
theorem Rep.cut {m : Mem} {n : Nat} {bk : Bks} {c : Value} {v : V} (h : Rep m bk c v) : v.idlt n = true → Rep m (cutBk n bk) c v := by
  induction h with
  | lit h => intro _; exact .lit h
  | agg hl h1 _ ih => intro hb; exact .agg hl h1 fun j a b => ih j a b (belowL_get (by simpa [V.idlt] using hb) j b)
  | tup hl _ ih => intro hb; exact .tup hl fun j a b => ih j a b (belowL_get (by simpa [V.idlt] using hb) j b)
  | sl hn hc hf hes h1 hm' h _ => intro _; exact .sl hn hc hf hes h1 hm' h
  | slnil hf => intro _; exact .slnil hf
  | osl hb hc hf hs => intro hbl; exact .osl (by simp only [V.idlt, decide_eq_true_eq] at hbl; simp [cutBk, hbl, hb]) hc hf hs
  | ptr hb => intro hbl; exact .ptr (by simp only [V.idlt, decide_eq_true_eq] at hbl; unfold cutBk; rw [if_pos hbl]; exact hb)
  | eptr h1 hm' h _ => intro _; exact .eptr h1 hm' h
  | clo hl _ ih => intro hb; exact .clo hl fun j a b => ih j a b (belowL_get (by simpa [V.idlt] using hb) j b)
  | any => intro _; exact .any
theorem Rep.zero {m : Mem} {bk bk' : Bks} {c : Value} {v : V} (h : Rep m bk c v) (hv : v.idlt 0 = true) : Rep m bk' c v :=
  (h.cut hv).mono (fun _ _ h => h) fun id x hx => by unfold cutBk at hx; rw [if_neg (Nat.not_lt_zero _)] at hx; cases hx
theorem Rep.one {m : Mem} {bk : Bks} {c : Value} {v : V} (h : Rep m bk c v) (hv : v.one = true) : c.oneCell' = true := by
  cases h <;> first | assumption | rfl | (simp [V.one] at hv; done)
theorem Rep.cells {m : Mem} {bk : Bks} {c : Value} {v : V} (h : Rep m bk c v) (hv : v.one = true ∨ ∃ cs, v = .agg cs) :
    c.cells.size = v.cells.length ∧ (∀ u ∈ v.cells, u.one = true) ∧ ∀ j (h1 : j < c.cells.size) (h2 : j < v.cells.length), Rep m bk c.cells[j] v.cells[j] := by
  cases h with
  | agg hl h1 h => exact ⟨hl, h1, h⟩
  | tup hl h => rcases hv with hv | ⟨cs, hv⟩ <;> simp [V.one] at hv
  | any => rcases hv with hv | ⟨cs, hv⟩ <;> simp [V.one] at hv
  | lit h =>
    have e : c.cells = #[c] := by cases c <;> first | rfl | (simp [Value.oneCell'] at h)
    refine ⟨by rw [e]; rfl, by simpa [V.cells, V.one] using h, fun j h1 h2 => ?_⟩
    have : j = 0 := by simpa [V.cells] using h2
    subst this
    simp only [e]
    exact .lit h
  | _ =>
    refine ⟨rfl, by simp [V.cells, V.one], fun j h1 h2 => ?_⟩
    have : j = 0 := by simp [Value.cells] at h1; exact h1
    subst this
    first
      | exact .sl ‹_› ‹_› ‹_› ‹_› ‹_› ‹_› ‹_›
      | exact .slnil ‹_›
      | exact .osl ‹_› ‹_› ‹_› ‹_›
      | exact .ptr ‹_›
      | exact .eptr ‹_› ‹_› ‹_›
      | exact .clo ‹_› ‹_›
/-- constants -/
def ofC : Value → V
  | .slice _ 0 0 => .sl [] true
  | c => .lit c
def V.ofValue : Value → V
  | .agg cs => if cs.toList.all (·.oneCell') then .agg (cs.toList.map ofC) else .any
  | .slice _ 0 0 => .sl [] true
  | .tuple _ => .any
  | v => .lit v
theorem ofCell {m : Mem} {bk : Bks} (c : Value) (h : c.oneCell' = true) : Rep m bk c (ofC c) := by
  unfold ofC
  split
  · exact .slnil fun _ => rfl
  · exact .lit h
theorem Rep.ofValue {m : Mem} {bk : Bks} (v : Value) : Rep m bk v (V.ofValue v) := by
  unfold V.ofValue
  split
  · rename_i cs
    split
    · rename_i h
      simp only [List.all_eq_true] at h
      refine .agg (by simp) ?_ fun j h1 h2 => ?_
      · intro v hv
        simp only [List.mem_map] at hv
        obtain ⟨c, hc, rfl⟩ := hv
        have := h c hc
        unfold ofC
        split
        · rfl
        · exact this
      · simp only [List.getElem_map, Array.getElem_toList]
        exact ofCell _ (h _ (Array.getElem_mem_toList h1))
    · exact .any
  · exact .slnil fun _ => rfl
  · exact .any
  · rename_i h1 h2 h3
    refine .lit ?_
    cases v <;> first | rfl | exact absurd rfl (h1 _) | exact absurd rfl (h3 _)
inductive Slot where
  | fresh | dead
  | live (cs : List V) (frz : Nat)
  deriving Inhabited
structure LiveAt (B : Nat) (m : Mem) (bk : Bks) (w : World) (id : Nat) (cs : List V) (frz : Nat) (b sz : Nat) (arr : Array Value) (t : TypeId) (lo hi : Nat) : Prop where
  at_ : bk id = some (b, sz)
  own : B ≤ b
  heap : w.heap[b]? = some (.cells arr t (lo, hi))
  size : arr.size = sz
  free : sz ≤ lo ∨ hi ≤ lo
  fit : cs.length ≤ sz
  one : ∀ u ∈ cs, u.one = true
  rep : ∀ k (hk : k < cs.length), ∃ u, arr[k]? = some u ∧ Rep m bk u cs[k]
  mu : ∀ k, frz ≤ k → m ⟨b, k, none⟩ = none
  fz : ∀ k, k < frz → m ⟨b, k, none⟩ = arr[k]?
structure Sim (B : Nat) (m0 m : Mem) (bk : Bks) (w : World) (st : List Slot) : Prop where
  base : B ≤ w.heap.size
  mem : ∀ a u, m a = some u → w.cell? a = some u
  ext : ∀ a u, m0 a = some u → m a = some u
  old : ∀ a u, m a = some u → m0 a = some u ∨ B ≤ a.block
  blk : ∀ id cs frz, st[id]? = some (.live cs frz) → ∃ b sz arr t lo hi, LiveAt B m bk w id cs frz b sz arr t lo hi
  inj : ∀ i j ci fi cj fj x y, st[i]? = some (.live ci fi) → st[j]? = some (.live cj fj) → bk i = some x → bk j = some y → x.1 = y.1 → i = j
  nb : ∀ id, (st[id]? = none ∨ st[id]? = some .fresh) → bk id = none
theorem cell_lt {w : World} {a : Addr} {u : Value} (h : w.cell? a = some u) : a.block < w.heap.size := World.block_lt_of_cell? w a h
/-- the world goes on: no cell that is known, and no live block, turns. -/
theorem Sim.world {B : Nat} {m0 m : Mem} {bk : Bks} {w w' : World} {st : List Slot} (h : Sim B m0 m bk w st) (hs : w.heap.size ≤ w'.heap.size)
    (hk : ∀ k, k < w.heap.size → w'.heap[k]? = w.heap[k]?) : Sim B m0 m bk w' st where
  base := Nat.le_trans h.base hs
  mem a u hu := by
    have := h.mem a u hu
    rw [← this]
    exact World.cell?_of_block (w := w) (hk _ (cell_lt this))
  ext := h.ext
  old := h.old
  blk id cs frz hid := by
    obtain ⟨b, sz, arr, t, lo, hi, hl⟩ := h.blk id cs frz hid
    refine ⟨b, sz, arr, t, lo, hi, ⟨hl.at_, hl.own, ?_, hl.size, hl.free, hl.fit, hl.one, hl.rep, hl.mu, hl.fz⟩⟩
    rw [hk _ (by rcases Nat.lt_or_ge b w.heap.size with h | h; exact h; have := hl.heap; rw [Array.getElem?_eq_none h] at this; cases this)]
    exact hl.heap
  inj := h.inj
  nb := h.nb
end Go.Proofs.Ytljeinlapkgjeaa
