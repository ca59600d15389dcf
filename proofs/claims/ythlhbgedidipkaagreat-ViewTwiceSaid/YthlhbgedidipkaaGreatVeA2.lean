/- ViewTwice: for every input the call returns true, and its arguments read as they did. -/
import Derived.Test.YthlhbgedidipkaaGreatVbA15
import Derived.KernelRfl
import Derived.Test.YthlhbgedidipkaaGreatVbA17
import Derived.Test.YthlhbgedidipkaaGreatVbA20
import Derived.Test.YthlhbgedidipkaaGreatVbA21
import Derived.Test.YthlhbgedidipkaaGreatVbA12
import Derived.Test.YthlhbgedidipkaaGreatVeA1
import Derived.Test.YthlhbgedidipkaaGreatRows
set_option linter.all false
/- Plain functions (written by a program of mine). -/
namespace Go.Proofs.YthlhbgedidipkaaGreat
open Go.RowKit
def p_law35_ViewTwice_l2 (z29 : List BookRow) : Nat → Int → Ref35State → Option ((Int × Ref35State))
  | 0, _, _ => none
  | n + 1, y31, y33 =>
    bif (decide (y31 < (z29.length : Int))) then
      (at? z29 y31).bind fun x36 =>
      (at? z29 y31).bind fun x37 =>
      (at? z29 y31).bind fun x38 =>
      (p_pres_Say x36.User x37.Res x38.P).bind fun v39 =>
      (p_view_Tell y33 v39).bind fun v40 =>
      p_law35_ViewTwice_l2 z29 n (w64 (y31 + (1 : Int))) v40
    else
    some (y31, y33)
def p_law35_ViewTwice_l1 (z15 : List BookRow) : Nat → Int → Ref35State → Ref35State → Option ((Int × Ref35State × Ref35State))
  | 0, _, _, _ => none
  | n + 1, y16, y18, y19 =>
    bif (decide (y16 < (2 : Int))) then
      (p_view_Tell y18 (StanzaStanza.mk (36 : Int) (⟨#[]⟩ : ByteArray) (⟨#[]⟩ : ByteArray) (⟨#[]⟩ : ByteArray) (0 : Int) (0 : Int) (0 : Int) (z15.length : Int))).bind fun v21 =>
      (p_law35_ViewTwice_l2 z15 fuel (0 : Int) v21).bind fun q42 =>
      (p_view_Tell q42.2 (StanzaStanza.mk (37 : Int) (⟨#[]⟩ : ByteArray) (⟨#[]⟩ : ByteArray) (⟨#[]⟩ : ByteArray) (0 : Int) (0 : Int) (0 : Int) (0 : Int))).bind fun v43 =>
      p_law35_ViewTwice_l1 z15 n (w64 (y16 + (1 : Int))) v43 y18
    else
    some (y16, y18, y19)
def p_law35_ViewTwice_l3 (z57 : List BookRow) (z60 : BookState) : Nat → Int → Ref35State → Option ((Int × Ref35State))
  | 0, _, _ => none
  | n + 1, y59, y61 =>
    bif (decide (y59 < (z57.length : Int))) then
      (at? z57 y59).bind fun x64 =>
      (at? z57 y59).bind fun x65 =>
      (p_pres_Say x64.User x65.Res (PresPres.mk false (0 : Int) (0 : Int) z60.Seq)).bind fun v66 =>
      (p_view_Tell y61 v66).bind fun v67 =>
      p_law35_ViewTwice_l3 z57 z60 n (w64 (y59 + (1 : Int))) v67
    else
    some (y59, y61)
def p_law35_ViewTwice_l4 (z99 : List BookRow) (z101 : BookState) : Nat → Int → Ref35State → Option ((Int × Ref35State))
  | 0, _, _ => none
  | n + 1, y100, y102 =>
    bif (decide (y100 < (z99.length : Int))) then
      (at? z99 y100).bind fun x105 =>
      (at? z99 y100).bind fun x106 =>
      (p_pres_Say x105.User x106.Res (PresPres.mk false (0 : Int) (0 : Int) z101.Seq)).bind fun v107 =>
      (p_view_Tell y102 v107).bind fun v108 =>
      p_law35_ViewTwice_l4 z99 z101 n (w64 (y100 + (1 : Int))) v108
    else
    some (y100, y102)
def p_law35_ViewTwice (a0 : BookState) : Option (Bool) :=
  bif (decide ((16 : Int) < (a0.Rows.length : Int))) then
    (p_law35_awake).bind fun v2 =>
    some v2
  else
  (p_ref24_Light a0).bind fun v3 =>
  bif v3 then
    (p_ref24_Check a0).bind fun v5 =>
    bif (v5 != (0 : Int)) then
      (p_law35_awake).bind fun v7 =>
      some v7
    else
    (p_law26_Book a0).bind fun v8 =>
    (p_law35_ViewTwice_l1 v8.Rows fuel (0 : Int) (Ref35State.mk [] [] false [] [] (0 : Int) (0 : Int)) (Ref35State.mk [] [] false [] [] (0 : Int) (0 : Int))).bind fun q45 =>
    (p_view_Fits q45.2.1 v8.Rows).bind fun v46 =>
    bif v46 then
      (p_view_Fits q45.2.2 v8.Rows).bind fun v48 =>
      bif v48 then
        (p_law35_ViewTwice_l3 v8.Rows a0 fuel (0 : Int) q45.2.1).bind fun q69 =>
        (p_view_Tell q45.2.2 (StanzaStanza.mk (36 : Int) (⟨#[]⟩ : ByteArray) (⟨#[]⟩ : ByteArray) (⟨#[]⟩ : ByteArray) (0 : Int) (0 : Int) (0 : Int) (0 : Int))).bind fun v70 =>
        (p_view_Tell v70 (StanzaStanza.mk (37 : Int) (⟨#[]⟩ : ByteArray) (⟨#[]⟩ : ByteArray) (⟨#[]⟩ : ByteArray) (0 : Int) (0 : Int) (0 : Int) (0 : Int))).bind fun v71 =>
        bif (q45.2.1.Odd == (0 : Int)) then
          bif ((q69.2.Rows.length : Int) == (0 : Int)) then
            bif ((v71.Rows.length : Int) == (0 : Int)) then
              (p_view_Fits v71 []).bind fun v75 =>
              bif v75 then
                (p_law35_awake).bind fun v77 =>
                some v77
              else
              some false
            else
            some false
          else
          some false
        else
        some false
      else
      (p_law35_ViewTwice_l4 v8.Rows a0 fuel (0 : Int) q45.2.1).bind fun q96 =>
      (p_view_Tell q45.2.2 (StanzaStanza.mk (36 : Int) (⟨#[]⟩ : ByteArray) (⟨#[]⟩ : ByteArray) (⟨#[]⟩ : ByteArray) (0 : Int) (0 : Int) (0 : Int) (0 : Int))).bind fun v97 =>
      (p_view_Tell v97 (StanzaStanza.mk (37 : Int) (⟨#[]⟩ : ByteArray) (⟨#[]⟩ : ByteArray) (⟨#[]⟩ : ByteArray) (0 : Int) (0 : Int) (0 : Int) (0 : Int))).bind fun v98 =>
      some false
    else
    (p_law35_ViewTwice_l4 v8.Rows a0 fuel (0 : Int) q45.2.1).bind fun q110 =>
    (p_view_Tell q45.2.2 (StanzaStanza.mk (36 : Int) (⟨#[]⟩ : ByteArray) (⟨#[]⟩ : ByteArray) (⟨#[]⟩ : ByteArray) (0 : Int) (0 : Int) (0 : Int) (0 : Int))).bind fun v111 =>
    (p_view_Tell v111 (StanzaStanza.mk (37 : Int) (⟨#[]⟩ : ByteArray) (⟨#[]⟩ : ByteArray) (⟨#[]⟩ : ByteArray) (0 : Int) (0 : Int) (0 : Int) (0 : Int))).bind fun v112 =>
    some false
  else
  (p_law35_awake).bind fun v113 =>
  some v113
end Go.Proofs.YthlhbgedidipkaaGreat

/- ViewTwice in plain words. -/
namespace Go.Proofs.YthlhbgedidipkaaGreat
open Go.RowKit
theorem snapT_l {rows : List BookRow} (hr : RowsOK rows) {n : Nat} {st0 : Ref35State} (hn : n + rows.length ≤ 64) : ∀ (m j F : Nat) (st : Ref35State), j + m = rows.length → m < F → SnapV rows n j st0 st →
    ∃ st', p_law35_ViewTwice_l2 rows F j st = some ((rows.length : Int), st') ∧ SnapV rows n rows.length st0 st'
  | 0, j, F + 1, st, hk, hF, h => by
    have : j = rows.length := by omega
    subst this
    rw [p_law35_ViewTwice_l2, lt_ff (Nat.le_refl _)]
    exact ⟨st, rfl, h⟩
  | m + 1, j, F + 1, st, hk, hF, h => by
    have hlt : j < rows.length := by omega
    have hl := hr.len
    have hx := hr.chk _ (List.getElem_mem hlt)
    have hz := hr.small _ (List.getElem_mem hlt)
    obtain ⟨st', e, h'⟩ := snap_step hr (by omega) hlt h
    rw [p_law35_ViewTwice_l2, lt_tt hlt, at_lt hlt]
    simp only [cond_true, Option.bind_some]
    rw [say_v hx.1 hx.2.2 hz.1 hz.2]
    simp only [Option.bind_some]
    rw [e]
    simp only [Option.bind_some]
    rw [w64_succ (by omega)]
    exact snapT_l hr hn m (j + 1) F st' (by omega) (by omega) h'
structure Gone (rows : List BookRow) (n j : Nat) (st : Ref35State) : Prop where
  good : GoodV (n + j) st
  rws : ∀ y ∈ st.Rows, ∃ x ∈ rows.drop j, y = ent x
theorem gone_l {rows : List BookRow} (hr : RowsOK rows) {b : BookState} (hq : 0 ≤ b.Seq ∧ b.Seq ≤ 1099511627776) {n : Nat} (hn : n + rows.length ≤ 64) : ∀ (m j F : Nat) (st : Ref35State), j + m = rows.length → m < F → Gone rows n j st →
    ∃ st', p_law35_ViewTwice_l3 rows b F j st = some ((rows.length : Int), st') ∧ st'.Rows = []
  | 0, j, F + 1, st, hk, hF, h => by
    have : j = rows.length := by omega
    subst this
    rw [p_law35_ViewTwice_l3, lt_ff (Nat.le_refl _)]
    refine ⟨st, rfl, ?_⟩
    cases hR : st.Rows with
    | nil => rfl
    | cons y t =>
      obtain ⟨x, hx, _⟩ := h.rws y (by rw [hR]; exact List.mem_cons_self)
      rw [List.drop_length] at hx; cases hx
  | m + 1, j, F + 1, st, hk, hF, h => by
    have hlt : j < rows.length := by omega
    have hl := hr.len
    have hx := hr.chk _ (List.getElem_mem hlt)
    have hz := hr.small _ (List.getElem_mem hlt)
    have hp : presCheckL ⟨false, 0, 0, b.Seq⟩ = 0 := by
      unfold presCheckL
      rw [if_neg (by simp; omega), if_neg (by simp)]
    rw [p_law35_ViewTwice_l3, lt_tt hlt, at_lt hlt]
    simp only [cond_true, Option.bind_some]
    rw [say_v hp hx.2.2 hz.1 hz.2]
    simp only [Option.bind_some]
    rw [tell_row h.good (by omega) hp hx.2.2 hz.1 hz.2]
    simp only [Option.bind_some]
    rw [w64_succ (by omega)]
    refine gone_l hr hq hn m (j + 1) F _ (by omega) (by omega) ⟨h.good.up.row _ _, fun y hy => ?_⟩
    have hy' : y ∈ st.Rows.filter fun x => !(x.Key.toList == (keyL rows[j].User rows[j].Res).toList) := hy
    obtain ⟨h1, h2⟩ := List.mem_filter.1 hy'
    obtain ⟨x, hx1, hx2⟩ := h.rws y h1
    rw [drop_at hlt] at hx1
    rcases List.mem_cons.1 hx1 with h3 | h3
    · subst h3
      rw [hx2] at h2
      have e : (ent rows[j]).Key = keyL rows[j].User rows[j].Res := rfl
      rw [e] at h2
      simp at h2
    · exact ⟨x, h3, hx2⟩
/-- one turn: a whole snapshot. -/
theorem turn_p {rows : List BookRow} (hr : RowsOK rows) {n : Nat} {st : Ref35State} (g : GoodV n st) (hn : n + rows.length ≤ 64) (m : Int) :
    ∃ s2 st', p_view_Tell st ⟨36, ⟨#[]⟩, ⟨#[]⟩, ⟨#[]⟩, 0, 0, 0, m⟩ = some (anewV st) ∧ p_law35_ViewTwice_l2 rows fuel 0 (anewV st) = some ((rows.length : Int), s2) ∧ p_view_Tell s2 ⟨37, ⟨#[]⟩, ⟨#[]⟩, ⟨#[]⟩, 0, 0, 0, 0⟩ = some st' ∧
      st'.Rows = rows.map ent ∧ GoodV (n + rows.length) st' ∧ ((∀ y ∈ st.Last, ∃ x ∈ rows, y = ent x) → (∀ y ∈ st'.Last, ∃ x ∈ rows, y = ent x) ∧ st'.Odd = st.Odd) := by
  have hl := hr.len
  obtain ⟨s2, e2, h4⟩ := snapT_l hr (n := n) (st0 := st) hn rows.length 0 fuel _ (by omega) (by have := fuel_pos; omega) (snap_start g)
  have z0 : ((0 : Nat) : Int) = 0 := rfl
  rw [z0] at e2
  obtain ⟨r1, _, r3, r4, r5⟩ := snap_end hr hn h4
  exact ⟨s2, _, tell_snap g (by omega) m, e2, tell_done h4.good (by omega), r1, r3, fun h0 => ⟨by rw [r4]; exact (h4.last h0).1, by rw [r5]; exact (h4.last h0).2⟩⟩
/-- the law, in plain words. -/
theorem viewTwice_pure (b : BookState) : p_law35_ViewTwice b = some true := by
  unfold p_law35_ViewTwice
  by_cases h16 : 16 < b.Rows.length
  · rw [decide_eq_true (show (16 : Int) < (b.Rows.length : Int) by omega), aw35]; rfl
  rw [decide_eq_false (show ¬ (16 : Int) < (b.Rows.length : Int) by omega)]
  simp only [cond_false]
  rcases light_p b with h2 | ⟨h2, hn20, hs⟩
  · rw [h2, aw35]; rfl
  rw [h2]
  simp only [Option.bind_some, cond_true]
  rw [ref_check_p b (by omega) hs]
  simp only [Option.bind_some]
  by_cases hc : ¬ bookCheck b.Seq b.Rows = 0
  · have h3 : (bookCheck b.Seq b.Rows != 0) = true := by simpa using hc
    rw [h3, aw35]; rfl
  have hc : bookCheck b.Seq b.Rows = 0 := Decidable.of_not_not hc
  rw [hc]
  simp only [bne_self_eq_false, cond_false]
  rw [book35_p b (by omega)]
  simp only [Option.bind_some]
  have hr := rows_ok hc hs
  have hq := check_seq hc
  obtain ⟨F, hF⟩ : ∃ F, fuel = F + 3 := ⟨fuel - 3, by have := fuel_pos; omega⟩
  obtain ⟨s2, st1, a1, a2, a3, a4, a5, a6⟩ := turn_p hr good_0 (by omega) (b.Rows.length : Int)
  obtain ⟨s3, st2, b1, b2, b3, b4, b5, b6⟩ := turn_p hr a5 (by omega) (b.Rows.length : Int)
  obtain ⟨l1, o1⟩ := a6 (fun y hy => by cases hy)
  obtain ⟨_, o2⟩ := b6 l1
  have hloop : p_law35_ViewTwice_l1 b.Rows fuel 0 ⟨[], [], false, [], [], 0, 0⟩ ⟨[], [], false, [], [], 0, 0⟩ = some (2, st2, st1) := by
    rw [hF]
    have w0 : w64 ((0 : Int) + 1) = 1 := by kernel_rfl
    have w1 : w64 ((1 : Int) + 1) = 2 := by kernel_rfl
    have d0 : decide ((0 : Int) < 2) = true := rfl
    have d1 : decide ((1 : Int) < 2) = true := rfl
    have d2 : decide ((2 : Int) < 2) = false := rfl
    rw [p_law35_ViewTwice_l1]
    simp only [d0, cond_true]
    rw [a1]; simp only [Option.bind_some]
    rw [a2]; simp only [Option.bind_some]
    rw [a3]; simp only [Option.bind_some, w0]
    rw [p_law35_ViewTwice_l1]
    simp only [d1, cond_true]
    rw [b1]; simp only [Option.bind_some]
    rw [b2]; simp only [Option.bind_some]
    rw [b3]; simp only [Option.bind_some, w1]
    rw [p_law35_ViewTwice_l1]
    simp only [d2, cond_false]
  rw [hloop]
  simp only [Option.bind_some]
  rw [fits_p hr b4, fits_p hr a4]
  simp only [Option.bind_some, cond_true]
  obtain ⟨st4, c1, c2⟩ := gone_l hr hq (n := 0 + b.Rows.length + b.Rows.length) (by omega) b.Rows.length 0 fuel st2 (by omega) (by have := fuel_pos; omega) ⟨b5, fun y hy => by
    rw [b4, List.mem_map] at hy
    obtain ⟨x, hx, rfl⟩ := hy
    exact ⟨x, by rw [List.drop_zero]; exact hx, rfl⟩⟩
  have z0 : ((0 : Nat) : Int) = 0 := rfl
  rw [z0] at c1
  rw [c1]
  simp only [Option.bind_some]
  rw [tell_snap a5 (by omega)]
  simp only [Option.bind_some]
  rw [tell_done a5.anew (by omega)]
  simp only [Option.bind_some]
  have hE : (doneV (upT (anewV st1))).Rows = [] := by
    unfold doneV
    rw [if_pos (show (upT (anewV st1)).Anew = true from rfl)]
    show (upT (anewV st1)).Rows.filter (fun x => hasK idB [] x.Key) = []
    rw [List.filter_eq_nil_iff]
    intro x _
    simp [hasK]
  have hfe : p_view_Fits (doneV (upT (anewV st1))) [] = some true := by
    refine fits_p (rows := []) ⟨fun _ h => (nomatch h), fun _ h => (nomatch h), fun i j hj => absurd hj (Nat.not_lt_zero _), Nat.zero_le _⟩ ?_
    rw [hE]; rfl
  have ho : (st2.Odd == 0) = true := by rw [o2, o1]; rfl
  rw [ho, c2, hE, hfe, aw35]
  rfl
end Go.Proofs.YthlhbgedidipkaaGreat

/- That the program's functions yield what the plain ones tell (written by a program of mine). -/
namespace Go.Proofs.YthlhbgedidipkaaGreat
open Go.RowKit
def gc10 : BCode := (.seq (.reg 1 [⟨(some 1),.bx (.tmp 0),none,0⟩,⟨(some 2),.mv (.const (.bool false)),none,1⟩] none 0 []) (.seq (.seq (.reg 0 [⟨(some 11),.fa 1 (.tmp 1),none,0⟩,⟨(some 12),.ld 1 false (.tmp 11),none,0⟩,⟨(some 13),.lens (.tmp 12),none,0⟩,⟨(some 14),.bin .gtr (.tmp 13) (.const (.int .i64 16)),none,0⟩,⟨(some 15),.mv (.tmp 14),none,0⟩,⟨(some 16),.ld 2 true (.tmp 1),(some (15,false)),0⟩,⟨(some 17),.cl 12 [(.tmp 16)],(some (15,false)),0⟩,⟨(some 18),.un .not (.tmp 17),(some (15,false)),0⟩,⟨(some 19),.pick (.tmp 15) (.const (.bool true)) (.tmp 18),none,0⟩,⟨(some 20),.mv (.tmp 19),none,0⟩,⟨(some 21),.ld 2 true (.tmp 1),(some (20,false)),0⟩,⟨(some 22),.cl 76 [(.tmp 21)],(some (20,false)),0⟩,⟨(some 23),.bin .neq (.tmp 22) (.const (.int .i64 0)),(some (20,false)),0⟩,⟨(some 24),.pick (.tmp 20) (.const (.bool true)) (.tmp 23),none,0⟩] none 0 []) (.cond (.tmp 24) (.seq (.reg 0 [⟨(some 25),.cl 68 [],none,0⟩,⟨(some 2),.mv (.tmp 25),none,0⟩] none 0 []) .ret) .skip)) (.seq (.reg 0 [⟨(some 26),.ld 2 true (.tmp 1),none,0⟩,⟨(some 27),.cl 14 [(.tmp 26)],none,0⟩,⟨(some 28),.fd 1 1 false (.tmp 27),none,0⟩,⟨(some 3),.mv (.tmp 28),none,0⟩] none 0 []) (.seq (.reg 2 [⟨(some 4),.al (.agg [(.sl [] true),(.sl [] true),(.lit (.bool false)),(.sl [] true),(.sl [] true),(.lit (.int .i64 0)),(.lit (.int .i64 0))]),none,0⟩,⟨(some 5),.al (.agg [(.sl [] true),(.sl [] true),(.lit (.bool false)),(.sl [] true),(.sl [] true),(.lit (.int .i64 0)),(.lit (.int .i64 0))]),none,1⟩] none 0 []) (.seq (.seq (.reg 0 [⟨(some 6),.mv (.const (.int .i64 0)),none,0⟩] none 0 []) (.block 0 (.loop (.seq (.seq (.reg 0 [⟨(some 29),.mv (.tmp 6),none,0⟩,⟨(some 30),.bin .lss (.tmp 29) (.const (.int .i64 2)),none,0⟩] none 0 []) (.cond (.tmp 30) .skip (.exit 0))) (.seq (.block 1 (.seq (.reg 0 [⟨(some 33),.ld 7 true (.tmp 4),none,0⟩,⟨none,.st 7 (.tmp 5) (.tmp 33),none,0⟩] none 0 []) (.seq (.reg 0 [⟨(some 34),.ld 7 true (.tmp 4),none,0⟩,⟨(some 35),.mv (.tmp 3),none,0⟩,⟨(some 36),.lens (.tmp 35),none,0⟩,⟨(some 37),.bd [(.lit (.int .u8 0)),(.lit (.string ⟨#[]⟩)),(.lit (.string ⟨#[]⟩)),(.lit (.string ⟨#[]⟩)),(.lit (.int .i64 0)),(.lit (.int .i64 0)),(.lit (.int .i64 0)),(.lit (.int .i64 0))] [(0,1,(.const (.int .u8 36))),(7,1,(.tmp 36))],none,0⟩,⟨(some 38),.cl 73 [(.tmp 34),(.tmp 37)],none,0⟩,⟨none,.st 7 (.tmp 4) (.tmp 38),none,0⟩] none 0 []) (.seq (.seq (.reg 0 [⟨(some 7),.mv (.const (.int .i64 0)),none,0⟩] none 0 []) (.block 2 (.loop (.seq (.seq (.reg 0 [⟨(some 39),.mv (.tmp 7),none,0⟩,⟨(some 40),.mv (.tmp 3),none,0⟩,⟨(some 41),.lens (.tmp 40),none,0⟩,⟨(some 42),.bin .lss (.tmp 39) (.tmp 41),none,0⟩] none 0 []) (.cond (.tmp 42) .skip (.exit 2))) (.seq (.block 3 (.reg 0 [⟨(some 45),.ld 7 true (.tmp 4),none,0⟩,⟨(some 46),.mv (.tmp 3),none,0⟩,⟨(some 47),.mv (.tmp 7),none,0⟩,⟨(some 48),.ixs 6 (.tmp 46) (.tmp 47),none,0⟩,⟨(some 49),.fa 0 (.tmp 48),none,0⟩,⟨(some 50),.ld 1 false (.tmp 49),none,0⟩,⟨(some 51),.mv (.tmp 3),none,0⟩,⟨(some 52),.mv (.tmp 7),none,0⟩,⟨(some 53),.ixs 6 (.tmp 51) (.tmp 52),none,0⟩,⟨(some 54),.fa 1 (.tmp 53),none,0⟩,⟨(some 55),.ld 1 false (.tmp 54),none,0⟩,⟨(some 56),.mv (.tmp 3),none,0⟩,⟨(some 57),.mv (.tmp 7),none,0⟩,⟨(some 58),.ixs 6 (.tmp 56) (.tmp 57),none,0⟩,⟨(some 59),.fa 2 (.tmp 58),none,0⟩,⟨(some 60),.ld 4 true (.tmp 59),none,0⟩,⟨(some 61),.cl 77 [(.tmp 50),(.tmp 55),(.tmp 60)],none,0⟩,⟨(some 62),.cl 73 [(.tmp 45),(.tmp 61)],none,0⟩,⟨none,.st 7 (.tmp 4) (.tmp 62),none,0⟩] (some [[],[],[],[2,1],[1,2,3],[3,2,1,4],[],[],[7,6],[6,7,8],[8,7,6,9],[],[],[12,11],[11,12,13],[13,12,11,14],[14,11,12,13,15,9,6,7,8,10,4,1,2,3,5],[5,3,2,1,4,10,8,7,6,9,15,13,12,11,14,16,0],[0,16,14,11,12,13,15,9,6,7,8,10,4,1,2,3,5,17]]) 0 [])) (.reg 0 [⟨(some 43),.mv (.tmp 7),none,0⟩,⟨(some 44),.bin .add (.tmp 43) (.const (.int .i64 1)),none,0⟩,⟨(some 7),.mv (.tmp 44),none,0⟩] none 0 [])))))) (.reg 0 [⟨(some 63),.ld 7 true (.tmp 4),none,0⟩,⟨(some 64),.bd [(.lit (.int .u8 0)),(.lit (.string ⟨#[]⟩)),(.lit (.string ⟨#[]⟩)),(.lit (.string ⟨#[]⟩)),(.lit (.int .i64 0)),(.lit (.int .i64 0)),(.lit (.int .i64 0)),(.lit (.int .i64 0))] [(0,1,(.const (.int .u8 37)))],none,0⟩,⟨(some 65),.cl 73 [(.tmp 63),(.tmp 64)],none,0⟩,⟨none,.st 7 (.tmp 4) (.tmp 65),none,0⟩] none 0 []))))) (.reg 0 [⟨(some 31),.mv (.tmp 6),none,0⟩,⟨(some 32),.bin .add (.tmp 31) (.const (.int .i64 1)),none,0⟩,⟨(some 6),.mv (.tmp 32),none,0⟩] none 0 [])))))) (.seq (.reg 0 [⟨(some 66),.ld 7 true (.tmp 4),none,0⟩,⟨(some 67),.mv (.tmp 3),none,0⟩,⟨(some 68),.cl 78 [(.tmp 66),(.tmp 67)],none,0⟩,⟨(some 69),.mv (.tmp 68),none,0⟩,⟨(some 70),.ld 7 true (.tmp 5),(some (69,true)),0⟩,⟨(some 71),.mv (.tmp 3),(some (69,true)),0⟩,⟨(some 72),.cl 78 [(.tmp 70),(.tmp 71)],(some (69,true)),0⟩,⟨(some 73),.pick (.tmp 69) (.tmp 72) (.const (.bool false)),none,0⟩,⟨(some 74),.mv (.tmp 73),none,0⟩,⟨(some 75),.fa 5 (.tmp 4),(some (74,true)),0⟩,⟨(some 76),.ld 1 false (.tmp 75),(some (74,true)),0⟩,⟨(some 77),.bin .eql (.tmp 76) (.const (.int .i64 0)),(some (74,true)),0⟩,⟨(some 78),.pick (.tmp 74) (.tmp 77) (.const (.bool false)),none,0⟩,⟨(some 8),.mv (.tmp 78),none,0⟩] none 0 []) (.seq (.seq (.reg 0 [⟨(some 9),.mv (.const (.int .i64 0)),none,0⟩] none 0 []) (.block 4 (.loop (.seq (.seq (.reg 0 [⟨(some 79),.mv (.tmp 9),none,0⟩,⟨(some 80),.mv (.tmp 3),none,0⟩,⟨(some 81),.lens (.tmp 80),none,0⟩,⟨(some 82),.bin .lss (.tmp 79) (.tmp 81),none,0⟩] none 0 []) (.cond (.tmp 82) .skip (.exit 4))) (.seq (.block 5 (.reg 0 [⟨(some 85),.ld 7 true (.tmp 4),none,0⟩,⟨(some 86),.mv (.tmp 3),none,0⟩,⟨(some 87),.mv (.tmp 9),none,0⟩,⟨(some 88),.ixs 6 (.tmp 86) (.tmp 87),none,0⟩,⟨(some 89),.fa 0 (.tmp 88),none,0⟩,⟨(some 90),.ld 1 false (.tmp 89),none,0⟩,⟨(some 91),.mv (.tmp 3),none,0⟩,⟨(some 92),.mv (.tmp 9),none,0⟩,⟨(some 93),.ixs 6 (.tmp 91) (.tmp 92),none,0⟩,⟨(some 94),.fa 1 (.tmp 93),none,0⟩,⟨(some 95),.ld 1 false (.tmp 94),none,0⟩,⟨(some 96),.fa 0 (.tmp 1),none,0⟩,⟨(some 97),.ld 1 false (.tmp 96),none,0⟩,⟨(some 98),.bd [(.lit (.bool false)),(.lit (.int .i64 0)),(.lit (.int .i64 0)),(.lit (.int .i64 0))] [(3,1,(.tmp 97))],none,0⟩,⟨(some 99),.cl 77 [(.tmp 90),(.tmp 95),(.tmp 98)],none,0⟩,⟨(some 100),.cl 73 [(.tmp 85),(.tmp 99)],none,0⟩,⟨none,.st 7 (.tmp 4) (.tmp 100),none,0⟩] (some [[],[],[],[2,1],[1,2,3],[3,2,1,4],[],[],[7,6],[6,7,8],[8,7,6,9],[],[11],[11,12],[12,11,13,9,6,7,8,10,4,1,2,3,5],[5,3,2,1,4,10,8,7,6,9,13,11,12,14,0],[0,14,12,11,13,9,6,7,8,10,4,1,2,3,5,15]]) 0 [])) (.reg 0 [⟨(some 83),.mv (.tmp 9),none,0⟩,⟨(some 84),.bin .add (.tmp 83) (.const (.int .i64 1)),none,0⟩,⟨(some 9),.mv (.tmp 84),none,0⟩] none 0 [])))))) (.seq (.reg 1 [⟨(some 101),.ld 7 true (.tmp 5),none,0⟩,⟨(some 102),.bd [(.lit (.int .u8 0)),(.lit (.string ⟨#[]⟩)),(.lit (.string ⟨#[]⟩)),(.lit (.string ⟨#[]⟩)),(.lit (.int .i64 0)),(.lit (.int .i64 0)),(.lit (.int .i64 0)),(.lit (.int .i64 0))] [(0,1,(.const (.int .u8 36)))],none,0⟩,⟨(some 103),.cl 73 [(.tmp 101),(.tmp 102)],none,0⟩,⟨(some 104),.bd [(.lit (.int .u8 0)),(.lit (.string ⟨#[]⟩)),(.lit (.string ⟨#[]⟩)),(.lit (.string ⟨#[]⟩)),(.lit (.int .i64 0)),(.lit (.int .i64 0)),(.lit (.int .i64 0)),(.lit (.int .i64 0))] [(0,1,(.const (.int .u8 37)))],none,0⟩,⟨(some 105),.cl 73 [(.tmp 103),(.tmp 104)],none,0⟩,⟨(some 10),.al (.agg [(.sl [] true),(.sl [] true),(.lit (.bool false)),(.sl [] true),(.sl [] true),(.lit (.int .i64 0)),(.lit (.int .i64 0))]),none,0⟩,⟨none,.st 7 (.tmp 10) (.tmp 105),none,1⟩] none 0 []) (.seq (.reg 0 [⟨(some 106),.mv (.tmp 8),none,0⟩,⟨(some 107),.mv (.tmp 106),none,0⟩,⟨(some 108),.fa 0 (.tmp 4),(some (107,true)),0⟩,⟨(some 109),.ld 1 false (.tmp 108),(some (107,true)),0⟩,⟨(some 110),.lens (.tmp 109),(some (107,true)),0⟩,⟨(some 111),.bin .eql (.tmp 110) (.const (.int .i64 0)),(some (107,true)),0⟩,⟨(some 112),.pick (.tmp 107) (.tmp 111) (.const (.bool false)),none,0⟩,⟨(some 113),.mv (.tmp 112),none,0⟩,⟨(some 114),.fa 0 (.tmp 10),(some (113,true)),0⟩,⟨(some 115),.ld 1 false (.tmp 114),(some (113,true)),0⟩,⟨(some 116),.lens (.tmp 115),(some (113,true)),0⟩,⟨(some 117),.bin .eql (.tmp 116) (.const (.int .i64 0)),(some (113,true)),0⟩,⟨(some 118),.pick (.tmp 113) (.tmp 117) (.const (.bool false)),none,0⟩,⟨(some 119),.mv (.tmp 118),none,0⟩,⟨(some 120),.ld 7 true (.tmp 10),(some (119,true)),0⟩,⟨(some 121),.cl 78 [(.tmp 120),(.const (.slice none 0 0))],(some (119,true)),0⟩,⟨(some 122),.pick (.tmp 119) (.tmp 121) (.const (.bool false)),none,0⟩,⟨(some 123),.mv (.tmp 122),none,0⟩,⟨(some 124),.cl 68 [],(some (123,true)),0⟩,⟨(some 125),.pick (.tmp 123) (.tmp 124) (.const (.bool false)),none,0⟩,⟨(some 2),.mv (.tmp 125),none,0⟩] none 0 []) .ret)))))))))
set_option maxRecDepth 1000000 in
theorem gc10_ok : compF Tryz.prog Tryz.f10 = some (gc10.er,126,[.tmp 2]) := by unfold gc10;kernel_rfl
set_option maxRecDepth 100000 in
set_option maxHeartbeats 4000000 in
theorem p_law35_ViewTwice_v {u1 : Bool} (a0 : BookState) : CallsO Tryz.prog 10 [.agg [.i a0.Seq,.sl (List.map BookRow.v a0.Rows) u1]] V.b (p_law35_ViewTwice a0) := by
 refine callsO_comp mix Tryz.func10 gc10_ok fun r H=>?_
 rw [p_law35_ViewTwice] at H
 conv=>whnf
 refine LenQ.M ?_;conv=>whnf
 refine tst_c H (fun b1 H=>?_) (fun b1 H=>?_)
 ·conv=>whnf
  iterate 8 (refine Tst.T ?_;conv=>whnf)
  refine ask_c (p_law35_awake_v) H rfl rfl (fun v2 H=>?_);conv=>whnf
  exact fin0_c (enc := V.b) H (.inr rfl) (.cons (.tmp rfl) (.nil)) rfl rfl
 conv=>whnf
 refine Tst.F ?_;conv=>whnf
 refine ask_c (p_ref24_Light_v _) H rfl rfl (fun v3 H=>?_);conv=>whnf
 iterate 2 (refine Tst.F ?_;conv=>whnf)
 refine Tst.not ?_
 refine tst_d H (fun b4 H=>?_) (fun b4 H=>?_)
 ·conv=>whnf
  iterate 4 (refine Tst.T ?_;conv=>whnf)
  refine ask_c (p_law35_awake_v) H rfl rfl (fun v260 H=>?_);conv=>whnf
  exact fin0_c (enc := V.b) H (.inr rfl) (.cons (.tmp rfl) (.nil)) rfl rfl
 conv=>whnf
 refine Tst.F ?_;conv=>whnf
 refine ask_c (p_ref24_Check_v _) H rfl rfl (fun v5 H=>?_);conv=>whnf
 iterate 2 (refine Tst.F ?_;conv=>whnf)
 refine tst_c H (fun b6 H=>?_) (fun b6 H=>?_)
 ·conv=>whnf
  refine ask_c (p_law35_awake_v) H rfl rfl (fun v7 H=>?_);conv=>whnf
  exact fin0_c (enc := V.b) H (.inr rfl) (.cons (.tmp rfl) (.nil)) rfl rfl
 conv=>whnf
 refine ask_c (p_law26_Book_v _) H rfl rfl (fun v8 H=>?_);conv=>whnf
 obtain ⟨o10,HL11,HQ12⟩ := bind_c H
 refine loop_c [6] [7,29,30,31,32,33,34,35,36,37,38,39,40,41,42,43,44,45,46,47,48,49,50,51,52,53,54,55,56,57,58,59,60,61,62,63,64,65,11] [7,29,30,31,32,33,34,35,36,37,38,39,40,41,42,43,44,45,46,47,48,49,50,51,52,53,54,55,56,57,58,59,60,61,62,63,64,65,11] (fun n vals st=>(∃ y14 y15 y16,p_law35_ViewTwice_l1  v8.Rows n y14 y15 y16 = some o10 ∧ vals = [.i y14] ∧ st = [.live [.i a0.Seq,.sl (List.map BookRow.v a0.Rows) u1] 0,.live [.sl (List.map MailEntry.v y15.Rows) true,.sl (List.map MailEntry.v y15.Last) true,.b y15.Anew,.sl (List.map V.s y15.Seen) true,.sl (List.map Ref35Contact.v y15.List) true,.i y15.Odd,.i y15.Told] 0,.live [.sl (List.map MailEntry.v y16.Rows) true,.sl (List.map MailEntry.v y16.Last) true,.b y16.Anew,.sl (List.map V.s y16.Seen) true,.sl (List.map Ref35Contact.v y16.List) true,.i y16.Odd,.i y16.Told] 0]) ∨ (∃ y33 y34 y35,p_law35_ViewTwice_l1  v8.Rows n y33 y34 y35 = some o10 ∧ vals = [.i y33] ∧ st = [.live [.i a0.Seq,.sl (List.map BookRow.v a0.Rows) u1] 0,.live [.sl (List.map MailEntry.v y34.Rows) false,.sl (List.map MailEntry.v y34.Last) false,.b y34.Anew,.sl (List.map V.s y34.Seen) false,.sl (List.map Ref35Contact.v y34.List) false,.i y34.Odd,.i y34.Told] 0,.live [.sl (List.map MailEntry.v y35.Rows) true,.sl (List.map MailEntry.v y35.Last) true,.b y35.Anew,.sl (List.map V.s y35.Seen) true,.sl (List.map Ref35Contact.v y35.List) true,.i y35.Odd,.i y35.Told] 0]) ∨ (∃ y137 y138 y139,p_law35_ViewTwice_l1  v8.Rows n y137 y138 y139 = some o10 ∧ vals = [.i y137] ∧ st = [.live [.i a0.Seq,.sl (List.map BookRow.v a0.Rows) u1] 0,.live [.sl (List.map MailEntry.v y138.Rows) false,.sl (List.map MailEntry.v y138.Last) false,.b y138.Anew,.sl (List.map V.s y138.Seen) false,.sl (List.map Ref35Contact.v y138.List) false,.i y138.Odd,.i y138.Told] 0,.live [.sl (List.map MailEntry.v y139.Rows) false,.sl (List.map MailEntry.v y139.Last) false,.b y139.Anew,.sl (List.map V.s y139.Seen) false,.sl (List.map Ref35Contact.v y139.List) false,.i y139.Odd,.i y139.Told] 0])) fuel 3 [] (.inl (⟨_,_,_,HL11,rfl,rfl⟩)) (Nat.zero_le _) rfl (by kernel_rfl) (by kernel_rfl) rfl ⟨⟨rfl,rfl,rfl⟩,⟨⟨rfl,rfl,rfl⟩,⟨⟨rfl,rfl,rfl⟩,trivial⟩⟩⟩ ?_
 rintro (_ | n13) _ _ (⟨y14,y15,y16,H,rfl,rfl⟩ | ⟨y33,y34,y35,H,rfl,rfl⟩ | ⟨y137,y138,y139,H,rfl,rfl⟩)
 ·rw [p_law35_ViewTwice_l1] at H;cases H
 ·rw [p_law35_ViewTwice_l1] at H;cases H
 ·rw [p_law35_ViewTwice_l1] at H;cases H
 ·rw [p_law35_ViewTwice_l1] at H
  conv=>whnf
  refine tst_c H (fun b17 H=>?_) (fun b17 H=>?_)
  ·conv=>whnf
   refine ⟨Nat.le_of_ble_eq_true rfl,?_⟩;conv=>whnf
   refine LenQ.M ?_;conv=>whnf
   refine ask_c (p_view_Tell_v _ _) H rfl rfl (fun v18 H=>?_);conv=>whnf
   refine ⟨Nat.le_of_ble_eq_true rfl,?_⟩;conv=>whnf
   obtain ⟨o20,HL21,HQ22⟩ := bind_c H
   refine loop_c [7] [39,40,41,42,43,44,45,46,47,48,49,50,51,52,53,54,55,56,57,58,59,60,61,62] [39,40,41,42,43,44,45,46,47,48,49,50,51,52,53,54,55,56,57,58,59,60,61,62] (fun n vals st=>(∃ y24 y25,p_law35_ViewTwice_l2  v8.Rows n y24 y25 = some o20 ∧ vals = [.i y24] ∧ st = [.live [.i a0.Seq,.sl (List.map BookRow.v a0.Rows) u1] 0,.live [.sl (List.map MailEntry.v y25.Rows) false,.sl (List.map MailEntry.v y25.Last) false,.b y25.Anew,.sl (List.map V.s y25.Seen) false,.sl (List.map Ref35Contact.v y25.List) false,.i y25.Odd,.i y25.Told] 0,.live [.sl (List.map MailEntry.v y15.Rows) true,.sl (List.map MailEntry.v y15.Last) true,.b y15.Anew,.sl (List.map V.s y15.Seen) true,.sl (List.map Ref35Contact.v y15.List) true,.i y15.Odd,.i y15.Told] 0])) fuel 3 [] (⟨_,_,HL21,rfl,rfl⟩) (Nat.zero_le _) rfl (by kernel_rfl) (by kernel_rfl) rfl ⟨⟨rfl,rfl,rfl⟩,⟨⟨rfl,rfl,rfl⟩,⟨⟨rfl,rfl,rfl⟩,trivial⟩⟩⟩ ?_
   rintro (_ | n23) _ _ (⟨y24,y25,H,rfl,rfl⟩)
   ·rw [p_law35_ViewTwice_l2] at H;cases H
   rw [p_law35_ViewTwice_l2] at H
   conv=>whnf
   refine LenQ.M ?_;conv=>whnf
   refine tst_d H (fun b26 H=>?_) (fun b26 H=>?_)
   ·conv=>whnf
    obtain rfl := Option.some.inj H
    have H := HQ22
    try dsimp only at H
    refine ask_c (p_view_Tell_v _ _) H rfl rfl (fun v32 H=>?_);conv=>whnf
    refine ⟨Nat.le_of_ble_eq_true rfl,?_⟩;conv=>whnf
    refine Ari.w ?_;conv=>whnf
    exact again_c [7,29,30,31,32,33,34,35,36,37,38,39,40,41,42,43,44,45,46,47,48,49,50,51,52,53,54,55,56,57,58,59,60,61,62,63,64,65,11] n13 3 [] (.inr (.inl (⟨_,_,_,H,rfl,rfl⟩))) (Nat.lt_succ_self _) (Nat.zero_le _) rfl (by kernel_rfl) (by kernel_rfl) rfl ⟨⟨rfl,rfl,rfl⟩,⟨⟨rfl,rfl,rfl⟩,⟨⟨rfl,rfl,rfl⟩,trivial⟩⟩⟩
   conv=>whnf
   refine ixs_c (f := BookRow.v) H (fun _=>rfl) (fun x27 H=>?_);conv=>whnf
   refine ⟨Nat.le_of_ble_eq_true rfl,?_⟩;conv=>whnf
   refine ixs_c (f := BookRow.v) H (fun _=>rfl) (fun x28 H=>?_);conv=>whnf
   refine ⟨Nat.le_of_ble_eq_true rfl,?_⟩;conv=>whnf
   refine ixs_c (f := BookRow.v) H (fun _=>rfl) (fun x29 H=>?_);conv=>whnf
   refine ⟨Nat.le_of_ble_eq_true rfl,?_⟩;conv=>whnf
   refine ask_c (p_pres_Say_v _ _ _) H rfl rfl (fun v30 H=>?_);conv=>whnf
   refine ask_c (p_view_Tell_v _ _) H rfl rfl (fun v31 H=>?_);conv=>whnf
   refine ⟨Nat.le_of_ble_eq_true rfl,?_⟩;conv=>whnf
   refine FootQ.mk ⟨rfl,?_⟩;conv=>whnf
   refine Ari.w ?_;conv=>whnf
   exact again_c [39,40,41,42,43,44,45,46,47,48,49,50,51,52,53,54,55,56,57,58,59,60,61,62] n23 3 [] (⟨_,_,H,rfl,rfl⟩) (Nat.lt_succ_self _) (Nat.zero_le _) rfl (by kernel_rfl) (by kernel_rfl) rfl ⟨⟨rfl,rfl,rfl⟩,⟨⟨rfl,rfl,rfl⟩,⟨⟨rfl,rfl,rfl⟩,trivial⟩⟩⟩
  conv=>whnf
  obtain rfl := Option.some.inj H
  have H := HQ12
  try dsimp only at H
  refine ask_c (p_view_Fits_v _ _) H rfl rfl (fun v36 H=>?_);conv=>whnf
  refine tst_d H (fun b37 H=>?_) (fun b37 H=>?_)
  ·conv=>whnf
   iterate 7 (refine Tst.F ?_;conv=>whnf)
   obtain ⟨o99,HL100,HQ101⟩ := bind_c H
   refine loop_c [9] [79,80,81,82,83,84,85,86,87,88,89,90,91,92,93,94,95,96,97,98,99,100] [79,80,81,82,83,84,85,86,87,88,89,90,91,92,93,94,95,96,97,98,99,100] (fun n vals st=>(∃ y103 y104,p_law35_ViewTwice_l4  v8.Rows a0 n y103 y104 = some o99 ∧ vals = [.i y103] ∧ st = [.live [.i a0.Seq,.sl (List.map BookRow.v a0.Rows) u1] 0,.live [.sl (List.map MailEntry.v y104.Rows) true,.sl (List.map MailEntry.v y104.Last) true,.b y104.Anew,.sl (List.map V.s y104.Seen) true,.sl (List.map Ref35Contact.v y104.List) true,.i y104.Odd,.i y104.Told] 0,.live [.sl (List.map MailEntry.v y16.Rows) true,.sl (List.map MailEntry.v y16.Last) true,.b y16.Anew,.sl (List.map V.s y16.Seen) true,.sl (List.map Ref35Contact.v y16.List) true,.i y16.Odd,.i y16.Told] 0]) ∨ (∃ y110 y111,p_law35_ViewTwice_l4  v8.Rows a0 n y110 y111 = some o99 ∧ vals = [.i y110] ∧ st = [.live [.i a0.Seq,.sl (List.map BookRow.v a0.Rows) u1] 0,.live [.sl (List.map MailEntry.v y111.Rows) false,.sl (List.map MailEntry.v y111.Last) false,.b y111.Anew,.sl (List.map V.s y111.Seen) false,.sl (List.map Ref35Contact.v y111.List) false,.i y111.Odd,.i y111.Told] 0,.live [.sl (List.map MailEntry.v y16.Rows) true,.sl (List.map MailEntry.v y16.Last) true,.b y16.Anew,.sl (List.map V.s y16.Seen) true,.sl (List.map Ref35Contact.v y16.List) true,.i y16.Odd,.i y16.Told] 0])) fuel 3 [] (.inl (⟨_,_,HL100,rfl,rfl⟩)) (Nat.zero_le _) rfl (by kernel_rfl) (by kernel_rfl) rfl ⟨⟨rfl,rfl,rfl⟩,⟨⟨rfl,rfl,rfl⟩,⟨⟨rfl,rfl,rfl⟩,trivial⟩⟩⟩ ?_
   rintro (_ | n102) _ _ (⟨y103,y104,H,rfl,rfl⟩ | ⟨y110,y111,H,rfl,rfl⟩)
   ·rw [p_law35_ViewTwice_l4] at H;cases H
   ·rw [p_law35_ViewTwice_l4] at H;cases H
   ·rw [p_law35_ViewTwice_l4] at H
    conv=>whnf
    refine LenQ.M ?_;conv=>whnf
    refine tst_d H (fun b105 H=>?_) (fun b105 H=>?_)
    ·conv=>whnf
     obtain rfl := Option.some.inj H
     have H := HQ101
     try dsimp only at H
     refine ask_c (p_view_Tell_v _ _) H rfl rfl (fun v112 H=>?_);conv=>whnf
     refine ask_c (p_view_Tell_v _ _) H rfl rfl (fun v113 H=>?_);conv=>whnf
     refine ⟨Nat.le_of_ble_eq_true rfl,?_⟩;conv=>whnf
     iterate 15 (refine Tst.F ?_;conv=>whnf)
     exact fin0_c (enc := V.b) H (.inr rfl) (.cons (.tmp rfl) (.nil)) rfl rfl
    conv=>whnf
    refine ixs_c (f := BookRow.v) H (fun _=>rfl) (fun x106 H=>?_);conv=>whnf
    refine ⟨Nat.le_of_ble_eq_true rfl,?_⟩;conv=>whnf
    refine ixs_c (f := BookRow.v) H (fun _=>rfl) (fun x107 H=>?_);conv=>whnf
    refine ⟨Nat.le_of_ble_eq_true rfl,?_⟩;conv=>whnf
    refine ask_c (p_pres_Say_v _ _ _) H rfl rfl (fun v108 H=>?_);conv=>whnf
    refine ask_c (p_view_Tell_v _ _) H rfl rfl (fun v109 H=>?_);conv=>whnf
    refine ⟨Nat.le_of_ble_eq_true rfl,?_⟩;conv=>whnf
    refine FootQ.mk ⟨rfl,?_⟩;conv=>whnf
    refine Ari.w ?_;conv=>whnf
    exact again_c [79,80,81,82,83,84,85,86,87,88,89,90,91,92,93,94,95,96,97,98,99,100] n102 3 [] (.inr (⟨_,_,H,rfl,rfl⟩)) (Nat.lt_succ_self _) (Nat.zero_le _) rfl (by kernel_rfl) (by kernel_rfl) rfl ⟨⟨rfl,rfl,rfl⟩,⟨⟨rfl,rfl,rfl⟩,⟨⟨rfl,rfl,rfl⟩,trivial⟩⟩⟩
   rw [p_law35_ViewTwice_l4] at H
   conv=>whnf
   refine LenQ.M ?_;conv=>whnf
   refine tst_d H (fun b114 H=>?_) (fun b114 H=>?_)
   ·conv=>whnf
    obtain rfl := Option.some.inj H
    have H := HQ101
    try dsimp only at H
    refine ask_c (p_view_Tell_v _ _) H rfl rfl (fun v119 H=>?_);conv=>whnf
    refine ask_c (p_view_Tell_v _ _) H rfl rfl (fun v120 H=>?_);conv=>whnf
    refine ⟨Nat.le_of_ble_eq_true rfl,?_⟩;conv=>whnf
    iterate 15 (refine Tst.F ?_;conv=>whnf)
    exact fin0_c (enc := V.b) H (.inr rfl) (.cons (.tmp rfl) (.nil)) rfl rfl
   conv=>whnf
   refine ixs_c (f := BookRow.v) H (fun _=>rfl) (fun x115 H=>?_);conv=>whnf
   refine ⟨Nat.le_of_ble_eq_true rfl,?_⟩;conv=>whnf
   refine ixs_c (f := BookRow.v) H (fun _=>rfl) (fun x116 H=>?_);conv=>whnf
   refine ⟨Nat.le_of_ble_eq_true rfl,?_⟩;conv=>whnf
   refine ask_c (p_pres_Say_v _ _ _) H rfl rfl (fun v117 H=>?_);conv=>whnf
   refine ask_c (p_view_Tell_v _ _) H rfl rfl (fun v118 H=>?_);conv=>whnf
   refine ⟨Nat.le_of_ble_eq_true rfl,?_⟩;conv=>whnf
   refine FootQ.mk ⟨rfl,?_⟩;conv=>whnf
   refine Ari.w ?_;conv=>whnf
   exact again_c [79,80,81,82,83,84,85,86,87,88,89,90,91,92,93,94,95,96,97,98,99,100] n102 3 [] (.inr (⟨_,_,H,rfl,rfl⟩)) (Nat.lt_succ_self _) (Nat.zero_le _) rfl (by kernel_rfl) (by kernel_rfl) rfl ⟨⟨rfl,rfl,rfl⟩,⟨⟨rfl,rfl,rfl⟩,⟨⟨rfl,rfl,rfl⟩,trivial⟩⟩⟩
  conv=>whnf
  iterate 2 (refine Tst.T ?_;conv=>whnf)
  refine ask_c (p_view_Fits_v _ _) H rfl rfl (fun v38 H=>?_);conv=>whnf
  refine Tst.T ?_;conv=>whnf
  refine tst_d H (fun b39 H=>?_) (fun b39 H=>?_)
  ·conv=>whnf
   iterate 3 (refine Tst.F ?_;conv=>whnf)
   obtain ⟨o76,HL77,HQ78⟩ := bind_c H
   refine loop_c [9] [79,80,81,82,83,84,85,86,87,88,89,90,91,92,93,94,95,96,97,98,99,100] [79,80,81,82,83,84,85,86,87,88,89,90,91,92,93,94,95,96,97,98,99,100] (fun n vals st=>(∃ y80 y81,p_law35_ViewTwice_l4  v8.Rows a0 n y80 y81 = some o76 ∧ vals = [.i y80] ∧ st = [.live [.i a0.Seq,.sl (List.map BookRow.v a0.Rows) u1] 0,.live [.sl (List.map MailEntry.v y81.Rows) true,.sl (List.map MailEntry.v y81.Last) true,.b y81.Anew,.sl (List.map V.s y81.Seen) true,.sl (List.map Ref35Contact.v y81.List) true,.i y81.Odd,.i y81.Told] 0,.live [.sl (List.map MailEntry.v y16.Rows) true,.sl (List.map MailEntry.v y16.Last) true,.b y16.Anew,.sl (List.map V.s y16.Seen) true,.sl (List.map Ref35Contact.v y16.List) true,.i y16.Odd,.i y16.Told] 0]) ∨ (∃ y87 y88,p_law35_ViewTwice_l4  v8.Rows a0 n y87 y88 = some o76 ∧ vals = [.i y87] ∧ st = [.live [.i a0.Seq,.sl (List.map BookRow.v a0.Rows) u1] 0,.live [.sl (List.map MailEntry.v y88.Rows) false,.sl (List.map MailEntry.v y88.Last) false,.b y88.Anew,.sl (List.map V.s y88.Seen) false,.sl (List.map Ref35Contact.v y88.List) false,.i y88.Odd,.i y88.Told] 0,.live [.sl (List.map MailEntry.v y16.Rows) true,.sl (List.map MailEntry.v y16.Last) true,.b y16.Anew,.sl (List.map V.s y16.Seen) true,.sl (List.map Ref35Contact.v y16.List) true,.i y16.Odd,.i y16.Told] 0])) fuel 3 [] (.inl (⟨_,_,HL77,rfl,rfl⟩)) (Nat.zero_le _) rfl (by kernel_rfl) (by kernel_rfl) rfl ⟨⟨rfl,rfl,rfl⟩,⟨⟨rfl,rfl,rfl⟩,⟨⟨rfl,rfl,rfl⟩,trivial⟩⟩⟩ ?_
   rintro (_ | n79) _ _ (⟨y80,y81,H,rfl,rfl⟩ | ⟨y87,y88,H,rfl,rfl⟩)
   ·rw [p_law35_ViewTwice_l4] at H;cases H
   ·rw [p_law35_ViewTwice_l4] at H;cases H
   ·rw [p_law35_ViewTwice_l4] at H
    conv=>whnf
    refine LenQ.M ?_;conv=>whnf
    refine tst_d H (fun b82 H=>?_) (fun b82 H=>?_)
    ·conv=>whnf
     obtain rfl := Option.some.inj H
     have H := HQ78
     try dsimp only at H
     refine ask_c (p_view_Tell_v _ _) H rfl rfl (fun v89 H=>?_);conv=>whnf
     refine ask_c (p_view_Tell_v _ _) H rfl rfl (fun v90 H=>?_);conv=>whnf
     refine ⟨Nat.le_of_ble_eq_true rfl,?_⟩;conv=>whnf
     iterate 15 (refine Tst.F ?_;conv=>whnf)
     exact fin0_c (enc := V.b) H (.inr rfl) (.cons (.tmp rfl) (.nil)) rfl rfl
    conv=>whnf
    refine ixs_c (f := BookRow.v) H (fun _=>rfl) (fun x83 H=>?_);conv=>whnf
    refine ⟨Nat.le_of_ble_eq_true rfl,?_⟩;conv=>whnf
    refine ixs_c (f := BookRow.v) H (fun _=>rfl) (fun x84 H=>?_);conv=>whnf
    refine ⟨Nat.le_of_ble_eq_true rfl,?_⟩;conv=>whnf
    refine ask_c (p_pres_Say_v _ _ _) H rfl rfl (fun v85 H=>?_);conv=>whnf
    refine ask_c (p_view_Tell_v _ _) H rfl rfl (fun v86 H=>?_);conv=>whnf
    refine ⟨Nat.le_of_ble_eq_true rfl,?_⟩;conv=>whnf
    refine FootQ.mk ⟨rfl,?_⟩;conv=>whnf
    refine Ari.w ?_;conv=>whnf
    exact again_c [79,80,81,82,83,84,85,86,87,88,89,90,91,92,93,94,95,96,97,98,99,100] n79 3 [] (.inr (⟨_,_,H,rfl,rfl⟩)) (Nat.lt_succ_self _) (Nat.zero_le _) rfl (by kernel_rfl) (by kernel_rfl) rfl ⟨⟨rfl,rfl,rfl⟩,⟨⟨rfl,rfl,rfl⟩,⟨⟨rfl,rfl,rfl⟩,trivial⟩⟩⟩
   rw [p_law35_ViewTwice_l4] at H
   conv=>whnf
   refine LenQ.M ?_;conv=>whnf
   refine tst_d H (fun b91 H=>?_) (fun b91 H=>?_)
   ·conv=>whnf
    obtain rfl := Option.some.inj H
    have H := HQ78
    try dsimp only at H
    refine ask_c (p_view_Tell_v _ _) H rfl rfl (fun v96 H=>?_);conv=>whnf
    refine ask_c (p_view_Tell_v _ _) H rfl rfl (fun v97 H=>?_);conv=>whnf
    refine ⟨Nat.le_of_ble_eq_true rfl,?_⟩;conv=>whnf
    iterate 15 (refine Tst.F ?_;conv=>whnf)
    exact fin0_c (enc := V.b) H (.inr rfl) (.cons (.tmp rfl) (.nil)) rfl rfl
   conv=>whnf
   refine ixs_c (f := BookRow.v) H (fun _=>rfl) (fun x92 H=>?_);conv=>whnf
   refine ⟨Nat.le_of_ble_eq_true rfl,?_⟩;conv=>whnf
   refine ixs_c (f := BookRow.v) H (fun _=>rfl) (fun x93 H=>?_);conv=>whnf
   refine ⟨Nat.le_of_ble_eq_true rfl,?_⟩;conv=>whnf
   refine ask_c (p_pres_Say_v _ _ _) H rfl rfl (fun v94 H=>?_);conv=>whnf
   refine ask_c (p_view_Tell_v _ _) H rfl rfl (fun v95 H=>?_);conv=>whnf
   refine ⟨Nat.le_of_ble_eq_true rfl,?_⟩;conv=>whnf
   refine FootQ.mk ⟨rfl,?_⟩;conv=>whnf
   refine Ari.w ?_;conv=>whnf
   exact again_c [79,80,81,82,83,84,85,86,87,88,89,90,91,92,93,94,95,96,97,98,99,100] n79 3 [] (.inr (⟨_,_,H,rfl,rfl⟩)) (Nat.lt_succ_self _) (Nat.zero_le _) rfl (by kernel_rfl) (by kernel_rfl) rfl ⟨⟨rfl,rfl,rfl⟩,⟨⟨rfl,rfl,rfl⟩,⟨⟨rfl,rfl,rfl⟩,trivial⟩⟩⟩
  conv=>whnf
  iterate 3 (refine Tst.T ?_;conv=>whnf)
  obtain ⟨o41,HL42,HQ43⟩ := bind_c H
  refine loop_c [9] [79,80,81,82,83,84,85,86,87,88,89,90,91,92,93,94,95,96,97,98,99,100,75] [79,80,81,82,83,84,85,86,87,88,89,90,91,92,93,94,95,96,97,98,99,100,75] (fun n vals st=>(∃ y45 y46,p_law35_ViewTwice_l3  v8.Rows a0 n y45 y46 = some o41 ∧ vals = [.i y45] ∧ st = [.live [.i a0.Seq,.sl (List.map BookRow.v a0.Rows) u1] 0,.live [.sl (List.map MailEntry.v y46.Rows) true,.sl (List.map MailEntry.v y46.Last) true,.b y46.Anew,.sl (List.map V.s y46.Seen) true,.sl (List.map Ref35Contact.v y46.List) true,.i y46.Odd,.i y46.Told] 0,.live [.sl (List.map MailEntry.v y16.Rows) true,.sl (List.map MailEntry.v y16.Last) true,.b y16.Anew,.sl (List.map V.s y16.Seen) true,.sl (List.map Ref35Contact.v y16.List) true,.i y16.Odd,.i y16.Told] 0]) ∨ (∃ y52 y53,p_law35_ViewTwice_l3  v8.Rows a0 n y52 y53 = some o41 ∧ vals = [.i y52] ∧ st = [.live [.i a0.Seq,.sl (List.map BookRow.v a0.Rows) u1] 0,.live [.sl (List.map MailEntry.v y53.Rows) false,.sl (List.map MailEntry.v y53.Last) false,.b y53.Anew,.sl (List.map V.s y53.Seen) false,.sl (List.map Ref35Contact.v y53.List) false,.i y53.Odd,.i y53.Told] 0,.live [.sl (List.map MailEntry.v y16.Rows) true,.sl (List.map MailEntry.v y16.Last) true,.b y16.Anew,.sl (List.map V.s y16.Seen) true,.sl (List.map Ref35Contact.v y16.List) true,.i y16.Odd,.i y16.Told] 0])) fuel 3 [] (.inl (⟨_,_,HL42,rfl,rfl⟩)) (Nat.zero_le _) rfl (by kernel_rfl) (by kernel_rfl) rfl ⟨⟨rfl,rfl,rfl⟩,⟨⟨rfl,rfl,rfl⟩,⟨⟨rfl,rfl,rfl⟩,trivial⟩⟩⟩ ?_
  rintro (_ | n44) _ _ (⟨y45,y46,H,rfl,rfl⟩ | ⟨y52,y53,H,rfl,rfl⟩)
  ·rw [p_law35_ViewTwice_l3] at H;cases H
  ·rw [p_law35_ViewTwice_l3] at H;cases H
  ·rw [p_law35_ViewTwice_l3] at H
   conv=>whnf
   refine LenQ.M ?_;conv=>whnf
   refine tst_c H (fun b47 H=>?_) (fun b47 H=>?_)
   ·conv=>whnf
    refine ixs_c (f := BookRow.v) H (fun _=>rfl) (fun x48 H=>?_);conv=>whnf
    refine ⟨Nat.le_of_ble_eq_true rfl,?_⟩;conv=>whnf
    refine ixs_c (f := BookRow.v) H (fun _=>rfl) (fun x49 H=>?_);conv=>whnf
    refine ⟨Nat.le_of_ble_eq_true rfl,?_⟩;conv=>whnf
    refine ask_c (p_pres_Say_v _ _ _) H rfl rfl (fun v50 H=>?_);conv=>whnf
    refine ask_c (p_view_Tell_v _ _) H rfl rfl (fun v51 H=>?_);conv=>whnf
    refine ⟨Nat.le_of_ble_eq_true rfl,?_⟩;conv=>whnf
    refine FootQ.mk ⟨rfl,?_⟩;conv=>whnf
    refine Ari.w ?_;conv=>whnf
    exact again_c [79,80,81,82,83,84,85,86,87,88,89,90,91,92,93,94,95,96,97,98,99,100,75] n44 3 [] (.inr (⟨_,_,H,rfl,rfl⟩)) (Nat.lt_succ_self _) (Nat.zero_le _) rfl (by kernel_rfl) (by kernel_rfl) rfl ⟨⟨rfl,rfl,rfl⟩,⟨⟨rfl,rfl,rfl⟩,⟨⟨rfl,rfl,rfl⟩,trivial⟩⟩⟩
   conv=>whnf
   obtain rfl := Option.some.inj H
   have H := HQ43
   try dsimp only at H
   refine ask_c (p_view_Tell_v _ _) H rfl rfl (fun v54 H=>?_);conv=>whnf
   refine ask_c (p_view_Tell_v _ _) H rfl rfl (fun v55 H=>?_);conv=>whnf
   refine ⟨Nat.le_of_ble_eq_true rfl,?_⟩;conv=>whnf
   refine tst_d H (fun b56 H=>?_) (fun b56 H=>?_)
   ·conv=>whnf
    iterate 14 (refine Tst.F ?_;conv=>whnf)
    exact fin0_c (enc := V.b) H (.inr rfl) (.cons (.tmp rfl) (.nil)) rfl rfl
   conv=>whnf
   iterate 2 (refine Tst.T ?_;conv=>whnf)
   refine LenQ.M ?_;conv=>whnf
   iterate 2 (refine Tst.T ?_;conv=>whnf)
   refine tst_d H (fun b57 H=>?_) (fun b57 H=>?_)
   ·conv=>whnf
    iterate 9 (refine Tst.F ?_;conv=>whnf)
    exact fin0_c (enc := V.b) H (.inr rfl) (.cons (.tmp rfl) (.nil)) rfl rfl
   conv=>whnf
   iterate 2 (refine Tst.T ?_;conv=>whnf)
   refine LenQ.M ?_;conv=>whnf
   iterate 2 (refine Tst.T ?_;conv=>whnf)
   refine tst_d H (fun b58 H=>?_) (fun b58 H=>?_)
   ·conv=>whnf
    iterate 4 (refine Tst.F ?_;conv=>whnf)
    exact fin0_c (enc := V.b) H (.inr rfl) (.cons (.tmp rfl) (.nil)) rfl rfl
   conv=>whnf
   refine Tst.T ?_;conv=>whnf
   refine ask_c (p_view_Fits_v _ _) H rfl rfl (fun v59 H=>?_);conv=>whnf
   refine Tst.T ?_;conv=>whnf
   refine tst_d H (fun b60 H=>?_) (fun b60 H=>?_)
   ·conv=>whnf
    refine Tst.F ?_;conv=>whnf
    exact fin0_c (enc := V.b) H (.inr rfl) (.cons (.tmp rfl) (.nil)) rfl rfl
   conv=>whnf
   refine ask_c (p_law35_awake_v) H rfl rfl (fun v61 H=>?_);conv=>whnf
   refine Tst.T ?_;conv=>whnf
   exact fin0_c (enc := V.b) H (.inr rfl) (.cons (.tmp rfl) (.nil)) rfl rfl
  rw [p_law35_ViewTwice_l3] at H
  conv=>whnf
  refine LenQ.M ?_;conv=>whnf
  refine tst_c H (fun b62 H=>?_) (fun b62 H=>?_)
  ·conv=>whnf
   refine ixs_c (f := BookRow.v) H (fun _=>rfl) (fun x63 H=>?_);conv=>whnf
   refine ⟨Nat.le_of_ble_eq_true rfl,?_⟩;conv=>whnf
   refine ixs_c (f := BookRow.v) H (fun _=>rfl) (fun x64 H=>?_);conv=>whnf
   refine ⟨Nat.le_of_ble_eq_true rfl,?_⟩;conv=>whnf
   refine ask_c (p_pres_Say_v _ _ _) H rfl rfl (fun v65 H=>?_);conv=>whnf
   refine ask_c (p_view_Tell_v _ _) H rfl rfl (fun v66 H=>?_);conv=>whnf
   refine ⟨Nat.le_of_ble_eq_true rfl,?_⟩;conv=>whnf
   refine FootQ.mk ⟨rfl,?_⟩;conv=>whnf
   refine Ari.w ?_;conv=>whnf
   exact again_c [79,80,81,82,83,84,85,86,87,88,89,90,91,92,93,94,95,96,97,98,99,100,75] n44 3 [] (.inr (⟨_,_,H,rfl,rfl⟩)) (Nat.lt_succ_self _) (Nat.zero_le _) rfl (by kernel_rfl) (by kernel_rfl) rfl ⟨⟨rfl,rfl,rfl⟩,⟨⟨rfl,rfl,rfl⟩,⟨⟨rfl,rfl,rfl⟩,trivial⟩⟩⟩
  conv=>whnf
  obtain rfl := Option.some.inj H
  have H := HQ43
  try dsimp only at H
  refine ask_c (p_view_Tell_v _ _) H rfl rfl (fun v67 H=>?_);conv=>whnf
  refine ask_c (p_view_Tell_v _ _) H rfl rfl (fun v68 H=>?_);conv=>whnf
  refine ⟨Nat.le_of_ble_eq_true rfl,?_⟩;conv=>whnf
  refine tst_d H (fun b69 H=>?_) (fun b69 H=>?_)
  ·conv=>whnf
   iterate 14 (refine Tst.F ?_;conv=>whnf)
   exact fin0_c (enc := V.b) H (.inr rfl) (.cons (.tmp rfl) (.nil)) rfl rfl
  conv=>whnf
  iterate 2 (refine Tst.T ?_;conv=>whnf)
  refine LenQ.M ?_;conv=>whnf
  iterate 2 (refine Tst.T ?_;conv=>whnf)
  refine tst_d H (fun b70 H=>?_) (fun b70 H=>?_)
  ·conv=>whnf
   iterate 9 (refine Tst.F ?_;conv=>whnf)
   exact fin0_c (enc := V.b) H (.inr rfl) (.cons (.tmp rfl) (.nil)) rfl rfl
  conv=>whnf
  iterate 2 (refine Tst.T ?_;conv=>whnf)
  refine LenQ.M ?_;conv=>whnf
  iterate 2 (refine Tst.T ?_;conv=>whnf)
  refine tst_d H (fun b71 H=>?_) (fun b71 H=>?_)
  ·conv=>whnf
   iterate 4 (refine Tst.F ?_;conv=>whnf)
   exact fin0_c (enc := V.b) H (.inr rfl) (.cons (.tmp rfl) (.nil)) rfl rfl
  conv=>whnf
  refine Tst.T ?_;conv=>whnf
  refine ask_c (p_view_Fits_v _ _) H rfl rfl (fun v72 H=>?_);conv=>whnf
  refine Tst.T ?_;conv=>whnf
  refine tst_d H (fun b73 H=>?_) (fun b73 H=>?_)
  ·conv=>whnf
   refine Tst.F ?_;conv=>whnf
   exact fin0_c (enc := V.b) H (.inr rfl) (.cons (.tmp rfl) (.nil)) rfl rfl
  conv=>whnf
  refine ask_c (p_law35_awake_v) H rfl rfl (fun v74 H=>?_);conv=>whnf
  refine Tst.T ?_;conv=>whnf
  exact fin0_c (enc := V.b) H (.inr rfl) (.cons (.tmp rfl) (.nil)) rfl rfl
 ·rw [p_law35_ViewTwice_l1] at H
  conv=>whnf
  refine tst_c H (fun b121 H=>?_) (fun b121 H=>?_)
  ·conv=>whnf
   refine ⟨Nat.le_of_ble_eq_true rfl,?_⟩;conv=>whnf
   refine LenQ.M ?_;conv=>whnf
   refine ask_c (p_view_Tell_v _ _) H rfl rfl (fun v122 H=>?_);conv=>whnf
   refine ⟨Nat.le_of_ble_eq_true rfl,?_⟩;conv=>whnf
   obtain ⟨o124,HL125,HQ126⟩ := bind_c H
   refine loop_c [7] [39,40,41,42,43,44,45,46,47,48,49,50,51,52,53,54,55,56,57,58,59,60,61,62] [39,40,41,42,43,44,45,46,47,48,49,50,51,52,53,54,55,56,57,58,59,60,61,62] (fun n vals st=>(∃ y128 y129,p_law35_ViewTwice_l2  v8.Rows n y128 y129 = some o124 ∧ vals = [.i y128] ∧ st = [.live [.i a0.Seq,.sl (List.map BookRow.v a0.Rows) u1] 0,.live [.sl (List.map MailEntry.v y129.Rows) false,.sl (List.map MailEntry.v y129.Last) false,.b y129.Anew,.sl (List.map V.s y129.Seen) false,.sl (List.map Ref35Contact.v y129.List) false,.i y129.Odd,.i y129.Told] 0,.live [.sl (List.map MailEntry.v y34.Rows) false,.sl (List.map MailEntry.v y34.Last) false,.b y34.Anew,.sl (List.map V.s y34.Seen) false,.sl (List.map Ref35Contact.v y34.List) false,.i y34.Odd,.i y34.Told] 0])) fuel 3 [] (⟨_,_,HL125,rfl,rfl⟩) (Nat.zero_le _) rfl (by kernel_rfl) (by kernel_rfl) rfl ⟨⟨rfl,rfl,rfl⟩,⟨⟨rfl,rfl,rfl⟩,⟨⟨rfl,rfl,rfl⟩,trivial⟩⟩⟩ ?_
   rintro (_ | n127) _ _ (⟨y128,y129,H,rfl,rfl⟩)
   ·rw [p_law35_ViewTwice_l2] at H;cases H
   rw [p_law35_ViewTwice_l2] at H
   conv=>whnf
   refine LenQ.M ?_;conv=>whnf
   refine tst_d H (fun b130 H=>?_) (fun b130 H=>?_)
   ·conv=>whnf
    obtain rfl := Option.some.inj H
    have H := HQ126
    try dsimp only at H
    refine ask_c (p_view_Tell_v _ _) H rfl rfl (fun v136 H=>?_);conv=>whnf
    refine ⟨Nat.le_of_ble_eq_true rfl,?_⟩;conv=>whnf
    refine Ari.w ?_;conv=>whnf
    exact again_c [7,29,30,31,32,33,34,35,36,37,38,39,40,41,42,43,44,45,46,47,48,49,50,51,52,53,54,55,56,57,58,59,60,61,62,63,64,65,11] n13 3 [] (.inr (.inr (⟨_,_,_,H,rfl,rfl⟩))) (Nat.lt_succ_self _) (Nat.zero_le _) rfl (by kernel_rfl) (by kernel_rfl) rfl ⟨⟨rfl,rfl,rfl⟩,⟨⟨rfl,rfl,rfl⟩,⟨⟨rfl,rfl,rfl⟩,trivial⟩⟩⟩
   conv=>whnf
   refine ixs_c (f := BookRow.v) H (fun _=>rfl) (fun x131 H=>?_);conv=>whnf
   refine ⟨Nat.le_of_ble_eq_true rfl,?_⟩;conv=>whnf
   refine ixs_c (f := BookRow.v) H (fun _=>rfl) (fun x132 H=>?_);conv=>whnf
   refine ⟨Nat.le_of_ble_eq_true rfl,?_⟩;conv=>whnf
   refine ixs_c (f := BookRow.v) H (fun _=>rfl) (fun x133 H=>?_);conv=>whnf
   refine ⟨Nat.le_of_ble_eq_true rfl,?_⟩;conv=>whnf
   refine ask_c (p_pres_Say_v _ _ _) H rfl rfl (fun v134 H=>?_);conv=>whnf
   refine ask_c (p_view_Tell_v _ _) H rfl rfl (fun v135 H=>?_);conv=>whnf
   refine ⟨Nat.le_of_ble_eq_true rfl,?_⟩;conv=>whnf
   refine FootQ.mk ⟨rfl,?_⟩;conv=>whnf
   refine Ari.w ?_;conv=>whnf
   exact again_c [39,40,41,42,43,44,45,46,47,48,49,50,51,52,53,54,55,56,57,58,59,60,61,62] n127 3 [] (⟨_,_,H,rfl,rfl⟩) (Nat.lt_succ_self _) (Nat.zero_le _) rfl (by kernel_rfl) (by kernel_rfl) rfl ⟨⟨rfl,rfl,rfl⟩,⟨⟨rfl,rfl,rfl⟩,⟨⟨rfl,rfl,rfl⟩,trivial⟩⟩⟩
  conv=>whnf
  obtain rfl := Option.some.inj H
  have H := HQ12
  try dsimp only at H
  refine ask_c (p_view_Fits_v _ _) H rfl rfl (fun v140 H=>?_);conv=>whnf
  refine tst_d H (fun b141 H=>?_) (fun b141 H=>?_)
  ·conv=>whnf
   iterate 7 (refine Tst.F ?_;conv=>whnf)
   obtain ⟨o179,HL180,HQ181⟩ := bind_c H
   refine loop_c [9] [79,80,81,82,83,84,85,86,87,88,89,90,91,92,93,94,95,96,97,98,99,100] [79,80,81,82,83,84,85,86,87,88,89,90,91,92,93,94,95,96,97,98,99,100] (fun n vals st=>(∃ y183 y184,p_law35_ViewTwice_l4  v8.Rows a0 n y183 y184 = some o179 ∧ vals = [.i y183] ∧ st = [.live [.i a0.Seq,.sl (List.map BookRow.v a0.Rows) u1] 0,.live [.sl (List.map MailEntry.v y184.Rows) false,.sl (List.map MailEntry.v y184.Last) false,.b y184.Anew,.sl (List.map V.s y184.Seen) false,.sl (List.map Ref35Contact.v y184.List) false,.i y184.Odd,.i y184.Told] 0,.live [.sl (List.map MailEntry.v y35.Rows) true,.sl (List.map MailEntry.v y35.Last) true,.b y35.Anew,.sl (List.map V.s y35.Seen) true,.sl (List.map Ref35Contact.v y35.List) true,.i y35.Odd,.i y35.Told] 0])) fuel 3 [] (⟨_,_,HL180,rfl,rfl⟩) (Nat.zero_le _) rfl (by kernel_rfl) (by kernel_rfl) rfl ⟨⟨rfl,rfl,rfl⟩,⟨⟨rfl,rfl,rfl⟩,⟨⟨rfl,rfl,rfl⟩,trivial⟩⟩⟩ ?_
   rintro (_ | n182) _ _ (⟨y183,y184,H,rfl,rfl⟩)
   ·rw [p_law35_ViewTwice_l4] at H;cases H
   rw [p_law35_ViewTwice_l4] at H
   conv=>whnf
   refine LenQ.M ?_;conv=>whnf
   refine tst_d H (fun b185 H=>?_) (fun b185 H=>?_)
   ·conv=>whnf
    obtain rfl := Option.some.inj H
    have H := HQ181
    try dsimp only at H
    refine ask_c (p_view_Tell_v _ _) H rfl rfl (fun v190 H=>?_);conv=>whnf
    refine ask_c (p_view_Tell_v _ _) H rfl rfl (fun v191 H=>?_);conv=>whnf
    refine ⟨Nat.le_of_ble_eq_true rfl,?_⟩;conv=>whnf
    iterate 15 (refine Tst.F ?_;conv=>whnf)
    exact fin0_c (enc := V.b) H (.inr rfl) (.cons (.tmp rfl) (.nil)) rfl rfl
   conv=>whnf
   refine ixs_c (f := BookRow.v) H (fun _=>rfl) (fun x186 H=>?_);conv=>whnf
   refine ⟨Nat.le_of_ble_eq_true rfl,?_⟩;conv=>whnf
   refine ixs_c (f := BookRow.v) H (fun _=>rfl) (fun x187 H=>?_);conv=>whnf
   refine ⟨Nat.le_of_ble_eq_true rfl,?_⟩;conv=>whnf
   refine ask_c (p_pres_Say_v _ _ _) H rfl rfl (fun v188 H=>?_);conv=>whnf
   refine ask_c (p_view_Tell_v _ _) H rfl rfl (fun v189 H=>?_);conv=>whnf
   refine ⟨Nat.le_of_ble_eq_true rfl,?_⟩;conv=>whnf
   refine FootQ.mk ⟨rfl,?_⟩;conv=>whnf
   refine Ari.w ?_;conv=>whnf
   exact again_c [79,80,81,82,83,84,85,86,87,88,89,90,91,92,93,94,95,96,97,98,99,100] n182 3 [] (⟨_,_,H,rfl,rfl⟩) (Nat.lt_succ_self _) (Nat.zero_le _) rfl (by kernel_rfl) (by kernel_rfl) rfl ⟨⟨rfl,rfl,rfl⟩,⟨⟨rfl,rfl,rfl⟩,⟨⟨rfl,rfl,rfl⟩,trivial⟩⟩⟩
  conv=>whnf
  iterate 2 (refine Tst.T ?_;conv=>whnf)
  refine ask_c (p_view_Fits_v _ _) H rfl rfl (fun v142 H=>?_);conv=>whnf
  refine Tst.T ?_;conv=>whnf
  refine tst_d H (fun b143 H=>?_) (fun b143 H=>?_)
  ·conv=>whnf
   iterate 3 (refine Tst.F ?_;conv=>whnf)
   obtain ⟨o165,HL166,HQ167⟩ := bind_c H
   refine loop_c [9] [79,80,81,82,83,84,85,86,87,88,89,90,91,92,93,94,95,96,97,98,99,100] [79,80,81,82,83,84,85,86,87,88,89,90,91,92,93,94,95,96,97,98,99,100] (fun n vals st=>(∃ y169 y170,p_law35_ViewTwice_l4  v8.Rows a0 n y169 y170 = some o165 ∧ vals = [.i y169] ∧ st = [.live [.i a0.Seq,.sl (List.map BookRow.v a0.Rows) u1] 0,.live [.sl (List.map MailEntry.v y170.Rows) false,.sl (List.map MailEntry.v y170.Last) false,.b y170.Anew,.sl (List.map V.s y170.Seen) false,.sl (List.map Ref35Contact.v y170.List) false,.i y170.Odd,.i y170.Told] 0,.live [.sl (List.map MailEntry.v y35.Rows) true,.sl (List.map MailEntry.v y35.Last) true,.b y35.Anew,.sl (List.map V.s y35.Seen) true,.sl (List.map Ref35Contact.v y35.List) true,.i y35.Odd,.i y35.Told] 0])) fuel 3 [] (⟨_,_,HL166,rfl,rfl⟩) (Nat.zero_le _) rfl (by kernel_rfl) (by kernel_rfl) rfl ⟨⟨rfl,rfl,rfl⟩,⟨⟨rfl,rfl,rfl⟩,⟨⟨rfl,rfl,rfl⟩,trivial⟩⟩⟩ ?_
   rintro (_ | n168) _ _ (⟨y169,y170,H,rfl,rfl⟩)
   ·rw [p_law35_ViewTwice_l4] at H;cases H
   rw [p_law35_ViewTwice_l4] at H
   conv=>whnf
   refine LenQ.M ?_;conv=>whnf
   refine tst_d H (fun b171 H=>?_) (fun b171 H=>?_)
   ·conv=>whnf
    obtain rfl := Option.some.inj H
    have H := HQ167
    try dsimp only at H
    refine ask_c (p_view_Tell_v _ _) H rfl rfl (fun v176 H=>?_);conv=>whnf
    refine ask_c (p_view_Tell_v _ _) H rfl rfl (fun v177 H=>?_);conv=>whnf
    refine ⟨Nat.le_of_ble_eq_true rfl,?_⟩;conv=>whnf
    iterate 15 (refine Tst.F ?_;conv=>whnf)
    exact fin0_c (enc := V.b) H (.inr rfl) (.cons (.tmp rfl) (.nil)) rfl rfl
   conv=>whnf
   refine ixs_c (f := BookRow.v) H (fun _=>rfl) (fun x172 H=>?_);conv=>whnf
   refine ⟨Nat.le_of_ble_eq_true rfl,?_⟩;conv=>whnf
   refine ixs_c (f := BookRow.v) H (fun _=>rfl) (fun x173 H=>?_);conv=>whnf
   refine ⟨Nat.le_of_ble_eq_true rfl,?_⟩;conv=>whnf
   refine ask_c (p_pres_Say_v _ _ _) H rfl rfl (fun v174 H=>?_);conv=>whnf
   refine ask_c (p_view_Tell_v _ _) H rfl rfl (fun v175 H=>?_);conv=>whnf
   refine ⟨Nat.le_of_ble_eq_true rfl,?_⟩;conv=>whnf
   refine FootQ.mk ⟨rfl,?_⟩;conv=>whnf
   refine Ari.w ?_;conv=>whnf
   exact again_c [79,80,81,82,83,84,85,86,87,88,89,90,91,92,93,94,95,96,97,98,99,100] n168 3 [] (⟨_,_,H,rfl,rfl⟩) (Nat.lt_succ_self _) (Nat.zero_le _) rfl (by kernel_rfl) (by kernel_rfl) rfl ⟨⟨rfl,rfl,rfl⟩,⟨⟨rfl,rfl,rfl⟩,⟨⟨rfl,rfl,rfl⟩,trivial⟩⟩⟩
  conv=>whnf
  iterate 3 (refine Tst.T ?_;conv=>whnf)
  obtain ⟨o145,HL146,HQ147⟩ := bind_c H
  refine loop_c [9] [79,80,81,82,83,84,85,86,87,88,89,90,91,92,93,94,95,96,97,98,99,100,75] [79,80,81,82,83,84,85,86,87,88,89,90,91,92,93,94,95,96,97,98,99,100,75] (fun n vals st=>(∃ y149 y150,p_law35_ViewTwice_l3  v8.Rows a0 n y149 y150 = some o145 ∧ vals = [.i y149] ∧ st = [.live [.i a0.Seq,.sl (List.map BookRow.v a0.Rows) u1] 0,.live [.sl (List.map MailEntry.v y150.Rows) false,.sl (List.map MailEntry.v y150.Last) false,.b y150.Anew,.sl (List.map V.s y150.Seen) false,.sl (List.map Ref35Contact.v y150.List) false,.i y150.Odd,.i y150.Told] 0,.live [.sl (List.map MailEntry.v y35.Rows) true,.sl (List.map MailEntry.v y35.Last) true,.b y35.Anew,.sl (List.map V.s y35.Seen) true,.sl (List.map Ref35Contact.v y35.List) true,.i y35.Odd,.i y35.Told] 0])) fuel 3 [] (⟨_,_,HL146,rfl,rfl⟩) (Nat.zero_le _) rfl (by kernel_rfl) (by kernel_rfl) rfl ⟨⟨rfl,rfl,rfl⟩,⟨⟨rfl,rfl,rfl⟩,⟨⟨rfl,rfl,rfl⟩,trivial⟩⟩⟩ ?_
  rintro (_ | n148) _ _ (⟨y149,y150,H,rfl,rfl⟩)
  ·rw [p_law35_ViewTwice_l3] at H;cases H
  rw [p_law35_ViewTwice_l3] at H
  conv=>whnf
  refine LenQ.M ?_;conv=>whnf
  refine tst_c H (fun b151 H=>?_) (fun b151 H=>?_)
  ·conv=>whnf
   refine ixs_c (f := BookRow.v) H (fun _=>rfl) (fun x152 H=>?_);conv=>whnf
   refine ⟨Nat.le_of_ble_eq_true rfl,?_⟩;conv=>whnf
   refine ixs_c (f := BookRow.v) H (fun _=>rfl) (fun x153 H=>?_);conv=>whnf
   refine ⟨Nat.le_of_ble_eq_true rfl,?_⟩;conv=>whnf
   refine ask_c (p_pres_Say_v _ _ _) H rfl rfl (fun v154 H=>?_);conv=>whnf
   refine ask_c (p_view_Tell_v _ _) H rfl rfl (fun v155 H=>?_);conv=>whnf
   refine ⟨Nat.le_of_ble_eq_true rfl,?_⟩;conv=>whnf
   refine FootQ.mk ⟨rfl,?_⟩;conv=>whnf
   refine Ari.w ?_;conv=>whnf
   exact again_c [79,80,81,82,83,84,85,86,87,88,89,90,91,92,93,94,95,96,97,98,99,100,75] n148 3 [] (⟨_,_,H,rfl,rfl⟩) (Nat.lt_succ_self _) (Nat.zero_le _) rfl (by kernel_rfl) (by kernel_rfl) rfl ⟨⟨rfl,rfl,rfl⟩,⟨⟨rfl,rfl,rfl⟩,⟨⟨rfl,rfl,rfl⟩,trivial⟩⟩⟩
  conv=>whnf
  obtain rfl := Option.some.inj H
  have H := HQ147
  try dsimp only at H
  refine ask_c (p_view_Tell_v _ _) H rfl rfl (fun v156 H=>?_);conv=>whnf
  refine ask_c (p_view_Tell_v _ _) H rfl rfl (fun v157 H=>?_);conv=>whnf
  refine ⟨Nat.le_of_ble_eq_true rfl,?_⟩;conv=>whnf
  refine tst_d H (fun b158 H=>?_) (fun b158 H=>?_)
  ·conv=>whnf
   iterate 14 (refine Tst.F ?_;conv=>whnf)
   exact fin0_c (enc := V.b) H (.inr rfl) (.cons (.tmp rfl) (.nil)) rfl rfl
  conv=>whnf
  iterate 2 (refine Tst.T ?_;conv=>whnf)
  refine LenQ.M ?_;conv=>whnf
  iterate 2 (refine Tst.T ?_;conv=>whnf)
  refine tst_d H (fun b159 H=>?_) (fun b159 H=>?_)
  ·conv=>whnf
   iterate 9 (refine Tst.F ?_;conv=>whnf)
   exact fin0_c (enc := V.b) H (.inr rfl) (.cons (.tmp rfl) (.nil)) rfl rfl
  conv=>whnf
  iterate 2 (refine Tst.T ?_;conv=>whnf)
  refine LenQ.M ?_;conv=>whnf
  iterate 2 (refine Tst.T ?_;conv=>whnf)
  refine tst_d H (fun b160 H=>?_) (fun b160 H=>?_)
  ·conv=>whnf
   iterate 4 (refine Tst.F ?_;conv=>whnf)
   exact fin0_c (enc := V.b) H (.inr rfl) (.cons (.tmp rfl) (.nil)) rfl rfl
  conv=>whnf
  refine Tst.T ?_;conv=>whnf
  refine ask_c (p_view_Fits_v _ _) H rfl rfl (fun v161 H=>?_);conv=>whnf
  refine Tst.T ?_;conv=>whnf
  refine tst_d H (fun b162 H=>?_) (fun b162 H=>?_)
  ·conv=>whnf
   refine Tst.F ?_;conv=>whnf
   exact fin0_c (enc := V.b) H (.inr rfl) (.cons (.tmp rfl) (.nil)) rfl rfl
  conv=>whnf
  refine ask_c (p_law35_awake_v) H rfl rfl (fun v163 H=>?_);conv=>whnf
  refine Tst.T ?_;conv=>whnf
  exact fin0_c (enc := V.b) H (.inr rfl) (.cons (.tmp rfl) (.nil)) rfl rfl
 rw [p_law35_ViewTwice_l1] at H
 conv=>whnf
 refine tst_c H (fun b192 H=>?_) (fun b192 H=>?_)
 ·conv=>whnf
  refine ⟨Nat.le_of_ble_eq_true rfl,?_⟩;conv=>whnf
  refine LenQ.M ?_;conv=>whnf
  refine ask_c (p_view_Tell_v _ _) H rfl rfl (fun v193 H=>?_);conv=>whnf
  refine ⟨Nat.le_of_ble_eq_true rfl,?_⟩;conv=>whnf
  obtain ⟨o195,HL196,HQ197⟩ := bind_c H
  refine loop_c [7] [39,40,41,42,43,44,45,46,47,48,49,50,51,52,53,54,55,56,57,58,59,60,61,62] [39,40,41,42,43,44,45,46,47,48,49,50,51,52,53,54,55,56,57,58,59,60,61,62] (fun n vals st=>(∃ y199 y200,p_law35_ViewTwice_l2  v8.Rows n y199 y200 = some o195 ∧ vals = [.i y199] ∧ st = [.live [.i a0.Seq,.sl (List.map BookRow.v a0.Rows) u1] 0,.live [.sl (List.map MailEntry.v y200.Rows) false,.sl (List.map MailEntry.v y200.Last) false,.b y200.Anew,.sl (List.map V.s y200.Seen) false,.sl (List.map Ref35Contact.v y200.List) false,.i y200.Odd,.i y200.Told] 0,.live [.sl (List.map MailEntry.v y138.Rows) false,.sl (List.map MailEntry.v y138.Last) false,.b y138.Anew,.sl (List.map V.s y138.Seen) false,.sl (List.map Ref35Contact.v y138.List) false,.i y138.Odd,.i y138.Told] 0])) fuel 3 [] (⟨_,_,HL196,rfl,rfl⟩) (Nat.zero_le _) rfl (by kernel_rfl) (by kernel_rfl) rfl ⟨⟨rfl,rfl,rfl⟩,⟨⟨rfl,rfl,rfl⟩,⟨⟨rfl,rfl,rfl⟩,trivial⟩⟩⟩ ?_
  rintro (_ | n198) _ _ (⟨y199,y200,H,rfl,rfl⟩)
  ·rw [p_law35_ViewTwice_l2] at H;cases H
  rw [p_law35_ViewTwice_l2] at H
  conv=>whnf
  refine LenQ.M ?_;conv=>whnf
  refine tst_d H (fun b201 H=>?_) (fun b201 H=>?_)
  ·conv=>whnf
   obtain rfl := Option.some.inj H
   have H := HQ197
   try dsimp only at H
   refine ask_c (p_view_Tell_v _ _) H rfl rfl (fun v207 H=>?_);conv=>whnf
   refine ⟨Nat.le_of_ble_eq_true rfl,?_⟩;conv=>whnf
   refine Ari.w ?_;conv=>whnf
   exact again_c [7,29,30,31,32,33,34,35,36,37,38,39,40,41,42,43,44,45,46,47,48,49,50,51,52,53,54,55,56,57,58,59,60,61,62,63,64,65,11] n13 3 [] (.inr (.inr (⟨_,_,_,H,rfl,rfl⟩))) (Nat.lt_succ_self _) (Nat.zero_le _) rfl (by kernel_rfl) (by kernel_rfl) rfl ⟨⟨rfl,rfl,rfl⟩,⟨⟨rfl,rfl,rfl⟩,⟨⟨rfl,rfl,rfl⟩,trivial⟩⟩⟩
  conv=>whnf
  refine ixs_c (f := BookRow.v) H (fun _=>rfl) (fun x202 H=>?_);conv=>whnf
  refine ⟨Nat.le_of_ble_eq_true rfl,?_⟩;conv=>whnf
  refine ixs_c (f := BookRow.v) H (fun _=>rfl) (fun x203 H=>?_);conv=>whnf
  refine ⟨Nat.le_of_ble_eq_true rfl,?_⟩;conv=>whnf
  refine ixs_c (f := BookRow.v) H (fun _=>rfl) (fun x204 H=>?_);conv=>whnf
  refine ⟨Nat.le_of_ble_eq_true rfl,?_⟩;conv=>whnf
  refine ask_c (p_pres_Say_v _ _ _) H rfl rfl (fun v205 H=>?_);conv=>whnf
  refine ask_c (p_view_Tell_v _ _) H rfl rfl (fun v206 H=>?_);conv=>whnf
  refine ⟨Nat.le_of_ble_eq_true rfl,?_⟩;conv=>whnf
  refine FootQ.mk ⟨rfl,?_⟩;conv=>whnf
  refine Ari.w ?_;conv=>whnf
  exact again_c [39,40,41,42,43,44,45,46,47,48,49,50,51,52,53,54,55,56,57,58,59,60,61,62] n198 3 [] (⟨_,_,H,rfl,rfl⟩) (Nat.lt_succ_self _) (Nat.zero_le _) rfl (by kernel_rfl) (by kernel_rfl) rfl ⟨⟨rfl,rfl,rfl⟩,⟨⟨rfl,rfl,rfl⟩,⟨⟨rfl,rfl,rfl⟩,trivial⟩⟩⟩
 conv=>whnf
 obtain rfl := Option.some.inj H
 have H := HQ12
 try dsimp only at H
 refine ask_c (p_view_Fits_v _ _) H rfl rfl (fun v208 H=>?_);conv=>whnf
 refine tst_d H (fun b209 H=>?_) (fun b209 H=>?_)
 ·conv=>whnf
  iterate 7 (refine Tst.F ?_;conv=>whnf)
  obtain ⟨o247,HL248,HQ249⟩ := bind_c H
  refine loop_c [9] [79,80,81,82,83,84,85,86,87,88,89,90,91,92,93,94,95,96,97,98,99,100] [79,80,81,82,83,84,85,86,87,88,89,90,91,92,93,94,95,96,97,98,99,100] (fun n vals st=>(∃ y251 y252,p_law35_ViewTwice_l4  v8.Rows a0 n y251 y252 = some o247 ∧ vals = [.i y251] ∧ st = [.live [.i a0.Seq,.sl (List.map BookRow.v a0.Rows) u1] 0,.live [.sl (List.map MailEntry.v y252.Rows) false,.sl (List.map MailEntry.v y252.Last) false,.b y252.Anew,.sl (List.map V.s y252.Seen) false,.sl (List.map Ref35Contact.v y252.List) false,.i y252.Odd,.i y252.Told] 0,.live [.sl (List.map MailEntry.v y139.Rows) false,.sl (List.map MailEntry.v y139.Last) false,.b y139.Anew,.sl (List.map V.s y139.Seen) false,.sl (List.map Ref35Contact.v y139.List) false,.i y139.Odd,.i y139.Told] 0])) fuel 3 [] (⟨_,_,HL248,rfl,rfl⟩) (Nat.zero_le _) rfl (by kernel_rfl) (by kernel_rfl) rfl ⟨⟨rfl,rfl,rfl⟩,⟨⟨rfl,rfl,rfl⟩,⟨⟨rfl,rfl,rfl⟩,trivial⟩⟩⟩ ?_
  rintro (_ | n250) _ _ (⟨y251,y252,H,rfl,rfl⟩)
  ·rw [p_law35_ViewTwice_l4] at H;cases H
  rw [p_law35_ViewTwice_l4] at H
  conv=>whnf
  refine LenQ.M ?_;conv=>whnf
  refine tst_d H (fun b253 H=>?_) (fun b253 H=>?_)
  ·conv=>whnf
   obtain rfl := Option.some.inj H
   have H := HQ249
   try dsimp only at H
   refine ask_c (p_view_Tell_v _ _) H rfl rfl (fun v258 H=>?_);conv=>whnf
   refine ask_c (p_view_Tell_v _ _) H rfl rfl (fun v259 H=>?_);conv=>whnf
   refine ⟨Nat.le_of_ble_eq_true rfl,?_⟩;conv=>whnf
   iterate 15 (refine Tst.F ?_;conv=>whnf)
   exact fin0_c (enc := V.b) H (.inr rfl) (.cons (.tmp rfl) (.nil)) rfl rfl
  conv=>whnf
  refine ixs_c (f := BookRow.v) H (fun _=>rfl) (fun x254 H=>?_);conv=>whnf
  refine ⟨Nat.le_of_ble_eq_true rfl,?_⟩;conv=>whnf
  refine ixs_c (f := BookRow.v) H (fun _=>rfl) (fun x255 H=>?_);conv=>whnf
  refine ⟨Nat.le_of_ble_eq_true rfl,?_⟩;conv=>whnf
  refine ask_c (p_pres_Say_v _ _ _) H rfl rfl (fun v256 H=>?_);conv=>whnf
  refine ask_c (p_view_Tell_v _ _) H rfl rfl (fun v257 H=>?_);conv=>whnf
  refine ⟨Nat.le_of_ble_eq_true rfl,?_⟩;conv=>whnf
  refine FootQ.mk ⟨rfl,?_⟩;conv=>whnf
  refine Ari.w ?_;conv=>whnf
  exact again_c [79,80,81,82,83,84,85,86,87,88,89,90,91,92,93,94,95,96,97,98,99,100] n250 3 [] (⟨_,_,H,rfl,rfl⟩) (Nat.lt_succ_self _) (Nat.zero_le _) rfl (by kernel_rfl) (by kernel_rfl) rfl ⟨⟨rfl,rfl,rfl⟩,⟨⟨rfl,rfl,rfl⟩,⟨⟨rfl,rfl,rfl⟩,trivial⟩⟩⟩
 conv=>whnf
 iterate 2 (refine Tst.T ?_;conv=>whnf)
 refine ask_c (p_view_Fits_v _ _) H rfl rfl (fun v210 H=>?_);conv=>whnf
 refine Tst.T ?_;conv=>whnf
 refine tst_d H (fun b211 H=>?_) (fun b211 H=>?_)
 ·conv=>whnf
  iterate 3 (refine Tst.F ?_;conv=>whnf)
  obtain ⟨o233,HL234,HQ235⟩ := bind_c H
  refine loop_c [9] [79,80,81,82,83,84,85,86,87,88,89,90,91,92,93,94,95,96,97,98,99,100] [79,80,81,82,83,84,85,86,87,88,89,90,91,92,93,94,95,96,97,98,99,100] (fun n vals st=>(∃ y237 y238,p_law35_ViewTwice_l4  v8.Rows a0 n y237 y238 = some o233 ∧ vals = [.i y237] ∧ st = [.live [.i a0.Seq,.sl (List.map BookRow.v a0.Rows) u1] 0,.live [.sl (List.map MailEntry.v y238.Rows) false,.sl (List.map MailEntry.v y238.Last) false,.b y238.Anew,.sl (List.map V.s y238.Seen) false,.sl (List.map Ref35Contact.v y238.List) false,.i y238.Odd,.i y238.Told] 0,.live [.sl (List.map MailEntry.v y139.Rows) false,.sl (List.map MailEntry.v y139.Last) false,.b y139.Anew,.sl (List.map V.s y139.Seen) false,.sl (List.map Ref35Contact.v y139.List) false,.i y139.Odd,.i y139.Told] 0])) fuel 3 [] (⟨_,_,HL234,rfl,rfl⟩) (Nat.zero_le _) rfl (by kernel_rfl) (by kernel_rfl) rfl ⟨⟨rfl,rfl,rfl⟩,⟨⟨rfl,rfl,rfl⟩,⟨⟨rfl,rfl,rfl⟩,trivial⟩⟩⟩ ?_
  rintro (_ | n236) _ _ (⟨y237,y238,H,rfl,rfl⟩)
  ·rw [p_law35_ViewTwice_l4] at H;cases H
  rw [p_law35_ViewTwice_l4] at H
  conv=>whnf
  refine LenQ.M ?_;conv=>whnf
  refine tst_d H (fun b239 H=>?_) (fun b239 H=>?_)
  ·conv=>whnf
   obtain rfl := Option.some.inj H
   have H := HQ235
   try dsimp only at H
   refine ask_c (p_view_Tell_v _ _) H rfl rfl (fun v244 H=>?_);conv=>whnf
   refine ask_c (p_view_Tell_v _ _) H rfl rfl (fun v245 H=>?_);conv=>whnf
   refine ⟨Nat.le_of_ble_eq_true rfl,?_⟩;conv=>whnf
   iterate 15 (refine Tst.F ?_;conv=>whnf)
   exact fin0_c (enc := V.b) H (.inr rfl) (.cons (.tmp rfl) (.nil)) rfl rfl
  conv=>whnf
  refine ixs_c (f := BookRow.v) H (fun _=>rfl) (fun x240 H=>?_);conv=>whnf
  refine ⟨Nat.le_of_ble_eq_true rfl,?_⟩;conv=>whnf
  refine ixs_c (f := BookRow.v) H (fun _=>rfl) (fun x241 H=>?_);conv=>whnf
  refine ⟨Nat.le_of_ble_eq_true rfl,?_⟩;conv=>whnf
  refine ask_c (p_pres_Say_v _ _ _) H rfl rfl (fun v242 H=>?_);conv=>whnf
  refine ask_c (p_view_Tell_v _ _) H rfl rfl (fun v243 H=>?_);conv=>whnf
  refine ⟨Nat.le_of_ble_eq_true rfl,?_⟩;conv=>whnf
  refine FootQ.mk ⟨rfl,?_⟩;conv=>whnf
  refine Ari.w ?_;conv=>whnf
  exact again_c [79,80,81,82,83,84,85,86,87,88,89,90,91,92,93,94,95,96,97,98,99,100] n236 3 [] (⟨_,_,H,rfl,rfl⟩) (Nat.lt_succ_self _) (Nat.zero_le _) rfl (by kernel_rfl) (by kernel_rfl) rfl ⟨⟨rfl,rfl,rfl⟩,⟨⟨rfl,rfl,rfl⟩,⟨⟨rfl,rfl,rfl⟩,trivial⟩⟩⟩
 conv=>whnf
 iterate 3 (refine Tst.T ?_;conv=>whnf)
 obtain ⟨o213,HL214,HQ215⟩ := bind_c H
 refine loop_c [9] [79,80,81,82,83,84,85,86,87,88,89,90,91,92,93,94,95,96,97,98,99,100,75] [79,80,81,82,83,84,85,86,87,88,89,90,91,92,93,94,95,96,97,98,99,100,75] (fun n vals st=>(∃ y217 y218,p_law35_ViewTwice_l3  v8.Rows a0 n y217 y218 = some o213 ∧ vals = [.i y217] ∧ st = [.live [.i a0.Seq,.sl (List.map BookRow.v a0.Rows) u1] 0,.live [.sl (List.map MailEntry.v y218.Rows) false,.sl (List.map MailEntry.v y218.Last) false,.b y218.Anew,.sl (List.map V.s y218.Seen) false,.sl (List.map Ref35Contact.v y218.List) false,.i y218.Odd,.i y218.Told] 0,.live [.sl (List.map MailEntry.v y139.Rows) false,.sl (List.map MailEntry.v y139.Last) false,.b y139.Anew,.sl (List.map V.s y139.Seen) false,.sl (List.map Ref35Contact.v y139.List) false,.i y139.Odd,.i y139.Told] 0])) fuel 3 [] (⟨_,_,HL214,rfl,rfl⟩) (Nat.zero_le _) rfl (by kernel_rfl) (by kernel_rfl) rfl ⟨⟨rfl,rfl,rfl⟩,⟨⟨rfl,rfl,rfl⟩,⟨⟨rfl,rfl,rfl⟩,trivial⟩⟩⟩ ?_
 rintro (_ | n216) _ _ (⟨y217,y218,H,rfl,rfl⟩)
 ·rw [p_law35_ViewTwice_l3] at H;cases H
 rw [p_law35_ViewTwice_l3] at H
 conv=>whnf
 refine LenQ.M ?_;conv=>whnf
 refine tst_c H (fun b219 H=>?_) (fun b219 H=>?_)
 ·conv=>whnf
  refine ixs_c (f := BookRow.v) H (fun _=>rfl) (fun x220 H=>?_);conv=>whnf
  refine ⟨Nat.le_of_ble_eq_true rfl,?_⟩;conv=>whnf
  refine ixs_c (f := BookRow.v) H (fun _=>rfl) (fun x221 H=>?_);conv=>whnf
  refine ⟨Nat.le_of_ble_eq_true rfl,?_⟩;conv=>whnf
  refine ask_c (p_pres_Say_v _ _ _) H rfl rfl (fun v222 H=>?_);conv=>whnf
  refine ask_c (p_view_Tell_v _ _) H rfl rfl (fun v223 H=>?_);conv=>whnf
  refine ⟨Nat.le_of_ble_eq_true rfl,?_⟩;conv=>whnf
  refine FootQ.mk ⟨rfl,?_⟩;conv=>whnf
  refine Ari.w ?_;conv=>whnf
  exact again_c [79,80,81,82,83,84,85,86,87,88,89,90,91,92,93,94,95,96,97,98,99,100,75] n216 3 [] (⟨_,_,H,rfl,rfl⟩) (Nat.lt_succ_self _) (Nat.zero_le _) rfl (by kernel_rfl) (by kernel_rfl) rfl ⟨⟨rfl,rfl,rfl⟩,⟨⟨rfl,rfl,rfl⟩,⟨⟨rfl,rfl,rfl⟩,trivial⟩⟩⟩
 conv=>whnf
 obtain rfl := Option.some.inj H
 have H := HQ215
 try dsimp only at H
 refine ask_c (p_view_Tell_v _ _) H rfl rfl (fun v224 H=>?_);conv=>whnf
 refine ask_c (p_view_Tell_v _ _) H rfl rfl (fun v225 H=>?_);conv=>whnf
 refine ⟨Nat.le_of_ble_eq_true rfl,?_⟩;conv=>whnf
 refine tst_d H (fun b226 H=>?_) (fun b226 H=>?_)
 ·conv=>whnf
  iterate 14 (refine Tst.F ?_;conv=>whnf)
  exact fin0_c (enc := V.b) H (.inr rfl) (.cons (.tmp rfl) (.nil)) rfl rfl
 conv=>whnf
 iterate 2 (refine Tst.T ?_;conv=>whnf)
 refine LenQ.M ?_;conv=>whnf
 iterate 2 (refine Tst.T ?_;conv=>whnf)
 refine tst_d H (fun b227 H=>?_) (fun b227 H=>?_)
 ·conv=>whnf
  iterate 9 (refine Tst.F ?_;conv=>whnf)
  exact fin0_c (enc := V.b) H (.inr rfl) (.cons (.tmp rfl) (.nil)) rfl rfl
 conv=>whnf
 iterate 2 (refine Tst.T ?_;conv=>whnf)
 refine LenQ.M ?_;conv=>whnf
 iterate 2 (refine Tst.T ?_;conv=>whnf)
 refine tst_d H (fun b228 H=>?_) (fun b228 H=>?_)
 ·conv=>whnf
  iterate 4 (refine Tst.F ?_;conv=>whnf)
  exact fin0_c (enc := V.b) H (.inr rfl) (.cons (.tmp rfl) (.nil)) rfl rfl
 conv=>whnf
 refine Tst.T ?_;conv=>whnf
 refine ask_c (p_view_Fits_v _ _) H rfl rfl (fun v229 H=>?_);conv=>whnf
 refine Tst.T ?_;conv=>whnf
 refine tst_d H (fun b230 H=>?_) (fun b230 H=>?_)
 ·conv=>whnf
  refine Tst.F ?_;conv=>whnf
  exact fin0_c (enc := V.b) H (.inr rfl) (.cons (.tmp rfl) (.nil)) rfl rfl
 conv=>whnf
 refine ask_c (p_law35_awake_v) H rfl rfl (fun v231 H=>?_);conv=>whnf
 refine Tst.T ?_;conv=>whnf
 exact fin0_c (enc := V.b) H (.inr rfl) (.cons (.tmp rfl) (.nil)) rfl rfl
end Go.Proofs.YthlhbgedidipkaaGreat

/- ViewTwice: for every input the call returns true, and its arguments read as they did. -/
namespace Go.Proofs.YthlhbgedidipkaaGreat
open Go.ChangeShapes Go.WideShapes Go.ChangeAt Go.RowKit Go.Joins Go.Deep
set_option maxRecDepth 100000 in
theorem viewTwice_lifted (os : Os) (started : os.Started) (H : Type) (enc : TypeId × Value → H) :
    ReturnsInHanded {} Tryz.checked os 10 .any (Rows.viewTwiceSpec.pre6 enc Tryz.prog Tryz.f10 Rows.viewTwiceRow.domain false) (Rows.viewTwiceSpec.post enc Tryz.prog Tryz.f10 false true false false) := by
  refine returnsInHanded_of_change_shaped (C := Tryz.checked) own0 started (by kernel_rfl) Tryz.func10
    (ChangeSpec.witness6 (enc := enc) (C := Tryz.checked) false ⟨#[], #[.agg #[.int .i64 0, .slice none 0 0]], []⟩ 8 (by kernel_rfl) (by kernel_rfl) (by kernel_rfl) (by kernel_rfl)) ?_
  intro W base args ds gs before hval0 hW hcnd _ hsh _
  have hval : ∀ (j : Nat) t v, Tryz.f10.params[j]? = some t → args[j]? = some v → Value.okWide Tryz.prog W .any base t v := hval0
  have hW' := hW
  obtain ⟨p, q, hA0, hV, rfl, hfz, hnd⟩ := hW
  have hA : DataW.TrodAll enc Tryz.prog W 0 (fun _ => true) true Tryz.f10.params.toList args.toList ds p := hA0
  rw [Tryz.params10] at hA hval
  have hA2 := hA
  obtain ⟨v0, d0, rfl, rfl, h0⟩ := trodAll_one hA
  obtain ⟨rfl, rfl⟩ := trodVars_none hV
  obtain ⟨fu0, hf0⟩ := h0
  obtain ⟨cs0, rfl, _⟩ := okWide_struct Tryz.underlying27 (hval 0 _ v0 rfl rfl)
  obtain ⟨a0, w0, r0⟩ := rd_T27 hf0
  have hx0 : Rep (MW W) noBk (.agg cs0) (.agg [.i a0.Seq, .sl (List.map BookRow.v a0.Rows) false]) := rep_aggL r0 (by intro u hu; simp only [List.mem_cons, List.not_mem_nil, or_false] at hu; rcases hu with rfl | rfl <;> rfl)
  refine (rep_one (callsO_true (p_law35_ViewTwice_v a0) (viewTwice_pure a0)) (maxLen_cell W hsh) (repAr1 hx0)).mono ?_
  rintro e W' ⟨rfl, bel⟩
  refine ⟨_, rfl, _, _, _, [], p, [], hW', ?_, ?_, ?_, ?_, ?_⟩
  · exact trodAll_mk1 (shut_bool Tryz.underlying4 true)
  · exact trodAll_below laid0 bel (by
      intro t ht
      simp at ht
      rcases ht with rfl <;> exact ⟨by kernel_rfl, of_decide_eq_true (by kernel_rfl)⟩) hA2
  · rfl
  · exact bel.frame _
  · exact fun h => by cases h
theorem viewTwice_holds : Rows.ViewTwiceSaid :=
  OpenClaim.holds_of_wide 10 Tryz.f10 rfl rfl rfl rfl rfl rfl rfl ⟨rfl, rfl, rfl, rfl, rfl⟩ rfl rfl rfl rfl rfl viewTwice_named Tryz.func10 viewTwice_closed
    (of_decide_eq_true (by kernel_rfl)) (by unfold Func.isWrapper; first | (rw [if_pos (by decide +kernel)]; kernel_rfl) | (rw [if_neg (by decide +kernel)]; exact ⟨rfl, rfl⟩))
    (fun os started H enc _ => viewTwice_lifted os started H enc)
#print axioms viewTwice_holds
end Go.Proofs.YthlhbgedidipkaaGreat

