/- ViewSnap: for every input the call returns true, and its arguments read as they did. -/
import Derived.Test.YthlhbgedidipkaaGreatVbA15
import Derived.KernelRfl
import Derived.Test.YthlhbgedidipkaaGreatVbA17
import Derived.Test.YthlhbgedidipkaaGreatVbA14
import Derived.Test.YthlhbgedidipkaaGreatVbA18
import Derived.Test.YthlhbgedidipkaaGreatVbA20
import Derived.Test.YthlhbgedidipkaaGreatVbA21
import Derived.Test.YthlhbgedidipkaaGreatVbA12
import Derived.Test.YthlhbgedidipkaaGreatVcA1
import Derived.Test.YthlhbgedidipkaaGreatRows
set_option linter.all false
/- Plain functions (written by a program of mine). -/
namespace Go.Proofs.YthlhbgedidipkaaGreat
open Go.RowKit
def p_law35_ViewSnap_l1 (z12 : List StanzaStanza) : Nat → Int → Ref35State → Option (Bool ⊕ (Int × Ref35State))
  | 0, _, _ => none
  | n + 1, y13, y15 =>
    bif (decide (y13 < (z12.length : Int))) then
      (at? z12 y13).bind fun x17 =>
      (p_ref10_Light x17).bind fun v18 =>
      bif v18 then
        (at? z12 y13).bind fun x20 =>
        (p_view_Tell y15 x20).bind fun v21 =>
        (p_view_Check v21).bind fun v22 =>
        bif (v22 != (0 : Int)) then
          (at? z12 y13).bind fun x24 =>
          (p_stanza_Check x24).bind fun v25 =>
          bif (v25 == (0 : Int)) then
            some (.inl false)
          else
          bif (decide (v21.Told < y15.Told)) then
            some (.inl false)
          else
          bif (decide (v21.Odd < y15.Odd)) then
            some (.inl false)
          else
          p_law35_ViewSnap_l1 z12 n (w64 (y13 + (1 : Int))) v21
        else
        bif (decide (v21.Told < y15.Told)) then
          some (.inl false)
        else
        bif (decide (v21.Odd < y15.Odd)) then
          some (.inl false)
        else
        p_law35_ViewSnap_l1 z12 n (w64 (y13 + (1 : Int))) v21
      else
      (p_law35_awake).bind fun v31 =>
      some (.inl v31)
    else
    some (.inr (y13, y15))
def p_law35_ViewSnap_l2 (z49 : List BookRow) : Nat → Int → Ref35State → Option ((Int × Ref35State))
  | 0, _, _ => none
  | n + 1, y50, y51 =>
    bif (decide (y50 < (z49.length : Int))) then
      (at? z49 y50).bind fun x53 =>
      (at? z49 y50).bind fun x54 =>
      (at? z49 y50).bind fun x55 =>
      (p_pres_Say x53.User x54.Res x55.P).bind fun v56 =>
      (p_view_Tell y51 v56).bind fun v57 =>
      p_law35_ViewSnap_l2 z49 n (w64 (y50 + (1 : Int))) v57
    else
    some (y50, y51)
def p_law35_ViewSnap (a0 : List StanzaStanza) (a1 : BookState) : Option (Bool) :=
  bif (decide ((40 : Int) < (a0.length : Int))) then
    (p_law35_awake).bind fun v2 =>
    some v2
  else
  bif (decide ((16 : Int) < (a1.Rows.length : Int))) then
    (p_law35_awake).bind fun v4 =>
    some v4
  else
  (p_ref24_Light a1).bind fun v5 =>
  bif v5 then
    (p_law35_ViewSnap_l1 a0 fuel (0 : Int) (Ref35State.mk [] [] false [] [] (0 : Int) (0 : Int))).bind fun o32 => match o32 with
    | .inl q33 =>
      some q33
    | .inr q34 =>
      (p_view_Check q34.2).bind fun v35 =>
      bif (v35 != (0 : Int)) then
        (p_law35_awake).bind fun v37 =>
        some v37
      else
      (p_ref24_Check a1).bind fun v38 =>
      bif (v38 != (0 : Int)) then
        (p_law35_awake).bind fun v40 =>
        some v40
      else
      (p_law26_Book a1).bind fun v41 =>
      (p_view_Tell q34.2 (StanzaStanza.mk (36 : Int) (⟨#[]⟩ : ByteArray) (⟨#[]⟩ : ByteArray) (⟨#[]⟩ : ByteArray) (0 : Int) (0 : Int) (0 : Int) (v41.Rows.length : Int))).bind fun v42 =>
      (p_law35_ViewSnap_l2 v41.Rows fuel (0 : Int) v42).bind fun q59 =>
      (p_view_Tell q59.2 (StanzaStanza.mk (37 : Int) (⟨#[]⟩ : ByteArray) (⟨#[]⟩ : ByteArray) (⟨#[]⟩ : ByteArray) (0 : Int) (0 : Int) (0 : Int) (0 : Int))).bind fun v60 =>
      bif (decide ((40 : Int) < (a0.length : Int))) then
        bif v60.Anew then
          some false
        else
        (p_law35_awake).bind fun v63 =>
        some v63
      else
      (p_view_Fits v60 v41.Rows).bind fun v64 =>
      bif v64 then
        bif v60.Anew then
          some false
        else
        (p_law35_awake).bind fun v67 =>
        some v67
      else
      some false
  else
  (p_law35_awake).bind fun v68 =>
  some v68
end Go.Proofs.YthlhbgedidipkaaGreat

/- ViewSnap in plain words. -/
namespace Go.Proofs.YthlhbgedidipkaaGreat
open Go.RowKit
theorem snapS_l {rows : List BookRow} (hr : RowsOK rows) {n : Nat} {st0 : Ref35State} (hn : n + rows.length ≤ 64) : ∀ (m j F : Nat) (st : Ref35State), j + m = rows.length → m < F → SnapV rows n j st0 st →
    ∃ st', p_law35_ViewSnap_l2 rows F j st = some ((rows.length : Int), st') ∧ SnapV rows n rows.length st0 st'
  | 0, j, F + 1, st, hk, hF, h => by
    have : j = rows.length := by omega
    subst this
    rw [p_law35_ViewSnap_l2, lt_ff (Nat.le_refl _)]
    exact ⟨st, rfl, h⟩
  | m + 1, j, F + 1, st, hk, hF, h => by
    have hlt : j < rows.length := by omega
    have hl := hr.len
    have hx := hr.chk _ (List.getElem_mem hlt)
    have hz := hr.small _ (List.getElem_mem hlt)
    obtain ⟨st', e, h'⟩ := snap_step hr (by omega) hlt h
    rw [p_law35_ViewSnap_l2, lt_tt hlt, at_lt hlt]
    simp only [cond_true, Option.bind_some]
    rw [say_v hx.1 hx.2.2 hz.1 hz.2]
    simp only [Option.bind_some]
    rw [e]
    simp only [Option.bind_some]
    rw [w64_succ (by omega)]
    exact snapS_l hr hn m (j + 1) F st' (by omega) (by omega) h'
theorem pre_l (l : List StanzaStanza) (hl : l.length ≤ 40) : ∀ (m k F : Nat) (st : Ref35State), k + m = l.length → m < F → GoodV k st →
    p_law35_ViewSnap_l1 l F k st = some (.inl true) ∨ ∃ st', p_law35_ViewSnap_l1 l F k st = some (.inr ((l.length : Int), st')) ∧ GoodV l.length st'
  | 0, k, F + 1, st, hk, hF, h => by
    have : k = l.length := by omega
    subst this
    rw [p_law35_ViewSnap_l1, lt_ff (Nat.le_refl _)]
    exact .inr ⟨st, rfl, h⟩
  | m + 1, k, F + 1, st, hk, hF, h => by
    have hlt : k < l.length := by omega
    rw [p_law35_ViewSnap_l1, lt_tt hlt, at_lt hlt]
    simp only [cond_true, Option.bind_some]
    unfold p_ref10_Light
    by_cases q1 : l[k].User.size ≤ 100
    · rw [decide_eq_true (show (l[k].User.size : Int) ≤ 100 by omega)]
      by_cases q2 : l[k].Res.size ≤ 100
      · rw [decide_eq_true (show (l[k].Res.size : Int) ≤ 100 by omega)]
        by_cases q3 : l[k].Name.size ≤ 100
        · rw [decide_eq_true (show (l[k].Name.size : Int) ≤ 100 by omega)]
          simp only [cond_true, Option.bind_some]
          obtain ⟨st', e, g, t, o⟩ := tell_any h (by omega) l[k] q1 q2 q3
          rw [e]
          simp only [Option.bind_some]
          rw [vcheck_p g (by omega)]
          simp only [Option.bind_some, bne_self_eq_false, cond_false]
          rw [decide_eq_false (by omega), decide_eq_false (by omega)]
          simp only [cond_false]
          rw [w64_succ (by omega)]
          exact pre_l l hl m (k + 1) F st' (by omega) (by omega) g
        · left; rw [decide_eq_false (show ¬ (l[k].Name.size : Int) ≤ 100 by omega), aw35]; rfl
      · left; rw [decide_eq_false (show ¬ (l[k].Res.size : Int) ≤ 100 by omega), aw35]; rfl
    · left; rw [decide_eq_false (show ¬ (l[k].User.size : Int) ≤ 100 by omega), aw35]; rfl
/-- the law, in plain words. -/
theorem viewSnap_pure (l : List StanzaStanza) (b : BookState) : p_law35_ViewSnap l b = some true := by
  unfold p_law35_ViewSnap
  by_cases h40 : 40 < l.length
  · rw [decide_eq_true (show (40 : Int) < (l.length : Int) by omega), aw35]; rfl
  rw [decide_eq_false (show ¬ (40 : Int) < (l.length : Int) by omega)]
  by_cases h16 : 16 < b.Rows.length
  · rw [decide_eq_true (show (16 : Int) < (b.Rows.length : Int) by omega), aw35]; rfl
  rw [decide_eq_false (show ¬ (16 : Int) < (b.Rows.length : Int) by omega)]
  simp only [cond_false]
  rcases light_p b with h2 | ⟨h2, hn20, hs⟩
  · rw [h2, aw35]; rfl
  rw [h2]
  simp only [Option.bind_some, cond_true]
  have z0 : ((0 : Nat) : Int) = 0 := rfl
  have hp := pre_l l (by omega) l.length 0 fuel _ (by omega) (by have := fuel_pos; omega) good_0
  rw [z0] at hp
  rcases hp with hp | ⟨st, hp, g⟩
  · rw [hp]; rfl
  rw [hp]
  simp only [Option.bind_some]
  rw [vcheck_p g (by omega)]
  simp only [Option.bind_some, bne_self_eq_false, cond_false]
  rw [ref_check_p b (by omega) hs]
  simp only [Option.bind_some]
  by_cases hc : ¬ bookCheck b.Seq b.Rows = 0
  · have h3 : (bookCheck b.Seq b.Rows != 0) = true := by simpa using hc
    rw [h3, aw35]; rfl
  have hc : bookCheck b.Seq b.Rows = 0 := Decidable.of_not_not hc
  rw [hc]
  simp only [bne_self_eq_false, cond_false]
  rw [book35_p b (by omega)]
  simp only [Option.bind_some]
  have hr := rows_ok hc hs
  rw [tell_snap g (by omega)]
  simp only [Option.bind_some]
  obtain ⟨st2, e2, h4⟩ := snapS_l hr (n := l.length) (st0 := st) (by omega) b.Rows.length 0 fuel _ (by omega) (by have := fuel_pos; omega) (snap_start g)
  rw [z0] at e2
  rw [e2]
  simp only [Option.bind_some]
  obtain ⟨e3, e4, _⟩ := snap_end hr (by omega) h4
  rw [tell_done h4.good (by omega)]
  simp only [Option.bind_some]
  rw [fits_p hr e3, e4, aw35]
  rfl
end Go.Proofs.YthlhbgedidipkaaGreat

/- That the program's functions yield what the plain ones tell (written by a program of mine). -/
namespace Go.Proofs.YthlhbgedidipkaaGreat
open Go.RowKit
def gc9 : BCode := (.seq (.reg 1 [⟨(some 3),.bx (.tmp 1),none,0⟩,⟨(some 4),.mv (.const (.bool false)),none,1⟩] none 0 []) (.seq (.seq (.reg 0 [⟨(some 10),.mv (.tmp 0),none,0⟩,⟨(some 11),.lens (.tmp 10),none,0⟩,⟨(some 12),.bin .gtr (.tmp 11) (.const (.int .i64 40)),none,0⟩,⟨(some 13),.mv (.tmp 12),none,0⟩,⟨(some 14),.fa 1 (.tmp 3),(some (13,false)),0⟩,⟨(some 15),.ld 1 false (.tmp 14),(some (13,false)),0⟩,⟨(some 16),.lens (.tmp 15),(some (13,false)),0⟩,⟨(some 17),.bin .gtr (.tmp 16) (.const (.int .i64 16)),(some (13,false)),0⟩,⟨(some 18),.pick (.tmp 13) (.const (.bool true)) (.tmp 17),none,0⟩,⟨(some 19),.mv (.tmp 18),none,0⟩,⟨(some 20),.ld 2 true (.tmp 3),(some (19,false)),0⟩,⟨(some 21),.cl 12 [(.tmp 20)],(some (19,false)),0⟩,⟨(some 22),.un .not (.tmp 21),(some (19,false)),0⟩,⟨(some 23),.pick (.tmp 19) (.const (.bool true)) (.tmp 22),none,0⟩] none 0 []) (.cond (.tmp 23) (.seq (.reg 0 [⟨(some 24),.cl 68 [],none,0⟩,⟨(some 4),.mv (.tmp 24),none,0⟩] none 0 []) .ret) .skip)) (.seq (.reg 1 [⟨(some 5),.al (.agg [(.sl [] true),(.sl [] true),(.lit (.bool false)),(.sl [] true),(.sl [] true),(.lit (.int .i64 0)),(.lit (.int .i64 0))]),none,0⟩] none 0 []) (.seq (.seq (.reg 0 [⟨(some 6),.mv (.const (.int .i64 0)),none,0⟩] none 0 []) (.block 0 (.loop (.seq (.seq (.reg 0 [⟨(some 25),.mv (.tmp 6),none,0⟩,⟨(some 26),.mv (.tmp 0),none,0⟩,⟨(some 27),.lens (.tmp 26),none,0⟩,⟨(some 28),.bin .lss (.tmp 25) (.tmp 27),none,0⟩] none 0 []) (.cond (.tmp 28) .skip (.exit 0))) (.seq (.block 1 (.seq (.seq (.reg 0 [⟨(some 31),.mv (.tmp 0),none,0⟩,⟨(some 32),.mv (.tmp 6),none,0⟩,⟨(some 33),.ixs 8 (.tmp 31) (.tmp 32),none,0⟩,⟨(some 34),.ld 8 true (.tmp 33),none,0⟩,⟨(some 35),.cl 40 [(.tmp 34)],none,0⟩,⟨(some 36),.un .not (.tmp 35),none,0⟩] none 0 []) (.cond (.tmp 36) (.seq (.reg 0 [⟨(some 37),.cl 68 [],none,0⟩,⟨(some 4),.mv (.tmp 37),none,0⟩] none 0 []) .ret) .skip)) (.seq (.reg 1 [⟨(some 38),.ld 7 true (.tmp 5),none,0⟩,⟨(some 39),.mv (.tmp 0),none,0⟩,⟨(some 40),.mv (.tmp 6),none,0⟩,⟨(some 41),.ixs 8 (.tmp 39) (.tmp 40),none,0⟩,⟨(some 42),.ld 8 true (.tmp 41),none,0⟩,⟨(some 43),.cl 73 [(.tmp 38),(.tmp 42)],none,0⟩,⟨(some 7),.al (.agg [(.sl [] true),(.sl [] true),(.lit (.bool false)),(.sl [] true),(.sl [] true),(.lit (.int .i64 0)),(.lit (.int .i64 0))]),none,0⟩,⟨none,.st 7 (.tmp 7) (.tmp 43),none,1⟩] (some [[],[],[],[2,1],[1,2,3],[3,2,1,4,0],[],[0,4,1,2,3,5,6]]) 0 []) (.seq (.seq (.reg 0 [⟨(some 44),.ld 7 true (.tmp 7),none,0⟩,⟨(some 45),.cl 74 [(.tmp 44)],none,0⟩,⟨(some 46),.bin .neq (.tmp 45) (.const (.int .i64 0)),none,0⟩,⟨(some 47),.mv (.tmp 46),none,0⟩,⟨(some 48),.mv (.tmp 0),(some (47,true)),0⟩,⟨(some 49),.mv (.tmp 6),(some (47,true)),0⟩,⟨(some 50),.ixs 8 (.tmp 48) (.tmp 49),(some (47,true)),0⟩,⟨(some 51),.ld 8 true (.tmp 50),(some (47,true)),0⟩,⟨(some 52),.cl 75 [(.tmp 51)],(some (47,true)),0⟩,⟨(some 53),.bin .eql (.tmp 52) (.const (.int .i64 0)),(some (47,true)),0⟩,⟨(some 54),.pick (.tmp 47) (.tmp 53) (.const (.bool false)),none,0⟩,⟨(some 55),.mv (.tmp 54),none,0⟩,⟨(some 56),.fa 6 (.tmp 7),(some (55,false)),0⟩,⟨(some 57),.ld 1 false (.tmp 56),(some (55,false)),0⟩,⟨(some 58),.fa 6 (.tmp 5),(some (55,false)),0⟩,⟨(some 59),.ld 1 false (.tmp 58),(some (55,false)),0⟩,⟨(some 60),.bin .lss (.tmp 57) (.tmp 59),(some (55,false)),0⟩,⟨(some 61),.pick (.tmp 55) (.const (.bool true)) (.tmp 60),none,0⟩,⟨(some 62),.mv (.tmp 61),none,0⟩,⟨(some 63),.fa 5 (.tmp 7),(some (62,false)),0⟩,⟨(some 64),.ld 1 false (.tmp 63),(some (62,false)),0⟩,⟨(some 65),.fa 5 (.tmp 5),(some (62,false)),0⟩,⟨(some 66),.ld 1 false (.tmp 65),(some (62,false)),0⟩,⟨(some 67),.bin .lss (.tmp 64) (.tmp 66),(some (62,false)),0⟩,⟨(some 68),.pick (.tmp 62) (.const (.bool true)) (.tmp 67),none,0⟩] none 0 []) (.cond (.tmp 68) (.seq (.reg 0 [⟨(some 4),.mv (.const (.bool false)),none,0⟩] none 0 []) .ret) .skip)) (.reg 0 [⟨(some 69),.ld 7 true (.tmp 7),none,0⟩,⟨none,.st 7 (.tmp 5) (.tmp 69),none,0⟩] none 0 []))))) (.reg 0 [⟨(some 29),.mv (.tmp 6),none,0⟩,⟨(some 30),.bin .add (.tmp 29) (.const (.int .i64 1)),none,0⟩,⟨(some 6),.mv (.tmp 30),none,0⟩] none 0 [])))))) (.seq (.seq (.reg 0 [⟨(some 70),.ld 7 true (.tmp 5),none,0⟩,⟨(some 71),.cl 74 [(.tmp 70)],none,0⟩,⟨(some 72),.bin .neq (.tmp 71) (.const (.int .i64 0)),none,0⟩,⟨(some 73),.mv (.tmp 72),none,0⟩,⟨(some 74),.ld 2 true (.tmp 3),(some (73,false)),0⟩,⟨(some 75),.cl 76 [(.tmp 74)],(some (73,false)),0⟩,⟨(some 76),.bin .neq (.tmp 75) (.const (.int .i64 0)),(some (73,false)),0⟩,⟨(some 77),.pick (.tmp 73) (.const (.bool true)) (.tmp 76),none,0⟩] none 0 []) (.cond (.tmp 77) (.seq (.reg 0 [⟨(some 78),.cl 68 [],none,0⟩,⟨(some 4),.mv (.tmp 78),none,0⟩] none 0 []) .ret) .skip)) (.seq (.reg 0 [⟨(some 79),.ld 2 true (.tmp 3),none,0⟩,⟨(some 80),.cl 14 [(.tmp 79)],none,0⟩,⟨(some 81),.fd 1 1 false (.tmp 80),none,0⟩,⟨(some 8),.mv (.tmp 81),none,0⟩] none 0 []) (.seq (.reg 0 [⟨(some 82),.ld 7 true (.tmp 5),none,0⟩,⟨(some 83),.mv (.tmp 8),none,0⟩,⟨(some 84),.lens (.tmp 83),none,0⟩,⟨(some 85),.bd [(.lit (.int .u8 0)),(.lit (.string ⟨#[]⟩)),(.lit (.string ⟨#[]⟩)),(.lit (.string ⟨#[]⟩)),(.lit (.int .i64 0)),(.lit (.int .i64 0)),(.lit (.int .i64 0)),(.lit (.int .i64 0))] [(0,1,(.const (.int .u8 36))),(7,1,(.tmp 84))],none,0⟩,⟨(some 86),.cl 73 [(.tmp 82),(.tmp 85)],none,0⟩,⟨none,.st 7 (.tmp 5) (.tmp 86),none,0⟩] none 0 []) (.seq (.seq (.reg 0 [⟨(some 9),.mv (.const (.int .i64 0)),none,0⟩] none 0 []) (.block 2 (.loop (.seq (.seq (.reg 0 [⟨(some 87),.mv (.tmp 9),none,0⟩,⟨(some 88),.mv (.tmp 8),none,0⟩,⟨(some 89),.lens (.tmp 88),none,0⟩,⟨(some 90),.bin .lss (.tmp 87) (.tmp 89),none,0⟩] none 0 []) (.cond (.tmp 90) .skip (.exit 2))) (.seq (.block 3 (.reg 0 [⟨(some 93),.ld 7 true (.tmp 5),none,0⟩,⟨(some 94),.mv (.tmp 8),none,0⟩,⟨(some 95),.mv (.tmp 9),none,0⟩,⟨(some 96),.ixs 6 (.tmp 94) (.tmp 95),none,0⟩,⟨(some 97),.fa 0 (.tmp 96),none,0⟩,⟨(some 98),.ld 1 false (.tmp 97),none,0⟩,⟨(some 99),.mv (.tmp 8),none,0⟩,⟨(some 100),.mv (.tmp 9),none,0⟩,⟨(some 101),.ixs 6 (.tmp 99) (.tmp 100),none,0⟩,⟨(some 102),.fa 1 (.tmp 101),none,0⟩,⟨(some 103),.ld 1 false (.tmp 102),none,0⟩,⟨(some 104),.mv (.tmp 8),none,0⟩,⟨(some 105),.mv (.tmp 9),none,0⟩,⟨(some 106),.ixs 6 (.tmp 104) (.tmp 105),none,0⟩,⟨(some 107),.fa 2 (.tmp 106),none,0⟩,⟨(some 108),.ld 4 true (.tmp 107),none,0⟩,⟨(some 109),.cl 77 [(.tmp 98),(.tmp 103),(.tmp 108)],none,0⟩,⟨(some 110),.cl 73 [(.tmp 93),(.tmp 109)],none,0⟩,⟨none,.st 7 (.tmp 5) (.tmp 110),none,0⟩] (some [[],[],[],[2,1],[1,2,3],[3,2,1,4],[],[],[7,6],[6,7,8],[8,7,6,9],[],[],[12,11],[11,12,13],[13,12,11,14],[14,11,12,13,15,9,6,7,8,10,4,1,2,3,5],[5,3,2,1,4,10,8,7,6,9,15,13,12,11,14,16,0],[0,16,14,11,12,13,15,9,6,7,8,10,4,1,2,3,5,17]]) 0 [])) (.reg 0 [⟨(some 91),.mv (.tmp 9),none,0⟩,⟨(some 92),.bin .add (.tmp 91) (.const (.int .i64 1)),none,0⟩,⟨(some 9),.mv (.tmp 92),none,0⟩] none 0 [])))))) (.seq (.reg 0 [⟨(some 111),.ld 7 true (.tmp 5),none,0⟩,⟨(some 112),.bd [(.lit (.int .u8 0)),(.lit (.string ⟨#[]⟩)),(.lit (.string ⟨#[]⟩)),(.lit (.string ⟨#[]⟩)),(.lit (.int .i64 0)),(.lit (.int .i64 0)),(.lit (.int .i64 0)),(.lit (.int .i64 0))] [(0,1,(.const (.int .u8 37)))],none,0⟩,⟨(some 113),.cl 73 [(.tmp 111),(.tmp 112)],none,0⟩,⟨none,.st 7 (.tmp 5) (.tmp 113),none,0⟩] none 0 []) (.seq (.reg 0 [⟨(some 114),.mv (.tmp 0),none,0⟩,⟨(some 115),.lens (.tmp 114),none,0⟩,⟨(some 116),.bin .gtr (.tmp 115) (.const (.int .i64 40)),none,0⟩,⟨(some 117),.mv (.tmp 116),none,0⟩,⟨(some 118),.ld 7 true (.tmp 5),(some (117,false)),0⟩,⟨(some 119),.mv (.tmp 8),(some (117,false)),0⟩,⟨(some 120),.cl 78 [(.tmp 118),(.tmp 119)],(some (117,false)),0⟩,⟨(some 121),.pick (.tmp 117) (.const (.bool true)) (.tmp 120),none,0⟩,⟨(some 122),.mv (.tmp 121),none,0⟩,⟨(some 123),.fa 2 (.tmp 5),(some (122,true)),0⟩,⟨(some 124),.ld 1 false (.tmp 123),(some (122,true)),0⟩,⟨(some 125),.un .not (.tmp 124),(some (122,true)),0⟩,⟨(some 126),.pick (.tmp 122) (.tmp 125) (.const (.bool false)),none,0⟩,⟨(some 127),.mv (.tmp 126),none,0⟩,⟨(some 128),.cl 68 [],(some (127,true)),0⟩,⟨(some 129),.pick (.tmp 127) (.tmp 128) (.const (.bool false)),none,0⟩,⟨(some 4),.mv (.tmp 129),none,0⟩] none 0 []) .ret))))))))))
set_option maxRecDepth 1000000 in
theorem gc9_ok : compF Tryz.prog Tryz.f9 = some (gc9.er,130,[.tmp 4]) := by unfold gc9;kernel_rfl
set_option maxRecDepth 100000 in
set_option maxHeartbeats 4000000 in
theorem p_law35_ViewSnap_v {u1 u2 : Bool} (a0 : List StanzaStanza) (a1 : BookState) : CallsO Tryz.prog 9 [.sl (List.map StanzaStanza.v a0) u1,.agg [.i a1.Seq,.sl (List.map BookRow.v a1.Rows) u2]] V.b (p_law35_ViewSnap a0 a1) := by
 refine callsO_comp mix Tryz.func9 gc9_ok fun r H=>?_
 rw [p_law35_ViewSnap] at H
 conv=>whnf
 refine LenQ.M ?_;conv=>whnf
 refine tst_c H (fun b1 H=>?_) (fun b1 H=>?_)
 ·conv=>whnf
  iterate 9 (refine Tst.T ?_;conv=>whnf)
  refine ask_c (p_law35_awake_v) H rfl rfl (fun v2 H=>?_);conv=>whnf
  exact fin0_c (enc := V.b) H (.inr rfl) (.cons (.tmp rfl) (.nil)) rfl rfl
 conv=>whnf
 iterate 2 (refine Tst.F ?_;conv=>whnf)
 refine LenQ.M ?_;conv=>whnf
 iterate 2 (refine Tst.F ?_;conv=>whnf)
 refine tst_c H (fun b3 H=>?_) (fun b3 H=>?_)
 ·conv=>whnf
  iterate 4 (refine Tst.T ?_;conv=>whnf)
  refine ask_c (p_law35_awake_v) H rfl rfl (fun v4 H=>?_);conv=>whnf
  exact fin0_c (enc := V.b) H (.inr rfl) (.cons (.tmp rfl) (.nil)) rfl rfl
 conv=>whnf
 refine Tst.F ?_;conv=>whnf
 refine ask_c (p_ref24_Light_v _) H rfl rfl (fun v5 H=>?_);conv=>whnf
 iterate 2 (refine Tst.F ?_;conv=>whnf)
 refine Tst.not ?_
 refine tst_d H (fun b6 H=>?_) (fun b6 H=>?_)
 ·conv=>whnf
  refine ask_c (p_law35_awake_v) H rfl rfl (fun v106 H=>?_);conv=>whnf
  exact fin0_c (enc := V.b) H (.inr rfl) (.cons (.tmp rfl) (.nil)) rfl rfl
 conv=>whnf
 obtain ⟨o8,HL9,HQ10⟩ := bind_c H
 refine loop_c [4,6] [7,25,26,27,28,29,30,31,32,33,34,35,36,37,38,39,40,41,42,43,44,45,46,47,48,49,50,51,52,53,54,55,56,57,58,59,60,61,62,63,64,65,66,67,68,69,14] [7,25,26,27,28,29,30,31,32,33,34,35,36,37,38,39,40,41,42,43,44,45,46,47,48,49,50,51,52,53,54,55,56,57,58,59,60,61,62,63,64,65,66,67,68,69,14] (fun n vals st=>(∃ y12 y13,p_law35_ViewSnap_l1  a0 n y12 y13 = some o8 ∧ vals = [.b false,.i y12] ∧ st = [.live [.i a1.Seq,.sl (List.map BookRow.v a1.Rows) u2] 0,.live [.sl (List.map MailEntry.v y13.Rows) true,.sl (List.map MailEntry.v y13.Last) true,.b y13.Anew,.sl (List.map V.s y13.Seen) true,.sl (List.map Ref35Contact.v y13.List) true,.i y13.Odd,.i y13.Told] 0]) ∨ (∃ y27 y28,p_law35_ViewSnap_l1  a0 n y27 y28 = some o8 ∧ vals = [.b false,.i y27] ∧ st = [.live [.i a1.Seq,.sl (List.map BookRow.v a1.Rows) u2] 0,.live [.sl (List.map MailEntry.v y28.Rows) false,.sl (List.map MailEntry.v y28.Last) false,.b y28.Anew,.sl (List.map V.s y28.Seen) false,.sl (List.map Ref35Contact.v y28.List) false,.i y28.Odd,.i y28.Told] 0])) fuel 2 [] (.inl (⟨_,_,HL9,rfl,rfl⟩)) (Nat.zero_le _) rfl (by kernel_rfl) (by kernel_rfl) rfl ⟨⟨rfl,rfl,rfl⟩,⟨⟨rfl,rfl,rfl⟩,trivial⟩⟩ ?_
 rintro (_ | n11) _ _ (⟨y12,y13,H,rfl,rfl⟩ | ⟨y27,y28,H,rfl,rfl⟩)
 ·rw [p_law35_ViewSnap_l1] at H;cases H
 ·rw [p_law35_ViewSnap_l1] at H;cases H
 ·rw [p_law35_ViewSnap_l1] at H
  conv=>whnf
  refine LenQ.M ?_;conv=>whnf
  refine tst_c H (fun b14 H=>?_) (fun b14 H=>?_)
  ·conv=>whnf
   refine ixs_c (f := StanzaStanza.v) H (fun _=>rfl) (fun x15 H=>?_);conv=>whnf
   refine ask_c (p_ref10_Light_v _) H rfl rfl (fun v16 H=>?_);conv=>whnf
   refine Tst.not ?_
   refine tst_d H (fun b17 H=>?_) (fun b17 H=>?_)
   ·conv=>whnf
    refine ask_c (p_law35_awake_v) H rfl rfl (fun v31 H=>?_);conv=>whnf
    obtain rfl := Option.some.inj H
    have H := HQ10
    try dsimp only at H
    exact fin0_c (enc := V.b) H (.inr rfl) (.cons (.tmp rfl) (.nil)) rfl rfl
   conv=>whnf
   refine ixs_c (f := StanzaStanza.v) H (fun _=>rfl) (fun x18 H=>?_);conv=>whnf
   refine ask_c (p_view_Tell_v _ _) H rfl rfl (fun v19 H=>?_);conv=>whnf
   refine ⟨Nat.le_of_ble_eq_true rfl,?_⟩;conv=>whnf
   refine FootQ.mk ⟨rfl,?_⟩;conv=>whnf
   refine ask_c (p_view_Check_v _) H rfl rfl (fun v20 H=>?_);conv=>whnf
   refine tst_d H (fun b21 H=>?_) (fun b21 H=>?_)
   ·conv=>whnf
    iterate 12 (refine Tst.F ?_;conv=>whnf)
    refine tst_c H (fun b29 H=>?_) (fun b29 H=>?_)
    ·conv=>whnf
     iterate 6 (refine Tst.T ?_;conv=>whnf)
     obtain rfl := Option.some.inj H
     have H := HQ10
     try dsimp only at H
     exact fin0_c (enc := V.b) H (.inr rfl) (.cons (.tmp rfl) (.nil)) rfl rfl
    conv=>whnf
    iterate 5 (refine Tst.F ?_;conv=>whnf)
    refine tst_c H (fun b30 H=>?_) (fun b30 H=>?_)
    ·conv=>whnf
     obtain rfl := Option.some.inj H
     have H := HQ10
     try dsimp only at H
     exact fin0_c (enc := V.b) H (.inr rfl) (.cons (.tmp rfl) (.nil)) rfl rfl
    conv=>whnf
    refine ⟨Nat.le_of_ble_eq_true rfl,?_⟩;conv=>whnf
    refine Ari.w ?_;conv=>whnf
    exact again_c [7,25,26,27,28,29,30,31,32,33,34,35,36,37,38,39,40,41,42,43,44,45,46,47,48,49,50,51,52,53,54,55,56,57,58,59,60,61,62,63,64,65,66,67,68,69,14] n11 2 [] (.inr (⟨_,_,H,rfl,rfl⟩)) (Nat.lt_succ_self _) (Nat.zero_le _) rfl (by kernel_rfl) (by kernel_rfl) rfl ⟨⟨rfl,rfl,rfl⟩,⟨⟨rfl,rfl,rfl⟩,trivial⟩⟩
   conv=>whnf
   iterate 2 (refine Tst.T ?_;conv=>whnf)
   refine ixs_c (f := StanzaStanza.v) H (fun _=>rfl) (fun x22 H=>?_);conv=>whnf
   iterate 2 (refine Tst.T ?_;conv=>whnf)
   refine ask_c (p_stanza_Check_v _) H rfl rfl (fun v23 H=>?_);conv=>whnf
   iterate 2 (refine Tst.T ?_;conv=>whnf)
   refine tst_c H (fun b24 H=>?_) (fun b24 H=>?_)
   ·conv=>whnf
    iterate 12 (refine Tst.T ?_;conv=>whnf)
    obtain rfl := Option.some.inj H
    have H := HQ10
    try dsimp only at H
    exact fin0_c (enc := V.b) H (.inr rfl) (.cons (.tmp rfl) (.nil)) rfl rfl
   conv=>whnf
   iterate 5 (refine Tst.F ?_;conv=>whnf)
   refine tst_c H (fun b25 H=>?_) (fun b25 H=>?_)
   ·conv=>whnf
    iterate 6 (refine Tst.T ?_;conv=>whnf)
    obtain rfl := Option.some.inj H
    have H := HQ10
    try dsimp only at H
    exact fin0_c (enc := V.b) H (.inr rfl) (.cons (.tmp rfl) (.nil)) rfl rfl
   conv=>whnf
   iterate 5 (refine Tst.F ?_;conv=>whnf)
   refine tst_c H (fun b26 H=>?_) (fun b26 H=>?_)
   ·conv=>whnf
    obtain rfl := Option.some.inj H
    have H := HQ10
    try dsimp only at H
    exact fin0_c (enc := V.b) H (.inr rfl) (.cons (.tmp rfl) (.nil)) rfl rfl
   conv=>whnf
   refine ⟨Nat.le_of_ble_eq_true rfl,?_⟩;conv=>whnf
   refine Ari.w ?_;conv=>whnf
   exact again_c [7,25,26,27,28,29,30,31,32,33,34,35,36,37,38,39,40,41,42,43,44,45,46,47,48,49,50,51,52,53,54,55,56,57,58,59,60,61,62,63,64,65,66,67,68,69,14] n11 2 [] (.inr (⟨_,_,H,rfl,rfl⟩)) (Nat.lt_succ_self _) (Nat.zero_le _) rfl (by kernel_rfl) (by kernel_rfl) rfl ⟨⟨rfl,rfl,rfl⟩,⟨⟨rfl,rfl,rfl⟩,trivial⟩⟩
  conv=>whnf
  obtain rfl := Option.some.inj H
  have H := HQ10
  try dsimp only at H
  refine ask_c (p_view_Check_v _) H rfl rfl (fun v32 H=>?_);conv=>whnf
  refine tst_c H (fun b33 H=>?_) (fun b33 H=>?_)
  ·conv=>whnf
   iterate 4 (refine Tst.T ?_;conv=>whnf)
   refine ask_c (p_law35_awake_v) H rfl rfl (fun v34 H=>?_);conv=>whnf
   exact fin0_c (enc := V.b) H (.inr rfl) (.cons (.tmp rfl) (.nil)) rfl rfl
  conv=>whnf
  refine Tst.F ?_;conv=>whnf
  refine ask_c (p_ref24_Check_v _) H rfl rfl (fun v35 H=>?_);conv=>whnf
  iterate 2 (refine Tst.F ?_;conv=>whnf)
  refine tst_c H (fun b36 H=>?_) (fun b36 H=>?_)
  ·conv=>whnf
   refine ask_c (p_law35_awake_v) H rfl rfl (fun v37 H=>?_);conv=>whnf
   exact fin0_c (enc := V.b) H (.inr rfl) (.cons (.tmp rfl) (.nil)) rfl rfl
  conv=>whnf
  refine ask_c (p_law26_Book_v _) H rfl rfl (fun v38 H=>?_);conv=>whnf
  refine LenQ.M ?_;conv=>whnf
  refine ask_c (p_view_Tell_v _ _) H rfl rfl (fun v39 H=>?_);conv=>whnf
  refine ⟨Nat.le_of_ble_eq_true rfl,?_⟩;conv=>whnf
  obtain ⟨o41,HL42,HQ43⟩ := bind_c H
  refine loop_c [9,5] [87,88,89,90,91,92,93,94,95,96,97,98,99,100,101,102,103,104,105,106,107,108,109,110,3] [87,88,89,90,91,92,93,94,95,96,97,98,99,100,101,102,103,104,105,106,107,108,109,110,3] (fun n vals st=>(∃ y45 y46,p_law35_ViewSnap_l2  v38.Rows n y45 y46 = some o41 ∧ vals = [.i y45,.ptr 0 0] ∧ st = [.live [.sl (List.map MailEntry.v y46.Rows) false,.sl (List.map MailEntry.v y46.Last) false,.b y46.Anew,.sl (List.map V.s y46.Seen) false,.sl (List.map Ref35Contact.v y46.List) false,.i y46.Odd,.i y46.Told] 0])) fuel 1 [1] (⟨_,_,HL42,rfl,rfl⟩) (Nat.zero_le _) rfl (by kernel_rfl) (by kernel_rfl) rfl ⟨⟨rfl,rfl,rfl⟩,trivial⟩ ?_
  rintro (_ | n44) _ _ (⟨y45,y46,H,rfl,rfl⟩)
  ·rw [p_law35_ViewSnap_l2] at H;cases H
  rw [p_law35_ViewSnap_l2] at H
  conv=>whnf
  refine LenQ.M ?_;conv=>whnf
  refine tst_c H (fun b47 H=>?_) (fun b47 H=>?_)
  ·conv=>whnf
   refine ixs_c (f := BookRow.v) H (fun _=>rfl) (fun x48 H=>?_);conv=>whnf
   refine ⟨Nat.le_of_ble_eq_true rfl,?_⟩;conv=>whnf
   refine ixs_c (f := BookRow.v) H (fun _=>rfl) (fun x49 H=>?_);conv=>whnf
   refine ⟨Nat.le_of_ble_eq_true rfl,?_⟩;conv=>whnf
   refine ixs_c (f := BookRow.v) H (fun _=>rfl) (fun x50 H=>?_);conv=>whnf
   refine ⟨Nat.le_of_ble_eq_true rfl,?_⟩;conv=>whnf
   refine ask_c (p_pres_Say_v _ _ _) H rfl rfl (fun v51 H=>?_);conv=>whnf
   refine ask_c (p_view_Tell_v _ _) H rfl rfl (fun v52 H=>?_);conv=>whnf
   refine ⟨Nat.le_of_ble_eq_true rfl,?_⟩;conv=>whnf
   refine FootQ.mk ⟨rfl,?_⟩;conv=>whnf
   refine Ari.w ?_;conv=>whnf
   exact again_c [87,88,89,90,91,92,93,94,95,96,97,98,99,100,101,102,103,104,105,106,107,108,109,110,3] n44 1 [] (⟨_,_,H,rfl,rfl⟩) (Nat.lt_succ_self _) (Nat.zero_le _) rfl (by kernel_rfl) (by kernel_rfl) rfl ⟨⟨rfl,rfl,rfl⟩,trivial⟩
  conv=>whnf
  obtain rfl := Option.some.inj H
  have H := HQ43
  try dsimp only at H
  refine ask_c (p_view_Tell_v _ _) H rfl rfl (fun v53 H=>?_);conv=>whnf
  refine ⟨Nat.le_of_ble_eq_true rfl,?_⟩;conv=>whnf
  refine LenQ.M ?_;conv=>whnf
  refine tst_c H (fun b54 H=>?_) (fun b54 H=>?_)
  ·conv=>whnf
   iterate 7 (refine Tst.T ?_;conv=>whnf)
   refine Tst.not ?_
   refine tst_c H (fun b55 H=>?_) (fun b55 H=>?_)
   ·conv=>whnf
    refine Tst.F ?_;conv=>whnf
    exact fin0_c (enc := V.b) H (.inr rfl) (.cons (.tmp rfl) (.nil)) rfl rfl
   conv=>whnf
   refine ask_c (p_law35_awake_v) H rfl rfl (fun v56 H=>?_);conv=>whnf
   refine Tst.T ?_;conv=>whnf
   exact fin0_c (enc := V.b) H (.inr rfl) (.cons (.tmp rfl) (.nil)) rfl rfl
  conv=>whnf
  iterate 2 (refine Tst.F ?_;conv=>whnf)
  refine ask_c (p_view_Fits_v _ _) H rfl rfl (fun v57 H=>?_);conv=>whnf
  refine Tst.F ?_;conv=>whnf
  refine tst_d H (fun b58 H=>?_) (fun b58 H=>?_)
  ·conv=>whnf
   iterate 5 (refine Tst.F ?_;conv=>whnf)
   exact fin0_c (enc := V.b) H (.inr rfl) (.cons (.tmp rfl) (.nil)) rfl rfl
  conv=>whnf
  iterate 3 (refine Tst.T ?_;conv=>whnf)
  refine Tst.not ?_
  refine tst_c H (fun b59 H=>?_) (fun b59 H=>?_)
  ·conv=>whnf
   refine Tst.F ?_;conv=>whnf
   exact fin0_c (enc := V.b) H (.inr rfl) (.cons (.tmp rfl) (.nil)) rfl rfl
  conv=>whnf
  refine ask_c (p_law35_awake_v) H rfl rfl (fun v60 H=>?_);conv=>whnf
  refine Tst.T ?_;conv=>whnf
  exact fin0_c (enc := V.b) H (.inr rfl) (.cons (.tmp rfl) (.nil)) rfl rfl
 rw [p_law35_ViewSnap_l1] at H
 conv=>whnf
 refine LenQ.M ?_;conv=>whnf
 refine tst_c H (fun b61 H=>?_) (fun b61 H=>?_)
 ·conv=>whnf
  refine ixs_c (f := StanzaStanza.v) H (fun _=>rfl) (fun x62 H=>?_);conv=>whnf
  refine ask_c (p_ref10_Light_v _) H rfl rfl (fun v63 H=>?_);conv=>whnf
  refine Tst.not ?_
  refine tst_d H (fun b64 H=>?_) (fun b64 H=>?_)
  ·conv=>whnf
   refine ask_c (p_law35_awake_v) H rfl rfl (fun v76 H=>?_);conv=>whnf
   obtain rfl := Option.some.inj H
   have H := HQ10
   try dsimp only at H
   exact fin0_c (enc := V.b) H (.inr rfl) (.cons (.tmp rfl) (.nil)) rfl rfl
  conv=>whnf
  refine ixs_c (f := StanzaStanza.v) H (fun _=>rfl) (fun x65 H=>?_);conv=>whnf
  refine ask_c (p_view_Tell_v _ _) H rfl rfl (fun v66 H=>?_);conv=>whnf
  refine ⟨Nat.le_of_ble_eq_true rfl,?_⟩;conv=>whnf
  refine FootQ.mk ⟨rfl,?_⟩;conv=>whnf
  refine ask_c (p_view_Check_v _) H rfl rfl (fun v67 H=>?_);conv=>whnf
  refine tst_d H (fun b68 H=>?_) (fun b68 H=>?_)
  ·conv=>whnf
   iterate 12 (refine Tst.F ?_;conv=>whnf)
   refine tst_c H (fun b74 H=>?_) (fun b74 H=>?_)
   ·conv=>whnf
    iterate 6 (refine Tst.T ?_;conv=>whnf)
    obtain rfl := Option.some.inj H
    have H := HQ10
    try dsimp only at H
    exact fin0_c (enc := V.b) H (.inr rfl) (.cons (.tmp rfl) (.nil)) rfl rfl
   conv=>whnf
   iterate 5 (refine Tst.F ?_;conv=>whnf)
   refine tst_c H (fun b75 H=>?_) (fun b75 H=>?_)
   ·conv=>whnf
    obtain rfl := Option.some.inj H
    have H := HQ10
    try dsimp only at H
    exact fin0_c (enc := V.b) H (.inr rfl) (.cons (.tmp rfl) (.nil)) rfl rfl
   conv=>whnf
   refine ⟨Nat.le_of_ble_eq_true rfl,?_⟩;conv=>whnf
   refine Ari.w ?_;conv=>whnf
   exact again_c [7,25,26,27,28,29,30,31,32,33,34,35,36,37,38,39,40,41,42,43,44,45,46,47,48,49,50,51,52,53,54,55,56,57,58,59,60,61,62,63,64,65,66,67,68,69,14] n11 2 [] (.inr (⟨_,_,H,rfl,rfl⟩)) (Nat.lt_succ_self _) (Nat.zero_le _) rfl (by kernel_rfl) (by kernel_rfl) rfl ⟨⟨rfl,rfl,rfl⟩,⟨⟨rfl,rfl,rfl⟩,trivial⟩⟩
  conv=>whnf
  iterate 2 (refine Tst.T ?_;conv=>whnf)
  refine ixs_c (f := StanzaStanza.v) H (fun _=>rfl) (fun x69 H=>?_);conv=>whnf
  iterate 2 (refine Tst.T ?_;conv=>whnf)
  refine ask_c (p_stanza_Check_v _) H rfl rfl (fun v70 H=>?_);conv=>whnf
  iterate 2 (refine Tst.T ?_;conv=>whnf)
  refine tst_c H (fun b71 H=>?_) (fun b71 H=>?_)
  ·conv=>whnf
   iterate 12 (refine Tst.T ?_;conv=>whnf)
   obtain rfl := Option.some.inj H
   have H := HQ10
   try dsimp only at H
   exact fin0_c (enc := V.b) H (.inr rfl) (.cons (.tmp rfl) (.nil)) rfl rfl
  conv=>whnf
  iterate 5 (refine Tst.F ?_;conv=>whnf)
  refine tst_c H (fun b72 H=>?_) (fun b72 H=>?_)
  ·conv=>whnf
   iterate 6 (refine Tst.T ?_;conv=>whnf)
   obtain rfl := Option.some.inj H
   have H := HQ10
   try dsimp only at H
   exact fin0_c (enc := V.b) H (.inr rfl) (.cons (.tmp rfl) (.nil)) rfl rfl
  conv=>whnf
  iterate 5 (refine Tst.F ?_;conv=>whnf)
  refine tst_c H (fun b73 H=>?_) (fun b73 H=>?_)
  ·conv=>whnf
   obtain rfl := Option.some.inj H
   have H := HQ10
   try dsimp only at H
   exact fin0_c (enc := V.b) H (.inr rfl) (.cons (.tmp rfl) (.nil)) rfl rfl
  conv=>whnf
  refine ⟨Nat.le_of_ble_eq_true rfl,?_⟩;conv=>whnf
  refine Ari.w ?_;conv=>whnf
  exact again_c [7,25,26,27,28,29,30,31,32,33,34,35,36,37,38,39,40,41,42,43,44,45,46,47,48,49,50,51,52,53,54,55,56,57,58,59,60,61,62,63,64,65,66,67,68,69,14] n11 2 [] (.inr (⟨_,_,H,rfl,rfl⟩)) (Nat.lt_succ_self _) (Nat.zero_le _) rfl (by kernel_rfl) (by kernel_rfl) rfl ⟨⟨rfl,rfl,rfl⟩,⟨⟨rfl,rfl,rfl⟩,trivial⟩⟩
 conv=>whnf
 obtain rfl := Option.some.inj H
 have H := HQ10
 try dsimp only at H
 refine ask_c (p_view_Check_v _) H rfl rfl (fun v77 H=>?_);conv=>whnf
 refine tst_c H (fun b78 H=>?_) (fun b78 H=>?_)
 ·conv=>whnf
  iterate 4 (refine Tst.T ?_;conv=>whnf)
  refine ask_c (p_law35_awake_v) H rfl rfl (fun v79 H=>?_);conv=>whnf
  exact fin0_c (enc := V.b) H (.inr rfl) (.cons (.tmp rfl) (.nil)) rfl rfl
 conv=>whnf
 refine Tst.F ?_;conv=>whnf
 refine ask_c (p_ref24_Check_v _) H rfl rfl (fun v80 H=>?_);conv=>whnf
 iterate 2 (refine Tst.F ?_;conv=>whnf)
 refine tst_c H (fun b81 H=>?_) (fun b81 H=>?_)
 ·conv=>whnf
  refine ask_c (p_law35_awake_v) H rfl rfl (fun v82 H=>?_);conv=>whnf
  exact fin0_c (enc := V.b) H (.inr rfl) (.cons (.tmp rfl) (.nil)) rfl rfl
 conv=>whnf
 refine ask_c (p_law26_Book_v _) H rfl rfl (fun v83 H=>?_);conv=>whnf
 refine LenQ.M ?_;conv=>whnf
 refine ask_c (p_view_Tell_v _ _) H rfl rfl (fun v84 H=>?_);conv=>whnf
 refine ⟨Nat.le_of_ble_eq_true rfl,?_⟩;conv=>whnf
 obtain ⟨o86,HL87,HQ88⟩ := bind_c H
 refine loop_c [9,5] [87,88,89,90,91,92,93,94,95,96,97,98,99,100,101,102,103,104,105,106,107,108,109,110,3] [87,88,89,90,91,92,93,94,95,96,97,98,99,100,101,102,103,104,105,106,107,108,109,110,3] (fun n vals st=>(∃ y90 y91,p_law35_ViewSnap_l2  v83.Rows n y90 y91 = some o86 ∧ vals = [.i y90,.ptr 0 0] ∧ st = [.live [.sl (List.map MailEntry.v y91.Rows) false,.sl (List.map MailEntry.v y91.Last) false,.b y91.Anew,.sl (List.map V.s y91.Seen) false,.sl (List.map Ref35Contact.v y91.List) false,.i y91.Odd,.i y91.Told] 0])) fuel 1 [1] (⟨_,_,HL87,rfl,rfl⟩) (Nat.zero_le _) rfl (by kernel_rfl) (by kernel_rfl) rfl ⟨⟨rfl,rfl,rfl⟩,trivial⟩ ?_
 rintro (_ | n89) _ _ (⟨y90,y91,H,rfl,rfl⟩)
 ·rw [p_law35_ViewSnap_l2] at H;cases H
 rw [p_law35_ViewSnap_l2] at H
 conv=>whnf
 refine LenQ.M ?_;conv=>whnf
 refine tst_c H (fun b92 H=>?_) (fun b92 H=>?_)
 ·conv=>whnf
  refine ixs_c (f := BookRow.v) H (fun _=>rfl) (fun x93 H=>?_);conv=>whnf
  refine ⟨Nat.le_of_ble_eq_true rfl,?_⟩;conv=>whnf
  refine ixs_c (f := BookRow.v) H (fun _=>rfl) (fun x94 H=>?_);conv=>whnf
  refine ⟨Nat.le_of_ble_eq_true rfl,?_⟩;conv=>whnf
  refine ixs_c (f := BookRow.v) H (fun _=>rfl) (fun x95 H=>?_);conv=>whnf
  refine ⟨Nat.le_of_ble_eq_true rfl,?_⟩;conv=>whnf
  refine ask_c (p_pres_Say_v _ _ _) H rfl rfl (fun v96 H=>?_);conv=>whnf
  refine ask_c (p_view_Tell_v _ _) H rfl rfl (fun v97 H=>?_);conv=>whnf
  refine ⟨Nat.le_of_ble_eq_true rfl,?_⟩;conv=>whnf
  refine FootQ.mk ⟨rfl,?_⟩;conv=>whnf
  refine Ari.w ?_;conv=>whnf
  exact again_c [87,88,89,90,91,92,93,94,95,96,97,98,99,100,101,102,103,104,105,106,107,108,109,110,3] n89 1 [] (⟨_,_,H,rfl,rfl⟩) (Nat.lt_succ_self _) (Nat.zero_le _) rfl (by kernel_rfl) (by kernel_rfl) rfl ⟨⟨rfl,rfl,rfl⟩,trivial⟩
 conv=>whnf
 obtain rfl := Option.some.inj H
 have H := HQ88
 try dsimp only at H
 refine ask_c (p_view_Tell_v _ _) H rfl rfl (fun v98 H=>?_);conv=>whnf
 refine ⟨Nat.le_of_ble_eq_true rfl,?_⟩;conv=>whnf
 refine LenQ.M ?_;conv=>whnf
 refine tst_c H (fun b99 H=>?_) (fun b99 H=>?_)
 ·conv=>whnf
  iterate 7 (refine Tst.T ?_;conv=>whnf)
  refine Tst.not ?_
  refine tst_c H (fun b100 H=>?_) (fun b100 H=>?_)
  ·conv=>whnf
   refine Tst.F ?_;conv=>whnf
   exact fin0_c (enc := V.b) H (.inr rfl) (.cons (.tmp rfl) (.nil)) rfl rfl
  conv=>whnf
  refine ask_c (p_law35_awake_v) H rfl rfl (fun v101 H=>?_);conv=>whnf
  refine Tst.T ?_;conv=>whnf
  exact fin0_c (enc := V.b) H (.inr rfl) (.cons (.tmp rfl) (.nil)) rfl rfl
 conv=>whnf
 iterate 2 (refine Tst.F ?_;conv=>whnf)
 refine ask_c (p_view_Fits_v _ _) H rfl rfl (fun v102 H=>?_);conv=>whnf
 refine Tst.F ?_;conv=>whnf
 refine tst_d H (fun b103 H=>?_) (fun b103 H=>?_)
 ·conv=>whnf
  iterate 5 (refine Tst.F ?_;conv=>whnf)
  exact fin0_c (enc := V.b) H (.inr rfl) (.cons (.tmp rfl) (.nil)) rfl rfl
 conv=>whnf
 iterate 3 (refine Tst.T ?_;conv=>whnf)
 refine Tst.not ?_
 refine tst_c H (fun b104 H=>?_) (fun b104 H=>?_)
 ·conv=>whnf
  refine Tst.F ?_;conv=>whnf
  exact fin0_c (enc := V.b) H (.inr rfl) (.cons (.tmp rfl) (.nil)) rfl rfl
 conv=>whnf
 refine ask_c (p_law35_awake_v) H rfl rfl (fun v105 H=>?_);conv=>whnf
 refine Tst.T ?_;conv=>whnf
 exact fin0_c (enc := V.b) H (.inr rfl) (.cons (.tmp rfl) (.nil)) rfl rfl
end Go.Proofs.YthlhbgedidipkaaGreat

/- ViewSnap: for every input the call returns true, and its arguments read as they did. -/
namespace Go.Proofs.YthlhbgedidipkaaGreat
open Go.ChangeShapes Go.WideShapes Go.ChangeAt Go.RowKit Go.Joins Go.Deep
set_option maxRecDepth 100000 in
theorem viewSnap_lifted (os : Os) (started : os.Started) (H : Type) (enc : TypeId × Value → H) :
    ReturnsInHanded {} Tryz.checked os 9 .any (Rows.viewSnapSpec.pre6 enc Tryz.prog Tryz.f9 Rows.viewSnapRow.domain false) (Rows.viewSnapSpec.post enc Tryz.prog Tryz.f9 false true false false) := by
  refine returnsInHanded_of_change_shaped (C := Tryz.checked) own0 started (by kernel_rfl) Tryz.func9
    (ChangeSpec.witness6 (enc := enc) (C := Tryz.checked) false ⟨#[], #[.slice none 0 0, .agg #[.int .i64 0, .slice none 0 0]], []⟩ 8 (by kernel_rfl) (by kernel_rfl) (by kernel_rfl) (by kernel_rfl)) ?_
  intro W base args ds gs before hval0 hW hcnd _ hsh _
  have hval : ∀ (j : Nat) t v, Tryz.f9.params[j]? = some t → args[j]? = some v → Value.okWide Tryz.prog W .any base t v := hval0
  have hW' := hW
  obtain ⟨p, q, hA0, hV, rfl, hfz, hnd⟩ := hW
  have hA : DataW.TrodAll enc Tryz.prog W 0 (fun _ => true) true Tryz.f9.params.toList args.toList ds p := hA0
  rw [Tryz.params9] at hA hval
  have hA2 := hA
  obtain ⟨v0, v1, d0, d1, p0, p1, rfl, rfl, hp, h0, h1⟩ := trodAll_two hA
  obtain ⟨rfl, rfl⟩ := trodVars_none hV
  obtain ⟨fu0, hf0⟩ := h0
  obtain ⟨q0, l0, k0, rfl⟩ := okWide_slice Tryz.underlying52 (hval 0 _ v0 rfl rfl)
  obtain ⟨a0, w0, r0⟩ := rd_T52 hf0
  have hx0 : Rep (MW W) noBk _ _ := r0.2 0 (by simp [Value.cells]) (by simp)
  obtain ⟨fu1, hf1⟩ := h1
  obtain ⟨cs1, rfl, _⟩ := okWide_struct Tryz.underlying27 (hval 1 _ v1 rfl rfl)
  obtain ⟨a1, w1, r1⟩ := rd_T27 hf1
  have hx1 : Rep (MW W) noBk (.agg cs1) (.agg [.i a1.Seq, .sl (List.map BookRow.v a1.Rows) false]) := rep_aggL r1 (by intro u hu; simp only [List.mem_cons, List.not_mem_nil, or_false] at hu; rcases hu with rfl | rfl <;> rfl)
  refine (rep_one (callsO_true (p_law35_ViewSnap_v a0 a1) (viewSnap_pure a0 a1)) (maxLen_cell W hsh) (repAr2 hx0 hx1)).mono ?_
  rintro e W' ⟨rfl, bel⟩
  refine ⟨_, rfl, _, _, _, [], p, [], hW', ?_, ?_, ?_, ?_, ?_⟩
  · exact trodAll_mk1 (shut_bool Tryz.underlying4 true)
  · exact trodAll_below laid0 bel (by
      intro t ht
      simp at ht
      rcases ht with rfl | rfl <;> exact ⟨by kernel_rfl, of_decide_eq_true (by kernel_rfl)⟩) hA2
  · rfl
  · exact bel.frame _
  · exact fun h => by cases h
theorem viewSnap_holds : Rows.ViewSnapSaid :=
  OpenClaim.holds_of_wide 9 Tryz.f9 rfl rfl rfl rfl rfl rfl rfl ⟨rfl, rfl, rfl, rfl, rfl⟩ rfl rfl rfl rfl rfl viewSnap_named Tryz.func9 viewSnap_closed
    (of_decide_eq_true (by kernel_rfl)) (by unfold Func.isWrapper; first | (rw [if_pos (by decide +kernel)]; kernel_rfl) | (rw [if_neg (by decide +kernel)]; exact ⟨rfl, rfl⟩))
    (fun os started H enc _ => viewSnap_lifted os started H enc)
#print axioms viewSnap_holds
end Go.Proofs.YthlhbgedidipkaaGreat

