/- MailFirst: for every input the call returns true, and its arguments read as they did. -/
import Derived.Test.YthmgficajgedlaaRcA9
import Derived.Test.YthmgficajgedlaaRcA10
import Derived.Test.YthmgficajgedlaaRcA12
import Derived.Test.YthmgficajgedlaaRcA5
import Derived.KernelRfl
import Derived.Test.YthmgficajgedlaaRows
set_option linter.all false
/- That the program's functions yield what the plain ones tell (written by a program of mine). -/
namespace Go.Proofs.Ythmgficajgedlaa
open Go.RowKit
def gc9 : BCode := (.seq (.reg 0 [⟨(some 2), .mv (.const (.bool false)), none, 0⟩] none 0 []) (.seq (.seq (.reg 0 [⟨(some 13), .mv (.tmp 0), none, 0⟩, ⟨(some 14), .lens (.tmp 13), none, 0⟩, ⟨(some 15), .bin .gtr (.tmp 14) (.const (.int .i64 16)), none, 0⟩] none 0 []) (.cond (.tmp 15) (.seq (.reg 0 [⟨(some 16), .cl 44 [], none, 0⟩, ⟨(some 2), .mv (.tmp 16), none, 0⟩] none 0 []) .ret) .skip)) (.seq (.reg 0 [⟨(some 3), .mv (.const (.slice none 0 0)), none, 0⟩] none 0 []) (.seq (.seq (.reg 0 [⟨(some 4), .mv (.const (.int .i64 0)), none, 0⟩] none 0 []) (.block 0 (.loop (.seq (.seq (.reg 0 [⟨(some 17), .mv (.tmp 4), none, 0⟩, ⟨(some 18), .mv (.tmp 0), none, 0⟩, ⟨(some 19), .lens (.tmp 18), none, 0⟩, ⟨(some 20), .bin .lss (.tmp 17) (.tmp 19), none, 0⟩] none 0 []) (.cond (.tmp 20) .skip (.exit 0))) (.seq (.block 1 (.seq (.reg 0 [⟨(some 24), .mv (.tmp 3), none, 0⟩, ⟨(some 25), .mv (.tmp 4), none, 0⟩, ⟨(some 26), .cvi .u8 (.tmp 25), none, 0⟩, ⟨(some 27), .cl 46 [(.tmp 26)], none, 0⟩, ⟨(some 28), .mv (.tmp 0), none, 0⟩, ⟨(some 29), .mv (.tmp 4), none, 0⟩, ⟨(some 30), .ixs 1 (.tmp 28) (.tmp 29), none, 0⟩, ⟨(some 31), .ld 1 false (.tmp 30), none, 0⟩, ⟨(some 32), .mv (.tmp 4), none, 0⟩, ⟨(some 33), .bin .sub (.const (.int .i64 50)) (.tmp 32), none, 0⟩, ⟨(some 34), .bd [(.lit (.bool false)), (.lit (.int .i64 0)), (.lit (.int .i64 0)), (.lit (.int .i64 0))] [(0, 1, (.tmp 31)), (3, 1, (.tmp 33))], none, 0⟩, ⟨(some 35), .cl 45 [(.tmp 24), (.tmp 27), (.tmp 34)], none, 0⟩, ⟨(some 23), .mv (.tmp 35), none, 0⟩, ⟨(some 36), .ex (.tmp 23) 0, none, 0⟩, ⟨(some 37), .ex (.tmp 23) 1, none, 0⟩, ⟨(some 5), .mv (.tmp 36), none, 0⟩, ⟨(some 6), .mv (.tmp 37), none, 0⟩] (some [[], [], [1], [1, 2], [], [], [5, 4], [4, 5, 6], [], [8], [8, 9, 6, 5, 4, 7], [7, 4, 5, 6, 9, 8, 10, 2, 1, 3, 0], [0, 3, 1, 2, 10, 8, 9, 6, 5, 4, 7, 11], [11, 7, 4, 5, 6, 9, 8, 10, 2, 1, 3, 0, 12], [11, 7, 4, 5, 6, 9, 8, 10, 2, 1, 3, 0, 12], [12, 0, 3, 1, 2, 10, 8, 9, 6, 5, 4, 7, 11, 13], [13, 15, 12, 0, 3, 1, 2, 10, 8, 9, 6, 5, 4, 7, 11, 14]]) 0 []) (.seq (.seq (.reg 0 [⟨(some 38), .mv (.tmp 6), none, 0⟩, ⟨(some 39), .bin .neq (.tmp 38) (.const (.int .i64 0)), none, 0⟩] none 0 []) (.cond (.tmp 39) (.seq (.reg 0 [⟨(some 2), .mv (.const (.bool false)), none, 0⟩] none 0 []) .ret) .skip)) (.reg 0 [⟨(some 40), .mv (.tmp 5), none, 0⟩, ⟨(some 3), .mv (.tmp 40), none, 0⟩] none 0 [])))) (.reg 0 [⟨(some 21), .mv (.tmp 4), none, 0⟩, ⟨(some 22), .bin .add (.tmp 21) (.const (.int .i64 1)), none, 0⟩, ⟨(some 4), .mv (.tmp 22), none, 0⟩] none 0 [])))))) (.seq (.reg 0 [⟨(some 7), .mv (.const (.int .i64 0)), none, 0⟩] none 0 []) (.seq (.seq (.reg 0 [⟨(some 8), .mv (.const (.int .i64 0)), none, 0⟩] none 0 []) (.block 2 (.loop (.seq (.seq (.reg 0 [⟨(some 41), .mv (.tmp 8), none, 0⟩, ⟨(some 42), .bin .lss (.tmp 41) (.const (.int .i64 2)), none, 0⟩] none 0 []) (.cond (.tmp 42) .skip (.exit 2))) (.seq (.block 3 (.seq (.reg 0 [⟨(some 9), .mv (.const (.int .i64 0)), none, 0⟩] none 0 []) (.block 4 (.loop (.seq (.seq (.reg 0 [⟨(some 45), .mv (.tmp 9), none, 0⟩, ⟨(some 46), .mv (.tmp 0), none, 0⟩, ⟨(some 47), .lens (.tmp 46), none, 0⟩, ⟨(some 48), .bin .lss (.tmp 45) (.tmp 47), none, 0⟩] none 0 []) (.cond (.tmp 48) .skip (.exit 4))) (.seq (.block 5 (.seq (.seq (.reg 0 [⟨(some 51), .mv (.tmp 0), none, 0⟩, ⟨(some 52), .mv (.tmp 9), none, 0⟩, ⟨(some 53), .ixs 1 (.tmp 51) (.tmp 52), none, 0⟩, ⟨(some 54), .ld 1 false (.tmp 53), none, 0⟩, ⟨(some 55), .mv (.tmp 8), none, 0⟩, ⟨(some 56), .bin .eql (.tmp 55) (.const (.int .i64 1)), none, 0⟩, ⟨(some 57), .binb true (.tmp 54) (.tmp 56), none, 0⟩] none 0 []) (.cond (.tmp 57) (.exit 5) .skip)) (.seq (.reg 1 [⟨(some 59), .mv (.tmp 3), none, 0⟩, ⟨(some 60), .cl 47 [(.tmp 59)], none, 0⟩, ⟨(some 58), .mv (.tmp 60), none, 0⟩, ⟨(some 61), .ex (.tmp 58) 0, none, 0⟩, ⟨(some 62), .ex (.tmp 58) 1, none, 0⟩, ⟨(some 63), .ex (.tmp 58) 2, none, 0⟩, ⟨(some 11), .al (.agg [(.lit (.string ⟨#[]⟩)), (.lit (.bool false)), (.lit (.int .i64 0)), (.lit (.int .i64 0)), (.lit (.int .i64 0))]), none, 0⟩, ⟨(some 10), .mv (.tmp 61), none, 1⟩, ⟨none, .st 5 (.tmp 11) (.tmp 62), none, 1⟩, ⟨(some 12), .mv (.tmp 63), none, 1⟩] none 0 []) (.seq (.seq (.reg 0 [⟨(some 64), .mv (.tmp 12), none, 0⟩, ⟨(some 65), .un .not (.tmp 64), none, 0⟩, ⟨(some 66), .mv (.tmp 65), none, 0⟩, ⟨(some 67), .fa 0 (.tmp 11), (some (66, false)), 0⟩, ⟨(some 68), .ld 1 false (.tmp 67), (some (66, false)), 0⟩, ⟨(some 69), .mv (.tmp 9), (some (66, false)), 0⟩, ⟨(some 70), .cvi .u8 (.tmp 69), (some (66, false)), 0⟩, ⟨(some 71), .cl 46 [(.tmp 70)], (some (66, false)), 0⟩, ⟨(some 72), .bin .neq (.tmp 68) (.tmp 71), (some (66, false)), 0⟩, ⟨(some 73), .pick (.tmp 66) (.const (.bool true)) (.tmp 72), none, 0⟩] (some [[], [0], [0, 1], [1, 0, 2], [2, 0, 1, 3], [1, 0, 2], [2, 0, 1, 5], [5, 1, 0, 2, 6], [6, 5, 7, 3, 1, 0, 2, 4], [4, 3, 7, 5, 6, 8, 1, 0, 2]]) 0 []) (.cond (.tmp 73) (.seq (.reg 0 [⟨(some 2), .mv (.const (.bool false)), none, 0⟩] none 0 []) .ret) .skip)) (.seq (.reg 0 [⟨(some 74), .mv (.tmp 10), none, 0⟩, ⟨(some 3), .mv (.tmp 74), none, 0⟩] none 0 []) (.reg 0 [⟨(some 75), .mv (.tmp 7), none, 0⟩, ⟨(some 76), .bin .add (.tmp 75) (.const (.int .i64 1)), none, 0⟩, ⟨(some 7), .mv (.tmp 76), none, 0⟩] none 0 [])))))) (.reg 0 [⟨(some 49), .mv (.tmp 9), none, 0⟩, ⟨(some 50), .bin .add (.tmp 49) (.const (.int .i64 1)), none, 0⟩, ⟨(some 9), .mv (.tmp 50), none, 0⟩] none 0 []))))))) (.reg 0 [⟨(some 43), .mv (.tmp 8), none, 0⟩, ⟨(some 44), .bin .add (.tmp 43) (.const (.int .i64 1)), none, 0⟩, ⟨(some 8), .mv (.tmp 44), none, 0⟩] none 0 [])))))) (.seq (.reg 0 [⟨(some 77), .mv (.tmp 7), none, 0⟩, ⟨(some 78), .mv (.tmp 0), none, 0⟩, ⟨(some 79), .lens (.tmp 78), none, 0⟩, ⟨(some 80), .bin .eql (.tmp 77) (.tmp 79), none, 0⟩, ⟨(some 81), .mv (.tmp 80), none, 0⟩, ⟨(some 82), .mv (.tmp 3), (some (81, true)), 0⟩, ⟨(some 83), .lens (.tmp 82), (some (81, true)), 0⟩, ⟨(some 84), .bin .eql (.tmp 83) (.const (.int .i64 0)), (some (81, true)), 0⟩, ⟨(some 85), .pick (.tmp 81) (.tmp 84) (.const (.bool false)), none, 0⟩, ⟨(some 86), .mv (.tmp 85), none, 0⟩, ⟨(some 87), .pick (.tmp 86) (.const (.bool true)) (.const (.bool false)), none, 0⟩, ⟨(some 88), .mv (.tmp 87), none, 0⟩, ⟨(some 89), .pick (.tmp 88) (.const (.bool true)) (.const (.bool false)), none, 0⟩, ⟨(some 90), .mv (.tmp 89), none, 0⟩, ⟨(some 91), .cl 44 [], (some (90, true)), 0⟩, ⟨(some 92), .pick (.tmp 90) (.tmp 91) (.const (.bool false)), none, 0⟩, ⟨(some 2), .mv (.tmp 92), none, 0⟩] none 0 []) .ret)))))))
set_option maxRecDepth 1000000 in
theorem gc9_ok : compF Try.prog Try.f9 = some (gc9.er, 93, [.tmp 2]) := by unfold gc9; kernel_rfl
set_option maxRecDepth 100000 in
set_option maxHeartbeats 4000000 in
theorem p_law25_MailFirst_v {u1 : Bool} (a0 : List Bool) : CallsO Try.prog 9 [.sl (List.map V.b a0) u1] V.b (p_law25_MailFirst a0) := by
  refine callsO_comp mix Try.func9 gc9_ok fun r H => ?_
  rw [p_law25_MailFirst] at H
  conv => whnf
  refine LenQ.M ?_; conv => whnf
  refine tst_c H (fun b1 H => ?_) (fun b1 H => ?_)
  · conv => whnf
    refine ask_c (p_law25_awake_v) H rfl rfl (fun v2 H => ?_); conv => whnf
    exact fin0_c (enc := V.b) H (.inr rfl) (.cons (.tmp rfl) (.nil)) rfl rfl
  conv => whnf
  obtain ⟨o4, HL5, HQ6⟩ := bind_c H
  refine loop_c [2, 3, 4] [5, 6, 17, 18, 19, 20, 21, 22, 23, 24, 25, 26, 27, 28, 29, 30, 31, 32, 33, 34, 35, 36, 37, 38, 39, 40] [5, 6, 17, 18, 19, 20, 21, 22, 23, 24, 25, 26, 27, 28, 29, 30, 31, 32, 33, 34, 35, 36, 37, 38, 39, 40] (fun n vals st => (∃ y8, p_law25_MailFirst_l1  a0 n [] y8 = some o4 ∧ vals = [.b false, .sl (List.map MailEntry.v []) true, .i y8] ∧ st = []) ∨ (∃ y14 y15, p_law25_MailFirst_l1  a0 n y14 y15 = some o4 ∧ vals = [.b false, .sl (List.map MailEntry.v y14) false, .i y15] ∧ st = [])) fuel 0 [] (.inl (⟨_, HL5, rfl, rfl⟩)) (Nat.zero_le _) rfl (by kernel_rfl) (by kernel_rfl) rfl trivial ?_
  rintro (_ | n7) _ _ (⟨y8, H, rfl, rfl⟩ | ⟨y14, y15, H, rfl, rfl⟩)
  · rw [p_law25_MailFirst_l1] at H; cases H
  · rw [p_law25_MailFirst_l1] at H; cases H
  · rw [p_law25_MailFirst_l1] at H
    conv => whnf
    refine LenQ.M ?_; conv => whnf
    refine tst_c H (fun b9 H => ?_) (fun b9 H => ?_)
    · conv => whnf
      refine Ari.w ?_; conv => whnf
      refine ask_c (p_law25_key_v _) H rfl rfl (fun v10 H => ?_); conv => whnf
      refine ixs_c (f := V.b) H (fun _ => rfl) (fun x11 H => ?_); conv => whnf
      refine Ari.w ?_; conv => whnf
      refine ask_c (p_mail_Put_v _ _ _) H rfl rfl (fun v12 H => ?_); conv => whnf
      refine FootQ.mk ⟨rfl, ?_⟩; conv => whnf
      refine tst_c H (fun b13 H => ?_) (fun b13 H => ?_)
      · conv => whnf
        obtain rfl := Option.some.inj H
        have H := HQ6
        try dsimp only at H
        exact fin0_c (enc := V.b) H (.inr rfl) (.cons (.tmp rfl) (.nil)) rfl rfl
      conv => whnf
      refine Ari.w ?_; conv => whnf
      exact again_c [5, 6, 17, 18, 19, 20, 21, 22, 23, 24, 25, 26, 27, 28, 29, 30, 31, 32, 33, 34, 35, 36, 37, 38, 39, 40] n7 0 [] (.inr (⟨_, _, H, rfl, rfl⟩)) (Nat.lt_succ_self _) (Nat.zero_le _) rfl (by kernel_rfl) (by kernel_rfl) rfl trivial
    conv => whnf
    obtain rfl := Option.some.inj H
    have H := HQ6
    try dsimp only at H
    obtain ⟨o17, HL18, HQ19⟩ := bind_c H
    refine loop_c [2, 3, 7, 8] [9, 10, 11, 12, 41, 42, 43, 44, 45, 46, 47, 48, 49, 50, 51, 52, 53, 54, 55, 56, 57, 58, 59, 60, 61, 62, 63, 64, 65, 66, 67, 68, 69, 70, 71, 72, 73, 74, 75, 76] [9, 10, 11, 12, 41, 42, 43, 44, 45, 46, 47, 48, 49, 50, 51, 52, 53, 54, 55, 56, 57, 58, 59, 60, 61, 62, 63, 64, 65, 66, 67, 68, 69, 70, 71, 72, 73, 74, 75, 76] (fun n vals st => (∃ y21 y22, p_law25_MailFirst_l2  a0 n [] y21 y22 = some o17 ∧ vals = [.b false, .sl (List.map MailEntry.v []) true, .i y21, .i y22] ∧ st = []) ∨ (∃ y48 y49 y50, p_law25_MailFirst_l2  a0 n y48 y49 y50 = some o17 ∧ vals = [.b false, .sl (List.map MailEntry.v y48) false, .i y49, .i y50] ∧ st = [])) fuel 0 [] (.inl (⟨_, _, HL18, rfl, rfl⟩)) (Nat.zero_le _) rfl (by kernel_rfl) (by kernel_rfl) rfl trivial ?_
    rintro (_ | n20) _ _ (⟨y21, y22, H, rfl, rfl⟩ | ⟨y48, y49, y50, H, rfl, rfl⟩)
    · rw [p_law25_MailFirst_l2] at H; cases H
    · rw [p_law25_MailFirst_l2] at H; cases H
    · rw [p_law25_MailFirst_l2] at H
      conv => whnf
      refine tst_d H (fun b23 H => ?_) (fun b23 H => ?_)
      · conv => whnf
        obtain rfl := Option.some.inj H
        have H := HQ19
        try dsimp only at H
        refine LenQ.M ?_; conv => whnf
        refine tst_d H (fun b51 H => ?_) (fun b51 H => ?_)
        · conv => whnf
          iterate 7 (refine Tst.F ?_; conv => whnf)
          exact fin0_c (enc := V.b) H (.inr rfl) (.cons (.tmp rfl) (.nil)) rfl rfl
        conv => whnf
        refine Tst.T ?_; conv => whnf
        refine LenQ.ok ?_; conv => whnf
        iterate 2 (refine Tst.T ?_; conv => whnf)
        refine tst_d H (fun b52 H => ?_) (fun b52 H => ?_)
        · conv => whnf
          iterate 3 (refine Tst.F ?_; conv => whnf)
          exact fin0_c (enc := V.b) H (.inr rfl) (.cons (.tmp rfl) (.nil)) rfl rfl
        conv => whnf
        iterate 2 (refine Tst.T ?_; conv => whnf)
        refine ask_c (p_law25_awake_v) H rfl rfl (fun v53 H => ?_); conv => whnf
        refine Tst.T ?_; conv => whnf
        exact fin0_c (enc := V.b) H (.inr rfl) (.cons (.tmp rfl) (.nil)) rfl rfl
      conv => whnf
      obtain ⟨o25, HL26, HQ27⟩ := bind_c H
      refine loop_c [2, 3, 7, 9] [10, 11, 12, 45, 46, 47, 48, 49, 50, 51, 52, 53, 54, 55, 56, 57, 58, 59, 60, 61, 62, 63, 64, 65, 66, 67, 68, 69, 70, 71, 72, 73, 74, 75, 76] [10, 11, 12, 45, 46, 47, 48, 49, 50, 51, 52, 53, 54, 55, 56, 57, 58, 59, 60, 61, 62, 63, 64, 65, 66, 67, 68, 69, 70, 71, 72, 73, 74, 75, 76] (fun n vals st => (∃ y29 y30, p_law25_MailFirst_l3  a0 y22 n [] y29 y30 = some o25 ∧ vals = [.b false, .sl (List.map MailEntry.v []) true, .i y29, .i y30] ∧ st = []) ∨ (∃ y38 y39 y40, p_law25_MailFirst_l3  a0 y22 n y38 y39 y40 = some o25 ∧ vals = [.b false, .sl (List.map MailEntry.v y38) false, .i y39, .i y40] ∧ st = [])) fuel 0 [] (.inl (⟨_, _, HL26, rfl, rfl⟩)) (Nat.zero_le _) rfl (by kernel_rfl) (by kernel_rfl) rfl trivial ?_
      rintro (_ | n28) _ _ (⟨y29, y30, H, rfl, rfl⟩ | ⟨y38, y39, y40, H, rfl, rfl⟩)
      · rw [p_law25_MailFirst_l3] at H; cases H
      · rw [p_law25_MailFirst_l3] at H; cases H
      · rw [p_law25_MailFirst_l3] at H
        conv => whnf
        refine LenQ.M ?_; conv => whnf
        refine tst_d H (fun b31 H => ?_) (fun b31 H => ?_)
        · conv => whnf
          obtain rfl := Option.some.inj H
          have H := HQ27
          try dsimp only at H
          refine Ari.w ?_; conv => whnf
          exact again_c [9, 10, 11, 12, 41, 42, 43, 44, 45, 46, 47, 48, 49, 50, 51, 52, 53, 54, 55, 56, 57, 58, 59, 60, 61, 62, 63, 64, 65, 66, 67, 68, 69, 70, 71, 72, 73, 74, 75, 76] n20 0 [] (.inl (⟨_, _, H, rfl, rfl⟩)) (Nat.lt_succ_self _) (Nat.zero_le _) rfl (by kernel_rfl) (by kernel_rfl) rfl trivial
        conv => whnf
        refine ixs_c (f := V.b) H (fun _ => rfl) (fun x32 H => ?_); conv => whnf
        refine tst_c H (fun b33 H => ?_) (fun b33 H => ?_)
        · conv => whnf
          refine Ari.w ?_; conv => whnf
          exact again_c [10, 11, 12, 45, 46, 47, 48, 49, 50, 51, 52, 53, 54, 55, 56, 57, 58, 59, 60, 61, 62, 63, 64, 65, 66, 67, 68, 69, 70, 71, 72, 73, 74, 75, 76] n28 0 [] (.inl (⟨_, _, H, rfl, rfl⟩)) (Nat.lt_succ_self _) (Nat.zero_le _) rfl (by kernel_rfl) (by kernel_rfl) rfl trivial
        conv => whnf
        refine ask_c (p_mail_Take_v _) H rfl rfl (fun v34 H => ?_); conv => whnf
        refine ⟨Nat.le_of_ble_eq_true rfl, ?_⟩; conv => whnf
        refine Tst.not ?_
        refine tst_d H (fun b35 H => ?_) (fun b35 H => ?_)
        · conv => whnf
          iterate 6 (refine Tst.T ?_; conv => whnf)
          refine FootQ.mk ⟨rfl, ?_⟩; conv => whnf
          refine Tst.T ?_; conv => whnf
          obtain rfl := Option.some.inj H
          have H := HQ27
          try dsimp only at H
          obtain rfl := Option.some.inj H
          have H := HQ19
          try dsimp only at H
          exact fin0_c (enc := V.b) H (.inr rfl) (.cons (.tmp rfl) (.nil)) rfl rfl
        conv => whnf
        iterate 3 (refine Tst.F ?_; conv => whnf)
        refine Ari.w ?_; conv => whnf
        refine Tst.F ?_; conv => whnf
        refine ask_c (p_law25_key_v _) H rfl rfl (fun v36 H => ?_); conv => whnf
        iterate 2 (refine Tst.F ?_; conv => whnf)
        refine FootQ.mk ⟨rfl, ?_⟩; conv => whnf
        refine Tst.not ?_
        refine tst_d H (fun b37 H => ?_) (fun b37 H => ?_)
        · conv => whnf
          obtain rfl := Option.some.inj H
          have H := HQ27
          try dsimp only at H
          obtain rfl := Option.some.inj H
          have H := HQ19
          try dsimp only at H
          exact fin0_c (enc := V.b) H (.inr rfl) (.cons (.tmp rfl) (.nil)) rfl rfl
        conv => whnf
        iterate 2 (refine Ari.w ?_; conv => whnf)
        exact again_c [10, 11, 12, 45, 46, 47, 48, 49, 50, 51, 52, 53, 54, 55, 56, 57, 58, 59, 60, 61, 62, 63, 64, 65, 66, 67, 68, 69, 70, 71, 72, 73, 74, 75, 76] n28 0 [] (.inr (⟨_, _, _, H, rfl, rfl⟩)) (Nat.lt_succ_self _) (Nat.zero_le _) rfl (by kernel_rfl) (by kernel_rfl) rfl trivial
      rw [p_law25_MailFirst_l3] at H
      conv => whnf
      refine LenQ.M ?_; conv => whnf
      refine tst_d H (fun b41 H => ?_) (fun b41 H => ?_)
      · conv => whnf
        obtain rfl := Option.some.inj H
        have H := HQ27
        try dsimp only at H
        refine Ari.w ?_; conv => whnf
        exact again_c [9, 10, 11, 12, 41, 42, 43, 44, 45, 46, 47, 48, 49, 50, 51, 52, 53, 54, 55, 56, 57, 58, 59, 60, 61, 62, 63, 64, 65, 66, 67, 68, 69, 70, 71, 72, 73, 74, 75, 76] n20 0 [] (.inr (⟨_, _, _, H, rfl, rfl⟩)) (Nat.lt_succ_self _) (Nat.zero_le _) rfl (by kernel_rfl) (by kernel_rfl) rfl trivial
      conv => whnf
      refine ixs_c (f := V.b) H (fun _ => rfl) (fun x42 H => ?_); conv => whnf
      refine tst_c H (fun b43 H => ?_) (fun b43 H => ?_)
      · conv => whnf
        refine Ari.w ?_; conv => whnf
        exact again_c [10, 11, 12, 45, 46, 47, 48, 49, 50, 51, 52, 53, 54, 55, 56, 57, 58, 59, 60, 61, 62, 63, 64, 65, 66, 67, 68, 69, 70, 71, 72, 73, 74, 75, 76] n28 0 [] (.inr (⟨_, _, _, H, rfl, rfl⟩)) (Nat.lt_succ_self _) (Nat.zero_le _) rfl (by kernel_rfl) (by kernel_rfl) rfl trivial
      conv => whnf
      refine ask_c (p_mail_Take_v _) H rfl rfl (fun v44 H => ?_); conv => whnf
      refine ⟨Nat.le_of_ble_eq_true rfl, ?_⟩; conv => whnf
      refine Tst.not ?_
      refine tst_d H (fun b45 H => ?_) (fun b45 H => ?_)
      · conv => whnf
        iterate 6 (refine Tst.T ?_; conv => whnf)
        refine FootQ.mk ⟨rfl, ?_⟩; conv => whnf
        refine Tst.T ?_; conv => whnf
        obtain rfl := Option.some.inj H
        have H := HQ27
        try dsimp only at H
        obtain rfl := Option.some.inj H
        have H := HQ19
        try dsimp only at H
        exact fin0_c (enc := V.b) H (.inr rfl) (.cons (.tmp rfl) (.nil)) rfl rfl
      conv => whnf
      iterate 3 (refine Tst.F ?_; conv => whnf)
      refine Ari.w ?_; conv => whnf
      refine Tst.F ?_; conv => whnf
      refine ask_c (p_law25_key_v _) H rfl rfl (fun v46 H => ?_); conv => whnf
      iterate 2 (refine Tst.F ?_; conv => whnf)
      refine FootQ.mk ⟨rfl, ?_⟩; conv => whnf
      refine Tst.not ?_
      refine tst_d H (fun b47 H => ?_) (fun b47 H => ?_)
      · conv => whnf
        obtain rfl := Option.some.inj H
        have H := HQ27
        try dsimp only at H
        obtain rfl := Option.some.inj H
        have H := HQ19
        try dsimp only at H
        exact fin0_c (enc := V.b) H (.inr rfl) (.cons (.tmp rfl) (.nil)) rfl rfl
      conv => whnf
      iterate 2 (refine Ari.w ?_; conv => whnf)
      exact again_c [10, 11, 12, 45, 46, 47, 48, 49, 50, 51, 52, 53, 54, 55, 56, 57, 58, 59, 60, 61, 62, 63, 64, 65, 66, 67, 68, 69, 70, 71, 72, 73, 74, 75, 76] n28 0 [] (.inr (⟨_, _, _, H, rfl, rfl⟩)) (Nat.lt_succ_self _) (Nat.zero_le _) rfl (by kernel_rfl) (by kernel_rfl) rfl trivial
    rw [p_law25_MailFirst_l2] at H
    conv => whnf
    refine tst_d H (fun b54 H => ?_) (fun b54 H => ?_)
    · conv => whnf
      obtain rfl := Option.some.inj H
      have H := HQ19
      try dsimp only at H
      refine LenQ.M ?_; conv => whnf
      refine tst_d H (fun b70 H => ?_) (fun b70 H => ?_)
      · conv => whnf
        iterate 7 (refine Tst.F ?_; conv => whnf)
        exact fin0_c (enc := V.b) H (.inr rfl) (.cons (.tmp rfl) (.nil)) rfl rfl
      conv => whnf
      refine Tst.T ?_; conv => whnf
      refine LenQ.M ?_; conv => whnf
      iterate 2 (refine Tst.T ?_; conv => whnf)
      refine tst_d H (fun b71 H => ?_) (fun b71 H => ?_)
      · conv => whnf
        iterate 3 (refine Tst.F ?_; conv => whnf)
        exact fin0_c (enc := V.b) H (.inr rfl) (.cons (.tmp rfl) (.nil)) rfl rfl
      conv => whnf
      iterate 2 (refine Tst.T ?_; conv => whnf)
      refine ask_c (p_law25_awake_v) H rfl rfl (fun v72 H => ?_); conv => whnf
      refine Tst.T ?_; conv => whnf
      exact fin0_c (enc := V.b) H (.inr rfl) (.cons (.tmp rfl) (.nil)) rfl rfl
    conv => whnf
    obtain ⟨o56, HL57, HQ58⟩ := bind_c H
    refine loop_c [2, 3, 7, 9] [10, 11, 12, 45, 46, 47, 48, 49, 50, 51, 52, 53, 54, 55, 56, 57, 58, 59, 60, 61, 62, 63, 64, 65, 66, 67, 68, 69, 70, 71, 72, 73, 74, 75, 76] [10, 11, 12, 45, 46, 47, 48, 49, 50, 51, 52, 53, 54, 55, 56, 57, 58, 59, 60, 61, 62, 63, 64, 65, 66, 67, 68, 69, 70, 71, 72, 73, 74, 75, 76] (fun n vals st => (∃ y60 y61 y62, p_law25_MailFirst_l3  a0 y50 n y60 y61 y62 = some o56 ∧ vals = [.b false, .sl (List.map MailEntry.v y60) false, .i y61, .i y62] ∧ st = [])) fuel 0 [] (⟨_, _, _, HL57, rfl, rfl⟩) (Nat.zero_le _) rfl (by kernel_rfl) (by kernel_rfl) rfl trivial ?_
    rintro (_ | n59) _ _ (⟨y60, y61, y62, H, rfl, rfl⟩)
    · rw [p_law25_MailFirst_l3] at H; cases H
    rw [p_law25_MailFirst_l3] at H
    conv => whnf
    refine LenQ.M ?_; conv => whnf
    refine tst_d H (fun b63 H => ?_) (fun b63 H => ?_)
    · conv => whnf
      obtain rfl := Option.some.inj H
      have H := HQ58
      try dsimp only at H
      refine Ari.w ?_; conv => whnf
      exact again_c [9, 10, 11, 12, 41, 42, 43, 44, 45, 46, 47, 48, 49, 50, 51, 52, 53, 54, 55, 56, 57, 58, 59, 60, 61, 62, 63, 64, 65, 66, 67, 68, 69, 70, 71, 72, 73, 74, 75, 76] n20 0 [] (.inr (⟨_, _, _, H, rfl, rfl⟩)) (Nat.lt_succ_self _) (Nat.zero_le _) rfl (by kernel_rfl) (by kernel_rfl) rfl trivial
    conv => whnf
    refine ixs_c (f := V.b) H (fun _ => rfl) (fun x64 H => ?_); conv => whnf
    refine tst_c H (fun b65 H => ?_) (fun b65 H => ?_)
    · conv => whnf
      refine Ari.w ?_; conv => whnf
      exact again_c [10, 11, 12, 45, 46, 47, 48, 49, 50, 51, 52, 53, 54, 55, 56, 57, 58, 59, 60, 61, 62, 63, 64, 65, 66, 67, 68, 69, 70, 71, 72, 73, 74, 75, 76] n59 0 [] (⟨_, _, _, H, rfl, rfl⟩) (Nat.lt_succ_self _) (Nat.zero_le _) rfl (by kernel_rfl) (by kernel_rfl) rfl trivial
    conv => whnf
    refine ask_c (p_mail_Take_v _) H rfl rfl (fun v66 H => ?_); conv => whnf
    refine ⟨Nat.le_of_ble_eq_true rfl, ?_⟩; conv => whnf
    refine Tst.not ?_
    refine tst_d H (fun b67 H => ?_) (fun b67 H => ?_)
    · conv => whnf
      iterate 6 (refine Tst.T ?_; conv => whnf)
      refine FootQ.mk ⟨rfl, ?_⟩; conv => whnf
      refine Tst.T ?_; conv => whnf
      obtain rfl := Option.some.inj H
      have H := HQ58
      try dsimp only at H
      obtain rfl := Option.some.inj H
      have H := HQ19
      try dsimp only at H
      exact fin0_c (enc := V.b) H (.inr rfl) (.cons (.tmp rfl) (.nil)) rfl rfl
    conv => whnf
    iterate 3 (refine Tst.F ?_; conv => whnf)
    refine Ari.w ?_; conv => whnf
    refine Tst.F ?_; conv => whnf
    refine ask_c (p_law25_key_v _) H rfl rfl (fun v68 H => ?_); conv => whnf
    iterate 2 (refine Tst.F ?_; conv => whnf)
    refine FootQ.mk ⟨rfl, ?_⟩; conv => whnf
    refine Tst.not ?_
    refine tst_d H (fun b69 H => ?_) (fun b69 H => ?_)
    · conv => whnf
      obtain rfl := Option.some.inj H
      have H := HQ58
      try dsimp only at H
      obtain rfl := Option.some.inj H
      have H := HQ19
      try dsimp only at H
      exact fin0_c (enc := V.b) H (.inr rfl) (.cons (.tmp rfl) (.nil)) rfl rfl
    conv => whnf
    iterate 2 (refine Ari.w ?_; conv => whnf)
    exact again_c [10, 11, 12, 45, 46, 47, 48, 49, 50, 51, 52, 53, 54, 55, 56, 57, 58, 59, 60, 61, 62, 63, 64, 65, 66, 67, 68, 69, 70, 71, 72, 73, 74, 75, 76] n59 0 [] (⟨_, _, _, H, rfl, rfl⟩) (Nat.lt_succ_self _) (Nat.zero_le _) rfl (by kernel_rfl) (by kernel_rfl) rfl trivial
  rw [p_law25_MailFirst_l1] at H
  conv => whnf
  refine LenQ.M ?_; conv => whnf
  refine tst_c H (fun b73 H => ?_) (fun b73 H => ?_)
  · conv => whnf
    refine Ari.w ?_; conv => whnf
    refine ask_c (p_law25_key_v _) H rfl rfl (fun v74 H => ?_); conv => whnf
    refine ixs_c (f := V.b) H (fun _ => rfl) (fun x75 H => ?_); conv => whnf
    refine Ari.w ?_; conv => whnf
    refine ask_c (p_mail_Put_v _ _ _) H rfl rfl (fun v76 H => ?_); conv => whnf
    refine FootQ.mk ⟨rfl, ?_⟩; conv => whnf
    refine tst_c H (fun b77 H => ?_) (fun b77 H => ?_)
    · conv => whnf
      obtain rfl := Option.some.inj H
      have H := HQ6
      try dsimp only at H
      exact fin0_c (enc := V.b) H (.inr rfl) (.cons (.tmp rfl) (.nil)) rfl rfl
    conv => whnf
    refine Ari.w ?_; conv => whnf
    exact again_c [5, 6, 17, 18, 19, 20, 21, 22, 23, 24, 25, 26, 27, 28, 29, 30, 31, 32, 33, 34, 35, 36, 37, 38, 39, 40] n7 0 [] (.inr (⟨_, _, H, rfl, rfl⟩)) (Nat.lt_succ_self _) (Nat.zero_le _) rfl (by kernel_rfl) (by kernel_rfl) rfl trivial
  conv => whnf
  obtain rfl := Option.some.inj H
  have H := HQ6
  try dsimp only at H
  obtain ⟨o79, HL80, HQ81⟩ := bind_c H
  refine loop_c [2, 3, 7, 8] [9, 10, 11, 12, 41, 42, 43, 44, 45, 46, 47, 48, 49, 50, 51, 52, 53, 54, 55, 56, 57, 58, 59, 60, 61, 62, 63, 64, 65, 66, 67, 68, 69, 70, 71, 72, 73, 74, 75, 76] [9, 10, 11, 12, 41, 42, 43, 44, 45, 46, 47, 48, 49, 50, 51, 52, 53, 54, 55, 56, 57, 58, 59, 60, 61, 62, 63, 64, 65, 66, 67, 68, 69, 70, 71, 72, 73, 74, 75, 76] (fun n vals st => (∃ y83 y84 y85, p_law25_MailFirst_l2  a0 n y83 y84 y85 = some o79 ∧ vals = [.b false, .sl (List.map MailEntry.v y83) false, .i y84, .i y85] ∧ st = [])) fuel 0 [] (⟨_, _, _, HL80, rfl, rfl⟩) (Nat.zero_le _) rfl (by kernel_rfl) (by kernel_rfl) rfl trivial ?_
  rintro (_ | n82) _ _ (⟨y83, y84, y85, H, rfl, rfl⟩)
  · rw [p_law25_MailFirst_l2] at H; cases H
  rw [p_law25_MailFirst_l2] at H
  conv => whnf
  refine tst_d H (fun b86 H => ?_) (fun b86 H => ?_)
  · conv => whnf
    obtain rfl := Option.some.inj H
    have H := HQ81
    try dsimp only at H
    refine LenQ.M ?_; conv => whnf
    refine tst_d H (fun b102 H => ?_) (fun b102 H => ?_)
    · conv => whnf
      iterate 7 (refine Tst.F ?_; conv => whnf)
      exact fin0_c (enc := V.b) H (.inr rfl) (.cons (.tmp rfl) (.nil)) rfl rfl
    conv => whnf
    refine Tst.T ?_; conv => whnf
    refine LenQ.M ?_; conv => whnf
    iterate 2 (refine Tst.T ?_; conv => whnf)
    refine tst_d H (fun b103 H => ?_) (fun b103 H => ?_)
    · conv => whnf
      iterate 3 (refine Tst.F ?_; conv => whnf)
      exact fin0_c (enc := V.b) H (.inr rfl) (.cons (.tmp rfl) (.nil)) rfl rfl
    conv => whnf
    iterate 2 (refine Tst.T ?_; conv => whnf)
    refine ask_c (p_law25_awake_v) H rfl rfl (fun v104 H => ?_); conv => whnf
    refine Tst.T ?_; conv => whnf
    exact fin0_c (enc := V.b) H (.inr rfl) (.cons (.tmp rfl) (.nil)) rfl rfl
  conv => whnf
  obtain ⟨o88, HL89, HQ90⟩ := bind_c H
  refine loop_c [2, 3, 7, 9] [10, 11, 12, 45, 46, 47, 48, 49, 50, 51, 52, 53, 54, 55, 56, 57, 58, 59, 60, 61, 62, 63, 64, 65, 66, 67, 68, 69, 70, 71, 72, 73, 74, 75, 76] [10, 11, 12, 45, 46, 47, 48, 49, 50, 51, 52, 53, 54, 55, 56, 57, 58, 59, 60, 61, 62, 63, 64, 65, 66, 67, 68, 69, 70, 71, 72, 73, 74, 75, 76] (fun n vals st => (∃ y92 y93 y94, p_law25_MailFirst_l3  a0 y85 n y92 y93 y94 = some o88 ∧ vals = [.b false, .sl (List.map MailEntry.v y92) false, .i y93, .i y94] ∧ st = [])) fuel 0 [] (⟨_, _, _, HL89, rfl, rfl⟩) (Nat.zero_le _) rfl (by kernel_rfl) (by kernel_rfl) rfl trivial ?_
  rintro (_ | n91) _ _ (⟨y92, y93, y94, H, rfl, rfl⟩)
  · rw [p_law25_MailFirst_l3] at H; cases H
  rw [p_law25_MailFirst_l3] at H
  conv => whnf
  refine LenQ.M ?_; conv => whnf
  refine tst_d H (fun b95 H => ?_) (fun b95 H => ?_)
  · conv => whnf
    obtain rfl := Option.some.inj H
    have H := HQ90
    try dsimp only at H
    refine Ari.w ?_; conv => whnf
    exact again_c [9, 10, 11, 12, 41, 42, 43, 44, 45, 46, 47, 48, 49, 50, 51, 52, 53, 54, 55, 56, 57, 58, 59, 60, 61, 62, 63, 64, 65, 66, 67, 68, 69, 70, 71, 72, 73, 74, 75, 76] n82 0 [] (⟨_, _, _, H, rfl, rfl⟩) (Nat.lt_succ_self _) (Nat.zero_le _) rfl (by kernel_rfl) (by kernel_rfl) rfl trivial
  conv => whnf
  refine ixs_c (f := V.b) H (fun _ => rfl) (fun x96 H => ?_); conv => whnf
  refine tst_c H (fun b97 H => ?_) (fun b97 H => ?_)
  · conv => whnf
    refine Ari.w ?_; conv => whnf
    exact again_c [10, 11, 12, 45, 46, 47, 48, 49, 50, 51, 52, 53, 54, 55, 56, 57, 58, 59, 60, 61, 62, 63, 64, 65, 66, 67, 68, 69, 70, 71, 72, 73, 74, 75, 76] n91 0 [] (⟨_, _, _, H, rfl, rfl⟩) (Nat.lt_succ_self _) (Nat.zero_le _) rfl (by kernel_rfl) (by kernel_rfl) rfl trivial
  conv => whnf
  refine ask_c (p_mail_Take_v _) H rfl rfl (fun v98 H => ?_); conv => whnf
  refine ⟨Nat.le_of_ble_eq_true rfl, ?_⟩; conv => whnf
  refine Tst.not ?_
  refine tst_d H (fun b99 H => ?_) (fun b99 H => ?_)
  · conv => whnf
    iterate 6 (refine Tst.T ?_; conv => whnf)
    refine FootQ.mk ⟨rfl, ?_⟩; conv => whnf
    refine Tst.T ?_; conv => whnf
    obtain rfl := Option.some.inj H
    have H := HQ90
    try dsimp only at H
    obtain rfl := Option.some.inj H
    have H := HQ81
    try dsimp only at H
    exact fin0_c (enc := V.b) H (.inr rfl) (.cons (.tmp rfl) (.nil)) rfl rfl
  conv => whnf
  iterate 3 (refine Tst.F ?_; conv => whnf)
  refine Ari.w ?_; conv => whnf
  refine Tst.F ?_; conv => whnf
  refine ask_c (p_law25_key_v _) H rfl rfl (fun v100 H => ?_); conv => whnf
  iterate 2 (refine Tst.F ?_; conv => whnf)
  refine FootQ.mk ⟨rfl, ?_⟩; conv => whnf
  refine Tst.not ?_
  refine tst_d H (fun b101 H => ?_) (fun b101 H => ?_)
  · conv => whnf
    obtain rfl := Option.some.inj H
    have H := HQ90
    try dsimp only at H
    obtain rfl := Option.some.inj H
    have H := HQ81
    try dsimp only at H
    exact fin0_c (enc := V.b) H (.inr rfl) (.cons (.tmp rfl) (.nil)) rfl rfl
  conv => whnf
  iterate 2 (refine Ari.w ?_; conv => whnf)
  exact again_c [10, 11, 12, 45, 46, 47, 48, 49, 50, 51, 52, 53, 54, 55, 56, 57, 58, 59, 60, 61, 62, 63, 64, 65, 66, 67, 68, 69, 70, 71, 72, 73, 74, 75, 76] n91 0 [] (⟨_, _, _, H, rfl, rfl⟩) (Nat.lt_succ_self _) (Nat.zero_le _) rfl (by kernel_rfl) (by kernel_rfl) rfl trivial
end Go.Proofs.Ythmgficajgedlaa
/- What waits of each key, in plain words: finding, counting, checking. -/
namespace Go.Proofs.Ythmgficajgedlaa
open Go.RowKit
abbrev ME := MailEntry
set_option maxRecDepth 100000 in
theorem aw25 : p_law25_awake = some true := by kernel_rfl
def mkey (m : Nat) : ByteArray := ⟨#[UInt8.ofNat (97 + m), 64, 120, 32, 114]⟩
theorem mkey_ok0 : ((List.range 20).all fun m => match p_mail_key (mkey m) with | some true => true | _ => false) = true := by kernel_rfl
theorem mkey_ok {m : Nat} (h : m < 20) : p_mail_key (mkey m) = some true := by
  have := List.all_eq_true.1 mkey_ok0 m (List.mem_range.2 h)
  revert this
  rcases p_mail_key (mkey m) with _ | _ | _ <;> simp
theorem mkey_inj0 : ((List.range 20).all fun m => (List.range 20).all fun n => m == n || !((mkey m).data == (mkey n).data)) = true := by kernel_rfl
theorem mkey_inj {m n : Nat} (hm : m < 20) (hn : n < 20) (h : mkey m = mkey n) : m = n := by
  have := List.all_eq_true.1 (List.all_eq_true.1 mkey_inj0 m (List.mem_range.2 hm)) n (List.mem_range.2 hn)
  rw [h] at this
  simpa using this
def isK (k : ByteArray) (x : ME) : Bool := x.Key.toList == k.toList
theorem isK_iff {k : ByteArray} {x : ME} : isK k x = true ↔ x.Key = k := eqT_iff
theorem off_l (st : List ME) (hn : st.length ≤ 1000) : ∀ (n k F c : Nat), k + n = st.length → n < F → c ≤ k → p_mail_Off_l1 st st.length F c k = some (((c + (st.drop k).countP (fun x => !x.P.On) : Nat) : Int), (st.length : Int))
  | 0, k, F + 1, c, hk, hF, hc => by
    have e : st.drop k = [] := List.drop_of_length_le (by omega)
    have : k = st.length := by omega
    rw [p_mail_Off_l1, lt_ff (by omega), e, this]; rfl
  | n + 1, k, F + 1, c, hk, hF, hc => by
    have hlt : k < st.length := by omega
    rw [p_mail_Off_l1, lt_tt hlt, at_lt hlt, drop_at hlt, List.countP_cons]
    simp only [cond_true, Option.bind_some]
    rw [w64_succ (by omega), w64_succ (by omega)]
    cases st[k].P.On with
    | true =>
      simp only [cond_true]
      rw [off_l st hn n (k + 1) F c (by omega) (by omega) (by omega)]; rfl
    | false =>
      simp only [cond_false]
      rw [off_l st hn n (k + 1) F (c + 1) (by omega) (by omega) (by omega)]
      simp only [Bool.not_false, if_true]
      congr 3; omega
theorem off_p {st : List ME} (hn : st.length ≤ 1000) : p_mail_Off st = some ((st.countP (fun x => !x.P.On) : Nat) : Int) := by
  unfold p_mail_Off
  have := off_l st hn st.length 0 fuel 0 (by omega) (by have := fuel_pos; omega) (Nat.le_refl _)
  rw [show ((0 : Int)) = ((0 : Nat) : Int) from rfl, this, List.drop_zero, Nat.zero_add]; rfl
theorem find_l (key : ByteArray) (st : List ME) (hn : st.length ≤ 1000) : ∀ (n k F : Nat), k + n = st.length → n < F → ∃ q, p_mail_Find_l1 key st st.length F (-1) k = some (if (st.drop k).any (isK key) = true then ((k + (st.drop k).findIdx (isK key) : Nat) : Int) else -1, q)
  | 0, k, F + 1, hk, hF => by
    have e : st.drop k = [] := List.drop_of_length_le (by omega)
    refine ⟨k, ?_⟩
    rw [p_mail_Find_l1, lt_ff (by omega), e]; rfl
  | n + 1, k, F + 1, hk, hF => by
    have hlt : k < st.length := by omega
    obtain ⟨q, ih⟩ := find_l key st hn n (k + 1) F (by omega) (by omega)
    rw [p_mail_Find_l1, lt_tt hlt, at_lt hlt, drop_at hlt]
    simp only [cond_true, Option.bind_some]
    change ∃ q, (bif isK key st[k] then _ else _) = _
    rw [List.any_cons, List.findIdx_cons]
    cases isK key st[k] with
    | true => exact ⟨k, rfl⟩
    | false =>
      refine ⟨q, ?_⟩
      simp only [cond_false, Bool.false_or]
      rw [w64_succ (by omega), ih]
      split
      · congr 3; omega
      · rfl
theorem find_p {st : List ME} (hn : st.length ≤ 1000) (key : ByteArray) : p_mail_Find st key = some (if st.any (isK key) = true then ((st.findIdx (isK key) : Nat) : Int) else -1) := by
  unfold p_mail_Find
  obtain ⟨q, h⟩ := find_l key st hn st.length 0 fuel (by omega) (by have := fuel_pos; omega)
  rw [show ((0 : Int)) = ((0 : Nat) : Int) from rfl, h, List.drop_zero, Nat.zero_add]; rfl
/-- the program's state: what is off, what is on; keys apart. -/
structure Ok (a b : List ME) : Prop where
  len : a.length + b.length ≤ 16
  key : ∀ x ∈ a ++ b, ∃ m, m < 20 ∧ x.Key = mkey m
  nod : (a ++ b).Pairwise fun x y => x.Key ≠ y.Key
  offs : ∀ x ∈ a, x.P.On = false
  ons : ∀ x ∈ b, x.P.On = true
  fit : ∀ x ∈ a ++ b, x.P.Show = 0 ∧ x.P.Prio = 0 ∧ 0 ≤ x.P.Seq ∧ x.P.Seq ≤ 1000
theorem Ok.n {a b : List ME} (h : Ok a b) : (a ++ b).length ≤ 16 := by rw [List.length_append]; exact h.len
theorem Ok.cnt {a b : List ME} (h : Ok a b) : (a ++ b).countP (fun x => !x.P.On) = a.length := by
  rw [List.countP_append, List.countP_eq_length.2 (fun x hx => by rw [h.offs x hx]; rfl), List.countP_eq_zero.2 (fun x hx => by rw [h.ons x hx]; simp)]; rfl
theorem Ok.off {a b : List ME} (h : Ok a b) : p_mail_Off (a ++ b) = some (a.length : Int) := by rw [off_p (by have := h.n; omega), h.cnt]
theorem find_mid {l r : List ME} {y : ME} (hl : ∀ x ∈ l, x.Key ≠ y.Key) (hn : (l ++ y :: r).length ≤ 1000) : p_mail_Find (l ++ y :: r) y.Key = some (l.length : Int) := by
  have e : (l ++ y :: r).any (isK y.Key) = true := by simp [isK_iff.2 rfl]
  have i : (l ++ y :: r).findIdx (isK y.Key) = l.length := by
    rw [List.findIdx_append, if_neg (by
      intro hlt
      obtain ⟨x, h1, h2⟩ := List.findIdx_lt_length.1 hlt
      exact hl x h1 (isK_iff.1 h2))]
    rw [List.findIdx_cons, isK_iff.2 rfl, cond_true, Nat.zero_add]
  rw [find_p hn, if_pos e, i]
theorem find_no {st : List ME} {k : ByteArray} (hn : st.length ≤ 1000) (h : ∀ x ∈ st, x.Key ≠ k) : p_mail_Find st k = some (-1) := by
  rw [find_p hn, if_neg (by
    intro hh
    obtain ⟨x, h1, h2⟩ := List.any_eq_true.1 hh
    exact h x h1 (isK_iff.1 h2))]
theorem nod_split {st : List ME} (h : st.Pairwise fun x y => x.Key ≠ y.Key) {j : Nat} (hj : j < st.length) : ∀ x ∈ st.take j, x.Key ≠ st[j].Key := by
  have e : st = st.take j ++ st[j] :: st.drop (j + 1) := by rw [← List.drop_eq_getElem_cons hj, List.take_append_drop]
  intro x hx
  have h2 := h
  rw [e, List.pairwise_append] at h2
  exact h2.2.2 x hx _ List.mem_cons_self
theorem find_at {st : List ME} (h : st.Pairwise fun x y => x.Key ≠ y.Key) (hn : st.length ≤ 1000) {j : Nat} (hj : j < st.length) : p_mail_Find st st[j].Key = some (j : Int) := by
  have e : st = st.take j ++ st[j] :: st.drop (j + 1) := by rw [← List.drop_eq_getElem_cons hj, List.take_append_drop]
  have := find_mid (l := st.take j) (y := st[j]) (r := st.drop (j + 1)) (nod_split h hj) (by rw [← e]; exact hn)
  rw [← e] at this
  rw [this, List.length_take, Nat.min_eq_left (by omega)]
theorem ord_l {a b : List ME} (h : Ok a b) : ∀ (n k F : Nat), k + n = (a ++ b).length → n < F → p_mail_State_ordered_l1 (a ++ b) a.length (a ++ b) (a ++ b).length F k = some (.inr ((a ++ b).length : Int))
  | 0, k, F + 1, hk, hF => by
    have : k = (a ++ b).length := by omega
    rw [p_mail_State_ordered_l1, lt_ff (by omega), this]; rfl
  | n + 1, k, F + 1, hk, hF => by
    have hlt : k < (a ++ b).length := by omega
    have hn := h.n
    rw [p_mail_State_ordered_l1, lt_tt hlt, at_lt hlt]
    simp only [cond_true, Option.bind_some]
    have e1 : (a ++ b)[k].P.On = decide ((a.length : Int) ≤ (k : Int)) := by
      rw [List.getElem_append]
      split
      · rename_i hh
        rw [h.offs _ (List.getElem_mem hh), decide_eq_false (by omega)]
      · rename_i hh
        rw [h.ons _ (List.getElem_mem _), decide_eq_true (by omega)]
    rw [e1, find_at h.nod (by omega) hlt]
    simp only [bne_self_eq_false, cond_false, Option.bind_some]
    rw [w64_succ (by omega)]
    exact ord_l h n (k + 1) F (by omega) (by omega)
theorem Ok.ord {a b : List ME} (h : Ok a b) : p_mail_State_ordered (a ++ b) = some true := by
  unfold p_mail_State_ordered
  have := ord_l h (a ++ b).length 0 fuel (by omega) (by have := fuel_pos; have := h.n; omega)
  have z0 : ((0 : Nat) : Int) = 0 := rfl
  rw [z0] at this
  rw [h.off]
  simp only [Option.bind_some]
  rw [this]; rfl
theorem chk1_l (st : List ME) (hn : st.length ≤ 1000) (h : ∀ x ∈ st, p_mail_key x.Key = some true) : ∀ (n k F : Nat), k + n = st.length → n < F → p_mail_Check_l1 st st.length F k = some (.inr (st.length : Int))
  | 0, k, F + 1, hk, hF => by
    have : k = st.length := by omega
    rw [p_mail_Check_l1, lt_ff (by omega), this]; rfl
  | n + 1, k, F + 1, hk, hF => by
    have hlt : k < st.length := by omega
    rw [p_mail_Check_l1, lt_tt hlt, at_lt hlt]
    simp only [cond_true, Option.bind_some, h _ (List.getElem_mem hlt)]
    rw [w64_succ (by omega)]
    exact chk1_l st hn h n (k + 1) F (by omega) (by omega)
theorem chk2_l (st : List ME) (hn : st.length ≤ 1000) (h : ∀ x ∈ st, p_pres_Check x.P = some 0) : ∀ (n k F : Nat), k + n = st.length → n < F → p_mail_Check_l2 st st.length F k = some (.inr (st.length : Int))
  | 0, k, F + 1, hk, hF => by
    have : k = st.length := by omega
    rw [p_mail_Check_l2, lt_ff (by omega), this]; rfl
  | n + 1, k, F + 1, hk, hF => by
    have hlt : k < st.length := by omega
    rw [p_mail_Check_l2, lt_tt hlt, at_lt hlt]
    simp only [cond_true, Option.bind_some, h _ (List.getElem_mem hlt)]
    simp only [bne_self_eq_false, cond_false]
    rw [w64_succ (by omega)]
    exact chk2_l st hn h n (k + 1) F (by omega) (by omega)
theorem pchk {p : PresPres} (h : p.Show = 0 ∧ p.Prio = 0 ∧ 0 ≤ p.Seq ∧ p.Seq ≤ 1000) : p_pres_Check p = some 0 := by
  obtain ⟨on, sh, pr, sq⟩ := p
  simp only at h
  obtain ⟨rfl, rfl, h1, h2⟩ := h
  unfold p_pres_Check p_pres_in
  simp only
  rw [decide_eq_true h1, decide_eq_true (show sq ≤ 1099511627776 by omega)]
  cases on <;> simp
theorem Ok.chk {a b : List ME} (h : Ok a b) : p_mail_Check (a ++ b) = some 0 := by
  have hn := h.n
  unfold p_mail_Check
  rw [decide_eq_false (by omega)]
  have c1 := chk1_l (a ++ b) (by omega) (fun x hx => by obtain ⟨m, h1, h2⟩ := h.key x hx; rw [h2]; exact mkey_ok h1) (a ++ b).length 0 fuel (by omega) (by have := fuel_pos; omega)
  have c2 := chk2_l (a ++ b) (by omega) (fun x hx => pchk (h.fit x hx)) (a ++ b).length 0 fuel (by omega) (by have := fuel_pos; omega)
  have z0 : ((0 : Nat) : Int) = 0 := rfl
  rw [z0] at c1 c2
  simp only [cond_false, c1, c2, Option.bind_some, h.ord, cond_true]
end Go.Proofs.Ythmgficajgedlaa
/- What waits of each key: putting, taking. -/
namespace Go.Proofs.Ythmgficajgedlaa
open Go.RowKit
theorem clone_ok {l : List ME} (h : l.length ≤ 1000) : clone? l = some l := by unfold clone?; rw [if_pos (by omega)]
theorem ins_mid {l r : List ME} {x : ME} {n : Int} (hn : n = (l.length : Int)) (h : (l ++ r).length ≤ 1000) : insAt? (l ++ r) n x = some (l ++ x :: r) := by
  subst hn
  unfold insAt?
  rw [List.length_append] at h
  rw [if_pos (by rw [List.length_append]; omega)]
  simp
theorem del_mid {l r : List ME} {y : ME} {n m : Int} (hn : n = (l.length : Int)) (hm : m = n + 1) (h : (l ++ y :: r).length ≤ 1000) : del? (l ++ y :: r) n m = some (l ++ r) := by
  subst hn hm
  unfold del?
  rw [List.length_append, List.length_cons] at h
  rw [if_pos (by rw [List.length_append, List.length_cons]; omega)]
  rw [show ((l.length : Int) + 1).toNat = l.length + 1 by omega, Int.toNat_natCast, List.take_left' rfl, show l ++ y :: r = (l ++ [y]) ++ r by simp, List.drop_left' (by simp)]
theorem at_mid {l r : List ME} {y : ME} {n : Int} (hn : n = (l.length : Int)) : at? (l ++ y :: r) n = some y := by
  subst hn
  rw [at_nat, List.getElem?_append_right (Nat.le_refl _)]; simp
/-- what a new entry leaves of what is off, of what is on. -/
def offA (a : List ME) (x : ME) : List ME := if x.P.On then a else a ++ [x]
def onA (b : List ME) (x : ME) : List ME := if x.P.On then b ++ [x] else b
/-- an entry that may come in. -/
structure Come (x : ME) (m : Nat) : Prop where
  lt : m < 20
  key : x.Key = mkey m
  fit : x.P.Show = 0 ∧ x.P.Prio = 0 ∧ 0 ≤ x.P.Seq ∧ x.P.Seq ≤ 1000
theorem ok_ins {a b : List ME} {x : ME} {m : Nat} (h : Ok a b) (hl : a.length + b.length < 16) (hx : Come x m) (hno : ∀ y ∈ a ++ b, y.Key ≠ mkey m) : Ok (offA a x) (onA b x) := by
  have hmem : ∀ y, y ∈ offA a x ++ onA b x ↔ y = x ∨ y ∈ a ++ b := fun y => by
    unfold offA onA
    cases x.P.On <;> simp [or_comm, or_assoc, or_left_comm]
  have hp : (offA a x ++ onA b x).Perm (x :: (a ++ b)) := by
    unfold offA onA
    cases x.P.On with
    | true => simp only [if_true]; rw [← List.append_assoc]; exact List.perm_append_singleton _ _
    | false => simp only [Bool.false_eq_true, if_false, List.append_assoc, List.singleton_append]; exact List.perm_middle
  refine ⟨?_, ?_, ?_, ?_, ?_, ?_⟩
  · have := hp.length_eq
    rw [List.length_append, List.length_cons, List.length_append] at this
    omega
  · intro y hy
    rcases (hmem y).1 hy with rfl | hy
    · exact ⟨m, hx.lt, hx.key⟩
    · exact h.key y hy
  · refine (hp.pairwise_iff (fun {u v} (huv : u.Key ≠ v.Key) => (Ne.symm huv))).2 (List.pairwise_cons.2 ⟨fun y hy => ?_, h.nod⟩)
    rw [hx.key]; exact (hno y hy).symm
  · intro y hy
    unfold offA at hy
    cases ho : x.P.On with
    | true => rw [ho] at hy; exact h.offs y (by simpa using hy)
    | false =>
      rw [ho] at hy
      simp only [Bool.false_eq_true, if_false, List.mem_append, List.mem_singleton] at hy
      rcases hy with hy | rfl
      · exact h.offs y hy
      · exact ho
  · intro y hy
    unfold onA at hy
    cases ho : x.P.On with
    | false => rw [ho] at hy; exact h.ons y (by simpa using hy)
    | true =>
      rw [ho] at hy
      simp only [if_true, List.mem_append, List.mem_singleton] at hy
      rcases hy with hy | rfl
      · exact h.ons y hy
      · exact ho
  · intro y hy
    rcases (hmem y).1 hy with rfl | hy
    · exact hx.fit
    · exact h.fit y hy
/-- the end of Put. -/
theorem put_end {a b : List ME} (h : Ok a b) (k : ByteArray) (p : PresPres) : (bif p.On then (insAt? (a ++ b) ((a ++ b).length : Int) (MailEntry.mk k p)).bind fun v12 => some (v12, (0 : Int)) else (p_mail_Off (a ++ b)).bind fun v13 => (insAt? (a ++ b) v13 (MailEntry.mk k p)).bind fun v14 => some (v14, (0 : Int))) = some (offA a ⟨k, p⟩ ++ onA b ⟨k, p⟩, 0) := by
  have hn := h.n
  unfold offA onA
  cases ho : p.On with
  | true =>
    have := ins_mid (l := a ++ b) (r := []) (x := MailEntry.mk k p) (n := ((a ++ b).length : Int)) rfl (by rw [List.append_nil]; omega)
    rw [List.append_nil] at this
    rw [cond_true, this]; simp [ho]
  | false =>
    rw [cond_false, h.off]
    simp only [Option.bind_some]
    rw [ins_mid rfl (by omega)]; simp [ho]
theorem put_full {a b : List ME} {k : ByteArray} {p : PresPres} {m : Nat} (h : Ok a b) (hx : Come ⟨k, p⟩ m) (hno : ∀ y ∈ a ++ b, y.Key ≠ mkey m) (hl : a.length + b.length = 16) : p_mail_Put (a ++ b) k p = some (a ++ b, 7) := by
  have hn := h.n
  have hk : k = mkey m := hx.key
  subst hk
  unfold p_mail_Put
  rw [clone_ok (by omega), h.chk, mkey_ok hx.lt, pchk hx.fit, find_no (by omega) hno]
  simp only [Option.bind_some, bne_self_eq_false, cond_false, cond_true, beq_self_eq_true]
  rw [List.length_append, hl]; rfl
theorem put_new {a b : List ME} {k : ByteArray} {p : PresPres} {m : Nat} (h : Ok a b) (hx : Come ⟨k, p⟩ m) (hno : ∀ y ∈ a ++ b, y.Key ≠ mkey m) (hl : a.length + b.length < 16) : p_mail_Put (a ++ b) k p = some (offA a ⟨k, p⟩ ++ onA b ⟨k, p⟩, 0) := by
  have hn := h.n
  have hk : k = mkey m := hx.key
  subst hk
  unfold p_mail_Put
  rw [clone_ok (by omega), h.chk, mkey_ok hx.lt, pchk hx.fit, find_no (by omega) hno]
  simp only [Option.bind_some, bne_self_eq_false, cond_false, cond_true, beq_self_eq_true]
  rw [show (((a ++ b).length : Int) == (16 : Int)) = false by rw [List.length_append]; simp; omega, cond_false]
  exact put_end h _ p
theorem take_p {a b : List ME} {x : ME} {r : List ME} (h : Ok a b) (he : a ++ b = x :: r) : p_mail_Take (a ++ b) = some (r, x, true) := by
  have hc := h.chk
  rw [he] at hc
  unfold p_mail_Take
  rw [he, hc]
  rw [show (((x :: r).length : Int) == (0 : Int)) = false by rw [List.length_cons]; simp; omega]
  have c1 : cut? (x :: r) (some (1 : Int)) none = some r := by
    have := cutFrom (l := x :: r) (k := 1) (by simp)
    simpa using this
  simp only [cond_false, Option.bind_some, bne_self_eq_false, c1]
  rfl
theorem take_0 : p_mail_Take [] = some ([], ⟨⟨#[]⟩, ⟨false, 0, 0, 0⟩⟩, false) := rfl
theorem ok_tail {a b r : List ME} {x : ME} (h : Ok a b) (he : a ++ b = x :: r) : ∃ a' b', r = a' ++ b' ∧ Ok a' b' ∧ (x.P.On = true → a = []) := by
  cases a with
  | cons y a' =>
    simp only [List.cons_append, List.cons.injEq] at he
    obtain ⟨rfl, rfl⟩ := he
    refine ⟨a', b, rfl, ⟨by have := h.len; simp at this; omega, fun z hz => h.key z (by simp at hz ⊢; exact .inr hz), ?_, fun z hz => h.offs z (by simp [hz]), h.ons, fun z hz => h.fit z (by simp at hz ⊢; exact .inr hz)⟩, fun hx => ?_⟩
    · have := h.nod; rw [List.cons_append, List.pairwise_cons] at this; exact this.2
    · have := h.offs y (by simp); rw [this] at hx; cases hx
  | nil =>
    simp only [List.nil_append] at he
    subst he
    refine ⟨[], r, rfl, ⟨by have := h.len; simp at this ⊢; omega, fun z hz => h.key z (by simp at hz ⊢; exact .inr hz), ?_, (fun z hz => by cases hz), fun z hz => h.ons z (by simp [hz]), fun z hz => h.fit z (by simp at hz ⊢; exact .inr hz)⟩, fun _ => rfl⟩
    have := h.nod; rw [List.nil_append, List.pairwise_cons] at this; exact this.2
theorem ok_nil : Ok [] [] := ⟨by simp, (fun _ h => by cases h), .nil, (fun _ h => by cases h), (fun _ h => by cases h), (fun _ h => by cases h)⟩
end Go.Proofs.Ythmgficajgedlaa
/- MailFirst in plain words. -/
namespace Go.Proofs.Ythmgficajgedlaa
open Go.RowKit
theorem key25_0 : ((List.range 256).all fun n => match p_law25_key (n : Int) with | some s => s.data == (mkey (n % 20)).data | none => false) = true := by kernel_rfl
theorem key25 {n : Nat} (h : n < 256) : p_law25_key (n : Int) = some (mkey (n % 20)) := by
  have := List.all_eq_true.1 key25_0 n (List.mem_range.2 h)
  revert this
  cases p_law25_key (n : Int) with
  | none => intro h; cases h
  | some s =>
    intro h
    have : s.data = (mkey (n % 20)).data := by simpa using h
    congr 1
    cases s; simp only at this; rw [this]
def entF (l : List Bool) (j : Nat) : ME := ⟨mkey j, ⟨l.getD j false, 0, 0, 50 - (j : Int)⟩⟩
def selF (l : List Bool) (b : Bool) (i n : Nat) : List ME := ((List.range' i n).filter fun j => l.getD j false == b).map (entF l)
theorem sel_mem {l : List Bool} {b : Bool} {i n : Nat} {y : ME} (h : y ∈ selF l b i n) : ∃ j, i ≤ j ∧ j < i + n ∧ y = entF l j ∧ l.getD j false = b := by
  obtain ⟨j, h1, rfl⟩ := List.mem_map.1 h
  obtain ⟨h2, h3⟩ := List.mem_filter.1 h1
  have := List.mem_range'_1.1 h2
  exact ⟨j, this.1, this.2, rfl, by simpa using h3⟩
theorem sel_succ (l : List Bool) (b : Bool) (n : Nat) : selF l b 0 (n + 1) = if l.getD n false = b then selF l b 0 n ++ [entF l n] else selF l b 0 n := by
  unfold selF
  rw [List.range'_concat, List.filter_append, List.map_append, Nat.zero_add, Nat.one_mul]
  by_cases h : l.getD n false = b
  · rw [if_pos h, List.filter_cons, if_pos (by simpa using h)]; rfl
  · rw [if_neg h, List.filter_cons, if_neg (by simpa using h)]; simp
theorem sel_cons (l : List Bool) (b : Bool) (i n : Nat) : selF l b i (n + 1) = if l.getD i false = b then entF l i :: selF l b (i + 1) n else selF l b (i + 1) n := by
  unfold selF
  rw [List.range'_succ, List.filter_cons]
  by_cases h : l.getD i false = b
  · rw [if_pos h, if_pos (by simpa using h)]; rfl
  · rw [if_neg h, if_neg (by simpa using h)]
theorem sel_len (l : List Bool) : ∀ n, (selF l false 0 n).length + (selF l true 0 n).length = n
  | 0 => rfl
  | n + 1 => by
    have := sel_len l n
    rw [sel_succ, sel_succ]
    cases l.getD n false <;> simp <;> omega
theorem ent_come {l : List Bool} {k : Nat} (h : k < 16) : Come (entF l k) k := ⟨by omega, rfl, rfl, rfl, by unfold entF; simp only; omega, by unfold entF; simp only; omega⟩
theorem sel_off (l : List Bool) (k : Nat) : offA (selF l false 0 k) (entF l k) = selF l false 0 (k + 1) := by
  rw [sel_succ]; unfold offA; change (if l.getD k false = true then _ else _) = _
  cases l.getD k false <;> simp
theorem sel_on (l : List Bool) (k : Nat) : onA (selF l true 0 k) (entF l k) = selF l true 0 (k + 1) := by
  rw [sel_succ]; unfold onA; change (if l.getD k false = true then _ else _) = _
  cases l.getD k false <;> simp
theorem sel_no {l : List Bool} {k : Nat} (hk : k < 16) : ∀ y ∈ selF l false 0 k ++ selF l true 0 k, y.Key ≠ mkey k := by
  intro y hy he
  have : ∃ j, j < k ∧ y.Key = mkey j := by
    rcases List.mem_append.1 hy with hy | hy <;> obtain ⟨j, _, h2, rfl, _⟩ := sel_mem hy <;> exact ⟨j, by omega, rfl⟩
  obtain ⟨j, h1, h2⟩ := this
  have := mkey_inj (m := j) (n := k) (by omega) (by omega) (by rw [← h2, he])
  omega
theorem sel_ok (l : List Bool) : ∀ k, k ≤ 16 → Ok (selF l false 0 k) (selF l true 0 k)
  | 0, _ => ok_nil
  | k + 1, h => by
    have := ok_ins (sel_ok l k (by omega)) (by rw [sel_len]; omega) (ent_come (l := l) (by omega)) (sel_no (by omega))
    rwa [sel_off, sel_on] at this
theorem sel_put {l : List Bool} {k : Nat} (hk : k < 16) : p_mail_Put (selF l false 0 k ++ selF l true 0 k) (mkey k) ⟨l.getD k false, 0, 0, 50 - (k : Int)⟩ = some (selF l false 0 (k + 1) ++ selF l true 0 (k + 1), 0) := by
  have := put_new (sel_ok l k (by omega)) (ent_come (l := l) hk) (sel_no hk) (by rw [sel_len]; omega)
  rw [← sel_off, ← sel_on]; exact this
theorem u8_nat {k : Nat} (h : k < 256) : IntKind.wrap .u8 (k : Int) = (k : Int) := by
  simp only [IntKind.wrap, IntKind.signed, IntKind.bits]
  first | omega | (simp; omega)
theorem mf1_l (l : List Bool) (hl : l.length ≤ 16) : ∀ (n k F : Nat), k + n = l.length → n < F → p_law25_MailFirst_l1 l F (selF l false 0 k ++ selF l true 0 k) k = some (.inr (selF l false 0 l.length ++ selF l true 0 l.length, (l.length : Int)))
  | 0, k, F + 1, hk, hF => by
    have : k = l.length := by omega
    rw [p_law25_MailFirst_l1, lt_ff (by omega), this]; rfl
  | n + 1, k, F + 1, hk, hF => by
    have hlt : k < l.length := by omega
    have e : l[k] = l.getD k false := by rw [List.getD_eq_getElem?_getD, List.getElem?_eq_getElem hlt]; rfl
    rw [p_law25_MailFirst_l1, lt_tt hlt, at_lt hlt, u8_nat (by omega), key25 (by omega), Nat.mod_eq_of_lt (by omega), w64_id (by omega), e]
    simp only [cond_true, Option.bind_some]
    rw [sel_put (by omega)]
    simp only [Option.bind_some, bne_self_eq_false, cond_false]
    rw [w64_succ (by omega)]
    exact mf1_l l hl n (k + 1) F (by omega) (by omega)
theorem mf3_l (l : List Bool) (hl : l.length ≤ 16) (b : Bool) (t : Int) (ht : (t == 1) = b) (R : List ME) : ∀ (n k F c : Nat), k + n = l.length → n < F → c + n ≤ 100 → (∃ a' b', selF l b k n ++ R = a' ++ b' ∧ Ok a' b') → p_law25_MailFirst_l3 l t F (selF l b k n ++ R) c k = some (.inr (R, ((c + (selF l b k n).length : Nat) : Int), (l.length : Int)))
  | 0, k, F + 1, c, hk, hF, hc, _ => by
    have : k = l.length := by omega
    rw [p_law25_MailFirst_l3, lt_ff (by omega), this]; rfl
  | n + 1, k, F + 1, c, hk, hF, hc, ⟨a', b', h1, h2⟩ => by
    have hlt : k < l.length := by omega
    have e : l[k] = l.getD k false := by rw [List.getD_eq_getElem?_getD, List.getElem?_eq_getElem hlt]; rfl
    rw [sel_cons] at h1 ⊢
    rw [p_law25_MailFirst_l3, lt_tt hlt, at_lt hlt, e, ht]
    simp only [cond_true, Option.bind_some]
    by_cases hb : l.getD k false = b
    · rw [if_pos hb, List.cons_append] at h1
      rw [if_pos hb, hb]
      simp only [bne_self_eq_false, cond_false, List.cons_append]
      obtain ⟨a2, b2, g1, g2, _⟩ := ok_tail h2 h1.symm
      have ht' := take_p h2 h1.symm
      rw [h1, ht', u8_nat (by omega), key25 (by omega), Nat.mod_eq_of_lt (by omega)]
      have ek : ((entF l k).Key.toList == (mkey k).toList) = true := eqT_refl _
      simp only [Option.bind_some, cond_true, ek]
      rw [w64_succ (by omega), w64_succ (by omega), mf3_l l hl b t ht R n (k + 1) F (c + 1) (by omega) (by omega) (by omega) ⟨a2, b2, g1, g2⟩]
      simp only [List.length_cons]
      congr 4; omega
    · rw [if_neg hb] at h1 ⊢
      have : (l.getD k false != b) = true := by simpa using hb
      rw [this]
      simp only [cond_true]
      rw [w64_succ (by omega)]
      exact mf3_l l hl b t ht R n (k + 1) F c (by omega) (by omega) (by omega) ⟨a', b', h1, h2⟩
theorem ok_right {a b : List ME} (h : Ok a b) : Ok [] b :=
  ⟨by have := h.len; simp; omega, fun x hx => h.key x (by simp at hx ⊢; exact .inr hx), (List.pairwise_append.1 h.nod).2.1, (fun _ h => by cases h), h.ons, fun x hx => h.fit x (by simp at hx ⊢; exact .inr hx)⟩
theorem mailFirst_pure (l : List Bool) : p_law25_MailFirst l = some true := by
  unfold p_law25_MailFirst
  by_cases hl : 16 < l.length
  · rw [decide_eq_true (show (16 : Int) < (l.length : Int) by omega), aw25]; rfl
  · rw [decide_eq_false (show ¬ (16 : Int) < (l.length : Int) by omega)]
    have hl' : l.length ≤ 16 := by omega
    have hf := fuel_pos
    have z0 : ((0 : Nat) : Int) = 0 := rfl
    have z1 : ((1 : Nat) : Int) = 1 := rfl
    have m1 := mf1_l l hl' l.length 0 fuel (by omega) (by omega)
    have hok := sel_ok l l.length hl'
    have hlen := sel_len l l.length
    have m2 := mf3_l l hl' false 0 rfl (selF l true 0 l.length) l.length 0 fuel 0 (by omega) (by omega) (by omega) ⟨_, _, rfl, hok⟩
    have m3 := mf3_l l hl' true 1 rfl [] l.length 0 fuel (0 + (selF l false 0 l.length).length) (by omega) (by omega) (by omega) ⟨[], selF l true 0 l.length, by simp, ok_right hok⟩
    rw [List.append_nil] at m3
    rw [z0] at m1 m2 m3
    change p_law25_MailFirst_l1 l fuel [] 0 = _ at m1
    simp only [cond_false]
    rw [m1]
    simp only [Option.bind_some]
    have f3 : fuel = (fuel - 3) + 1 + 1 + 1 := by omega
    have m4 : p_law25_MailFirst_l2 l fuel (selF l false 0 l.length ++ selF l true 0 l.length) 0 0 = some (.inr ([], (l.length : Int), 2)) := by
      rw [show p_law25_MailFirst_l2 l fuel = p_law25_MailFirst_l2 l ((fuel - 3) + 1 + 1 + 1) by rw [← f3]]
      rw [p_law25_MailFirst_l2, decide_eq_true (show (0 : Int) < 2 by omega)]
      simp only [cond_true]
      rw [m2]
      simp only [Option.bind_some]
      rw [show w64 (0 + 1) = 1 from rfl, p_law25_MailFirst_l2, decide_eq_true (show (1 : Int) < 2 by omega)]
      simp only [cond_true]
      rw [m3]
      simp only [Option.bind_some]
      rw [show w64 (1 + 1) = 2 from rfl, p_law25_MailFirst_l2, decide_eq_false (show ¬ (2 : Int) < 2 by omega), Nat.zero_add, hlen]
      rfl
    rw [m4]
    simp only [Option.bind_some, beq_self_eq_true, cond_true, aw25]
    rfl
end Go.Proofs.Ythmgficajgedlaa
/- MailFirst: for every input the call returns true, and its arguments read as they did. -/
namespace Go.Proofs.Ythmgficajgedlaa
open Go.ChangeShapes Go.WideShapes Go.ChangeAt Go.RowKit Go.Joins Go.Deep
set_option maxRecDepth 100000 in
theorem mailFirst_lifted (os : Os) (started : os.Started) (H : Type) (enc : TypeId × Value → H) :
    ReturnsInHanded {} Try.checked os 9 .any (Rows.mailFirstSpec.pre6 enc Try.prog Try.f9 Rows.mailFirstRow.domain false) (Rows.mailFirstSpec.post enc Try.prog Try.f9 false true false false) := by
  refine returnsInHanded_of_change_shaped (C := Try.checked) own0 started (by kernel_rfl) Try.func9
    (ChangeSpec.witness6 (enc := enc) (C := Try.checked) false ⟨#[], #[.slice none 0 0], []⟩ 8 (by kernel_rfl) (by kernel_rfl) (by kernel_rfl) (by kernel_rfl)) ?_
  intro W base args ds gs before hval0 hW hcnd _ hsh _
  have hval : ∀ (j : Nat) t v, Try.f9.params[j]? = some t → args[j]? = some v → Value.okWide Try.prog W .any base t v := hval0
  have hW' := hW
  obtain ⟨p, q, hA0, hV, rfl, hfz, hnd⟩ := hW
  have hA : DataW.TrodAll enc Try.prog W 0 (fun _ => true) true Try.f9.params.toList args.toList ds p := hA0
  rw [Try.params9] at hA hval
  have hA2 := hA
  obtain ⟨v0, d0, rfl, rfl, h0⟩ := trodAll_one hA
  obtain ⟨rfl, rfl⟩ := trodVars_none hV
  obtain ⟨fu0, hf0⟩ := h0
  obtain ⟨q0, l0, k0, rfl⟩ := okWide_slice Try.underlying107 (hval 0 _ v0 rfl rfl)
  obtain ⟨a0, r0⟩ := rd_T107 hf0
  have hx0 : Rep (MW W) noBk _ _ := r0.2 0 (by simp [Value.cells]) (by simp)
  refine (rep_one (callsO_true (p_law25_MailFirst_v a0) (mailFirst_pure a0)) (maxLen_cell W hsh) (repA1 hx0)).mono ?_
  rintro e W' ⟨rfl, bel⟩
  refine ⟨_, rfl, _, _, _, [], p, [], hW', ?_, ?_, ?_, ?_, ?_⟩
  · exact trodAll_mk1 (shut_bool Try.underlying4 true)
  · exact trodAll_below laid0 bel (by
      intro t ht
      simp at ht
      rcases ht with rfl <;> exact ⟨by kernel_rfl, of_decide_eq_true (by kernel_rfl)⟩) hA2
  · rfl
  · exact bel.frame _
  · exact fun h => by cases h
theorem mailFirst_holds : Rows.MailFirstSaid :=
  OpenClaim.holds_of_wide 9 Try.f9 rfl rfl rfl rfl rfl rfl rfl ⟨rfl, rfl, rfl, rfl, rfl⟩ rfl rfl rfl rfl rfl (by kernel_rfl) Try.func9 (by kernel_rfl)
    (of_decide_eq_true (by kernel_rfl)) (by unfold Func.isWrapper; first | (rw [if_pos (by decide +kernel)]; kernel_rfl) | (rw [if_neg (by decide +kernel)]; exact ⟨rfl, rfl⟩))
    (fun os started H enc _ => mailFirst_lifted os started H enc)
#print axioms mailFirst_holds
end Go.Proofs.Ythmgficajgedlaa
