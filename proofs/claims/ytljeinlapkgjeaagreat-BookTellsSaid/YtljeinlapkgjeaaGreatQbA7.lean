/- BookTells: for every input the call returns true, and its arguments read as they did. -/
import Derived.Test.YtljeinlapkgjeaaGreatQbA1
import Derived.Test.YtljeinlapkgjeaaGreatQbA6
import Derived.Test.YtljeinlapkgjeaaGreatQbA5
import Derived.Test.YtljeinlapkgjeaaGreatQaA8
import Derived.KernelRfl
import Derived.Test.YtljeinlapkgjeaaGreatQbA3
import Derived.Test.YtljeinlapkgjeaaGreatQbA4
import Derived.Test.YtljeinlapkgjeaaGreatRows
set_option linter.all false
/- That the program's functions yield what the plain ones tell (written by a program of mine). -/
namespace Go.Proofs.YtljeinlapkgjeaaGreat
open Go.RowKit
def gc84 : BCode := (.seq (.reg 2 [⟨(some 2), .bx (.tmp 0), none, 0⟩, ⟨(some 3), .bx (.tmp 1), none, 1⟩, ⟨(some 4), .mv (.const (.bool false)), none, 2⟩] none 0 []) (.seq (.block 0 (.seq (.reg 0 [⟨(some 6), .fa 0 (.tmp 2), none, 0⟩, ⟨(some 7), .ld 1 false (.tmp 6), none, 0⟩, ⟨(some 8), .un .not (.tmp 7), none, 0⟩, ⟨(some 5), .mv (.tmp 8), none, 0⟩] none 0 []) (.cond (.tmp 5) (.seq (.reg 0 [⟨(some 4), .mv (.const (.bool false)), none, 0⟩] none 0 []) .ret) (.seq (.reg 0 [⟨(some 10), .fa 0 (.tmp 3), none, 0⟩, ⟨(some 11), .ld 1 false (.tmp 10), none, 0⟩, ⟨(some 12), .un .not (.tmp 11), none, 0⟩, ⟨(some 9), .mv (.tmp 12), none, 0⟩] none 0 []) (.cond (.tmp 9) (.seq (.reg 0 [⟨(some 4), .mv (.const (.bool true)), none, 0⟩] none 0 []) .ret) (.seq (.reg 0 [⟨(some 14), .fa 2 (.tmp 2), none, 0⟩, ⟨(some 15), .ld 1 false (.tmp 14), none, 0⟩, ⟨(some 16), .fa 2 (.tmp 3), none, 0⟩, ⟨(some 17), .ld 1 false (.tmp 16), none, 0⟩, ⟨(some 18), .bin .neq (.tmp 15) (.tmp 17), none, 0⟩, ⟨(some 13), .mv (.tmp 18), none, 0⟩] none 0 []) (.cond (.tmp 13) (.seq (.reg 0 [⟨(some 19), .fa 2 (.tmp 2), none, 0⟩, ⟨(some 20), .ld 1 false (.tmp 19), none, 0⟩, ⟨(some 21), .fa 2 (.tmp 3), none, 0⟩, ⟨(some 22), .ld 1 false (.tmp 21), none, 0⟩, ⟨(some 23), .bin .gtr (.tmp 20) (.tmp 22), none, 0⟩, ⟨(some 4), .mv (.tmp 23), none, 0⟩] none 0 []) .ret) .skip))))))) (.seq (.reg 0 [⟨(some 24), .ld 4 true (.tmp 2), none, 0⟩, ⟨(some 25), .ld 4 true (.tmp 3), none, 0⟩, ⟨(some 26), .cl 93 [(.tmp 24), (.tmp 25)], none, 0⟩, ⟨(some 4), .mv (.tmp 26), none, 0⟩] none 0 []) .ret)))
theorem gc84_ok : compF Tryz.prog Tryz.f84 = some (gc84.er, 27, [.tmp 4]) := by unfold gc84; kernel_rfl
set_option maxRecDepth 100000 in
set_option maxHeartbeats 4000000 in
theorem p_ref23_Better_v (a0 : PresPres) (a1 : PresPres) : CallsO Tryz.prog 84 [.agg [.b a0.On, .i a0.Show, .i a0.Prio, .i a0.Seq], .agg [.b a1.On, .i a1.Show, .i a1.Prio, .i a1.Seq]] V.b (p_ref23_Better a0 a1) := by
  refine callsO_comp mix Tryz.func84 gc84_ok fun r H => ?_
  rw [p_ref23_Better] at H
  conv => whnf
  refine Tst.not ?_
  refine tst_d H (fun b1 H => ?_) (fun b1 H => ?_)
  · conv => whnf
    exact fin0_c (enc := V.b) H (.inr rfl) (.cons (.tmp rfl) (.nil)) rfl rfl
  conv => whnf
  refine Tst.not ?_
  refine tst_d H (fun b2 H => ?_) (fun b2 H => ?_)
  · conv => whnf
    exact fin0_c (enc := V.b) H (.inr rfl) (.cons (.tmp rfl) (.nil)) rfl rfl
  conv => whnf
  refine tst_c H (fun b3 H => ?_) (fun b3 H => ?_)
  · conv => whnf
    exact fin0_c (enc := V.b) H (.inr rfl) (.cons (.tmp rfl) (.nil)) rfl rfl
  conv => whnf
  refine ask_c (p_ref23_Newer_v _ _) H rfl rfl (fun v4 H => ?_); conv => whnf
  exact fin0_c (enc := V.b) H (.inr rfl) (.cons (.tmp rfl) (.nil)) rfl rfl
def gc62 : BCode := (.seq (.reg 0 [⟨(some 2), .mv (.const (.int .i64 0)), none, 0⟩] none 0 []) (.seq (.reg 0 [⟨(some 3), .mv (.const (.int .i64 (-1))), none, 0⟩] none 0 []) (.seq (.seq (.reg 0 [⟨(some 4), .mv (.const (.int .i64 0)), none, 0⟩] none 0 []) (.block 0 (.loop (.seq (.seq (.reg 0 [⟨(some 5), .mv (.tmp 4), none, 0⟩, ⟨(some 6), .mv (.tmp 0), none, 0⟩, ⟨(some 7), .lens (.tmp 6), none, 0⟩, ⟨(some 8), .bin .lss (.tmp 5) (.tmp 7), none, 0⟩] none 0 []) (.cond (.tmp 8) .skip (.exit 0))) (.seq (.block 1 (.seq (.reg 0 [⟨(some 11), .mv (.tmp 0), none, 0⟩, ⟨(some 12), .mv (.tmp 4), none, 0⟩, ⟨(some 13), .ixs 4 (.tmp 11) (.tmp 12), none, 0⟩, ⟨(some 14), .fa 0 (.tmp 13), none, 0⟩, ⟨(some 15), .ld 1 false (.tmp 14), none, 0⟩, ⟨(some 16), .mv (.tmp 15), none, 0⟩, ⟨(some 17), .mv (.tmp 3), (some (16, true)), 0⟩, ⟨(some 18), .bin .lss (.tmp 17) (.const (.int .i64 0)), (some (16, true)), 0⟩, ⟨(some 19), .mv (.tmp 18), (some (16, true)), 0⟩, ⟨(some 20), .mv (.tmp 0), (some (19, false)), 0⟩, ⟨(some 21), .mv (.tmp 4), (some (19, false)), 0⟩, ⟨(some 22), .ixs 4 (.tmp 20) (.tmp 21), (some (19, false)), 0⟩, ⟨(some 23), .ld 4 true (.tmp 22), (some (19, false)), 0⟩, ⟨(some 24), .mv (.tmp 0), (some (19, false)), 0⟩, ⟨(some 25), .mv (.tmp 3), (some (19, false)), 0⟩, ⟨(some 26), .ixs 4 (.tmp 24) (.tmp 25), (some (19, false)), 0⟩, ⟨(some 27), .ld 4 true (.tmp 26), (some (19, false)), 0⟩, ⟨(some 28), .cl 84 [(.tmp 23), (.tmp 27)], (some (19, false)), 0⟩, ⟨(some 29), .pick (.tmp 19) (.const (.bool true)) (.tmp 28), (some (16, true)), 0⟩, ⟨(some 30), .pick (.tmp 16) (.tmp 29) (.const (.bool false)), none, 0⟩] (some [[], [], [1, 0], [0, 1, 2], [2, 1, 0, 3], [3, 0, 1, 2, 4], [4, 2, 1, 0, 3, 5], [5, 3, 0, 1, 2, 4, 6], [6, 4, 2, 1, 0, 3, 5, 7], [7, 5, 3, 0, 1, 2, 4, 6, 8], [7, 5, 3, 0, 1, 2, 4, 6, 8], [10, 8, 6, 4, 2, 1, 0, 3, 5, 7, 9], [9, 7, 5, 3, 0, 1, 2, 4, 6, 8, 10, 11], [7, 5, 3, 0, 1, 2, 4, 6, 8], [7, 5, 3, 0, 1, 2, 4, 6, 8], [14, 8, 6, 4, 2, 1, 0, 3, 5, 7, 13], [13, 7, 5, 3, 0, 1, 2, 4, 6, 8, 14, 15], [15, 14, 13, 16, 11, 10, 8, 6, 4, 2, 1, 0, 3, 5, 7, 9, 12], [12, 9, 10, 11, 16, 13, 14, 15, 17, 7, 5, 3, 0, 1, 2, 4, 6, 8], [8, 6, 7, 17, 15, 14, 13, 16, 11, 10, 9, 12, 18, 4, 2, 1, 0, 3, 5]]) 0 []) (.cond (.tmp 30) (.reg 0 [⟨(some 31), .mv (.tmp 4), none, 0⟩, ⟨(some 3), .mv (.tmp 31), none, 0⟩] none 0 []) .skip))) (.reg 0 [⟨(some 9), .mv (.tmp 4), none, 0⟩, ⟨(some 10), .bin .add (.tmp 9) (.const (.int .i64 1)), none, 0⟩, ⟨(some 4), .mv (.tmp 10), none, 0⟩] none 0 [])))))) (.seq (.reg 0 [⟨(some 32), .mv (.tmp 3), none, 0⟩, ⟨(some 2), .mv (.tmp 32), none, 0⟩] none 0 []) .ret))))
theorem gc62_ok : compF Tryz.prog Tryz.f62 = some (gc62.er, 33, [.tmp 2]) := by unfold gc62; kernel_rfl
set_option maxRecDepth 100000 in
set_option maxHeartbeats 4000000 in
theorem p_ref23_Best_v {u1 : Bool} (a0 : List PresPres) : CallsO Tryz.prog 62 [.sl (List.map PresPres.v a0) u1] V.i (p_ref23_Best a0) := by
  refine callsO_comp mix Tryz.func62 gc62_ok fun r H => ?_
  rw [p_ref23_Best] at H
  conv => whnf
  obtain ⟨o2, HL3, HQ4⟩ := bind_c H
  refine loop_c [3, 4] [5, 6, 7, 8, 9, 10, 11, 12, 13, 14, 15, 16, 17, 18, 19, 20, 21, 22, 23, 24, 25, 26, 27, 28, 29, 30, 31] [5, 6, 7, 8, 9, 10, 11, 12, 13, 14, 15, 16, 17, 18, 19, 20, 21, 22, 23, 24, 25, 26, 27, 28, 29, 30, 31] (fun n vals st => (∃ y6 y7, p_ref23_Best_l1  a0 n y6 y7 = some o2 ∧ vals = [.i y6, .i y7] ∧ st = [])) fuel 0 [] (⟨_, _, HL3, rfl, rfl⟩) (Nat.zero_le _) rfl (by kernel_rfl) (by kernel_rfl) rfl trivial ?_
  rintro (_ | n5) _ _ (⟨y6, y7, H, rfl, rfl⟩)
  · rw [p_ref23_Best_l1] at H; cases H
  rw [p_ref23_Best_l1] at H
  conv => whnf
  refine LenQ.M ?_; conv => whnf
  refine tst_d H (fun b8 H => ?_) (fun b8 H => ?_)
  · conv => whnf
    obtain rfl := Option.some.inj H
    have H := HQ4
    try dsimp only at H
    exact fin0_c (enc := V.i) H (.inr rfl) (.cons (.tmp rfl) (.nil)) rfl rfl
  conv => whnf
  refine ixs_c (f := PresPres.v) H (fun _ => rfl) (fun x9 H => ?_); conv => whnf
  refine ⟨Nat.le_of_ble_eq_true rfl, ?_⟩; conv => whnf
  refine tst_d H (fun b10 H => ?_) (fun b10 H => ?_)
  · conv => whnf
    iterate 4 (refine Tst.F ?_; conv => whnf)
    refine FootQ.mk ⟨rfl, ?_⟩; conv => whnf
    refine Tst.F ?_; conv => whnf
    refine Ari.w ?_; conv => whnf
    exact again_c [5, 6, 7, 8, 9, 10, 11, 12, 13, 14, 15, 16, 17, 18, 19, 20, 21, 22, 23, 24, 25, 26, 27, 28, 29, 30, 31] n5 0 [] (⟨_, _, H, rfl, rfl⟩) (Nat.lt_succ_self _) (Nat.zero_le _) rfl (by kernel_rfl) (by kernel_rfl) rfl trivial
  conv => whnf
  iterate 2 (refine Tst.T ?_; conv => whnf)
  refine tst_c H (fun b11 H => ?_) (fun b11 H => ?_)
  · conv => whnf
    iterate 11 (refine Tst.T ?_; conv => whnf)
    refine FootQ.mk ⟨rfl, ?_⟩; conv => whnf
    refine Tst.T ?_; conv => whnf
    refine Ari.w ?_; conv => whnf
    exact again_c [5, 6, 7, 8, 9, 10, 11, 12, 13, 14, 15, 16, 17, 18, 19, 20, 21, 22, 23, 24, 25, 26, 27, 28, 29, 30, 31] n5 0 [] (⟨_, _, H, rfl, rfl⟩) (Nat.lt_succ_self _) (Nat.zero_le _) rfl (by kernel_rfl) (by kernel_rfl) rfl trivial
  conv => whnf
  iterate 2 (refine Tst.F ?_; conv => whnf)
  refine ixs_c (f := PresPres.v) H (fun _ => rfl) (fun x12 H => ?_); conv => whnf
  iterate 4 (refine Tst.F ?_; conv => whnf)
  refine ixs_c (f := PresPres.v) H (fun _ => rfl) (fun x13 H => ?_); conv => whnf
  iterate 2 (refine Tst.F ?_; conv => whnf)
  refine ask_c (p_ref23_Better_v _ _) H rfl rfl (fun v14 H => ?_); conv => whnf
  refine Tst.T ?_; conv => whnf
  refine Tst.F ?_; conv => whnf
  refine Tst.T ?_; conv => whnf
  refine FootQ.mk ⟨rfl, ?_⟩; conv => whnf
  refine tst_c H (fun b15 H => ?_) (fun b15 H => ?_)
  · conv => whnf
    refine Ari.w ?_; conv => whnf
    exact again_c [5, 6, 7, 8, 9, 10, 11, 12, 13, 14, 15, 16, 17, 18, 19, 20, 21, 22, 23, 24, 25, 26, 27, 28, 29, 30, 31] n5 0 [] (⟨_, _, H, rfl, rfl⟩) (Nat.lt_succ_self _) (Nat.zero_le _) rfl (by kernel_rfl) (by kernel_rfl) rfl trivial
  conv => whnf
  refine Ari.w ?_; conv => whnf
  exact again_c [5, 6, 7, 8, 9, 10, 11, 12, 13, 14, 15, 16, 17, 18, 19, 20, 21, 22, 23, 24, 25, 26, 27, 28, 29, 30, 31] n5 0 [] (⟨_, _, H, rfl, rfl⟩) (Nat.lt_succ_self _) (Nat.zero_le _) rfl (by kernel_rfl) (by kernel_rfl) rfl trivial
def gc33 : BCode := (.seq (.reg 2 [⟨(some 2), .bx (.tmp 0), none, 0⟩, ⟨(some 4), .al (.agg [(.lit (.string ⟨#[]⟩)), (.lit (.string ⟨#[]⟩)), (.lit (.bool false)), (.lit (.int .i64 0)), (.lit (.int .i64 0)), (.lit (.int .i64 0))]), none, 1⟩, ⟨(some 5), .mv (.const (.bool false)), none, 2⟩] none 0 []) (.seq (.reg 0 [⟨(some 10), .ld 2 true (.tmp 2), none, 0⟩, ⟨(some 11), .mv (.tmp 1), none, 0⟩, ⟨(some 12), .cl 39 [(.tmp 10), (.tmp 11)], none, 0⟩, ⟨(some 6), .mv (.tmp 12), none, 0⟩] none 0 []) (.seq (.reg 0 [⟨(some 7), .mv (.const (.slice none 0 0)), none, 0⟩] none 0 []) (.seq (.seq (.reg 0 [⟨(some 8), .mv (.const (.int .i64 0)), none, 0⟩] none 0 []) (.block 0 (.loop (.seq (.seq (.reg 0 [⟨(some 13), .mv (.tmp 8), none, 0⟩, ⟨(some 14), .mv (.tmp 6), none, 0⟩, ⟨(some 15), .lens (.tmp 14), none, 0⟩, ⟨(some 16), .bin .lss (.tmp 13) (.tmp 15), none, 0⟩] none 0 []) (.cond (.tmp 16) .skip (.exit 0))) (.seq (.block 1 (.reg 2 [⟨(some 19), .mv (.tmp 7), none, 0⟩, ⟨(some 20), .mv (.tmp 6), none, 0⟩, ⟨(some 21), .mv (.tmp 8), none, 0⟩, ⟨(some 22), .ixs 6 (.tmp 20) (.tmp 21), none, 0⟩, ⟨(some 23), .fa 2 (.tmp 22), none, 0⟩, ⟨(some 24), .ld 4 true (.tmp 23), none, 0⟩, ⟨(some 25), .bs 4 1 [(.lit (.bool false)), (.lit (.int .i64 0)), (.lit (.int .i64 0)), (.lit (.int .i64 0))] [(0, (.tmp 24))], none, 0⟩, ⟨(some 26), .ap 4 32 (.tmp 19) (.tmp 25), none, 1⟩, ⟨(some 7), .mv (.tmp 26), none, 2⟩] none 0 [])) (.reg 0 [⟨(some 17), .mv (.tmp 8), none, 0⟩, ⟨(some 18), .bin .add (.tmp 17) (.const (.int .i64 1)), none, 0⟩, ⟨(some 8), .mv (.tmp 18), none, 0⟩] none 0 [])))))) (.seq (.reg 0 [⟨(some 27), .mv (.tmp 7), none, 0⟩, ⟨(some 28), .cl 62 [(.tmp 27)], none, 0⟩, ⟨(some 9), .mv (.tmp 28), none, 0⟩] none 0 []) (.seq (.seq (.reg 0 [⟨(some 29), .mv (.tmp 9), none, 0⟩, ⟨(some 30), .bin .lss (.tmp 29) (.const (.int .i64 0)), none, 0⟩] none 0 []) (.cond (.tmp 30) (.seq (.reg 0 [⟨(some 31), .bd [(.lit (.string ⟨#[]⟩)), (.lit (.string ⟨#[]⟩)), (.lit (.bool false)), (.lit (.int .i64 0)), (.lit (.int .i64 0)), (.lit (.int .i64 0))] [], none, 0⟩, ⟨none, .st 6 (.tmp 4) (.tmp 31), none, 0⟩, ⟨(some 5), .mv (.const (.bool false)), none, 0⟩] none 0 []) .ret) .skip)) (.seq (.reg 0 [⟨(some 32), .mv (.tmp 6), none, 0⟩, ⟨(some 33), .mv (.tmp 9), none, 0⟩, ⟨(some 34), .ixs 6 (.tmp 32) (.tmp 33), none, 0⟩, ⟨(some 35), .ld 6 true (.tmp 34), none, 0⟩, ⟨none, .st 6 (.tmp 4) (.tmp 35), none, 0⟩, ⟨(some 5), .mv (.const (.bool true)), none, 0⟩] none 0 []) .ret)))))))
theorem gc33_ok : compF Tryz.prog Tryz.f33 = some (gc33.er, 36, [.cell 4 6 true, .tmp 5]) := by unfold gc33; kernel_rfl
set_option maxRecDepth 100000 in
set_option maxHeartbeats 4000000 in
theorem p_ref24_Best_v {u1 : Bool} (a0 : BookState) (a1 : ByteArray) : CallsO Tryz.prog 33 [.agg [.i a0.Seq, .sl (List.map BookRow.v a0.Rows) u1], .s a1] (fun r : BookRow × Bool => .tup [BookRow.v r.1, V.b r.2]) (p_ref24_Best a0 a1) := by
  refine callsO_comp mix Tryz.func33 gc33_ok fun r H => ?_
  rw [p_ref24_Best] at H
  conv => whnf
  refine ask_c (p_ref24_Of_v _ _) H rfl rfl (fun v1 H => ?_); conv => whnf
  obtain ⟨o3, HL4, HQ5⟩ := bind_c H
  refine loop_c [7, 8, 4] [13, 14, 15, 16, 17, 18, 19, 20, 21, 22, 23, 24, 25, 26, 2] [13, 14, 15, 16, 17, 18, 19, 20, 21, 22, 23, 24, 25, 26, 2] (fun n vals st => (∃ y7, p_ref24_Best_l1  v1 n [] y7 = some o3 ∧ vals = [.sl (List.map PresPres.v []) true, .i y7, .ptr 0 0] ∧ st = [.live [.s (⟨#[]⟩ : ByteArray), .s (⟨#[]⟩ : ByteArray), .b false, .i (0 : Int), .i (0 : Int), .i (0 : Int)] 0]) ∨ (∃ y11 y12, p_ref24_Best_l1  v1 n y11 y12 = some o3 ∧ vals = [.osl 1 0 (List.length y11) 4 false, .i y12, .ptr 0 0] ∧ st = [.live [.s (⟨#[]⟩ : ByteArray), .s (⟨#[]⟩ : ByteArray), .b false, .i (0 : Int), .i (0 : Int), .i (0 : Int)] 0, .live (cellsM PresPres.v y11) (cellsM PresPres.v y11).length])) fuel 1 [1] (.inl (⟨_, HL4, rfl, rfl⟩)) (Nat.zero_le _) rfl (by kernel_rfl) (by kernel_rfl) rfl ⟨⟨rfl, rfl, rfl⟩, trivial⟩ ?_
  rintro (_ | n6) _ _ (⟨y7, H, rfl, rfl⟩ | ⟨y11, y12, H, rfl, rfl⟩)
  · rw [p_ref24_Best_l1] at H; cases H
  · rw [p_ref24_Best_l1] at H; cases H
  · rw [p_ref24_Best_l1] at H
    conv => whnf
    refine LenQ.M ?_; conv => whnf
    refine tst_c H (fun b8 H => ?_) (fun b8 H => ?_)
    · conv => whnf
      refine ixs_c (f := BookRow.v) H (fun _ => rfl) (fun x9 H => ?_); conv => whnf
      refine ⟨Nat.le_of_ble_eq_true rfl, ?_⟩; conv => whnf
      refine appN_c (f := PresPres.v) H (fun _ => rfl) (srcM (f := PresPres.v) (fun _ => rfl) _ _) rfl (.v (srcOwn (f := PresPres.v) (l := [x9.P]) (fun _ => rfl) rfl rfl rfl)) (by decide) rfl (by simp) (fun l10 H => ?_); conv => whnf
      refine Ari.w ?_; conv => whnf
      exact again_c [13, 14, 15, 16, 17, 18, 19, 20, 21, 22, 23, 24, 25, 26, 2] n6 2 [0, 2] (.inr (⟨_, _, H, rfl, rfl⟩)) (Nat.lt_succ_self _) (Nat.zero_le _) rfl (by kernel_rfl) (by kernel_rfl) rfl ⟨⟨rfl, rfl, rfl⟩, wkB_live0 rfl (cellsM_idlt (f := PresPres.v) (fun _ => rfl) _) rfl trivial⟩
    conv => whnf
    obtain rfl := Option.some.inj H
    have H := HQ5
    try dsimp only at H
    refine ask_c (p_ref23_Best_v _) H rfl rfl (fun v13 H => ?_); conv => whnf
    refine tst_c H (fun b14 H => ?_) (fun b14 H => ?_)
    · conv => whnf
      refine ⟨Nat.le_of_ble_eq_true rfl, ?_⟩; conv => whnf
      exact fin0_c (enc := (fun r : BookRow × Bool => .tup [BookRow.v r.1, V.b r.2])) H (.inr rfl) (.cons (.cell rfl rfl (Nat.le_of_ble_eq_true rfl)) (.cons (.tmp rfl) (.nil))) rfl rfl
    conv => whnf
    refine ixs_c (f := BookRow.v) H (fun _ => rfl) (fun x15 H => ?_); conv => whnf
    refine ⟨Nat.le_of_ble_eq_true rfl, ?_⟩; conv => whnf
    exact fin0_c (enc := (fun r : BookRow × Bool => .tup [BookRow.v r.1, V.b r.2])) H (.inr rfl) (.cons (.cell rfl rfl (Nat.le_of_ble_eq_true rfl)) (.cons (.tmp rfl) (.nil))) rfl rfl
  rw [p_ref24_Best_l1] at H
  conv => whnf
  refine LenQ.M ?_; conv => whnf
  refine tst_c H (fun b16 H => ?_) (fun b16 H => ?_)
  · conv => whnf
    refine ixs_c (f := BookRow.v) H (fun _ => rfl) (fun x17 H => ?_); conv => whnf
    refine ⟨Nat.le_of_ble_eq_true rfl, ?_⟩; conv => whnf
    refine appO_c (f := PresPres.v) H (fun _ => rfl) rfl (Nat.le_refl _) (.v (srcOwn (f := PresPres.v) (l := [x17.P]) (fun _ => rfl) rfl rfl rfl)) (by decide) rfl (by simp) (fun l18 H => ?_); conv => whnf
    refine Ari.w ?_; conv => whnf
    exact again_c [13, 14, 15, 16, 17, 18, 19, 20, 21, 22, 23, 24, 25, 26, 2] n6 2 [0, 3] (.inr (⟨_, _, H, rfl, rfl⟩)) (Nat.lt_succ_self _) (Nat.zero_le _) rfl (by kernel_rfl) (by kernel_rfl) rfl ⟨⟨rfl, rfl, rfl⟩, wkB_live0 rfl (cellsM_idlt (f := PresPres.v) (fun _ => rfl) _) rfl trivial⟩
  conv => whnf
  obtain rfl := Option.some.inj H
  have H := HQ5
  try dsimp only at H
  refine askF_c (p_ref23_Best_v _) H (.cons (.c (fzown (f := PresPres.v) (l := y11) rfl rfl (fun _ => rfl) (fun _ => rfl))) (.nil)) (fun v19 H => ?_); conv => whnf
  refine tst_c H (fun b20 H => ?_) (fun b20 H => ?_)
  · conv => whnf
    refine ⟨Nat.le_of_ble_eq_true rfl, ?_⟩; conv => whnf
    exact fin0_c (enc := (fun r : BookRow × Bool => .tup [BookRow.v r.1, V.b r.2])) H (.inr rfl) (.cons (.cell rfl rfl (Nat.le_of_ble_eq_true rfl)) (.cons (.tmp rfl) (.nil))) rfl rfl
  conv => whnf
  refine ixs_c (f := BookRow.v) H (fun _ => rfl) (fun x21 H => ?_); conv => whnf
  refine ⟨Nat.le_of_ble_eq_true rfl, ?_⟩; conv => whnf
  exact fin0_c (enc := (fun r : BookRow × Bool => .tup [BookRow.v r.1, V.b r.2])) H (.inr rfl) (.cons (.cell rfl rfl (Nat.le_of_ble_eq_true rfl)) (.cons (.tmp rfl) (.nil))) rfl rfl
def gc35 : BCode := (.seq (.reg 2 [⟨(some 2), .bx (.tmp 0), none, 0⟩, ⟨(some 4), .al (.agg [(.lit (.string ⟨#[]⟩)), (.lit (.string ⟨#[]⟩)), (.lit (.bool false)), (.lit (.int .i64 0)), (.lit (.int .i64 0)), (.lit (.int .i64 0))]), none, 1⟩, ⟨(some 5), .mv (.const (.bool false)), none, 2⟩] none 0 []) (.seq (.seq (.reg 0 [⟨(some 6), .mv (.const (.int .i64 0)), none, 0⟩] none 0 []) (.block 0 (.loop (.seq (.seq (.reg 0 [⟨(some 7), .mv (.tmp 6), none, 0⟩, ⟨(some 8), .fa 1 (.tmp 2), none, 0⟩, ⟨(some 9), .ld 1 false (.tmp 8), none, 0⟩, ⟨(some 10), .lens (.tmp 9), none, 0⟩, ⟨(some 11), .bin .lss (.tmp 7) (.tmp 10), none, 0⟩, ⟨(some 12), .mv (.tmp 11), none, 0⟩, ⟨(some 13), .ld 2 true (.tmp 2), (some (12, true)), 0⟩, ⟨(some 14), .cl 37 [(.tmp 13)], (some (12, true)), 0⟩, ⟨(some 15), .bin .eql (.tmp 14) (.const (.int .i64 0)), (some (12, true)), 0⟩, ⟨(some 16), .pick (.tmp 12) (.tmp 15) (.const (.bool false)), none, 0⟩] none 0 []) (.cond (.tmp 16) .skip (.exit 0))) (.seq (.block 1 (.seq (.reg 0 [⟨(some 19), .fa 1 (.tmp 2), none, 0⟩, ⟨(some 20), .ld 1 false (.tmp 19), none, 0⟩, ⟨(some 21), .mv (.tmp 6), none, 0⟩, ⟨(some 22), .ixs 6 (.tmp 20) (.tmp 21), none, 0⟩, ⟨(some 23), .ld 6 true (.tmp 22), none, 0⟩, ⟨(some 24), .cl 63 [(.tmp 23)], none, 0⟩, ⟨(some 25), .mv (.tmp 1), none, 0⟩, ⟨(some 26), .bin .gtr (.tmp 24) (.tmp 25), none, 0⟩] none 0 []) (.cond (.tmp 26) (.seq (.reg 0 [⟨(some 27), .fa 1 (.tmp 2), none, 0⟩, ⟨(some 28), .ld 1 false (.tmp 27), none, 0⟩, ⟨(some 29), .mv (.tmp 6), none, 0⟩, ⟨(some 30), .ixs 6 (.tmp 28) (.tmp 29), none, 0⟩, ⟨(some 31), .ld 6 true (.tmp 30), none, 0⟩, ⟨none, .st 6 (.tmp 4) (.tmp 31), none, 0⟩, ⟨(some 5), .mv (.const (.bool true)), none, 0⟩] none 0 []) .ret) .skip))) (.reg 0 [⟨(some 17), .mv (.tmp 6), none, 0⟩, ⟨(some 18), .bin .add (.tmp 17) (.const (.int .i64 1)), none, 0⟩, ⟨(some 6), .mv (.tmp 18), none, 0⟩] none 0 [])))))) (.seq (.reg 0 [⟨(some 32), .bd [(.lit (.string ⟨#[]⟩)), (.lit (.string ⟨#[]⟩)), (.lit (.bool false)), (.lit (.int .i64 0)), (.lit (.int .i64 0)), (.lit (.int .i64 0))] [], none, 0⟩, ⟨none, .st 6 (.tmp 4) (.tmp 32), none, 0⟩, ⟨(some 5), .mv (.const (.bool false)), none, 0⟩] none 0 []) .ret)))
theorem gc35_ok : compF Tryz.prog Tryz.f35 = some (gc35.er, 33, [.cell 4 6 true, .tmp 5]) := by unfold gc35; kernel_rfl
set_option maxRecDepth 100000 in
set_option maxHeartbeats 4000000 in
theorem p_ref24_Next_v {u1 : Bool} (a0 : BookState) (a1 : ByteArray) : CallsO Tryz.prog 35 [.agg [.i a0.Seq, .sl (List.map BookRow.v a0.Rows) u1], .s a1] (fun r : BookRow × Bool => .tup [BookRow.v r.1, V.b r.2]) (p_ref24_Next a0 a1) := by
  refine callsO_comp mix Tryz.func35 gc35_ok fun r H => ?_
  rw [p_ref24_Next] at H
  conv => whnf
  obtain ⟨o2, HL3, HQ4⟩ := bind_c H
  refine loop_c [5, 6] [7, 8, 9, 10, 11, 12, 13, 14, 15, 16, 17, 18, 19, 20, 21, 22, 23, 24, 25, 26, 27, 28, 29, 30, 31] [7, 8, 9, 10, 11, 12, 13, 14, 15, 16, 17, 18, 19, 20, 21, 22, 23, 24, 25, 26, 27, 28, 29, 30, 31] (fun n vals st => (∃ y6, p_ref24_Next_l1  a1 a0 n y6 = some o2 ∧ vals = [.b false, .i y6] ∧ st = [.live [.i a0.Seq, .sl (List.map BookRow.v a0.Rows) u1] 0, .live [.s (⟨#[]⟩ : ByteArray), .s (⟨#[]⟩ : ByteArray), .b false, .i (0 : Int), .i (0 : Int), .i (0 : Int)] 0])) fuel 2 [] (⟨_, HL3, rfl, rfl⟩) (Nat.zero_le _) rfl (by kernel_rfl) (by kernel_rfl) rfl ⟨⟨rfl, rfl, rfl⟩, ⟨⟨rfl, rfl, rfl⟩, trivial⟩⟩ ?_
  rintro (_ | n5) _ _ (⟨y6, H, rfl, rfl⟩)
  · rw [p_ref24_Next_l1] at H; cases H
  rw [p_ref24_Next_l1] at H
  conv => whnf
  refine LenQ.M ?_; conv => whnf
  refine tst_d H (fun b7 H => ?_) (fun b7 H => ?_)
  · conv => whnf
    iterate 4 (refine Tst.F ?_; conv => whnf)
    obtain rfl := Option.some.inj H
    have H := HQ4
    try dsimp only at H
    refine ⟨Nat.le_of_ble_eq_true rfl, ?_⟩; conv => whnf
    exact fin0_c (enc := (fun r : BookRow × Bool => .tup [BookRow.v r.1, V.b r.2])) H (.inr rfl) (.cons (.cell rfl rfl (Nat.le_of_ble_eq_true rfl)) (.cons (.tmp rfl) (.nil))) rfl rfl
  conv => whnf
  refine Tst.T ?_; conv => whnf
  refine ask_c (p_ref24_Check_v _) H rfl rfl (fun v8 H => ?_); conv => whnf
  iterate 2 (refine Tst.T ?_; conv => whnf)
  refine tst_d H (fun b9 H => ?_) (fun b9 H => ?_)
  · conv => whnf
    obtain rfl := Option.some.inj H
    have H := HQ4
    try dsimp only at H
    refine ⟨Nat.le_of_ble_eq_true rfl, ?_⟩; conv => whnf
    exact fin0_c (enc := (fun r : BookRow × Bool => .tup [BookRow.v r.1, V.b r.2])) H (.inr rfl) (.cons (.cell rfl rfl (Nat.le_of_ble_eq_true rfl)) (.cons (.tmp rfl) (.nil))) rfl rfl
  conv => whnf
  refine ixs_c (f := BookRow.v) H (fun _ => rfl) (fun x10 H => ?_); conv => whnf
  refine ask_c (p_ref24_key_v _) H rfl rfl (fun v11 H => ?_); conv => whnf
  refine Tst.not ?_
  refine tst_c H (fun b12 H => ?_) (fun b12 H => ?_)
  · conv => whnf
    refine Ari.w ?_; conv => whnf
    exact again_c [7, 8, 9, 10, 11, 12, 13, 14, 15, 16, 17, 18, 19, 20, 21, 22, 23, 24, 25, 26, 27, 28, 29, 30, 31] n5 2 [] (⟨_, H, rfl, rfl⟩) (Nat.lt_succ_self _) (Nat.zero_le _) rfl (by kernel_rfl) (by kernel_rfl) rfl ⟨⟨rfl, rfl, rfl⟩, ⟨⟨rfl, rfl, rfl⟩, trivial⟩⟩
  conv => whnf
  refine ixs_c (f := BookRow.v) H (fun _ => rfl) (fun x13 H => ?_); conv => whnf
  refine ⟨Nat.le_of_ble_eq_true rfl, ?_⟩; conv => whnf
  obtain rfl := Option.some.inj H
  have H := HQ4
  try dsimp only at H
  exact fin0_c (enc := (fun r : BookRow × Bool => .tup [BookRow.v r.1, V.b r.2])) H (.inr rfl) (.cons (.cell rfl rfl (Nat.le_of_ble_eq_true rfl)) (.cons (.tmp rfl) (.nil))) rfl rfl
end Go.Proofs.YtljeinlapkgjeaaGreat
/- That the program's functions yield what the plain ones tell (written by a program of mine). -/
namespace Go.Proofs.YtljeinlapkgjeaaGreat
open Go.RowKit
def gc42 : BCode := (.seq (.reg 1 [⟨(some 1), .bx (.tmp 0), none, 0⟩, ⟨(some 2), .mv (.const (.slice none 0 0)), none, 1⟩] none 0 []) (.seq (.reg 0 [⟨(some 3), .mv (.const (.slice none 0 0)), none, 0⟩] none 0 []) (.seq (.seq (.reg 0 [⟨(some 4), .mv (.const (.int .i64 0)), none, 0⟩] none 0 []) (.block 0 (.loop (.seq (.seq (.reg 0 [⟨(some 5), .mv (.tmp 4), none, 0⟩, ⟨(some 6), .fa 1 (.tmp 1), none, 0⟩, ⟨(some 7), .ld 1 false (.tmp 6), none, 0⟩, ⟨(some 8), .lens (.tmp 7), none, 0⟩, ⟨(some 9), .bin .lss (.tmp 5) (.tmp 8), none, 0⟩, ⟨(some 10), .mv (.tmp 9), none, 0⟩, ⟨(some 11), .ld 2 true (.tmp 1), (some (10, true)), 0⟩, ⟨(some 12), .cl 37 [(.tmp 11)], (some (10, true)), 0⟩, ⟨(some 13), .bin .eql (.tmp 12) (.const (.int .i64 0)), (some (10, true)), 0⟩, ⟨(some 14), .pick (.tmp 10) (.tmp 13) (.const (.bool false)), none, 0⟩] none 0 []) (.cond (.tmp 14) .skip (.exit 0))) (.seq (.block 1 (.seq (.reg 0 [⟨(some 17), .mv (.tmp 4), none, 0⟩, ⟨(some 18), .bin .eql (.tmp 17) (.const (.int .i64 0)), none, 0⟩, ⟨(some 19), .mv (.tmp 18), none, 0⟩, ⟨(some 20), .fa 1 (.tmp 1), (some (19, false)), 0⟩, ⟨(some 21), .ld 1 false (.tmp 20), (some (19, false)), 0⟩, ⟨(some 22), .mv (.tmp 4), (some (19, false)), 0⟩, ⟨(some 23), .bin .sub (.tmp 22) (.const (.int .i64 1)), (some (19, false)), 0⟩, ⟨(some 24), .ixs 6 (.tmp 21) (.tmp 23), (some (19, false)), 0⟩, ⟨(some 25), .fa 0 (.tmp 24), (some (19, false)), 0⟩, ⟨(some 26), .ld 1 false (.tmp 25), (some (19, false)), 0⟩, ⟨(some 27), .fa 1 (.tmp 1), (some (19, false)), 0⟩, ⟨(some 28), .ld 1 false (.tmp 27), (some (19, false)), 0⟩, ⟨(some 29), .mv (.tmp 4), (some (19, false)), 0⟩, ⟨(some 30), .ixs 6 (.tmp 28) (.tmp 29), (some (19, false)), 0⟩, ⟨(some 31), .fa 0 (.tmp 30), (some (19, false)), 0⟩, ⟨(some 32), .ld 1 false (.tmp 31), (some (19, false)), 0⟩, ⟨(some 33), .bin .neq (.tmp 26) (.tmp 32), (some (19, false)), 0⟩, ⟨(some 34), .pick (.tmp 19) (.const (.bool true)) (.tmp 33), none, 0⟩] (some [[], [0], [0, 1], [1, 0, 2], [2, 0, 1, 3], [1, 0, 2], [2, 0, 1, 5], [5, 6, 3, 1, 0, 2, 4], [4, 2, 0, 1, 3, 6, 5, 7], [7, 5, 6, 3, 1, 0, 2, 4, 8], [1, 0, 2], [2, 0, 1, 10], [1, 0, 2], [12, 10, 1, 0, 2, 11], [11, 2, 0, 1, 10, 12, 13], [13, 12, 10, 1, 0, 2, 11, 14], [14, 11, 10, 12, 13, 15, 8, 4, 2, 0, 1, 3, 6, 5, 7, 9], [9, 7, 5, 6, 3, 4, 8, 15, 13, 12, 10, 11, 14, 16, 1, 0, 2]]) 0 []) (.cond (.tmp 34) (.reg 2 [⟨(some 35), .mv (.tmp 3), none, 0⟩, ⟨(some 36), .fa 1 (.tmp 1), none, 0⟩, ⟨(some 37), .ld 1 false (.tmp 36), none, 0⟩, ⟨(some 38), .mv (.tmp 4), none, 0⟩, ⟨(some 39), .ixs 6 (.tmp 37) (.tmp 38), none, 0⟩, ⟨(some 40), .fa 0 (.tmp 39), none, 0⟩, ⟨(some 41), .ld 1 false (.tmp 40), none, 0⟩, ⟨(some 42), .bs 1 1 [(.lit (.string ⟨#[]⟩))] [(0, (.tmp 41))], none, 0⟩, ⟨(some 43), .ap 1 16 (.tmp 35) (.tmp 42), none, 1⟩, ⟨(some 3), .mv (.tmp 43), none, 2⟩] none 0 []) .skip))) (.reg 0 [⟨(some 15), .mv (.tmp 4), none, 0⟩, ⟨(some 16), .bin .add (.tmp 15) (.const (.int .i64 1)), none, 0⟩, ⟨(some 4), .mv (.tmp 16), none, 0⟩] none 0 [])))))) (.seq (.reg 0 [⟨(some 44), .mv (.tmp 3), none, 0⟩, ⟨(some 2), .mv (.tmp 44), none, 0⟩] none 0 []) .ret))))
theorem gc42_ok : compF Tryz.prog Tryz.f42 = some (gc42.er, 45, [.tmp 2]) := by unfold gc42; kernel_rfl
set_option maxRecDepth 100000 in
set_option maxHeartbeats 4000000 in
theorem p_ref24_Users_v {u1 : Bool} (a0 : BookState) : CallsO Tryz.prog 42 [.agg [.i a0.Seq, .sl (List.map BookRow.v a0.Rows) u1]] (fun l : List ByteArray => V.sl (l.map V.s) false) (p_ref24_Users a0) := by
  refine callsO_comp mix Tryz.func42 gc42_ok fun r H => ?_
  rw [p_ref24_Users] at H
  conv => whnf
  obtain ⟨o2, HL3, HQ4⟩ := bind_c H
  refine loop_c [3, 4] [5, 6, 7, 8, 9, 10, 11, 12, 13, 14, 15, 16, 17, 18, 19, 20, 21, 22, 23, 24, 25, 26, 27, 28, 29, 30, 31, 32, 33, 34, 35, 36, 37, 38, 39, 40, 41, 42, 43] [5, 6, 7, 8, 9, 10, 11, 12, 13, 14, 15, 16, 17, 18, 19, 20, 21, 22, 23, 24, 25, 26, 27, 28, 29, 30, 31, 32, 33, 34, 35, 36, 37, 38, 39, 40, 41, 42, 43] (fun n vals st => (∃ y6, p_ref24_Users_l1  a0 n [] y6 = some o2 ∧ vals = [.sl (List.map V.s []) true, .i y6] ∧ st = [.live [.i a0.Seq, .sl (List.map BookRow.v a0.Rows) u1] 0]) ∨ (∃ y13 y14, p_ref24_Users_l1  a0 n y13 y14 = some o2 ∧ vals = [.osl 1 0 (List.length y13) 1 false, .i y14] ∧ st = [.live [.i a0.Seq, .sl (List.map BookRow.v a0.Rows) u1] 0, .live (cellsM V.s y13) (cellsM V.s y13).length])) fuel 1 [] (.inl (⟨_, HL3, rfl, rfl⟩)) (Nat.zero_le _) rfl (by kernel_rfl) (by kernel_rfl) rfl ⟨⟨rfl, rfl, rfl⟩, trivial⟩ ?_
  rintro (_ | n5) _ _ (⟨y6, H, rfl, rfl⟩ | ⟨y13, y14, H, rfl, rfl⟩)
  · rw [p_ref24_Users_l1] at H; cases H
  · rw [p_ref24_Users_l1] at H; cases H
  · rw [p_ref24_Users_l1] at H
    conv => whnf
    refine LenQ.M ?_; conv => whnf
    refine tst_d H (fun b7 H => ?_) (fun b7 H => ?_)
    · conv => whnf
      iterate 4 (refine Tst.F ?_; conv => whnf)
      obtain rfl := Option.some.inj H
      have H := HQ4
      try dsimp only at H
      refine finR_c (enc := (fun l : List ByteArray => V.sl (l.map V.s) false)) H ?_; conv => whnf
      exact ⟨_, .v (.c (.slw))⟩
    conv => whnf
    refine Tst.T ?_; conv => whnf
    refine ask_c (p_ref24_Check_v _) H rfl rfl (fun v8 H => ?_); conv => whnf
    iterate 2 (refine Tst.T ?_; conv => whnf)
    refine tst_d H (fun b9 H => ?_) (fun b9 H => ?_)
    · conv => whnf
      obtain rfl := Option.some.inj H
      have H := HQ4
      try dsimp only at H
      refine finR_c (enc := (fun l : List ByteArray => V.sl (l.map V.s) false)) H ?_; conv => whnf
      exact ⟨_, .v (.c (.slw))⟩
    conv => whnf
    refine tst_c H (fun b10 H => ?_) (fun b10 H => ?_)
    · conv => whnf
      iterate 14 (refine Tst.T ?_; conv => whnf)
      refine FootQ.mk ⟨rfl, ?_⟩; conv => whnf
      refine Tst.T ?_; conv => whnf
      refine ixs_c (f := BookRow.v) H (fun _ => rfl) (fun x11 H => ?_); conv => whnf
      refine ⟨Nat.le_of_ble_eq_true rfl, ?_⟩; conv => whnf
      refine appN_c (f := V.s) H (fun _ => rfl) (srcM (f := V.s) (fun _ => rfl) _ _) rfl (.v (srcOwn (f := V.s) (l := [x11.User]) (fun _ => rfl) rfl rfl rfl)) (by decide) rfl (by simp) (fun l12 H => ?_); conv => whnf
      refine Ari.w ?_; conv => whnf
      exact again_c [5, 6, 7, 8, 9, 10, 11, 12, 13, 14, 15, 16, 17, 18, 19, 20, 21, 22, 23, 24, 25, 26, 27, 28, 29, 30, 31, 32, 33, 34, 35, 36, 37, 38, 39, 40, 41, 42, 43] n5 2 [0, 2] (.inr (⟨_, _, H, rfl, rfl⟩)) (Nat.lt_succ_self _) (Nat.zero_le _) rfl (by kernel_rfl) (by kernel_rfl) rfl ⟨⟨rfl, rfl, rfl⟩, wkB_live0 rfl (cellsM_idlt (f := V.s) (fun _ => rfl) _) rfl trivial⟩
    conv => whnf
    iterate 3 (refine Tst.F ?_; conv => whnf)
    refine Ari.w ?_; conv => whnf
    refine Tst.F ?_; conv => whnf
    refine ixs_c (f := BookRow.v) H (fun _ => rfl) (fun x15 H => ?_); conv => whnf
    refine Tst.F ?_; conv => whnf
    refine ⟨Nat.le_of_ble_eq_true rfl, ?_⟩; conv => whnf
    iterate 5 (refine Tst.F ?_; conv => whnf)
    refine ixs_c (f := BookRow.v) H (fun _ => rfl) (fun x16 H => ?_); conv => whnf
    refine Tst.F ?_; conv => whnf
    refine ⟨Nat.le_of_ble_eq_true rfl, ?_⟩; conv => whnf
    iterate 3 (refine Tst.F ?_; conv => whnf)
    refine FootQ.mk ⟨rfl, ?_⟩; conv => whnf
    refine Tst.not ?_
    refine tst_c H (fun b17 H => ?_) (fun b17 H => ?_)
    · conv => whnf
      refine Ari.w ?_; conv => whnf
      exact again_c [5, 6, 7, 8, 9, 10, 11, 12, 13, 14, 15, 16, 17, 18, 19, 20, 21, 22, 23, 24, 25, 26, 27, 28, 29, 30, 31, 32, 33, 34, 35, 36, 37, 38, 39, 40, 41, 42, 43] n5 1 [] (.inl (⟨_, H, rfl, rfl⟩)) (Nat.lt_succ_self _) (Nat.zero_le _) rfl (by kernel_rfl) (by kernel_rfl) rfl ⟨⟨rfl, rfl, rfl⟩, trivial⟩
    conv => whnf
    refine ixs_c (f := BookRow.v) H (fun _ => rfl) (fun x18 H => ?_); conv => whnf
    refine ⟨Nat.le_of_ble_eq_true rfl, ?_⟩; conv => whnf
    refine appN_c (f := V.s) H (fun _ => rfl) (srcM (f := V.s) (fun _ => rfl) _ _) rfl (.v (srcOwn (f := V.s) (l := [x18.User]) (fun _ => rfl) rfl rfl rfl)) (by decide) rfl (by simp) (fun l19 H => ?_); conv => whnf
    refine Ari.w ?_; conv => whnf
    exact again_c [5, 6, 7, 8, 9, 10, 11, 12, 13, 14, 15, 16, 17, 18, 19, 20, 21, 22, 23, 24, 25, 26, 27, 28, 29, 30, 31, 32, 33, 34, 35, 36, 37, 38, 39, 40, 41, 42, 43] n5 2 [0, 2] (.inr (⟨_, _, H, rfl, rfl⟩)) (Nat.lt_succ_self _) (Nat.zero_le _) rfl (by kernel_rfl) (by kernel_rfl) rfl ⟨⟨rfl, rfl, rfl⟩, wkB_live0 rfl (cellsM_idlt (f := V.s) (fun _ => rfl) _) rfl trivial⟩
  rw [p_ref24_Users_l1] at H
  conv => whnf
  refine LenQ.M ?_; conv => whnf
  refine tst_d H (fun b20 H => ?_) (fun b20 H => ?_)
  · conv => whnf
    iterate 4 (refine Tst.F ?_; conv => whnf)
    obtain rfl := Option.some.inj H
    have H := HQ4
    try dsimp only at H
    refine finR_c (enc := (fun l : List ByteArray => V.sl (l.map V.s) false)) H ?_; conv => whnf
    exact ⟨_, .v (.c (fzown (f := V.s) (l := y13) rfl rfl (fun _ => rfl) (fun _ => rfl)))⟩
  conv => whnf
  refine Tst.T ?_; conv => whnf
  refine ask_c (p_ref24_Check_v _) H rfl rfl (fun v21 H => ?_); conv => whnf
  iterate 2 (refine Tst.T ?_; conv => whnf)
  refine tst_d H (fun b22 H => ?_) (fun b22 H => ?_)
  · conv => whnf
    obtain rfl := Option.some.inj H
    have H := HQ4
    try dsimp only at H
    refine finR_c (enc := (fun l : List ByteArray => V.sl (l.map V.s) false)) H ?_; conv => whnf
    exact ⟨_, .v (.c (fzown (f := V.s) (l := y13) rfl rfl (fun _ => rfl) (fun _ => rfl)))⟩
  conv => whnf
  refine tst_c H (fun b23 H => ?_) (fun b23 H => ?_)
  · conv => whnf
    iterate 14 (refine Tst.T ?_; conv => whnf)
    refine FootQ.mk ⟨rfl, ?_⟩; conv => whnf
    refine Tst.T ?_; conv => whnf
    refine ixs_c (f := BookRow.v) H (fun _ => rfl) (fun x24 H => ?_); conv => whnf
    refine ⟨Nat.le_of_ble_eq_true rfl, ?_⟩; conv => whnf
    refine appO_c (f := V.s) H (fun _ => rfl) rfl (Nat.le_refl _) (.v (srcOwn (f := V.s) (l := [x24.User]) (fun _ => rfl) rfl rfl rfl)) (by decide) rfl (by simp) (fun l25 H => ?_); conv => whnf
    refine Ari.w ?_; conv => whnf
    exact again_c [5, 6, 7, 8, 9, 10, 11, 12, 13, 14, 15, 16, 17, 18, 19, 20, 21, 22, 23, 24, 25, 26, 27, 28, 29, 30, 31, 32, 33, 34, 35, 36, 37, 38, 39, 40, 41, 42, 43] n5 2 [0, 3] (.inr (⟨_, _, H, rfl, rfl⟩)) (Nat.lt_succ_self _) (Nat.zero_le _) rfl (by kernel_rfl) (by kernel_rfl) rfl ⟨⟨rfl, rfl, rfl⟩, wkB_live0 rfl (cellsM_idlt (f := V.s) (fun _ => rfl) _) rfl trivial⟩
  conv => whnf
  iterate 3 (refine Tst.F ?_; conv => whnf)
  refine Ari.w ?_; conv => whnf
  refine Tst.F ?_; conv => whnf
  refine ixs_c (f := BookRow.v) H (fun _ => rfl) (fun x26 H => ?_); conv => whnf
  refine Tst.F ?_; conv => whnf
  refine ⟨Nat.le_of_ble_eq_true rfl, ?_⟩; conv => whnf
  iterate 5 (refine Tst.F ?_; conv => whnf)
  refine ixs_c (f := BookRow.v) H (fun _ => rfl) (fun x27 H => ?_); conv => whnf
  refine Tst.F ?_; conv => whnf
  refine ⟨Nat.le_of_ble_eq_true rfl, ?_⟩; conv => whnf
  iterate 3 (refine Tst.F ?_; conv => whnf)
  refine FootQ.mk ⟨rfl, ?_⟩; conv => whnf
  refine Tst.not ?_
  refine tst_c H (fun b28 H => ?_) (fun b28 H => ?_)
  · conv => whnf
    refine Ari.w ?_; conv => whnf
    exact again_c [5, 6, 7, 8, 9, 10, 11, 12, 13, 14, 15, 16, 17, 18, 19, 20, 21, 22, 23, 24, 25, 26, 27, 28, 29, 30, 31, 32, 33, 34, 35, 36, 37, 38, 39, 40, 41, 42, 43] n5 2 [] (.inr (⟨_, _, H, rfl, rfl⟩)) (Nat.lt_succ_self _) (Nat.zero_le _) rfl (by kernel_rfl) (by kernel_rfl) rfl ⟨⟨rfl, rfl, rfl⟩, wkB_live0 rfl (cellsM_idlt (f := V.s) (fun _ => rfl) _) rfl trivial⟩
  conv => whnf
  refine ixs_c (f := BookRow.v) H (fun _ => rfl) (fun x29 H => ?_); conv => whnf
  refine ⟨Nat.le_of_ble_eq_true rfl, ?_⟩; conv => whnf
  refine appO_c (f := V.s) H (fun _ => rfl) rfl (Nat.le_refl _) (.v (srcOwn (f := V.s) (l := [x29.User]) (fun _ => rfl) rfl rfl rfl)) (by decide) rfl (by simp) (fun l30 H => ?_); conv => whnf
  refine Ari.w ?_; conv => whnf
  exact again_c [5, 6, 7, 8, 9, 10, 11, 12, 13, 14, 15, 16, 17, 18, 19, 20, 21, 22, 23, 24, 25, 26, 27, 28, 29, 30, 31, 32, 33, 34, 35, 36, 37, 38, 39, 40, 41, 42, 43] n5 2 [0, 3] (.inr (⟨_, _, H, rfl, rfl⟩)) (Nat.lt_succ_self _) (Nat.zero_le _) rfl (by kernel_rfl) (by kernel_rfl) rfl ⟨⟨rfl, rfl, rfl⟩, wkB_live0 rfl (cellsM_idlt (f := V.s) (fun _ => rfl) _) rfl trivial⟩
end Go.Proofs.YtljeinlapkgjeaaGreat
/- That the program's functions yield what the plain ones tell (written by a program of mine). -/
namespace Go.Proofs.YtljeinlapkgjeaaGreat
open Go.RowKit
def gc5 : BCode := (.seq (.reg 3 [⟨(some 3), .bx (.tmp 0), none, 0⟩, ⟨(some 4), .bx (.tmp 1), none, 1⟩, ⟨(some 5), .bx (.tmp 2), none, 2⟩, ⟨(some 6), .mv (.const (.bool false)), none, 3⟩] none 0 []) (.seq (.seq (.reg 0 [⟨(some 21), .ld 2 true (.tmp 3), none, 0⟩, ⟨(some 22), .cl 7 [(.tmp 21)], none, 0⟩, ⟨(some 23), .un .not (.tmp 22), none, 0⟩, ⟨(some 24), .mv (.tmp 23), none, 0⟩, ⟨(some 25), .ld 2 true (.tmp 4), (some (24, false)), 0⟩, ⟨(some 26), .cl 7 [(.tmp 25)], (some (24, false)), 0⟩, ⟨(some 27), .un .not (.tmp 26), (some (24, false)), 0⟩, ⟨(some 28), .pick (.tmp 24) (.const (.bool true)) (.tmp 27), none, 0⟩, ⟨(some 29), .mv (.tmp 28), none, 0⟩, ⟨(some 30), .ixa 3 1 (.tmp 5) (.const (.int .i64 0)), (some (29, false)), 0⟩, ⟨(some 31), .ld 1 false (.tmp 30), (some (29, false)), 0⟩, ⟨(some 32), .lent (.tmp 31), (some (29, false)), 0⟩, ⟨(some 33), .bin .gtr (.tmp 32) (.const (.int .i64 100)), (some (29, false)), 0⟩, ⟨(some 34), .pick (.tmp 29) (.const (.bool true)) (.tmp 33), none, 0⟩, ⟨(some 35), .mv (.tmp 34), none, 0⟩, ⟨(some 36), .ixa 3 1 (.tmp 5) (.const (.int .i64 1)), (some (35, false)), 0⟩, ⟨(some 37), .ld 1 false (.tmp 36), (some (35, false)), 0⟩, ⟨(some 38), .lent (.tmp 37), (some (35, false)), 0⟩, ⟨(some 39), .bin .gtr (.tmp 38) (.const (.int .i64 100)), (some (35, false)), 0⟩, ⟨(some 40), .pick (.tmp 35) (.const (.bool true)) (.tmp 39), none, 0⟩, ⟨(some 41), .mv (.tmp 40), none, 0⟩, ⟨(some 42), .ixa 3 1 (.tmp 5) (.const (.int .i64 2)), (some (41, false)), 0⟩, ⟨(some 43), .ld 1 false (.tmp 42), (some (41, false)), 0⟩, ⟨(some 44), .lent (.tmp 43), (some (41, false)), 0⟩, ⟨(some 45), .bin .gtr (.tmp 44) (.const (.int .i64 100)), (some (41, false)), 0⟩, ⟨(some 46), .pick (.tmp 41) (.const (.bool true)) (.tmp 45), none, 0⟩] none 0 []) (.cond (.tmp 46) (.seq (.reg 0 [⟨(some 47), .cl 22 [], none, 0⟩, ⟨(some 6), .mv (.tmp 47), none, 0⟩] none 0 []) .ret) .skip)) (.seq (.reg 1 [⟨(some 48), .ld 2 true (.tmp 3), none, 0⟩, ⟨(some 49), .cl 23 [(.tmp 48)], none, 0⟩, ⟨(some 7), .al (.agg [(.lit (.int .i64 0)), (.sl [] true)]), none, 0⟩, ⟨none, .st 2 (.tmp 7) (.tmp 49), none, 1⟩] none 0 []) (.seq (.reg 1 [⟨(some 51), .ld 2 true (.tmp 7), none, 0⟩, ⟨(some 52), .ixa 3 1 (.tmp 5) (.const (.int .i64 0)), none, 0⟩, ⟨(some 53), .ld 1 false (.tmp 52), none, 0⟩, ⟨(some 54), .ixa 3 1 (.tmp 5) (.const (.int .i64 1)), none, 0⟩, ⟨(some 55), .ld 1 false (.tmp 54), none, 0⟩, ⟨(some 56), .cl 30 [(.tmp 51), (.tmp 53), (.tmp 55)], none, 0⟩, ⟨(some 50), .mv (.tmp 56), none, 0⟩, ⟨(some 57), .ex (.tmp 50) 0, none, 0⟩, ⟨(some 58), .ex (.tmp 50) 1, none, 0⟩, ⟨(some 8), .al (.agg [(.lit (.bool false)), (.lit (.int .i64 0)), (.lit (.int .i64 0)), (.lit (.int .i64 0))]), none, 0⟩, ⟨none, .st 4 (.tmp 8) (.tmp 57), none, 1⟩, ⟨(some 9), .mv (.tmp 58), none, 1⟩] none 0 []) (.seq (.reg 1 [⟨(some 60), .ld 2 true (.tmp 3), none, 0⟩, ⟨(some 61), .ixa 3 1 (.tmp 5) (.const (.int .i64 0)), none, 0⟩, ⟨(some 62), .ld 1 false (.tmp 61), none, 0⟩, ⟨(some 63), .ixa 3 1 (.tmp 5) (.const (.int .i64 1)), none, 0⟩, ⟨(some 64), .ld 1 false (.tmp 63), none, 0⟩, ⟨(some 65), .cl 31 [(.tmp 60), (.tmp 62), (.tmp 64)], none, 0⟩, ⟨(some 59), .mv (.tmp 65), none, 0⟩, ⟨(some 66), .ex (.tmp 59) 0, none, 0⟩, ⟨(some 67), .ex (.tmp 59) 1, none, 0⟩, ⟨(some 10), .al (.agg [(.lit (.bool false)), (.lit (.int .i64 0)), (.lit (.int .i64 0)), (.lit (.int .i64 0))]), none, 0⟩, ⟨none, .st 4 (.tmp 10) (.tmp 66), none, 1⟩, ⟨(some 11), .mv (.tmp 67), none, 1⟩] none 0 []) (.seq (.reg 1 [⟨(some 69), .ld 2 true (.tmp 7), none, 0⟩, ⟨(some 70), .ixa 3 1 (.tmp 5) (.const (.int .i64 0)), none, 0⟩, ⟨(some 71), .ld 1 false (.tmp 70), none, 0⟩, ⟨(some 72), .cl 32 [(.tmp 69), (.tmp 71)], none, 0⟩, ⟨(some 68), .mv (.tmp 72), none, 0⟩, ⟨(some 73), .ex (.tmp 68) 0, none, 0⟩, ⟨(some 74), .ex (.tmp 68) 1, none, 0⟩, ⟨(some 12), .al (.agg [(.lit (.string ⟨#[]⟩)), (.lit (.string ⟨#[]⟩)), (.lit (.bool false)), (.lit (.int .i64 0)), (.lit (.int .i64 0)), (.lit (.int .i64 0))]), none, 0⟩, ⟨none, .st 6 (.tmp 12) (.tmp 73), none, 1⟩, ⟨(some 13), .mv (.tmp 74), none, 1⟩] none 0 []) (.seq (.reg 1 [⟨(some 76), .ld 2 true (.tmp 3), none, 0⟩, ⟨(some 77), .ixa 3 1 (.tmp 5) (.const (.int .i64 0)), none, 0⟩, ⟨(some 78), .ld 1 false (.tmp 77), none, 0⟩, ⟨(some 79), .cl 33 [(.tmp 76), (.tmp 78)], none, 0⟩, ⟨(some 75), .mv (.tmp 79), none, 0⟩, ⟨(some 80), .ex (.tmp 75) 0, none, 0⟩, ⟨(some 81), .ex (.tmp 75) 1, none, 0⟩, ⟨(some 14), .al (.agg [(.lit (.string ⟨#[]⟩)), (.lit (.string ⟨#[]⟩)), (.lit (.bool false)), (.lit (.int .i64 0)), (.lit (.int .i64 0)), (.lit (.int .i64 0))]), none, 0⟩, ⟨none, .st 6 (.tmp 14) (.tmp 80), none, 1⟩, ⟨(some 15), .mv (.tmp 81), none, 1⟩] none 0 []) (.seq (.reg 1 [⟨(some 83), .ld 2 true (.tmp 7), none, 0⟩, ⟨(some 84), .ixa 3 1 (.tmp 5) (.const (.int .i64 2)), none, 0⟩, ⟨(some 85), .ld 1 false (.tmp 84), none, 0⟩, ⟨(some 86), .cl 34 [(.tmp 83), (.tmp 85)], none, 0⟩, ⟨(some 82), .mv (.tmp 86), none, 0⟩, ⟨(some 87), .ex (.tmp 82) 0, none, 0⟩, ⟨(some 88), .ex (.tmp 82) 1, none, 0⟩, ⟨(some 16), .al (.agg [(.lit (.string ⟨#[]⟩)), (.lit (.string ⟨#[]⟩)), (.lit (.bool false)), (.lit (.int .i64 0)), (.lit (.int .i64 0)), (.lit (.int .i64 0))]), none, 0⟩, ⟨none, .st 6 (.tmp 16) (.tmp 87), none, 1⟩, ⟨(some 17), .mv (.tmp 88), none, 1⟩] none 0 []) (.seq (.reg 1 [⟨(some 90), .ld 2 true (.tmp 3), none, 0⟩, ⟨(some 91), .ixa 3 1 (.tmp 5) (.const (.int .i64 2)), none, 0⟩, ⟨(some 92), .ld 1 false (.tmp 91), none, 0⟩, ⟨(some 93), .cl 35 [(.tmp 90), (.tmp 92)], none, 0⟩, ⟨(some 89), .mv (.tmp 93), none, 0⟩, ⟨(some 94), .ex (.tmp 89) 0, none, 0⟩, ⟨(some 95), .ex (.tmp 89) 1, none, 0⟩, ⟨(some 18), .al (.agg [(.lit (.string ⟨#[]⟩)), (.lit (.string ⟨#[]⟩)), (.lit (.bool false)), (.lit (.int .i64 0)), (.lit (.int .i64 0)), (.lit (.int .i64 0))]), none, 0⟩, ⟨none, .st 6 (.tmp 18) (.tmp 94), none, 1⟩, ⟨(some 19), .mv (.tmp 95), none, 1⟩] none 0 []) (.seq (.reg 1 [⟨(some 96), .ld 6 true (.tmp 12), none, 0⟩, ⟨(some 97), .ld 6 true (.tmp 16), none, 0⟩, ⟨(some 98), .bs 6 2 [(.lit (.string ⟨#[]⟩)), (.lit (.string ⟨#[]⟩)), (.lit (.bool false)), (.lit (.int .i64 0)), (.lit (.int .i64 0)), (.lit (.int .i64 0)), (.lit (.string ⟨#[]⟩)), (.lit (.string ⟨#[]⟩)), (.lit (.bool false)), (.lit (.int .i64 0)), (.lit (.int .i64 0)), (.lit (.int .i64 0))] [(0, (.tmp 96)), (1, (.tmp 97))], none, 0⟩, ⟨(some 99), .cl 13 [(.tmp 98)], none, 1⟩, ⟨(some 20), .mv (.tmp 99), none, 1⟩] none 0 []) (.seq (.reg 0 [⟨(some 100), .ld 2 true (.tmp 7), none, 0⟩, ⟨(some 101), .cl 36 [(.tmp 100)], none, 0⟩, ⟨(some 102), .ld 2 true (.tmp 3), none, 0⟩, ⟨(some 103), .cl 37 [(.tmp 102)], none, 0⟩, ⟨(some 104), .bin .eql (.tmp 101) (.tmp 103), none, 0⟩, ⟨(some 105), .mv (.tmp 104), none, 0⟩, ⟨(some 106), .ld 4 true (.tmp 8), (some (105, true)), 0⟩, ⟨(some 107), .ld 4 true (.tmp 10), (some (105, true)), 0⟩, ⟨(some 108), .eqa false [0, 1, 1, 1] (.tmp 106) (.tmp 107), (some (105, true)), 0⟩, ⟨(some 109), .pick (.tmp 105) (.tmp 108) (.const (.bool false)), none, 0⟩, ⟨(some 110), .mv (.tmp 109), none, 0⟩, ⟨(some 111), .mv (.tmp 9), (some (110, true)), 0⟩, ⟨(some 112), .mv (.tmp 11), (some (110, true)), 0⟩, ⟨(some 113), .binb false (.tmp 111) (.tmp 112), (some (110, true)), 0⟩, ⟨(some 114), .pick (.tmp 110) (.tmp 113) (.const (.bool false)), none, 0⟩, ⟨(some 115), .mv (.tmp 114), none, 0⟩, ⟨(some 116), .mv (.tmp 20), (some (115, true)), 0⟩, ⟨(some 117), .ixs 6 (.tmp 116) (.const (.int .i64 0)), (some (115, true)), 0⟩, ⟨(some 118), .ld 6 true (.tmp 117), (some (115, true)), 0⟩, ⟨(some 119), .ld 6 true (.tmp 14), (some (115, true)), 0⟩, ⟨(some 120), .eqa false [2, 2, 0, 1, 1, 1] (.tmp 118) (.tmp 119), (some (115, true)), 0⟩, ⟨(some 121), .pick (.tmp 115) (.tmp 120) (.const (.bool false)), none, 0⟩, ⟨(some 122), .mv (.tmp 121), none, 0⟩, ⟨(some 123), .mv (.tmp 13), (some (122, true)), 0⟩, ⟨(some 124), .mv (.tmp 15), (some (122, true)), 0⟩, ⟨(some 125), .binb false (.tmp 123) (.tmp 124), (some (122, true)), 0⟩, ⟨(some 126), .pick (.tmp 122) (.tmp 125) (.const (.bool false)), none, 0⟩, ⟨(some 127), .mv (.tmp 126), none, 0⟩, ⟨(some 128), .mv (.tmp 20), (some (127, true)), 0⟩, ⟨(some 129), .ixs 6 (.tmp 128) (.const (.int .i64 1)), (some (127, true)), 0⟩, ⟨(some 130), .ld 6 true (.tmp 129), (some (127, true)), 0⟩, ⟨(some 131), .ld 6 true (.tmp 18), (some (127, true)), 0⟩, ⟨(some 132), .eqa false [2, 2, 0, 1, 1, 1] (.tmp 130) (.tmp 131), (some (127, true)), 0⟩, ⟨(some 133), .pick (.tmp 127) (.tmp 132) (.const (.bool false)), none, 0⟩, ⟨(some 134), .mv (.tmp 133), none, 0⟩, ⟨(some 135), .mv (.tmp 17), (some (134, true)), 0⟩, ⟨(some 136), .mv (.tmp 19), (some (134, true)), 0⟩, ⟨(some 137), .binb false (.tmp 135) (.tmp 136), (some (134, true)), 0⟩, ⟨(some 138), .pick (.tmp 134) (.tmp 137) (.const (.bool false)), none, 0⟩, ⟨(some 139), .mv (.tmp 138), none, 0⟩, ⟨(some 140), .ld 2 true (.tmp 7), (some (139, true)), 0⟩, ⟨(some 141), .ixa 3 1 (.tmp 5) (.const (.int .i64 0)), (some (139, true)), 0⟩, ⟨(some 142), .ld 1 false (.tmp 141), (some (139, true)), 0⟩, ⟨(some 143), .cl 38 [(.tmp 140), (.tmp 142)], (some (139, true)), 0⟩, ⟨(some 144), .cl 13 [(.tmp 143)], (some (139, true)), 0⟩, ⟨(some 145), .ld 2 true (.tmp 3), (some (139, true)), 0⟩, ⟨(some 146), .ixa 3 1 (.tmp 5) (.const (.int .i64 0)), (some (139, true)), 0⟩, ⟨(some 147), .ld 1 false (.tmp 146), (some (139, true)), 0⟩, ⟨(some 148), .cl 39 [(.tmp 145), (.tmp 147)], (some (139, true)), 0⟩, ⟨(some 149), .cl 12 [(.tmp 144), (.tmp 148)], (some (139, true)), 0⟩, ⟨(some 150), .pick (.tmp 139) (.tmp 149) (.const (.bool false)), none, 0⟩, ⟨(some 151), .mv (.tmp 150), none, 0⟩, ⟨(some 152), .ld 2 true (.tmp 7), (some (151, true)), 0⟩, ⟨(some 153), .cl 41 [(.tmp 152)], (some (151, true)), 0⟩, ⟨(some 154), .ld 2 true (.tmp 3), (some (151, true)), 0⟩, ⟨(some 155), .cl 42 [(.tmp 154)], (some (151, true)), 0⟩, ⟨(some 156), .cl 40 [(.tmp 153), (.tmp 155)], (some (151, true)), 0⟩, ⟨(some 157), .pick (.tmp 151) (.tmp 156) (.const (.bool false)), none, 0⟩, ⟨(some 158), .mv (.tmp 157), none, 0⟩, ⟨(some 159), .ld 2 true (.tmp 7), (some (158, true)), 0⟩, ⟨(some 160), .ld 2 true (.tmp 4), (some (158, true)), 0⟩, ⟨(some 161), .cl 23 [(.tmp 160)], (some (158, true)), 0⟩, ⟨(some 162), .cl 43 [(.tmp 159), (.tmp 161)], (some (158, true)), 0⟩, ⟨(some 163), .ld 2 true (.tmp 3), (some (158, true)), 0⟩, ⟨(some 164), .ld 2 true (.tmp 4), (some (158, true)), 0⟩, ⟨(some 165), .cl 28 [(.tmp 163), (.tmp 164)], (some (158, true)), 0⟩, ⟨(some 166), .binb false (.tmp 162) (.tmp 165), (some (158, true)), 0⟩, ⟨(some 167), .pick (.tmp 158) (.tmp 166) (.const (.bool false)), none, 0⟩, ⟨(some 168), .mv (.tmp 167), none, 0⟩, ⟨(some 169), .cl 22 [], (some (168, true)), 0⟩, ⟨(some 170), .pick (.tmp 168) (.tmp 169) (.const (.bool false)), none, 0⟩, ⟨(some 6), .mv (.tmp 170), none, 0⟩] (some [[], [0], [], [0, 1, 2], [2, 3, 0, 1], [1, 0, 3, 2, 4], [4, 2, 3, 0, 1, 5], [4, 2, 3, 0, 1, 5], [7, 5, 1, 0, 3, 2, 4, 6], [6, 7, 8, 4, 2, 3, 0, 1, 5], [5, 1, 0, 3, 2, 4, 8, 7, 6, 9], [9, 6, 7, 8, 4, 2, 3, 0, 1, 5, 10], [9, 6, 7, 8, 4, 2, 3, 0, 1, 5, 10], [12, 10, 5, 1, 0, 3, 2, 4, 8, 7, 6, 9, 11], [11, 12, 13, 9, 6, 7, 8, 4, 2, 3, 0, 1, 5, 10], [10, 5, 1, 0, 3, 2, 4, 8, 7, 6, 9, 13, 12, 11, 14], [14, 11, 12, 13, 9, 6, 7, 8, 4, 2, 3, 0, 1, 5, 10, 15], [15, 10, 5, 1, 0, 3, 2, 4, 8, 7, 6, 9, 13, 12, 11, 14, 16], [16, 14, 11, 12, 13, 9, 6, 7, 8, 4, 2, 3, 0, 1, 5, 10, 15, 17], [14, 11, 12, 13, 9, 6, 7, 8, 4, 2, 3, 0, 1, 5, 10, 15], [19, 17, 15, 10, 5, 1, 0, 3, 2, 4, 8, 7, 6, 9, 13, 12, 11, 14, 16, 18], [18, 16, 17, 19, 20, 14, 11, 12, 13, 9, 6, 7, 8, 4, 2, 3, 0, 1, 5, 10, 15], [15, 10, 5, 1, 0, 3, 2, 4, 8, 7, 6, 9, 13, 12, 11, 14, 20, 19, 17, 16, 18, 21], [21, 18, 16, 17, 19, 20, 14, 11, 12, 13, 9, 6, 7, 8, 4, 2, 3, 0, 1, 5, 10, 15, 22], [21, 18, 16, 17, 19, 20, 14, 11, 12, 13, 9, 6, 7, 8, 4, 2, 3, 0, 1, 5, 10, 15, 22], [24, 22, 15, 10, 5, 1, 0, 3, 2, 4, 8, 7, 6, 9, 13, 12, 11, 14, 20, 19, 17, 16, 18, 21, 23], [23, 24, 25, 21, 18, 16, 17, 19, 20, 14, 11, 12, 13, 9, 6, 7, 8, 4, 2, 3, 0, 1, 5, 10, 15, 22], [22, 15, 10, 5, 1, 0, 3, 2, 4, 8, 7, 6, 9, 13, 12, 11, 14, 20, 19, 17, 16, 18, 21, 25, 24, 23, 26], [26, 23, 24, 25, 21, 18, 16, 17, 19, 20, 14, 11, 12, 13, 9, 6, 7, 8, 4, 2, 3, 0, 1, 5, 10, 15, 22, 27], [27, 22, 15, 10, 5, 1, 0, 3, 2, 4, 8, 7, 6, 9, 13, 12, 11, 14, 20, 19, 17, 16, 18, 21, 25, 24, 23, 26, 28], [28, 26, 23, 24, 25, 21, 18, 16, 17, 19, 20, 14, 11, 12, 13, 9, 6, 7, 8, 4, 2, 3, 0, 1, 5, 10, 15, 22, 27, 29], [26, 23, 24, 25, 21, 18, 16, 17, 19, 20, 14, 11, 12, 13, 9, 6, 7, 8, 4, 2, 3, 0, 1, 5, 10, 15, 22, 27], [31, 29, 27, 22, 15, 10, 5, 1, 0, 3, 2, 4, 8, 7, 6, 9, 13, 12, 11, 14, 20, 19, 17, 16, 18, 21, 25, 24, 23, 26, 28, 30], [30, 28, 29, 31, 32, 26, 23, 24, 25, 21, 18, 16, 17, 19, 20, 14, 11, 12, 13, 9, 6, 7, 8, 4, 2, 3, 0, 1, 5, 10, 15, 22, 27], [27, 22, 15, 10, 5, 1, 0, 3, 2, 4, 8, 7, 6, 9, 13, 12, 11, 14, 20, 19, 17, 16, 18, 21, 25, 24, 23, 26, 32, 31, 29, 28, 30, 33], [33, 30, 28, 29, 31, 32, 26, 23, 24, 25, 21, 18, 16, 17, 19, 20, 14, 11, 12, 13, 9, 6, 7, 8, 4, 2, 3, 0, 1, 5, 10, 15, 22, 27, 34], [33, 30, 28, 29, 31, 32, 26, 23, 24, 25, 21, 18, 16, 17, 19, 20, 14, 11, 12, 13, 9, 6, 7, 8, 4, 2, 3, 0, 1, 5, 10, 15, 22, 27, 34], [36, 34, 27, 22, 15, 10, 5, 1, 0, 3, 2, 4, 8, 7, 6, 9, 13, 12, 11, 14, 20, 19, 17, 16, 18, 21, 25, 24, 23, 26, 32, 31, 29, 28, 30, 33, 35], [35, 36, 37, 33, 30, 28, 29, 31, 32, 26, 23, 24, 25, 21, 18, 16, 17, 19, 20, 14, 11, 12, 13, 9, 6, 7, 8, 4, 2, 3, 0, 1, 5, 10, 15, 22, 27, 34], [34, 27, 22, 15, 10, 5, 1, 0, 3, 2, 4, 8, 7, 6, 9, 13, 12, 11, 14, 20, 19, 17, 16, 18, 21, 25, 24, 23, 26, 32, 31, 29, 28, 30, 33, 37, 36, 35, 38], [38, 35, 36, 37, 33, 30, 28, 29, 31, 32, 26, 23, 24, 25, 21, 18, 16, 17, 19, 20, 14, 11, 12, 13, 9, 6, 7, 8, 4, 2, 3, 0, 1, 5, 10, 15, 22, 27, 34, 39], [38, 35, 36, 37, 33, 30, 28, 29, 31, 32, 26, 23, 24, 25, 21, 18, 16, 17, 19, 20, 14, 11, 12, 13, 9, 6, 7, 8, 4, 2, 3, 0, 1, 5, 10, 15, 22, 27, 34, 39], [39, 34, 27, 22, 15, 10, 5, 1, 0, 3, 2, 4, 8, 7, 6, 9, 13, 12, 11, 14, 20, 19, 17, 16, 18, 21, 25, 24, 23, 26, 32, 31, 29, 28, 30, 33, 37, 36, 35, 38, 41], [41, 42, 39, 34, 27, 22, 15, 10, 5, 1, 0, 3, 2, 4, 8, 7, 6, 9, 13, 12, 11, 14, 20, 19, 17, 16, 18, 21, 25, 24, 23, 26, 32, 31, 29, 28, 30, 33, 37, 36, 35, 38, 40], [40, 38, 35, 36, 37, 33, 30, 28, 29, 31, 32, 26, 23, 24, 25, 21, 18, 16, 17, 19, 20, 14, 11, 12, 13, 9, 6, 7, 8, 4, 2, 3, 0, 1, 5, 10, 15, 22, 27, 34, 39, 42, 41, 43], [38, 35, 36, 37, 33, 30, 28, 29, 31, 32, 26, 23, 24, 25, 21, 18, 16, 17, 19, 20, 14, 11, 12, 13, 9, 6, 7, 8, 4, 2, 3, 0, 1, 5, 10, 15, 22, 27, 34, 39], [38, 35, 36, 37, 33, 30, 28, 29, 31, 32, 26, 23, 24, 25, 21, 18, 16, 17, 19, 20, 14, 11, 12, 13, 9, 6, 7, 8, 4, 2, 3, 0, 1, 5, 10, 15, 22, 27, 34, 39], [39, 34, 27, 22, 15, 10, 5, 1, 0, 3, 2, 4, 8, 7, 6, 9, 13, 12, 11, 14, 20, 19, 17, 16, 18, 21, 25, 24, 23, 26, 32, 31, 29, 28, 30, 33, 37, 36, 35, 38, 46], [43, 41, 42, 40, 44, 46, 47, 39, 34, 27, 22, 15, 10, 5, 1, 0, 3, 2, 4, 8, 7, 6, 9, 13, 12, 11, 14, 20, 19, 17, 16, 18, 21, 25, 24, 23, 26, 32, 31, 29, 28, 30, 33, 37, 36, 35, 38, 45], [45, 47, 46, 48, 43, 41, 42, 39, 34, 27, 22, 15, 10, 5, 1, 0, 3, 2, 4, 8, 7, 6, 9, 13, 12, 11, 14, 20, 19, 17, 16, 18, 21, 25, 24, 23, 26, 32, 31, 29, 28, 30, 33, 37, 36, 35, 38, 40, 44], [44, 40, 42, 41, 43, 48, 46, 47, 45, 49, 38, 35, 36, 37, 33, 30, 28, 29, 31, 32, 26, 23, 24, 25, 21, 18, 16, 17, 19, 20, 14, 11, 12, 13, 9, 6, 7, 8, 4, 2, 3, 0, 1, 5, 10, 15, 22, 27, 34, 39], [39, 34, 27, 22, 15, 10, 5, 1, 0, 3, 2, 4, 8, 7, 6, 9, 13, 12, 11, 14, 20, 19, 17, 16, 18, 21, 25, 24, 23, 26, 32, 31, 29, 28, 30, 33, 37, 36, 35, 38, 49, 45, 47, 46, 48, 43, 41, 42, 40, 44, 50], [50, 44, 40, 42, 41, 43, 48, 46, 47, 45, 49, 38, 35, 36, 37, 33, 30, 28, 29, 31, 32, 26, 23, 24, 25, 21, 18, 16, 17, 19, 20, 14, 11, 12, 13, 9, 6, 7, 8, 4, 2, 3, 0, 1, 5, 10, 15, 22, 27, 34, 39, 51], [51, 39, 34, 27, 22, 15, 10, 5, 1, 0, 3, 2, 4, 8, 7, 6, 9, 13, 12, 11, 14, 20, 19, 17, 16, 18, 21, 25, 24, 23, 26, 32, 31, 29, 28, 30, 33, 37, 36, 35, 38, 49, 45, 47, 46, 48, 43, 41, 42, 40, 44, 50, 52], [50, 44, 40, 42, 41, 43, 48, 46, 47, 45, 49, 38, 35, 36, 37, 33, 30, 28, 29, 31, 32, 26, 23, 24, 25, 21, 18, 16, 17, 19, 20, 14, 11, 12, 13, 9, 6, 7, 8, 4, 2, 3, 0, 1, 5, 10, 15, 22, 27, 34, 39, 51], [52, 53, 51, 39, 34, 27, 22, 15, 10, 5, 1, 0, 3, 2, 4, 8, 7, 6, 9, 13, 12, 11, 14, 20, 19, 17, 16, 18, 21, 25, 24, 23, 26, 32, 31, 29, 28, 30, 33, 37, 36, 35, 38, 49, 45, 47, 46, 48, 43, 41, 42, 40, 44, 50, 54], [54, 55, 52, 50, 44, 40, 42, 41, 43, 48, 46, 47, 45, 49, 38, 35, 36, 37, 33, 30, 28, 29, 31, 32, 26, 23, 24, 25, 21, 18, 16, 17, 19, 20, 14, 11, 12, 13, 9, 6, 7, 8, 4, 2, 3, 0, 1, 5, 10, 15, 22, 27, 34, 39, 51, 53], [53, 52, 55, 54, 56, 50, 44, 40, 42, 41, 43, 48, 46, 47, 45, 49, 38, 35, 36, 37, 33, 30, 28, 29, 31, 32, 26, 23, 24, 25, 21, 18, 16, 17, 19, 20, 14, 11, 12, 13, 9, 6, 7, 8, 4, 2, 3, 0, 1, 5, 10, 15, 22, 27, 34, 39, 51], [51, 39, 34, 27, 22, 15, 10, 5, 1, 0, 3, 2, 4, 8, 7, 6, 9, 13, 12, 11, 14, 20, 19, 17, 16, 18, 21, 25, 24, 23, 26, 32, 31, 29, 28, 30, 33, 37, 36, 35, 38, 49, 45, 47, 46, 48, 43, 41, 42, 40, 44, 50, 56, 54, 55, 52, 53, 57], [57, 53, 52, 55, 54, 56, 50, 44, 40, 42, 41, 43, 48, 46, 47, 45, 49, 38, 35, 36, 37, 33, 30, 28, 29, 31, 32, 26, 23, 24, 25, 21, 18, 16, 17, 19, 20, 14, 11, 12, 13, 9, 6, 7, 8, 4, 2, 3, 0, 1, 5, 10, 15, 22, 27, 34, 39, 51, 58], [57, 53, 52, 55, 54, 56, 50, 44, 40, 42, 41, 43, 48, 46, 47, 45, 49, 38, 35, 36, 37, 33, 30, 28, 29, 31, 32, 26, 23, 24, 25, 21, 18, 16, 17, 19, 20, 14, 11, 12, 13, 9, 6, 7, 8, 4, 2, 3, 0, 1, 5, 10, 15, 22, 27, 34, 39, 51, 58], [58, 51, 39, 34, 27, 22, 15, 10, 5, 1, 0, 3, 2, 4, 8, 7, 6, 9, 13, 12, 11, 14, 20, 19, 17, 16, 18, 21, 25, 24, 23, 26, 32, 31, 29, 28, 30, 33, 37, 36, 35, 38, 49, 45, 47, 46, 48, 43, 41, 42, 40, 44, 50, 56, 54, 55, 52, 53, 57, 60], [60, 61, 58, 51, 39, 34, 27, 22, 15, 10, 5, 1, 0, 3, 2, 4, 8, 7, 6, 9, 13, 12, 11, 14, 20, 19, 17, 16, 18, 21, 25, 24, 23, 26, 32, 31, 29, 28, 30, 33, 37, 36, 35, 38, 49, 45, 47, 46, 48, 43, 41, 42, 40, 44, 50, 56, 54, 55, 52, 53, 57, 59], [57, 53, 52, 55, 54, 56, 50, 44, 40, 42, 41, 43, 48, 46, 47, 45, 49, 38, 35, 36, 37, 33, 30, 28, 29, 31, 32, 26, 23, 24, 25, 21, 18, 16, 17, 19, 20, 14, 11, 12, 13, 9, 6, 7, 8, 4, 2, 3, 0, 1, 5, 10, 15, 22, 27, 34, 39, 51, 58], [57, 53, 52, 55, 54, 56, 50, 44, 40, 42, 41, 43, 48, 46, 47, 45, 49, 38, 35, 36, 37, 33, 30, 28, 29, 31, 32, 26, 23, 24, 25, 21, 18, 16, 17, 19, 20, 14, 11, 12, 13, 9, 6, 7, 8, 4, 2, 3, 0, 1, 5, 10, 15, 22, 27, 34, 39, 51, 58], [59, 61, 60, 62, 64, 58, 51, 39, 34, 27, 22, 15, 10, 5, 1, 0, 3, 2, 4, 8, 7, 6, 9, 13, 12, 11, 14, 20, 19, 17, 16, 18, 21, 25, 24, 23, 26, 32, 31, 29, 28, 30, 33, 37, 36, 35, 38, 49, 45, 47, 46, 48, 43, 41, 42, 40, 44, 50, 56, 54, 55, 52, 53, 57, 63], [63, 64, 65, 59, 57, 53, 52, 55, 54, 56, 50, 44, 40, 42, 41, 43, 48, 46, 47, 45, 49, 38, 35, 36, 37, 33, 30, 28, 29, 31, 32, 26, 23, 24, 25, 21, 18, 16, 17, 19, 20, 14, 11, 12, 13, 9, 6, 7, 8, 4, 2, 3, 0, 1, 5, 10, 15, 22, 27, 34, 39, 51, 58, 61, 60, 62], [62, 60, 61, 59, 65, 64, 63, 66, 57, 53, 52, 55, 54, 56, 50, 44, 40, 42, 41, 43, 48, 46, 47, 45, 49, 38, 35, 36, 37, 33, 30, 28, 29, 31, 32, 26, 23, 24, 25, 21, 18, 16, 17, 19, 20, 14, 11, 12, 13, 9, 6, 7, 8, 4, 2, 3, 0, 1, 5, 10, 15, 22, 27, 34, 39, 51, 58], [58, 51, 39, 34, 27, 22, 15, 10, 5, 1, 0, 3, 2, 4, 8, 7, 6, 9, 13, 12, 11, 14, 20, 19, 17, 16, 18, 21, 25, 24, 23, 26, 32, 31, 29, 28, 30, 33, 37, 36, 35, 38, 49, 45, 47, 46, 48, 43, 41, 42, 40, 44, 50, 56, 54, 55, 52, 53, 57, 66, 63, 64, 65, 59, 61, 60, 62, 67], [67, 62, 60, 61, 59, 65, 64, 63, 66, 57, 53, 52, 55, 54, 56, 50, 44, 40, 42, 41, 43, 48, 46, 47, 45, 49, 38, 35, 36, 37, 33, 30, 28, 29, 31, 32, 26, 23, 24, 25, 21, 18, 16, 17, 19, 20, 14, 11, 12, 13, 9, 6, 7, 8, 4, 2, 3, 0, 1, 5, 10, 15, 22, 27, 34, 39, 51, 58, 68], [69, 67, 62, 60, 61, 59, 65, 64, 63, 66, 57, 53, 52, 55, 54, 56, 50, 44, 40, 42, 41, 43, 48, 46, 47, 45, 49, 38, 35, 36, 37, 33, 30, 28, 29, 31, 32, 26, 23, 24, 25, 21, 18, 16, 17, 19, 20, 14, 11, 12, 13, 9, 6, 7, 8, 4, 2, 3, 0, 1, 5, 10, 15, 22, 27, 34, 39, 51, 58, 68], [68, 58, 51, 39, 34, 27, 22, 15, 10, 5, 1, 0, 3, 2, 4, 8, 7, 6, 9, 13, 12, 11, 14, 20, 19, 17, 16, 18, 21, 25, 24, 23, 26, 32, 31, 29, 28, 30, 33, 37, 36, 35, 38, 49, 45, 47, 46, 48, 43, 41, 42, 40, 44, 50, 56, 54, 55, 52, 53, 57, 66, 63, 64, 65, 59, 61, 60, 62, 67, 69, 70]]) 0 []) .ret)))))))))))
set_option maxRecDepth 1000000 in
theorem gc5_ok : compF Tryz.prog Tryz.f5 = some (gc5.er, 171, [.tmp 6]) := by unfold gc5; kernel_rfl
set_option maxRecDepth 100000 in
set_option maxHeartbeats 4000000 in
theorem p_law24_BookTells_v {u1 u2 : Bool} (a0 : BookState) (a1 : BookState) (a2 : Ar3_ByteArray) : CallsO Tryz.prog 5 [.agg [.i a0.Seq, .sl (List.map BookRow.v a0.Rows) u1], .agg [.i a1.Seq, .sl (List.map BookRow.v a1.Rows) u2], .agg [.s a2.a0, .s a2.a1, .s a2.a2]] V.b (p_law24_BookTells a0 a1 a2) := by
  refine callsO_comp mix Tryz.func5 gc5_ok fun r H => ?_
  rw [p_law24_BookTells] at H
  conv => whnf
  refine ask_c (p_ref24_Light_v _) H rfl rfl (fun v1 H => ?_); conv => whnf
  refine Tst.not ?_
  refine tst_d H (fun b2 H => ?_) (fun b2 H => ?_)
  · conv => whnf
    iterate 19 (refine Tst.T ?_; conv => whnf)
    refine ask_c (p_law24_awake_v) H rfl rfl (fun v45 H => ?_); conv => whnf
    exact fin0_c (enc := V.b) H (.inr rfl) (.cons (.tmp rfl) (.nil)) rfl rfl
  conv => whnf
  refine Tst.F ?_; conv => whnf
  refine ask_c (p_ref24_Light_v _) H rfl rfl (fun v3 H => ?_); conv => whnf
  iterate 2 (refine Tst.F ?_; conv => whnf)
  refine Tst.not ?_
  refine tst_d H (fun b4 H => ?_) (fun b4 H => ?_)
  · conv => whnf
    iterate 15 (refine Tst.T ?_; conv => whnf)
    refine ask_c (p_law24_awake_v) H rfl rfl (fun v44 H => ?_); conv => whnf
    exact fin0_c (enc := V.b) H (.inr rfl) (.cons (.tmp rfl) (.nil)) rfl rfl
  conv => whnf
  refine IxO.ok (by decide) (by decide) ?_; conv => whnf
  iterate 4 (refine Tst.F ?_; conv => whnf)
  refine tst_c H (fun b5 H => ?_) (fun b5 H => ?_)
  · conv => whnf
    iterate 10 (refine Tst.T ?_; conv => whnf)
    refine ask_c (p_law24_awake_v) H rfl rfl (fun v6 H => ?_); conv => whnf
    exact fin0_c (enc := V.b) H (.inr rfl) (.cons (.tmp rfl) (.nil)) rfl rfl
  conv => whnf
  refine IxO.ok (by decide) (by decide) ?_; conv => whnf
  iterate 4 (refine Tst.F ?_; conv => whnf)
  refine tst_c H (fun b7 H => ?_) (fun b7 H => ?_)
  · conv => whnf
    iterate 5 (refine Tst.T ?_; conv => whnf)
    refine ask_c (p_law24_awake_v) H rfl rfl (fun v8 H => ?_); conv => whnf
    exact fin0_c (enc := V.b) H (.inr rfl) (.cons (.tmp rfl) (.nil)) rfl rfl
  conv => whnf
  refine IxO.ok (by decide) (by decide) ?_; conv => whnf
  iterate 4 (refine Tst.F ?_; conv => whnf)
  refine tst_c H (fun b9 H => ?_) (fun b9 H => ?_)
  · conv => whnf
    refine ask_c (p_law24_awake_v) H rfl rfl (fun v10 H => ?_); conv => whnf
    exact fin0_c (enc := V.b) H (.inr rfl) (.cons (.tmp rfl) (.nil)) rfl rfl
  conv => whnf
  refine ask_c (p_law24_own_v _) H rfl rfl (fun v11 H => ?_); conv => whnf
  refine ⟨Nat.le_of_ble_eq_true rfl, ?_⟩; conv => whnf
  refine IxO.ok (by decide) (by decide) ?_; conv => whnf
  refine IxO.ok (by decide) (by decide) ?_; conv => whnf
  refine ask_c (p_book_Get_v _ _ _) H rfl rfl (fun v12 H => ?_); conv => whnf
  refine ⟨Nat.le_of_ble_eq_true rfl, ?_⟩; conv => whnf
  refine IxO.ok (by decide) (by decide) ?_; conv => whnf
  refine IxO.ok (by decide) (by decide) ?_; conv => whnf
  refine ask_c (p_ref24_Get_v _ _ _) H rfl rfl (fun v13 H => ?_); conv => whnf
  refine ⟨Nat.le_of_ble_eq_true rfl, ?_⟩; conv => whnf
  refine IxO.ok (by decide) (by decide) ?_; conv => whnf
  refine ask_c (p_book_Best_v _ _) H rfl rfl (fun v14 H => ?_); conv => whnf
  refine ⟨Nat.le_of_ble_eq_true rfl, ?_⟩; conv => whnf
  refine IxO.ok (by decide) (by decide) ?_; conv => whnf
  refine ask_c (p_ref24_Best_v _ _) H rfl rfl (fun v15 H => ?_); conv => whnf
  refine ⟨Nat.le_of_ble_eq_true rfl, ?_⟩; conv => whnf
  refine IxO.ok (by decide) (by decide) ?_; conv => whnf
  refine ask_c (p_book_Next_v _ _) H rfl rfl (fun v16 H => ?_); conv => whnf
  refine ⟨Nat.le_of_ble_eq_true rfl, ?_⟩; conv => whnf
  refine IxO.ok (by decide) (by decide) ?_; conv => whnf
  refine ask_c (p_ref24_Next_v _ _) H rfl rfl (fun v17 H => ?_); conv => whnf
  refine ⟨Nat.le_of_ble_eq_true rfl, ?_⟩; conv => whnf
  refine askF_c (p_law24_Rows_v _) H (.cons (.c (fzown (f := BookRow.v) (l := [v14.1, v16.1]) rfl rfl (fun _ => rfl) (fun _ => rfl))) (.nil)) (fun v18 H => ?_); conv => whnf
  refine ask_c (p_book_Check_v _) H rfl rfl (fun v19 H => ?_); conv => whnf
  refine ask_c (p_ref24_Check_v _) H rfl rfl (fun v20 H => ?_); conv => whnf
  refine tst_d H (fun b21 H => ?_) (fun b21 H => ?_)
  · conv => whnf
    iterate 55 (refine Tst.F ?_; conv => whnf)
    refine FootQ.mk ⟨rfl, ?_⟩; conv => whnf
    exact fin0_c (enc := V.b) H (.inr rfl) (.cons (.tmp rfl) (.nil)) rfl rfl
  conv => whnf
  iterate 3 (refine Tst.T ?_; conv => whnf)
  refine tst_d H (fun b22 H => ?_) (fun b22 H => ?_)
  · conv => whnf
    iterate 51 (refine Tst.F ?_; conv => whnf)
    refine FootQ.mk ⟨rfl, ?_⟩; conv => whnf
    exact fin0_c (enc := V.b) H (.inr rfl) (.cons (.tmp rfl) (.nil)) rfl rfl
  conv => whnf
  iterate 3 (refine Tst.T ?_; conv => whnf)
  refine tst_d H (fun b23 H => ?_) (fun b23 H => ?_)
  · conv => whnf
    iterate 47 (refine Tst.F ?_; conv => whnf)
    refine FootQ.mk ⟨rfl, ?_⟩; conv => whnf
    exact fin0_c (enc := V.b) H (.inr rfl) (.cons (.tmp rfl) (.nil)) rfl rfl
  conv => whnf
  refine Tst.T ?_; conv => whnf
  refine ixs_c (f := BookRow.v) H (fun _ => rfl) (fun x24 H => ?_); conv => whnf
  iterate 4 (refine Tst.T ?_; conv => whnf)
  refine tst_d H (fun b25 H => ?_) (fun b25 H => ?_)
  · conv => whnf
    iterate 41 (refine Tst.F ?_; conv => whnf)
    refine FootQ.mk ⟨rfl, ?_⟩; conv => whnf
    exact fin0_c (enc := V.b) H (.inr rfl) (.cons (.tmp rfl) (.nil)) rfl rfl
  conv => whnf
  iterate 3 (refine Tst.T ?_; conv => whnf)
  refine tst_d H (fun b26 H => ?_) (fun b26 H => ?_)
  · conv => whnf
    iterate 37 (refine Tst.F ?_; conv => whnf)
    refine FootQ.mk ⟨rfl, ?_⟩; conv => whnf
    exact fin0_c (enc := V.b) H (.inr rfl) (.cons (.tmp rfl) (.nil)) rfl rfl
  conv => whnf
  refine Tst.T ?_; conv => whnf
  refine ixs_c (f := BookRow.v) H (fun _ => rfl) (fun x27 H => ?_); conv => whnf
  iterate 4 (refine Tst.T ?_; conv => whnf)
  refine tst_d H (fun b28 H => ?_) (fun b28 H => ?_)
  · conv => whnf
    iterate 31 (refine Tst.F ?_; conv => whnf)
    refine FootQ.mk ⟨rfl, ?_⟩; conv => whnf
    exact fin0_c (enc := V.b) H (.inr rfl) (.cons (.tmp rfl) (.nil)) rfl rfl
  conv => whnf
  iterate 3 (refine Tst.T ?_; conv => whnf)
  refine tst_d H (fun b29 H => ?_) (fun b29 H => ?_)
  · conv => whnf
    iterate 27 (refine Tst.F ?_; conv => whnf)
    refine FootQ.mk ⟨rfl, ?_⟩; conv => whnf
    exact fin0_c (enc := V.b) H (.inr rfl) (.cons (.tmp rfl) (.nil)) rfl rfl
  conv => whnf
  refine Tst.T ?_; conv => whnf
  refine IxO.ok (by decide) (by decide) ?_; conv => whnf
  iterate 2 (refine Tst.T ?_; conv => whnf)
  refine ask_c (p_book_Of_v _ _) H rfl rfl (fun v30 H => ?_); conv => whnf
  refine Tst.T ?_; conv => whnf
  refine ask_c (p_law24_Rows_v _) H rfl rfl (fun v31 H => ?_); conv => whnf
  iterate 2 (refine Tst.T ?_; conv => whnf)
  refine IxO.ok (by decide) (by decide) ?_; conv => whnf
  iterate 2 (refine Tst.T ?_; conv => whnf)
  refine ask_c (p_ref24_Of_v _ _) H rfl rfl (fun v32 H => ?_); conv => whnf
  refine Tst.T ?_; conv => whnf
  refine ask_c (p_ref24_SameRows_v _ _) H rfl rfl (fun v33 H => ?_); conv => whnf
  refine Tst.T ?_; conv => whnf
  refine tst_d H (fun b34 H => ?_) (fun b34 H => ?_)
  · conv => whnf
    iterate 16 (refine Tst.F ?_; conv => whnf)
    refine FootQ.mk ⟨rfl, ?_⟩; conv => whnf
    exact fin0_c (enc := V.b) H (.inr rfl) (.cons (.tmp rfl) (.nil)) rfl rfl
  conv => whnf
  refine Tst.T ?_; conv => whnf
  refine ask_c (p_book_Users_v _) H rfl rfl (fun v35 H => ?_); conv => whnf
  iterate 2 (refine Tst.T ?_; conv => whnf)
  refine ask_c (p_ref24_Users_v _) H rfl rfl (fun v36 H => ?_); conv => whnf
  refine Tst.T ?_; conv => whnf
  refine ask_c (p_ref01_SameTexts_v _ _) H rfl rfl (fun v37 H => ?_); conv => whnf
  refine Tst.T ?_; conv => whnf
  refine tst_d H (fun b38 H => ?_) (fun b38 H => ?_)
  · conv => whnf
    iterate 10 (refine Tst.F ?_; conv => whnf)
    refine FootQ.mk ⟨rfl, ?_⟩; conv => whnf
    exact fin0_c (enc := V.b) H (.inr rfl) (.cons (.tmp rfl) (.nil)) rfl rfl
  conv => whnf
  iterate 2 (refine Tst.T ?_; conv => whnf)
  refine ask_c (p_law24_own_v _) H rfl rfl (fun v39 H => ?_); conv => whnf
  refine Tst.T ?_; conv => whnf
  refine ask_c (p_book_Same_v _ _) H rfl rfl (fun v40 H => ?_); conv => whnf
  iterate 3 (refine Tst.T ?_; conv => whnf)
  refine ask_c (p_ref24_Same_v _ _) H rfl rfl (fun v41 H => ?_); conv => whnf
  iterate 2 (refine Tst.T ?_; conv => whnf)
  refine tst_d H (fun b42 H => ?_) (fun b42 H => ?_)
  · conv => whnf
    refine Tst.F ?_; conv => whnf
    refine FootQ.mk ⟨rfl, ?_⟩; conv => whnf
    exact fin0_c (enc := V.b) H (.inr rfl) (.cons (.tmp rfl) (.nil)) rfl rfl
  conv => whnf
  refine ask_c (p_law24_awake_v) H rfl rfl (fun v43 H => ?_); conv => whnf
  refine Tst.T ?_; conv => whnf
  refine FootQ.mk ⟨rfl, ?_⟩; conv => whnf
  exact fin0_c (enc := V.b) H (.inr rfl) (.cons (.tmp rfl) (.nil)) rfl rfl
end Go.Proofs.YtljeinlapkgjeaaGreat
/- BookTells: for every input the call returns true, and its arguments read as they did. -/
namespace Go.Proofs.YtljeinlapkgjeaaGreat
open Go.ChangeShapes Go.WideShapes Go.ChangeAt Go.RowKit Go.Joins Go.Deep
set_option maxRecDepth 100000 in
theorem bookTells_lifted (os : Os) (started : os.Started) (H : Type) (enc : TypeId × Value → H) :
    ReturnsInHanded {} Tryz.checked os 5 .any (Rows.bookTellsSpec.pre6 enc Tryz.prog Tryz.f5 Rows.bookTellsRow.domain false) (Rows.bookTellsSpec.post enc Tryz.prog Tryz.f5 false true false false) := by
  refine returnsInHanded_of_change_shaped (C := Tryz.checked) own0 started (by kernel_rfl) Tryz.func5
    (ChangeSpec.witness6 (enc := enc) (C := Tryz.checked) false ⟨#[], #[.agg #[.int .i64 0, .slice none 0 0], .agg #[.int .i64 0, .slice none 0 0], .agg #[.string ⟨#[]⟩, .string ⟨#[]⟩, .string ⟨#[]⟩]], []⟩ 8 (by kernel_rfl) (by kernel_rfl) (by kernel_rfl) (by kernel_rfl)) ?_
  intro W base args ds gs before hval0 hW hcnd _ hsh _
  have hval : ∀ (j : Nat) t v, Tryz.f5.params[j]? = some t → args[j]? = some v → Value.okWide Tryz.prog W .any base t v := hval0
  have hW' := hW
  obtain ⟨p, q, hA0, hV, rfl, hfz, hnd⟩ := hW
  have hA : DataW.TrodAll enc Tryz.prog W 0 (fun _ => true) true Tryz.f5.params.toList args.toList ds p := hA0
  rw [Tryz.params5] at hA hval
  have hA2 := hA
  obtain ⟨v0, v1, v2, d0, d1, d2, p0, p1, p2, rfl, rfl, hp, h0, h1, h2⟩ := trodAll_three hA
  obtain ⟨rfl, rfl⟩ := trodVars_none hV
  obtain ⟨fu0, hf0⟩ := h0
  obtain ⟨cs0, rfl, _⟩ := okWide_struct Tryz.underlying27 (hval 0 _ v0 rfl rfl)
  obtain ⟨a0, w0, r0⟩ := rd_T27 hf0
  have hx0 : Rep (MW W) noBk (.agg cs0) (.agg [.i a0.Seq, .sl (List.map BookRow.v a0.Rows) false]) := rep_aggL r0 (by intro u hu; simp only [List.mem_cons, List.not_mem_nil, or_false] at hu; rcases hu with rfl | rfl <;> rfl)
  obtain ⟨fu1, hf1⟩ := h1
  obtain ⟨cs1, rfl, _⟩ := okWide_struct Tryz.underlying27 (hval 1 _ v1 rfl rfl)
  obtain ⟨a1, w1, r1⟩ := rd_T27 hf1
  have hx1 : Rep (MW W) noBk (.agg cs1) (.agg [.i a1.Seq, .sl (List.map BookRow.v a1.Rows) false]) := rep_aggL r1 (by intro u hu; simp only [List.mem_cons, List.not_mem_nil, or_false] at hu; rcases hu with rfl | rfl <;> rfl)
  obtain ⟨fu2, hf2⟩ := h2
  obtain ⟨cs2, rfl, _⟩ := okWide_arr Tryz.underlying68 (hval 2 _ v2 rfl rfl)
  obtain ⟨a2, r2⟩ := rd_T68 hf2
  have hx2 : Rep (MW W) noBk (.agg cs2) (.agg [.s a2.a0, .s a2.a1, .s a2.a2]) := rep_aggL r2 (by intro u hu; simp only [List.mem_cons, List.not_mem_nil, or_false] at hu; rcases hu with rfl | rfl | rfl <;> rfl)
  refine (rep_one (callsO_true (p_law24_BookTells_v a0 a1 a2) (bookTells_pure a0 a1 a2)) (maxLen_cell W hsh) (repA3 hx0 hx1 hx2)).mono ?_
  rintro e W' ⟨rfl, bel⟩
  refine ⟨_, rfl, _, _, _, [], p, [], hW', ?_, ?_, ?_, ?_, ?_⟩
  · exact trodAll_mk1 (shut_bool Tryz.underlying4 true)
  · exact trodAll_below laid0 bel (by
      intro t ht
      simp at ht
      rcases ht with rfl | rfl <;> exact ⟨by kernel_rfl, of_decide_eq_true (by kernel_rfl)⟩) hA2
  · rfl
  · exact bel.frame _
  · exact fun h => by cases h
theorem bookTells_holds : Rows.BookTellsSaid :=
  OpenClaim.holds_of_wide 5 Tryz.f5 rfl rfl rfl rfl rfl rfl rfl ⟨rfl, rfl, rfl, rfl, rfl⟩ rfl rfl rfl rfl rfl (by kernel_rfl) Tryz.func5 (by kernel_rfl)
    (of_decide_eq_true (by kernel_rfl)) (by unfold Func.isWrapper; first | (rw [if_pos (by decide +kernel)]; kernel_rfl) | (rw [if_neg (by decide +kernel)]; exact ⟨rfl, rfl⟩))
    (fun os started H enc _ => bookTells_lifted os started H enc)
#print axioms bookTells_holds
end Go.Proofs.YtljeinlapkgjeaaGreat
