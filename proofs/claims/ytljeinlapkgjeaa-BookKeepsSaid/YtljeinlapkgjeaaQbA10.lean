/- A part of the proof: 1 texts joined. -/
import Derived.Test.YtljeinlapkgjeaaQbA6
import Derived.Test.YtljeinlapkgjeaaQbA8
import Derived.Test.YtljeinlapkgjeaaQbA9
import Derived.Test.YtljeinlapkgjeaaQbA4
import Derived.KernelRfl
set_option linter.all false
/- That the program's functions yield what the plain ones tell (written by a program of mine). -/
namespace Go.Proofs.Ytljeinlapkgjeaa
open Go.RowKit
def gc49 : BCode := (.seq (.reg 0 [⟨(some 0), .mv (.const (.bool false)), none, 0⟩] none 0 []) (.seq (.reg 2 [⟨(some 23), .bd [(.lit (.int .i64 0)), (.sl [] true)] [], none, 0⟩, ⟨(some 24), .cl 44 [(.tmp 23), (.const (.string ⟨#[97, 64, 98]⟩)), (.const (.string ⟨#[120]⟩)), (.const (.int .i64 1)), (.const (.int .i64 5))], none, 0⟩, ⟨(some 22), .mv (.tmp 24), none, 0⟩, ⟨(some 25), .ex (.tmp 22) 0, none, 0⟩, ⟨(some 26), .ex (.tmp 22) 1, none, 0⟩, ⟨(some 27), .ex (.tmp 22) 2, none, 0⟩, ⟨(some 1), .al (.agg [(.lit (.int .i64 0)), (.sl [] true)]), none, 0⟩, ⟨(some 2), .al (.agg [(.lit (.bool false)), (.lit (.int .i64 0)), (.lit (.int .i64 0)), (.lit (.int .i64 0))]), none, 1⟩, ⟨none, .st 2 (.tmp 1) (.tmp 25), none, 2⟩, ⟨none, .st 4 (.tmp 2) (.tmp 26), none, 2⟩, ⟨(some 3), .mv (.tmp 27), none, 2⟩] none 0 []) (.seq (.reg 2 [⟨(some 29), .ld 2 true (.tmp 1), none, 0⟩, ⟨(some 30), .cl 44 [(.tmp 29), (.const (.string ⟨#[97, 64, 98]⟩)), (.const (.string ⟨#[121]⟩)), (.const (.int .i64 0)), (.const (.int .i64 7))], none, 0⟩, ⟨(some 28), .mv (.tmp 30), none, 0⟩, ⟨(some 31), .ex (.tmp 28) 0, none, 0⟩, ⟨(some 32), .ex (.tmp 28) 1, none, 0⟩, ⟨(some 33), .ex (.tmp 28) 2, none, 0⟩, ⟨(some 4), .al (.agg [(.lit (.int .i64 0)), (.sl [] true)]), none, 0⟩, ⟨(some 5), .al (.agg [(.lit (.bool false)), (.lit (.int .i64 0)), (.lit (.int .i64 0)), (.lit (.int .i64 0))]), none, 1⟩, ⟨none, .st 2 (.tmp 4) (.tmp 31), none, 2⟩, ⟨none, .st 4 (.tmp 5) (.tmp 32), none, 2⟩, ⟨(some 6), .mv (.tmp 33), none, 2⟩] none 0 []) (.seq (.reg 2 [⟨(some 35), .ld 2 true (.tmp 4), none, 0⟩, ⟨(some 36), .cl 43 [(.tmp 35), (.const (.string ⟨#[97, 64, 98]⟩)), (.const (.string ⟨#[120]⟩))], none, 0⟩, ⟨(some 34), .mv (.tmp 36), none, 0⟩, ⟨(some 37), .ex (.tmp 34) 0, none, 0⟩, ⟨(some 38), .ex (.tmp 34) 1, none, 0⟩, ⟨(some 39), .ex (.tmp 34) 2, none, 0⟩, ⟨(some 7), .al (.agg [(.lit (.int .i64 0)), (.sl [] true)]), none, 0⟩, ⟨(some 8), .al (.agg [(.lit (.bool false)), (.lit (.int .i64 0)), (.lit (.int .i64 0)), (.lit (.int .i64 0))]), none, 1⟩, ⟨none, .st 2 (.tmp 7) (.tmp 37), none, 2⟩, ⟨none, .st 4 (.tmp 8) (.tmp 38), none, 2⟩, ⟨(some 9), .mv (.tmp 39), none, 2⟩] none 0 []) (.seq (.reg 2 [⟨(some 41), .ld 2 true (.tmp 7), none, 0⟩, ⟨(some 42), .cl 43 [(.tmp 41), (.const (.string ⟨#[97, 64, 98]⟩)), (.const (.string ⟨#[120]⟩))], none, 0⟩, ⟨(some 40), .mv (.tmp 42), none, 0⟩, ⟨(some 43), .ex (.tmp 40) 0, none, 0⟩, ⟨(some 44), .ex (.tmp 40) 1, none, 0⟩, ⟨(some 45), .ex (.tmp 40) 2, none, 0⟩, ⟨(some 10), .al (.agg [(.lit (.int .i64 0)), (.sl [] true)]), none, 0⟩, ⟨(some 11), .al (.agg [(.lit (.bool false)), (.lit (.int .i64 0)), (.lit (.int .i64 0)), (.lit (.int .i64 0))]), none, 1⟩, ⟨none, .st 2 (.tmp 10) (.tmp 43), none, 2⟩, ⟨none, .st 4 (.tmp 11) (.tmp 44), none, 2⟩, ⟨(some 12), .mv (.tmp 45), none, 2⟩] none 0 []) (.seq (.reg 1 [⟨(some 47), .ld 2 true (.tmp 4), none, 0⟩, ⟨(some 48), .cl 56 [(.tmp 47), (.const (.string ⟨#[97, 64, 98]⟩))], none, 0⟩, ⟨(some 46), .mv (.tmp 48), none, 0⟩, ⟨(some 49), .ex (.tmp 46) 0, none, 0⟩, ⟨(some 50), .ex (.tmp 46) 1, none, 0⟩, ⟨(some 13), .al (.agg [(.lit (.string ⟨#[]⟩)), (.lit (.string ⟨#[]⟩)), (.lit (.bool false)), (.lit (.int .i64 0)), (.lit (.int .i64 0)), (.lit (.int .i64 0))]), none, 0⟩, ⟨none, .st 6 (.tmp 13) (.tmp 49), none, 1⟩, ⟨(some 14), .mv (.tmp 50), none, 1⟩] none 0 []) (.seq (.reg 1 [⟨(some 52), .ld 2 true (.tmp 4), none, 0⟩, ⟨(some 53), .cl 53 [(.tmp 52), (.const (.string ⟨#[97, 64, 98, 32, 120]⟩))], none, 0⟩, ⟨(some 51), .mv (.tmp 53), none, 0⟩, ⟨(some 54), .ex (.tmp 51) 0, none, 0⟩, ⟨(some 55), .ex (.tmp 51) 1, none, 0⟩, ⟨(some 15), .al (.agg [(.lit (.string ⟨#[]⟩)), (.lit (.string ⟨#[]⟩)), (.lit (.bool false)), (.lit (.int .i64 0)), (.lit (.int .i64 0)), (.lit (.int .i64 0))]), none, 0⟩, ⟨none, .st 6 (.tmp 15) (.tmp 54), none, 1⟩, ⟨(some 16), .mv (.tmp 55), none, 1⟩] none 0 []) (.seq (.reg 1 [⟨(some 57), .ld 2 true (.tmp 4), none, 0⟩, ⟨(some 58), .cl 52 [(.tmp 57), (.const (.string ⟨#[97, 64, 98]⟩)), (.const (.string ⟨#[120]⟩))], none, 0⟩, ⟨(some 56), .mv (.tmp 58), none, 0⟩, ⟨(some 59), .ex (.tmp 56) 0, none, 0⟩, ⟨(some 60), .ex (.tmp 56) 1, none, 0⟩, ⟨(some 17), .al (.agg [(.lit (.bool false)), (.lit (.int .i64 0)), (.lit (.int .i64 0)), (.lit (.int .i64 0))]), none, 0⟩, ⟨none, .st 4 (.tmp 17) (.tmp 59), none, 1⟩, ⟨(some 18), .mv (.tmp 60), none, 1⟩] none 0 []) (.seq (.reg 2 [⟨(some 62), .ld 2 true (.tmp 7), none, 0⟩, ⟨(some 63), .cl 44 [(.tmp 62), (.const (.string ⟨#[97]⟩)), (.const (.string ⟨#[]⟩)), (.const (.int .i64 0)), (.const (.int .i64 0))], none, 0⟩, ⟨(some 61), .mv (.tmp 63), none, 0⟩, ⟨(some 64), .ex (.tmp 61) 0, none, 0⟩, ⟨(some 65), .ex (.tmp 61) 1, none, 0⟩, ⟨(some 66), .ex (.tmp 61) 2, none, 0⟩, ⟨(some 19), .al (.agg [(.lit (.int .i64 0)), (.sl [] true)]), none, 0⟩, ⟨(some 20), .al (.agg [(.lit (.bool false)), (.lit (.int .i64 0)), (.lit (.int .i64 0)), (.lit (.int .i64 0))]), none, 1⟩, ⟨none, .st 2 (.tmp 19) (.tmp 64), none, 2⟩, ⟨none, .st 4 (.tmp 20) (.tmp 65), none, 2⟩, ⟨(some 21), .mv (.tmp 66), none, 2⟩] none 0 []) (.seq (.reg 1 [⟨(some 67), .ld 4 true (.tmp 2), none, 0⟩, ⟨(some 68), .bd [(.lit (.bool false)), (.lit (.int .i64 0)), (.lit (.int .i64 0)), (.lit (.int .i64 0))] [(0, 1, (.const (.bool true))), (1, 1, (.const (.int .i64 1))), (2, 1, (.const (.int .i64 5))), (3, 1, (.const (.int .i64 1)))], none, 0⟩, ⟨(some 69), .eqa false [0, 1, 1, 1] (.tmp 67) (.tmp 68), none, 0⟩, ⟨(some 70), .mv (.tmp 69), none, 0⟩, ⟨(some 71), .mv (.tmp 3), (some (70, true)), 0⟩, ⟨(some 72), .bin .eql (.tmp 71) (.const (.int .i64 0)), (some (70, true)), 0⟩, ⟨(some 73), .pick (.tmp 70) (.tmp 72) (.const (.bool false)), none, 0⟩, ⟨(some 74), .mv (.tmp 73), none, 0⟩, ⟨(some 75), .fa 3 (.tmp 5), (some (74, true)), 0⟩, ⟨(some 76), .ld 1 false (.tmp 75), (some (74, true)), 0⟩, ⟨(some 77), .bin .eql (.tmp 76) (.const (.int .i64 2)), (some (74, true)), 0⟩, ⟨(some 78), .pick (.tmp 74) (.tmp 77) (.const (.bool false)), none, 0⟩, ⟨(some 79), .mv (.tmp 78), none, 0⟩, ⟨(some 80), .mv (.tmp 6), (some (79, true)), 0⟩, ⟨(some 81), .bin .eql (.tmp 80) (.const (.int .i64 0)), (some (79, true)), 0⟩, ⟨(some 82), .pick (.tmp 79) (.tmp 81) (.const (.bool false)), none, 0⟩, ⟨(some 83), .mv (.tmp 82), none, 0⟩, ⟨(some 84), .ld 4 true (.tmp 8), (some (83, true)), 0⟩, ⟨(some 85), .bd [(.lit (.bool false)), (.lit (.int .i64 0)), (.lit (.int .i64 0)), (.lit (.int .i64 0))] [(3, 1, (.const (.int .i64 3)))], (some (83, true)), 0⟩, ⟨(some 86), .eqa false [0, 1, 1, 1] (.tmp 84) (.tmp 85), (some (83, true)), 0⟩, ⟨(some 87), .pick (.tmp 83) (.tmp 86) (.const (.bool false)), none, 0⟩, ⟨(some 88), .mv (.tmp 87), none, 0⟩, ⟨(some 89), .mv (.tmp 9), (some (88, true)), 0⟩, ⟨(some 90), .bin .eql (.tmp 89) (.const (.int .i64 0)), (some (88, true)), 0⟩, ⟨(some 91), .pick (.tmp 88) (.tmp 90) (.const (.bool false)), none, 0⟩, ⟨(some 92), .mv (.tmp 91), none, 0⟩, ⟨(some 93), .mv (.tmp 12), (some (92, true)), 0⟩, ⟨(some 94), .bin .eql (.tmp 93) (.const (.int .i64 6)), (some (92, true)), 0⟩, ⟨(some 95), .pick (.tmp 92) (.tmp 94) (.const (.bool false)), none, 0⟩, ⟨(some 96), .mv (.tmp 95), none, 0⟩, ⟨(some 97), .mv (.tmp 14), (some (96, true)), 0⟩, ⟨(some 98), .pick (.tmp 96) (.tmp 97) (.const (.bool false)), none, 0⟩, ⟨(some 99), .mv (.tmp 98), none, 0⟩, ⟨(some 100), .fa 1 (.tmp 13), (some (99, true)), 0⟩, ⟨(some 101), .ld 1 false (.tmp 100), (some (99, true)), 0⟩, ⟨(some 102), .bin .eql (.tmp 101) (.const (.string ⟨#[121]⟩)), (some (99, true)), 0⟩, ⟨(some 103), .pick (.tmp 99) (.tmp 102) (.const (.bool false)), none, 0⟩, ⟨(some 104), .mv (.tmp 103), none, 0⟩, ⟨(some 105), .mv (.tmp 16), (some (104, true)), 0⟩, ⟨(some 106), .pick (.tmp 104) (.tmp 105) (.const (.bool false)), none, 0⟩, ⟨(some 107), .mv (.tmp 106), none, 0⟩, ⟨(some 108), .fa 1 (.tmp 15), (some (107, true)), 0⟩, ⟨(some 109), .ld 1 false (.tmp 108), (some (107, true)), 0⟩, ⟨(some 110), .bin .eql (.tmp 109) (.const (.string ⟨#[121]⟩)), (some (107, true)), 0⟩, ⟨(some 111), .pick (.tmp 107) (.tmp 110) (.const (.bool false)), none, 0⟩, ⟨(some 112), .mv (.tmp 111), none, 0⟩, ⟨(some 113), .ld 4 true (.tmp 17), (some (112, true)), 0⟩, ⟨(some 114), .ld 4 true (.tmp 2), (some (112, true)), 0⟩, ⟨(some 115), .eqa false [0, 1, 1, 1] (.tmp 113) (.tmp 114), (some (112, true)), 0⟩, ⟨(some 116), .pick (.tmp 112) (.tmp 115) (.const (.bool false)), none, 0⟩, ⟨(some 117), .mv (.tmp 116), none, 0⟩, ⟨(some 118), .mv (.tmp 18), (some (117, true)), 0⟩, ⟨(some 119), .pick (.tmp 117) (.tmp 118) (.const (.bool false)), none, 0⟩, ⟨(some 120), .mv (.tmp 119), none, 0⟩, ⟨(some 121), .mv (.tmp 21), (some (120, true)), 0⟩, ⟨(some 122), .bin .eql (.tmp 121) (.const (.int .i64 11)), (some (120, true)), 0⟩, ⟨(some 123), .pick (.tmp 120) (.tmp 122) (.const (.bool false)), none, 0⟩, ⟨(some 124), .mv (.tmp 123), none, 0⟩, ⟨(some 125), .ld 2 true (.tmp 4), (some (124, true)), 0⟩, ⟨(some 126), .cl 55 [(.tmp 125), (.const (.string ⟨#[97, 64, 98]⟩))], (some (124, true)), 0⟩, ⟨(some 127), .lens (.tmp 126), (some (124, true)), 0⟩, ⟨(some 128), .bin .eql (.tmp 127) (.const (.int .i64 2)), (some (124, true)), 0⟩, ⟨(some 129), .pick (.tmp 124) (.tmp 128) (.const (.bool false)), none, 0⟩, ⟨(some 130), .mv (.tmp 129), none, 0⟩, ⟨(some 131), .ld 2 true (.tmp 4), (some (130, true)), 0⟩, ⟨(some 132), .cl 54 [(.tmp 131)], (some (130, true)), 0⟩, ⟨(some 133), .bs 1 1 [(.lit (.string ⟨#[]⟩))] [(0, (.const (.string ⟨#[97, 64, 98]⟩)))], (some (130, true)), 0⟩, ⟨(some 134), .cl 92 [(.tmp 132), (.tmp 133)], (some (130, true)), 1⟩, ⟨(some 135), .pick (.tmp 130) (.tmp 134) (.const (.bool false)), none, 1⟩, ⟨(some 136), .mv (.tmp 135), none, 1⟩, ⟨(some 137), .ld 2 true (.tmp 7), (some (136, true)), 1⟩, ⟨(some 138), .cl 51 [(.tmp 137)], (some (136, true)), 1⟩, ⟨(some 139), .bin .eql (.tmp 138) (.const (.int .i64 0)), (some (136, true)), 1⟩, ⟨(some 140), .pick (.tmp 136) (.tmp 139) (.const (.bool false)), none, 1⟩, ⟨(some 141), .mv (.tmp 140), none, 1⟩, ⟨(some 142), .bd [(.lit (.int .i64 0)), (.sl [] true)] [(0, 1, (.const (.int .i64 (-1))))], (some (141, true)), 1⟩, ⟨(some 143), .cl 51 [(.tmp 142)], (some (141, true)), 1⟩, ⟨(some 144), .bin .eql (.tmp 143) (.const (.int .i64 8)), (some (141, true)), 1⟩, ⟨(some 145), .pick (.tmp 141) (.tmp 144) (.const (.bool false)), none, 1⟩, ⟨(some 146), .mv (.tmp 145), none, 1⟩, ⟨(some 147), .ld 2 true (.tmp 4), (some (146, true)), 1⟩, ⟨(some 148), .ld 2 true (.tmp 7), (some (146, true)), 1⟩, ⟨(some 149), .cl 50 [(.tmp 147), (.tmp 148)], (some (146, true)), 1⟩, ⟨(some 150), .un .not (.tmp 149), (some (146, true)), 1⟩, ⟨(some 151), .pick (.tmp 146) (.tmp 150) (.const (.bool false)), none, 1⟩, ⟨(some 152), .mv (.tmp 151), none, 1⟩, ⟨(some 153), .ld 2 true (.tmp 7), (some (152, true)), 1⟩, ⟨(some 154), .ld 2 true (.tmp 7), (some (152, true)), 1⟩, ⟨(some 155), .cl 50 [(.tmp 153), (.tmp 154)], (some (152, true)), 1⟩, ⟨(some 156), .pick (.tmp 152) (.tmp 155) (.const (.bool false)), none, 1⟩, ⟨(some 157), .mv (.tmp 156), none, 1⟩, ⟨(some 158), .pick (.tmp 157) (.const (.bool true)) (.const (.bool false)), none, 1⟩, ⟨(some 159), .mv (.tmp 158), none, 1⟩, ⟨(some 160), .pick (.tmp 159) (.const (.bool true)) (.const (.bool false)), none, 1⟩, ⟨(some 161), .mv (.tmp 160), none, 1⟩, ⟨(some 162), .pick (.tmp 161) (.const (.bool true)) (.const (.bool false)), none, 1⟩, ⟨(some 163), .mv (.tmp 162), none, 1⟩, ⟨(some 164), .pick (.tmp 163) (.const (.bool true)) (.const (.bool false)), none, 1⟩, ⟨(some 0), .mv (.tmp 164), none, 1⟩] none 0 []) .ret))))))))))
set_option maxRecDepth 1000000 in
theorem gc49_ok : compF Try.prog Try.f49 = some (gc49.er, 165, [.tmp 0]) := by unfold gc49; kernel_rfl
set_option maxRecDepth 100000 in
set_option maxHeartbeats 4000000 in
theorem p_law24_awake_v : CallsO Try.prog 49 [] V.b (p_law24_awake) := by
  refine callsO_comp mix Try.func49 gc49_ok fun r H => ?_
  rw [p_law24_awake] at H
  conv => whnf
  refine ask_c (p_book_Set_v _ _ _ _ _) H rfl rfl (fun v1 H => ?_); conv => whnf
  refine ⟨Nat.le_of_ble_eq_true rfl, ?_⟩; conv => whnf
  refine ⟨Nat.le_of_ble_eq_true rfl, ?_⟩; conv => whnf
  refine ask_c (p_book_Set_v _ _ _ _ _) H rfl rfl (fun v2 H => ?_); conv => whnf
  refine ⟨Nat.le_of_ble_eq_true rfl, ?_⟩; conv => whnf
  refine ⟨Nat.le_of_ble_eq_true rfl, ?_⟩; conv => whnf
  refine ask_c (p_book_Off_v _ _ _) H rfl rfl (fun v3 H => ?_); conv => whnf
  refine ⟨Nat.le_of_ble_eq_true rfl, ?_⟩; conv => whnf
  refine ⟨Nat.le_of_ble_eq_true rfl, ?_⟩; conv => whnf
  refine ask_c (p_book_Off_v _ _ _) H rfl rfl (fun v4 H => ?_); conv => whnf
  refine ⟨Nat.le_of_ble_eq_true rfl, ?_⟩; conv => whnf
  refine ⟨Nat.le_of_ble_eq_true rfl, ?_⟩; conv => whnf
  refine ask_c (p_book_Best_v _ _) H rfl rfl (fun v5 H => ?_); conv => whnf
  refine ⟨Nat.le_of_ble_eq_true rfl, ?_⟩; conv => whnf
  refine ask_c (p_book_Next_v _ _) H rfl rfl (fun v6 H => ?_); conv => whnf
  refine ⟨Nat.le_of_ble_eq_true rfl, ?_⟩; conv => whnf
  refine ask_c (p_book_Get_v _ _ _) H rfl rfl (fun v7 H => ?_); conv => whnf
  refine ⟨Nat.le_of_ble_eq_true rfl, ?_⟩; conv => whnf
  refine ask_c (p_book_Set_v _ _ _ _ _) H rfl rfl (fun v8 H => ?_); conv => whnf
  refine ⟨Nat.le_of_ble_eq_true rfl, ?_⟩; conv => whnf
  refine ⟨Nat.le_of_ble_eq_true rfl, ?_⟩; conv => whnf
  refine tst_d H (fun b9 H => ?_) (fun b9 H => ?_)
  · conv => whnf
    iterate 71 (refine Tst.F ?_; conv => whnf)
    exact fin0_c (enc := V.b) H (.inr rfl) (.cons (.tmp rfl) (.nil)) rfl rfl
  conv => whnf
  iterate 2 (refine Tst.T ?_; conv => whnf)
  refine tst_d H (fun b10 H => ?_) (fun b10 H => ?_)
  · conv => whnf
    iterate 68 (refine Tst.F ?_; conv => whnf)
    exact fin0_c (enc := V.b) H (.inr rfl) (.cons (.tmp rfl) (.nil)) rfl rfl
  conv => whnf
  iterate 3 (refine Tst.T ?_; conv => whnf)
  refine tst_d H (fun b11 H => ?_) (fun b11 H => ?_)
  · conv => whnf
    iterate 64 (refine Tst.F ?_; conv => whnf)
    exact fin0_c (enc := V.b) H (.inr rfl) (.cons (.tmp rfl) (.nil)) rfl rfl
  conv => whnf
  iterate 2 (refine Tst.T ?_; conv => whnf)
  refine tst_d H (fun b12 H => ?_) (fun b12 H => ?_)
  · conv => whnf
    iterate 61 (refine Tst.F ?_; conv => whnf)
    exact fin0_c (enc := V.b) H (.inr rfl) (.cons (.tmp rfl) (.nil)) rfl rfl
  conv => whnf
  iterate 3 (refine Tst.T ?_; conv => whnf)
  refine tst_d H (fun b13 H => ?_) (fun b13 H => ?_)
  · conv => whnf
    iterate 57 (refine Tst.F ?_; conv => whnf)
    exact fin0_c (enc := V.b) H (.inr rfl) (.cons (.tmp rfl) (.nil)) rfl rfl
  conv => whnf
  iterate 2 (refine Tst.T ?_; conv => whnf)
  refine tst_d H (fun b14 H => ?_) (fun b14 H => ?_)
  · conv => whnf
    iterate 54 (refine Tst.F ?_; conv => whnf)
    exact fin0_c (enc := V.b) H (.inr rfl) (.cons (.tmp rfl) (.nil)) rfl rfl
  conv => whnf
  iterate 2 (refine Tst.T ?_; conv => whnf)
  refine tst_d H (fun b15 H => ?_) (fun b15 H => ?_)
  · conv => whnf
    iterate 51 (refine Tst.F ?_; conv => whnf)
    exact fin0_c (enc := V.b) H (.inr rfl) (.cons (.tmp rfl) (.nil)) rfl rfl
  conv => whnf
  refine Tst.T ?_; conv => whnf
  refine tst_d H (fun b16 H => ?_) (fun b16 H => ?_)
  · conv => whnf
    iterate 49 (refine Tst.F ?_; conv => whnf)
    exact fin0_c (enc := V.b) H (.inr rfl) (.cons (.tmp rfl) (.nil)) rfl rfl
  conv => whnf
  iterate 3 (refine Tst.T ?_; conv => whnf)
  refine tst_d H (fun b17 H => ?_) (fun b17 H => ?_)
  · conv => whnf
    iterate 45 (refine Tst.F ?_; conv => whnf)
    exact fin0_c (enc := V.b) H (.inr rfl) (.cons (.tmp rfl) (.nil)) rfl rfl
  conv => whnf
  refine Tst.T ?_; conv => whnf
  refine tst_d H (fun b18 H => ?_) (fun b18 H => ?_)
  · conv => whnf
    iterate 43 (refine Tst.F ?_; conv => whnf)
    exact fin0_c (enc := V.b) H (.inr rfl) (.cons (.tmp rfl) (.nil)) rfl rfl
  conv => whnf
  iterate 3 (refine Tst.T ?_; conv => whnf)
  refine tst_d H (fun b19 H => ?_) (fun b19 H => ?_)
  · conv => whnf
    iterate 39 (refine Tst.F ?_; conv => whnf)
    exact fin0_c (enc := V.b) H (.inr rfl) (.cons (.tmp rfl) (.nil)) rfl rfl
  conv => whnf
  iterate 3 (refine Tst.T ?_; conv => whnf)
  refine tst_d H (fun b20 H => ?_) (fun b20 H => ?_)
  · conv => whnf
    iterate 35 (refine Tst.F ?_; conv => whnf)
    exact fin0_c (enc := V.b) H (.inr rfl) (.cons (.tmp rfl) (.nil)) rfl rfl
  conv => whnf
  refine Tst.T ?_; conv => whnf
  refine tst_d H (fun b21 H => ?_) (fun b21 H => ?_)
  · conv => whnf
    iterate 33 (refine Tst.F ?_; conv => whnf)
    exact fin0_c (enc := V.b) H (.inr rfl) (.cons (.tmp rfl) (.nil)) rfl rfl
  conv => whnf
  iterate 2 (refine Tst.T ?_; conv => whnf)
  refine tst_d H (fun b22 H => ?_) (fun b22 H => ?_)
  · conv => whnf
    iterate 30 (refine Tst.F ?_; conv => whnf)
    exact fin0_c (enc := V.b) H (.inr rfl) (.cons (.tmp rfl) (.nil)) rfl rfl
  conv => whnf
  refine Tst.T ?_; conv => whnf
  refine ask_c (p_book_Of_v _ _) H rfl rfl (fun v23 H => ?_); conv => whnf
  refine Tst.T ?_; conv => whnf
  refine LenQ.M ?_; conv => whnf
  iterate 2 (refine Tst.T ?_; conv => whnf)
  refine tst_d H (fun b24 H => ?_) (fun b24 H => ?_)
  · conv => whnf
    iterate 25 (refine Tst.F ?_; conv => whnf)
    exact fin0_c (enc := V.b) H (.inr rfl) (.cons (.tmp rfl) (.nil)) rfl rfl
  conv => whnf
  refine Tst.T ?_; conv => whnf
  refine ask_c (p_book_Users_v _) H rfl rfl (fun v25 H => ?_); conv => whnf
  iterate 2 (refine Tst.T ?_; conv => whnf)
  refine askF_c (p_ref01_SameTexts_v _ _) H (.cons (.c (.id rfl)) (.cons (.c (fzown (f := V.s) (l := [(⟨#[97, 64, 98]⟩ : ByteArray)]) rfl rfl (fun _ => rfl) (fun _ => rfl))) (.nil))) (fun v26 H => ?_); conv => whnf
  refine Tst.T ?_; conv => whnf
  refine tst_d H (fun b27 H => ?_) (fun b27 H => ?_)
  · conv => whnf
    iterate 20 (refine Tst.F ?_; conv => whnf)
    exact fin0_c (enc := V.b) H (.inr rfl) (.cons (.tmp rfl) (.nil)) rfl rfl
  conv => whnf
  refine Tst.T ?_; conv => whnf
  refine ask_c (p_book_Check_v _) H rfl rfl (fun v28 H => ?_); conv => whnf
  iterate 2 (refine Tst.T ?_; conv => whnf)
  refine tst_d H (fun b29 H => ?_) (fun b29 H => ?_)
  · conv => whnf
    iterate 16 (refine Tst.F ?_; conv => whnf)
    exact fin0_c (enc := V.b) H (.inr rfl) (.cons (.tmp rfl) (.nil)) rfl rfl
  conv => whnf
  refine Tst.T ?_; conv => whnf
  refine ask_c (p_book_Check_v _) H rfl rfl (fun v30 H => ?_); conv => whnf
  iterate 2 (refine Tst.T ?_; conv => whnf)
  refine tst_d H (fun b31 H => ?_) (fun b31 H => ?_)
  · conv => whnf
    iterate 12 (refine Tst.F ?_; conv => whnf)
    exact fin0_c (enc := V.b) H (.inr rfl) (.cons (.tmp rfl) (.nil)) rfl rfl
  conv => whnf
  iterate 2 (refine Tst.T ?_; conv => whnf)
  refine ask_c (p_book_Same_v _ _) H rfl rfl (fun v32 H => ?_); conv => whnf
  iterate 2 (refine Tst.T ?_; conv => whnf)
  refine Tst.not ?_
  refine tst_c H (fun b33 H => ?_) (fun b33 H => ?_)
  · conv => whnf
    iterate 7 (refine Tst.F ?_; conv => whnf)
    exact fin0_c (enc := V.b) H (.inr rfl) (.cons (.tmp rfl) (.nil)) rfl rfl
  conv => whnf
  iterate 2 (refine Tst.T ?_; conv => whnf)
  refine ask_c (p_book_Same_v _ _) H rfl rfl (fun v34 H => ?_); conv => whnf
  refine Tst.T ?_; conv => whnf
  refine tst_c H (fun b35 H => ?_) (fun b35 H => ?_)
  · conv => whnf
    iterate 3 (refine Tst.T ?_; conv => whnf)
    exact fin0_c (enc := V.b) H (.inr rfl) (.cons (.tmp rfl) (.nil)) rfl rfl
  conv => whnf
  iterate 3 (refine Tst.F ?_; conv => whnf)
  exact fin0_c (enc := V.b) H (.inr rfl) (.cons (.tmp rfl) (.nil)) rfl rfl
end Go.Proofs.Ytljeinlapkgjeaa
