/- A part of the proof: 3 texts joined. -/
import Derived.Test.YtljeinlapkgjeaaGreatQbA1
import Derived.Test.YtljeinlapkgjeaaGreatQbA3
import Derived.Test.YtljeinlapkgjeaaGreatQaA8
import Derived.KernelRfl
import Derived.Test.YtljeinlapkgjeaaGreatQaA10
set_option linter.all false
/- That the program's functions yield what the plain ones tell (written by a program of mine). -/
namespace Go.Proofs.YtljeinlapkgjeaaGreat
open Go.RowKit
def gc24 : BCode := (.seq (.reg 3 [⟨(some 5), .bx (.tmp 0), none, 0⟩, ⟨(some 10), .al (.agg [(.lit (.int .i64 0)), (.sl [] true)]), none, 1⟩, ⟨(some 11), .al (.agg [(.lit (.bool false)), (.lit (.int .i64 0)), (.lit (.int .i64 0)), (.lit (.int .i64 0))]), none, 2⟩, ⟨(some 12), .mv (.const (.int .i64 0)), none, 3⟩] none 0 []) (.seq (.reg 1 [⟨(some 13), .al (.agg [(.lit (.bool false)), (.lit (.int .i64 0)), (.lit (.int .i64 0)), (.lit (.int .i64 0))]), none, 0⟩] none 0 []) (.seq (.seq (.reg 0 [⟨(some 20), .ld 2 true (.tmp 5), none, 0⟩, ⟨(some 21), .cl 36 [(.tmp 20)], none, 0⟩, ⟨(some 14), .mv (.tmp 21), none, 0⟩] none 0 []) (.seq (.reg 0 [⟨(some 22), .mv (.tmp 14), none, 0⟩, ⟨(some 23), .bin .neq (.tmp 22) (.const (.int .i64 0)), none, 0⟩] none 0 []) (.cond (.tmp 23) (.seq (.reg 0 [⟨(some 24), .ld 2 true (.tmp 5), none, 0⟩, ⟨(some 25), .ld 4 true (.tmp 13), none, 0⟩, ⟨(some 26), .mv (.tmp 14), none, 0⟩, ⟨none, .st 2 (.tmp 10) (.tmp 24), none, 0⟩, ⟨none, .st 4 (.tmp 11) (.tmp 25), none, 0⟩, ⟨(some 12), .mv (.tmp 26), none, 0⟩] (some [[], [], [], [0], [0, 3, 1], [1, 3, 0, 4, 2]]) 0 []) .ret) .skip))) (.seq (.reg 1 [⟨(some 27), .mv (.tmp 1), none, 0⟩, ⟨(some 28), .mv (.tmp 2), none, 0⟩, ⟨(some 29), .mv (.tmp 3), none, 0⟩, ⟨(some 30), .mv (.tmp 4), none, 0⟩, ⟨(some 31), .bd [(.lit (.bool false)), (.lit (.int .i64 0)), (.lit (.int .i64 0)), (.lit (.int .i64 0))] [(0, 1, (.const (.bool true))), (1, 1, (.tmp 29)), (2, 1, (.tmp 30))], none, 0⟩, ⟨(some 32), .bd [(.lit (.string ⟨#[]⟩)), (.lit (.string ⟨#[]⟩)), (.lit (.bool false)), (.lit (.int .i64 0)), (.lit (.int .i64 0)), (.lit (.int .i64 0))] [(0, 1, (.tmp 27)), (1, 1, (.tmp 28)), (2, 4, (.tmp 31))], none, 0⟩, ⟨(some 15), .al (.agg [(.lit (.string ⟨#[]⟩)), (.lit (.string ⟨#[]⟩)), (.lit (.bool false)), (.lit (.int .i64 0)), (.lit (.int .i64 0)), (.lit (.int .i64 0))]), none, 0⟩, ⟨none, .st 6 (.tmp 15) (.tmp 32), none, 1⟩] none 0 []) (.seq (.seq (.reg 0 [⟨(some 33), .ld 6 true (.tmp 15), none, 0⟩, ⟨(some 34), .cl 54 [(.tmp 33)], none, 0⟩, ⟨(some 35), .bin .eql (.tmp 34) (.const (.string ⟨#[]⟩)), none, 0⟩] none 0 []) (.cond (.tmp 35) (.seq (.reg 0 [⟨(some 36), .ld 2 true (.tmp 5), none, 0⟩, ⟨(some 37), .ld 4 true (.tmp 13), none, 0⟩, ⟨none, .st 2 (.tmp 10) (.tmp 36), none, 0⟩, ⟨none, .st 4 (.tmp 11) (.tmp 37), none, 0⟩, ⟨(some 12), .mv (.const (.int .i64 11)), none, 0⟩] (some [[], [], [0], [0, 2, 1], [1, 2, 0, 3]]) 0 []) .ret) .skip)) (.seq (.seq (.reg 0 [⟨(some 38), .fa 2 (.tmp 15), none, 0⟩, ⟨(some 39), .ld 4 true (.tmp 38), none, 0⟩, ⟨(some 40), .cl 55 [(.tmp 39)], none, 0⟩, ⟨(some 16), .mv (.tmp 40), none, 0⟩] none 0 []) (.seq (.reg 0 [⟨(some 41), .mv (.tmp 16), none, 0⟩, ⟨(some 42), .bin .neq (.tmp 41) (.const (.int .i64 0)), none, 0⟩] none 0 []) (.cond (.tmp 42) (.seq (.reg 0 [⟨(some 43), .ld 2 true (.tmp 5), none, 0⟩, ⟨(some 44), .ld 4 true (.tmp 13), none, 0⟩, ⟨(some 45), .mv (.tmp 16), none, 0⟩, ⟨none, .st 2 (.tmp 10) (.tmp 43), none, 0⟩, ⟨none, .st 4 (.tmp 11) (.tmp 44), none, 0⟩, ⟨(some 12), .mv (.tmp 45), none, 0⟩] (some [[], [], [], [0], [0, 3, 1], [1, 3, 0, 4, 2]]) 0 []) .ret) .skip))) (.seq (.reg 0 [⟨(some 47), .ld 2 true (.tmp 5), none, 0⟩, ⟨(some 48), .ld 6 true (.tmp 15), none, 0⟩, ⟨(some 49), .cl 54 [(.tmp 48)], none, 0⟩, ⟨(some 50), .cl 56 [(.tmp 47), (.tmp 49)], none, 0⟩, ⟨(some 46), .mv (.tmp 50), none, 0⟩, ⟨(some 51), .ex (.tmp 46) 0, none, 0⟩, ⟨(some 52), .ex (.tmp 46) 1, none, 0⟩, ⟨(some 17), .mv (.tmp 51), none, 0⟩, ⟨(some 18), .mv (.tmp 52), none, 0⟩] (some [[], [], [1], [1, 2, 0], [0, 2, 1, 3], [3, 1, 2, 0, 4], [3, 1, 2, 0, 4], [4, 0, 2, 1, 3, 5], [5, 7, 4, 0, 2, 1, 3, 6]]) 0 []) (.seq (.seq (.reg 0 [⟨(some 53), .mv (.tmp 18), none, 0⟩, ⟨(some 54), .un .not (.tmp 53), none, 0⟩, ⟨(some 55), .mv (.tmp 54), none, 0⟩, ⟨(some 56), .fa 1 (.tmp 5), (some (55, true)), 0⟩, ⟨(some 57), .ld 1 false (.tmp 56), (some (55, true)), 0⟩, ⟨(some 58), .lens (.tmp 57), (some (55, true)), 0⟩, ⟨(some 59), .bin .geq (.tmp 58) (.const (.int .i64 16)), (some (55, true)), 0⟩, ⟨(some 60), .mv (.tmp 59), (some (55, true)), 0⟩, ⟨(some 61), .ld 2 true (.tmp 5), (some (60, false)), 0⟩, ⟨(some 62), .mv (.tmp 1), (some (60, false)), 0⟩, ⟨(some 63), .cl 57 [(.tmp 61), (.tmp 62)], (some (60, false)), 0⟩, ⟨(some 64), .bin .geq (.tmp 63) (.const (.int .i64 3)), (some (60, false)), 0⟩, ⟨(some 65), .pick (.tmp 60) (.const (.bool true)) (.tmp 64), (some (55, true)), 0⟩, ⟨(some 66), .pick (.tmp 55) (.tmp 65) (.const (.bool false)), none, 0⟩] none 0 []) (.cond (.tmp 66) (.seq (.reg 0 [⟨(some 67), .ld 2 true (.tmp 5), none, 0⟩, ⟨(some 68), .ld 4 true (.tmp 13), none, 0⟩, ⟨none, .st 2 (.tmp 10) (.tmp 67), none, 0⟩, ⟨none, .st 4 (.tmp 11) (.tmp 68), none, 0⟩, ⟨(some 12), .mv (.const (.int .i64 7)), none, 0⟩] (some [[], [], [0], [0, 2, 1], [1, 2, 0, 3]]) 0 []) .ret) .skip)) (.seq (.seq (.reg 0 [⟨(some 69), .fa 0 (.tmp 5), none, 0⟩, ⟨(some 70), .ld 1 false (.tmp 69), none, 0⟩, ⟨(some 71), .bin .geq (.tmp 70) (.const (.int .i64 1099511627776)), none, 0⟩] none 0 []) (.cond (.tmp 71) (.seq (.reg 0 [⟨(some 72), .ld 2 true (.tmp 5), none, 0⟩, ⟨(some 73), .ld 4 true (.tmp 13), none, 0⟩, ⟨none, .st 2 (.tmp 10) (.tmp 72), none, 0⟩, ⟨none, .st 4 (.tmp 11) (.tmp 73), none, 0⟩, ⟨(some 12), .mv (.const (.int .i64 9)), none, 0⟩] (some [[], [], [0], [0, 2, 1], [1, 2, 0, 3]]) 0 []) .ret) .skip)) (.seq (.reg 0 [⟨(some 74), .fa 0 (.tmp 5), none, 0⟩, ⟨(some 75), .ld 1 false (.tmp 74), none, 0⟩, ⟨(some 76), .bin .add (.tmp 75) (.const (.int .i64 1)), none, 0⟩, ⟨(some 77), .fa 0 (.tmp 5), none, 0⟩, ⟨none, .st 1 (.tmp 77) (.tmp 76), none, 0⟩] none 0 []) (.seq (.reg 0 [⟨(some 78), .fa 0 (.tmp 5), none, 0⟩, ⟨(some 79), .ld 1 false (.tmp 78), none, 0⟩, ⟨(some 80), .fa 2 (.tmp 15), none, 0⟩, ⟨(some 81), .fa 3 (.tmp 80), none, 0⟩, ⟨none, .st 1 (.tmp 81) (.tmp 79), none, 0⟩] none 0 []) (.seq (.reg 0 [⟨(some 82), .fa 1 (.tmp 5), none, 0⟩, ⟨(some 83), .ld 1 false (.tmp 82), none, 0⟩, ⟨(some 84), .mv (.tmp 17), none, 0⟩, ⟨(some 85), .sls 6 (.tmp 83) (some (.tmp 84)) none none, none, 0⟩, ⟨(some 19), .mv (.tmp 85), none, 0⟩] none 0 []) (.seq (.seq (.reg 0 [⟨(some 86), .mv (.tmp 18), none, 0⟩] none 0 []) (.cond (.tmp 86) (.reg 0 [⟨(some 87), .fa 1 (.tmp 5), none, 0⟩, ⟨(some 88), .ld 1 false (.tmp 87), none, 0⟩, ⟨(some 89), .mv (.tmp 17), none, 0⟩, ⟨(some 90), .bin .add (.tmp 89) (.const (.int .i64 1)), none, 0⟩, ⟨(some 91), .sls 6 (.tmp 88) (some (.tmp 90)) none none, none, 0⟩, ⟨(some 19), .mv (.tmp 91), none, 0⟩] none 0 []) .skip)) (.seq (.reg 3 [⟨(some 92), .fa 1 (.tmp 5), none, 0⟩, ⟨(some 93), .ld 1 false (.tmp 92), none, 0⟩, ⟨(some 94), .mv (.tmp 17), none, 0⟩, ⟨(some 95), .mv (.tmp 17), none, 0⟩, ⟨(some 96), .sls 6 (.tmp 93) none (some (.tmp 94)) (some (.tmp 95)), none, 0⟩, ⟨(some 97), .ld 6 true (.tmp 15), none, 0⟩, ⟨(some 98), .bs 6 1 [(.lit (.string ⟨#[]⟩)), (.lit (.string ⟨#[]⟩)), (.lit (.bool false)), (.lit (.int .i64 0)), (.lit (.int .i64 0)), (.lit (.int .i64 0))] [(0, (.tmp 97))], none, 0⟩, ⟨(some 99), .ap 6 64 (.tmp 96) (.tmp 98), none, 1⟩, ⟨(some 100), .mv (.tmp 19), none, 2⟩, ⟨(some 101), .ap 6 64 (.tmp 99) (.tmp 100), none, 2⟩, ⟨(some 102), .fa 1 (.tmp 5), none, 3⟩, ⟨none, .st 1 (.tmp 102) (.tmp 101), none, 3⟩] (some [[], [0], [], [], [3, 2, 0, 1], [], [5], [5, 6, 1, 0, 2, 3, 4], [], [8, 4, 3, 2, 0, 1, 6, 5, 7], [9, 8, 7, 6, 5, 4, 3, 2, 1, 0], [0, 1, 2, 3, 4, 5, 6, 7, 8, 9, 10]]) 0 []) (.seq (.reg 0 [⟨(some 103), .ld 2 true (.tmp 5), none, 0⟩, ⟨(some 104), .fa 2 (.tmp 15), none, 0⟩, ⟨(some 105), .ld 4 true (.tmp 104), none, 0⟩, ⟨none, .st 2 (.tmp 10) (.tmp 103), none, 0⟩, ⟨none, .st 4 (.tmp 11) (.tmp 105), none, 0⟩, ⟨(some 12), .mv (.const (.int .i64 0)), none, 0⟩] (some [[], [], [1], [0], [0, 3, 1, 2], [2, 1, 3, 0, 4]]) 0 []) .ret)))))))))))))))
set_option maxRecDepth 1000000 in
theorem gc24_ok : compF Tryz.prog Tryz.f24 = some (gc24.er, 106, [.cell 10 2 true, .cell 11 4 true, .tmp 12]) := by unfold gc24; kernel_rfl
set_option maxRecDepth 100000 in
set_option maxHeartbeats 4000000 in
theorem p_book_Set_v {u1 : Bool} (a0 : BookState) (a1 : ByteArray) (a2 : ByteArray) (a3 : Int) (a4 : Int) : CallsO Tryz.prog 24 [.agg [.i a0.Seq, .sl (List.map BookRow.v a0.Rows) u1], .s a1, .s a2, .i a3, .i a4] (fun r : BookState × PresPres × Int => .tup [BookState.v r.1, PresPres.v r.2.1, V.i r.2.2]) (p_book_Set a0 a1 a2 a3 a4) := by
  refine callsO_comp mix Tryz.func24 gc24_ok fun r H => ?_
  rw [p_book_Set] at H
  conv => whnf
  refine ask_c (p_book_Check_v _) H rfl rfl (fun v1 H => ?_); conv => whnf
  refine tst_c H (fun b2 H => ?_) (fun b2 H => ?_)
  · conv => whnf
    refine ⟨Nat.le_of_ble_eq_true rfl, ?_⟩; conv => whnf
    refine ⟨Nat.le_of_ble_eq_true rfl, ?_⟩; conv => whnf
    refine FootQ.mk ⟨rfl, ?_⟩; conv => whnf
    refine finR_c (enc := (fun r : BookState × PresPres × Int => .tup [BookState.v r.1, PresPres.v r.2.1, V.i r.2.2])) H ?_; conv => whnf
    exact ⟨_, .tup (.cons (fzagg (.cons (.id rfl) (.cons (.slw) (.nil))) rfl) (.cons (fzagg (.cons (.id rfl) (.cons (.id rfl) (.cons (.id rfl) (.cons (.id rfl) (.nil))))) rfl) (.cons (.c (.id rfl)) (.nil))))⟩
  conv => whnf
  refine ⟨Nat.le_of_ble_eq_true rfl, ?_⟩; conv => whnf
  refine ask_c (p_book_Row_key_v _) H rfl rfl (fun v3 H => ?_); conv => whnf
  refine tst_c H (fun b4 H => ?_) (fun b4 H => ?_)
  · conv => whnf
    refine ⟨Nat.le_of_ble_eq_true rfl, ?_⟩; conv => whnf
    refine ⟨Nat.le_of_ble_eq_true rfl, ?_⟩; conv => whnf
    refine FootQ.mk ⟨rfl, ?_⟩; conv => whnf
    refine finR_c (enc := (fun r : BookState × PresPres × Int => .tup [BookState.v r.1, PresPres.v r.2.1, V.i r.2.2])) H ?_; conv => whnf
    exact ⟨_, .tup (.cons (fzagg (.cons (.id rfl) (.cons (.slw) (.nil))) rfl) (.cons (fzagg (.cons (.id rfl) (.cons (.id rfl) (.cons (.id rfl) (.cons (.id rfl) (.nil))))) rfl) (.cons (.c (.id rfl)) (.nil))))⟩
  conv => whnf
  refine ask_c (p_pres_Check_v _) H rfl rfl (fun v5 H => ?_); conv => whnf
  refine tst_c H (fun b6 H => ?_) (fun b6 H => ?_)
  · conv => whnf
    refine ⟨Nat.le_of_ble_eq_true rfl, ?_⟩; conv => whnf
    refine ⟨Nat.le_of_ble_eq_true rfl, ?_⟩; conv => whnf
    refine FootQ.mk ⟨rfl, ?_⟩; conv => whnf
    refine finR_c (enc := (fun r : BookState × PresPres × Int => .tup [BookState.v r.1, PresPres.v r.2.1, V.i r.2.2])) H ?_; conv => whnf
    exact ⟨_, .tup (.cons (fzagg (.cons (.id rfl) (.cons (.slw) (.nil))) rfl) (.cons (fzagg (.cons (.id rfl) (.cons (.id rfl) (.cons (.id rfl) (.cons (.id rfl) (.nil))))) rfl) (.cons (.c (.id rfl)) (.nil))))⟩
  conv => whnf
  refine ask_c (p_book_Row_key_v _) H rfl rfl (fun v7 H => ?_); conv => whnf
  refine ask_c (p_book_State_find_v _ _) H rfl rfl (fun v8 H => ?_); conv => whnf
  refine FootQ.mk ⟨rfl, ?_⟩; conv => whnf
  refine Tst.not ?_
  refine tst_c H (fun b9 H => ?_) (fun b9 H => ?_)
  · conv => whnf
    iterate 7 (refine Tst.F ?_; conv => whnf)
    refine tst_c H (fun b10 H => ?_) (fun b10 H => ?_)
    · conv => whnf
      refine ⟨Nat.le_of_ble_eq_true rfl, ?_⟩; conv => whnf
      refine ⟨Nat.le_of_ble_eq_true rfl, ?_⟩; conv => whnf
      refine FootQ.mk ⟨rfl, ?_⟩; conv => whnf
      refine finR_c (enc := (fun r : BookState × PresPres × Int => .tup [BookState.v r.1, PresPres.v r.2.1, V.i r.2.2])) H ?_; conv => whnf
      exact ⟨_, .tup (.cons (fzagg (.cons (.id rfl) (.cons (.slw) (.nil))) rfl) (.cons (fzagg (.cons (.id rfl) (.cons (.id rfl) (.cons (.id rfl) (.cons (.id rfl) (.nil))))) rfl) (.cons (.c (.id rfl)) (.nil))))⟩
    conv => whnf
    refine Ari.w ?_; conv => whnf
    refine ⟨Nat.le_of_ble_eq_true rfl, ?_⟩; conv => whnf
    refine ⟨Nat.le_of_ble_eq_true rfl, ?_⟩; conv => whnf
    refine slsE_c (f := BookRow.v) H (fun _ => rfl) (fun x11 H => ?_); conv => whnf
    refine Tst.isT b9 ?_; conv => whnf
    refine Ari.w ?_; conv => whnf
    refine slsE_c (f := BookRow.v) H (fun _ => rfl) (fun x12 H => ?_); conv => whnf
    refine slsC_c (f := BookRow.v) H (fun _ => rfl) (fun x13 H => ?_); conv => whnf
    refine appN_c (f := BookRow.v) H (fun _ => rfl) (srcM (f := BookRow.v) (fun _ => rfl) _ _) rfl (.v (srcOwn (f := BookRow.v) (l := [(BookRow.mk a1 a2 (PresPres.mk true a3 a4 (w64 (a0.Seq + (1 : Int)))))]) (fun _ => rfl) rfl rfl rfl)) (by decide) rfl (by simp) (fun l14 H => ?_); conv => whnf
    refine appP_c (f := BookRow.v) H (fun _ => rfl) rfl rfl (.v (srcM (f := BookRow.v) (fun _ => rfl) _ _)) (by decide) rfl (fun l15 H => ?_) (fun l15 H => ?_)
    · conv => whnf
      refine ⟨Nat.le_of_ble_eq_true rfl, ?_⟩; conv => whnf
      refine FootQ.mk ⟨rfl, ?_⟩; conv => whnf
      refine ⟨Nat.le_of_ble_eq_true rfl, ?_⟩; conv => whnf
      refine ⟨Nat.le_of_ble_eq_true rfl, ?_⟩; conv => whnf
      refine FootQ.mk ⟨rfl, ?_⟩; conv => whnf
      refine finR_c (enc := (fun r : BookState × PresPres × Int => .tup [BookState.v r.1, PresPres.v r.2.1, V.i r.2.2])) H ?_; conv => whnf
      exact ⟨_, .tup (.cons (fzagg (.cons (.id rfl) (.cons (fzown (f := BookRow.v) (l := l15) rfl rfl (fun _ => rfl) (fun _ => rfl)) (.nil))) rfl) (.cons (fzagg (.cons (.id rfl) (.cons (.id rfl) (.cons (.id rfl) (.cons (.id rfl) (.nil))))) rfl) (.cons (.c (.id rfl)) (.nil))))⟩
    conv => whnf
    refine ⟨Nat.le_of_ble_eq_true rfl, ?_⟩; conv => whnf
    refine FootQ.mk ⟨rfl, ?_⟩; conv => whnf
    refine ⟨Nat.le_of_ble_eq_true rfl, ?_⟩; conv => whnf
    refine ⟨Nat.le_of_ble_eq_true rfl, ?_⟩; conv => whnf
    refine FootQ.mk ⟨rfl, ?_⟩; conv => whnf
    refine finR_c (enc := (fun r : BookState × PresPres × Int => .tup [BookState.v r.1, PresPres.v r.2.1, V.i r.2.2])) H ?_; conv => whnf
    exact ⟨_, .tup (.cons (fzagg (.cons (.id rfl) (.cons (fzown (f := BookRow.v) (l := l15) rfl rfl (fun _ => rfl) (fun _ => rfl)) (.nil))) rfl) (.cons (fzagg (.cons (.id rfl) (.cons (.id rfl) (.cons (.id rfl) (.cons (.id rfl) (.nil))))) rfl) (.cons (.c (.id rfl)) (.nil))))⟩
  conv => whnf
  iterate 2 (refine Tst.T ?_; conv => whnf)
  refine LenQ.M ?_; conv => whnf
  iterate 2 (refine Tst.T ?_; conv => whnf)
  refine tst_c H (fun b16 H => ?_) (fun b16 H => ?_)
  · conv => whnf
    iterate 7 (refine Tst.T ?_; conv => whnf)
    refine ⟨Nat.le_of_ble_eq_true rfl, ?_⟩; conv => whnf
    refine ⟨Nat.le_of_ble_eq_true rfl, ?_⟩; conv => whnf
    refine FootQ.mk ⟨rfl, ?_⟩; conv => whnf
    refine finR_c (enc := (fun r : BookState × PresPres × Int => .tup [BookState.v r.1, PresPres.v r.2.1, V.i r.2.2])) H ?_; conv => whnf
    exact ⟨_, .tup (.cons (fzagg (.cons (.id rfl) (.cons (.slw) (.nil))) rfl) (.cons (fzagg (.cons (.id rfl) (.cons (.id rfl) (.cons (.id rfl) (.cons (.id rfl) (.nil))))) rfl) (.cons (.c (.id rfl)) (.nil))))⟩
  conv => whnf
  iterate 2 (refine Tst.F ?_; conv => whnf)
  refine ask_c (p_book_State_many_v _ _) H rfl rfl (fun v17 H => ?_); conv => whnf
  refine Tst.F ?_; conv => whnf
  refine Tst.T ?_; conv => whnf
  refine Tst.F ?_; conv => whnf
  refine Tst.T ?_; conv => whnf
  refine tst_c H (fun b18 H => ?_) (fun b18 H => ?_)
  · conv => whnf
    refine ⟨Nat.le_of_ble_eq_true rfl, ?_⟩; conv => whnf
    refine ⟨Nat.le_of_ble_eq_true rfl, ?_⟩; conv => whnf
    refine FootQ.mk ⟨rfl, ?_⟩; conv => whnf
    refine finR_c (enc := (fun r : BookState × PresPres × Int => .tup [BookState.v r.1, PresPres.v r.2.1, V.i r.2.2])) H ?_; conv => whnf
    exact ⟨_, .tup (.cons (fzagg (.cons (.id rfl) (.cons (.slw) (.nil))) rfl) (.cons (fzagg (.cons (.id rfl) (.cons (.id rfl) (.cons (.id rfl) (.cons (.id rfl) (.nil))))) rfl) (.cons (.c (.id rfl)) (.nil))))⟩
  conv => whnf
  refine tst_c H (fun b19 H => ?_) (fun b19 H => ?_)
  · conv => whnf
    refine ⟨Nat.le_of_ble_eq_true rfl, ?_⟩; conv => whnf
    refine ⟨Nat.le_of_ble_eq_true rfl, ?_⟩; conv => whnf
    refine FootQ.mk ⟨rfl, ?_⟩; conv => whnf
    refine finR_c (enc := (fun r : BookState × PresPres × Int => .tup [BookState.v r.1, PresPres.v r.2.1, V.i r.2.2])) H ?_; conv => whnf
    exact ⟨_, .tup (.cons (fzagg (.cons (.id rfl) (.cons (.slw) (.nil))) rfl) (.cons (fzagg (.cons (.id rfl) (.cons (.id rfl) (.cons (.id rfl) (.cons (.id rfl) (.nil))))) rfl) (.cons (.c (.id rfl)) (.nil))))⟩
  conv => whnf
  refine Ari.w ?_; conv => whnf
  refine ⟨Nat.le_of_ble_eq_true rfl, ?_⟩; conv => whnf
  refine ⟨Nat.le_of_ble_eq_true rfl, ?_⟩; conv => whnf
  refine slsE_c (f := BookRow.v) H (fun _ => rfl) (fun x20 H => ?_); conv => whnf
  refine Tst.isF b9 ?_; conv => whnf
  refine slsC_c (f := BookRow.v) H (fun _ => rfl) (fun x21 H => ?_); conv => whnf
  refine appN_c (f := BookRow.v) H (fun _ => rfl) (srcM (f := BookRow.v) (fun _ => rfl) _ _) rfl (.v (srcOwn (f := BookRow.v) (l := [(BookRow.mk a1 a2 (PresPres.mk true a3 a4 (w64 (a0.Seq + (1 : Int)))))]) (fun _ => rfl) rfl rfl rfl)) (by decide) rfl (by simp) (fun l22 H => ?_); conv => whnf
  refine appP_c (f := BookRow.v) H (fun _ => rfl) rfl rfl (.v (srcM (f := BookRow.v) (fun _ => rfl) _ _)) (by decide) rfl (fun l23 H => ?_) (fun l23 H => ?_)
  · conv => whnf
    refine ⟨Nat.le_of_ble_eq_true rfl, ?_⟩; conv => whnf
    refine FootQ.mk ⟨rfl, ?_⟩; conv => whnf
    refine ⟨Nat.le_of_ble_eq_true rfl, ?_⟩; conv => whnf
    refine ⟨Nat.le_of_ble_eq_true rfl, ?_⟩; conv => whnf
    refine FootQ.mk ⟨rfl, ?_⟩; conv => whnf
    refine finR_c (enc := (fun r : BookState × PresPres × Int => .tup [BookState.v r.1, PresPres.v r.2.1, V.i r.2.2])) H ?_; conv => whnf
    exact ⟨_, .tup (.cons (fzagg (.cons (.id rfl) (.cons (fzown (f := BookRow.v) (l := l23) rfl rfl (fun _ => rfl) (fun _ => rfl)) (.nil))) rfl) (.cons (fzagg (.cons (.id rfl) (.cons (.id rfl) (.cons (.id rfl) (.cons (.id rfl) (.nil))))) rfl) (.cons (.c (.id rfl)) (.nil))))⟩
  conv => whnf
  refine ⟨Nat.le_of_ble_eq_true rfl, ?_⟩; conv => whnf
  refine FootQ.mk ⟨rfl, ?_⟩; conv => whnf
  refine ⟨Nat.le_of_ble_eq_true rfl, ?_⟩; conv => whnf
  refine ⟨Nat.le_of_ble_eq_true rfl, ?_⟩; conv => whnf
  refine FootQ.mk ⟨rfl, ?_⟩; conv => whnf
  refine finR_c (enc := (fun r : BookState × PresPres × Int => .tup [BookState.v r.1, PresPres.v r.2.1, V.i r.2.2])) H ?_; conv => whnf
  exact ⟨_, .tup (.cons (fzagg (.cons (.id rfl) (.cons (fzown (f := BookRow.v) (l := l23) rfl rfl (fun _ => rfl) (fun _ => rfl)) (.nil))) rfl) (.cons (fzagg (.cons (.id rfl) (.cons (.id rfl) (.cons (.id rfl) (.cons (.id rfl) (.nil))))) rfl) (.cons (.c (.id rfl)) (.nil))))⟩
def gc26 : BCode := (.seq (.reg 3 [⟨(some 3), .bx (.tmp 0), none, 0⟩, ⟨(some 6), .al (.agg [(.lit (.int .i64 0)), (.sl [] true)]), none, 1⟩, ⟨(some 7), .al (.agg [(.lit (.bool false)), (.lit (.int .i64 0)), (.lit (.int .i64 0)), (.lit (.int .i64 0))]), none, 2⟩, ⟨(some 8), .mv (.const (.int .i64 0)), none, 3⟩] none 0 []) (.seq (.seq (.reg 0 [⟨(some 13), .ld 2 true (.tmp 3), none, 0⟩, ⟨(some 14), .cl 36 [(.tmp 13)], none, 0⟩, ⟨(some 9), .mv (.tmp 14), none, 0⟩] none 0 []) (.seq (.reg 0 [⟨(some 15), .mv (.tmp 9), none, 0⟩, ⟨(some 16), .bin .neq (.tmp 15) (.const (.int .i64 0)), none, 0⟩] none 0 []) (.cond (.tmp 16) (.seq (.reg 0 [⟨(some 17), .ld 2 true (.tmp 3), none, 0⟩, ⟨(some 18), .bd [(.lit (.bool false)), (.lit (.int .i64 0)), (.lit (.int .i64 0)), (.lit (.int .i64 0))] [], none, 0⟩, ⟨(some 19), .mv (.tmp 9), none, 0⟩, ⟨none, .st 2 (.tmp 6) (.tmp 17), none, 0⟩, ⟨none, .st 4 (.tmp 7) (.tmp 18), none, 0⟩, ⟨(some 8), .mv (.tmp 19), none, 0⟩] none 0 []) .ret) .skip))) (.seq (.reg 0 [⟨(some 20), .mv (.tmp 1), none, 0⟩, ⟨(some 21), .mv (.tmp 2), none, 0⟩, ⟨(some 22), .cl 49 [(.tmp 20), (.tmp 21)], none, 0⟩, ⟨(some 10), .mv (.tmp 22), none, 0⟩] none 0 []) (.seq (.reg 0 [⟨(some 24), .ld 2 true (.tmp 3), none, 0⟩, ⟨(some 25), .mv (.tmp 10), none, 0⟩, ⟨(some 26), .cl 56 [(.tmp 24), (.tmp 25)], none, 0⟩, ⟨(some 23), .mv (.tmp 26), none, 0⟩, ⟨(some 27), .ex (.tmp 23) 0, none, 0⟩, ⟨(some 28), .ex (.tmp 23) 1, none, 0⟩, ⟨(some 11), .mv (.tmp 27), none, 0⟩, ⟨(some 12), .mv (.tmp 28), none, 0⟩] none 0 []) (.seq (.seq (.reg 0 [⟨(some 29), .mv (.tmp 12), none, 0⟩, ⟨(some 30), .un .not (.tmp 29), none, 0⟩, ⟨(some 31), .mv (.tmp 30), none, 0⟩, ⟨(some 32), .mv (.tmp 10), (some (31, false)), 0⟩, ⟨(some 33), .bin .eql (.tmp 32) (.const (.string ⟨#[]⟩)), (some (31, false)), 0⟩, ⟨(some 34), .pick (.tmp 31) (.const (.bool true)) (.tmp 33), none, 0⟩] none 0 []) (.cond (.tmp 34) (.seq (.reg 0 [⟨(some 35), .ld 2 true (.tmp 3), none, 0⟩, ⟨(some 36), .bd [(.lit (.bool false)), (.lit (.int .i64 0)), (.lit (.int .i64 0)), (.lit (.int .i64 0))] [], none, 0⟩, ⟨none, .st 2 (.tmp 6) (.tmp 35), none, 0⟩, ⟨none, .st 4 (.tmp 7) (.tmp 36), none, 0⟩, ⟨(some 8), .mv (.const (.int .i64 6)), none, 0⟩] none 0 []) .ret) .skip)) (.seq (.seq (.reg 0 [⟨(some 37), .fa 0 (.tmp 3), none, 0⟩, ⟨(some 38), .ld 1 false (.tmp 37), none, 0⟩, ⟨(some 39), .bin .geq (.tmp 38) (.const (.int .i64 1099511627776)), none, 0⟩] none 0 []) (.cond (.tmp 39) (.seq (.reg 0 [⟨(some 40), .ld 2 true (.tmp 3), none, 0⟩, ⟨(some 41), .bd [(.lit (.bool false)), (.lit (.int .i64 0)), (.lit (.int .i64 0)), (.lit (.int .i64 0))] [], none, 0⟩, ⟨none, .st 2 (.tmp 6) (.tmp 40), none, 0⟩, ⟨none, .st 4 (.tmp 7) (.tmp 41), none, 0⟩, ⟨(some 8), .mv (.const (.int .i64 9)), none, 0⟩] none 0 []) .ret) .skip)) (.seq (.reg 0 [⟨(some 42), .fa 0 (.tmp 3), none, 0⟩, ⟨(some 43), .ld 1 false (.tmp 42), none, 0⟩, ⟨(some 44), .bin .add (.tmp 43) (.const (.int .i64 1)), none, 0⟩, ⟨(some 45), .fa 0 (.tmp 3), none, 0⟩, ⟨none, .st 1 (.tmp 45) (.tmp 44), none, 0⟩] none 0 []) (.seq (.reg 1 [⟨(some 46), .fa 1 (.tmp 3), none, 0⟩, ⟨(some 47), .ld 1 false (.tmp 46), none, 0⟩, ⟨(some 48), .mv (.tmp 11), none, 0⟩, ⟨(some 49), .mv (.tmp 11), none, 0⟩, ⟨(some 50), .sls 6 (.tmp 47) none (some (.tmp 48)) (some (.tmp 49)), none, 0⟩, ⟨(some 51), .fa 1 (.tmp 3), none, 0⟩, ⟨(some 52), .ld 1 false (.tmp 51), none, 0⟩, ⟨(some 53), .mv (.tmp 11), none, 0⟩, ⟨(some 54), .bin .add (.tmp 53) (.const (.int .i64 1)), none, 0⟩, ⟨(some 55), .sls 6 (.tmp 52) (some (.tmp 54)) none none, none, 0⟩, ⟨(some 56), .ap 6 64 (.tmp 50) (.tmp 55), none, 0⟩, ⟨(some 57), .fa 1 (.tmp 3), none, 1⟩, ⟨none, .st 1 (.tmp 57) (.tmp 56), none, 1⟩] (some [[], [0], [], [], [3, 2, 0, 1], [], [5], [], [7], [7, 8, 5, 6], [6, 5, 8, 7, 9, 1, 0, 2, 3, 4], [10, 9, 8, 7, 6, 5, 4, 3, 2, 1, 0], [0, 1, 2, 3, 4, 5, 6, 7, 8, 9, 10, 11]]) 0 []) (.seq (.reg 0 [⟨(some 58), .ld 2 true (.tmp 3), none, 0⟩, ⟨(some 59), .fa 0 (.tmp 3), none, 0⟩, ⟨(some 60), .ld 1 false (.tmp 59), none, 0⟩, ⟨(some 61), .bd [(.lit (.bool false)), (.lit (.int .i64 0)), (.lit (.int .i64 0)), (.lit (.int .i64 0))] [(3, 1, (.tmp 60))], none, 0⟩, ⟨none, .st 2 (.tmp 6) (.tmp 58), none, 0⟩, ⟨none, .st 4 (.tmp 7) (.tmp 61), none, 0⟩, ⟨(some 8), .mv (.const (.int .i64 0)), none, 0⟩] (some [[], [], [1], [1, 2], [0], [0, 4, 2, 1, 3], [3, 1, 2, 4, 0, 5]]) 0 []) .ret)))))))))
theorem gc26_ok : compF Tryz.prog Tryz.f26 = some (gc26.er, 62, [.cell 6 2 true, .cell 7 4 true, .tmp 8]) := by unfold gc26; kernel_rfl
set_option maxRecDepth 100000 in
set_option maxHeartbeats 4000000 in
theorem p_book_Off_v {u1 : Bool} (a0 : BookState) (a1 : ByteArray) (a2 : ByteArray) : CallsO Tryz.prog 26 [.agg [.i a0.Seq, .sl (List.map BookRow.v a0.Rows) u1], .s a1, .s a2] (fun r : BookState × PresPres × Int => .tup [BookState.v r.1, PresPres.v r.2.1, V.i r.2.2]) (p_book_Off a0 a1 a2) := by
  refine callsO_comp mix Tryz.func26 gc26_ok fun r H => ?_
  rw [p_book_Off] at H
  conv => whnf
  refine ask_c (p_book_Check_v _) H rfl rfl (fun v1 H => ?_); conv => whnf
  refine tst_c H (fun b2 H => ?_) (fun b2 H => ?_)
  · conv => whnf
    refine ⟨Nat.le_of_ble_eq_true rfl, ?_⟩; conv => whnf
    refine ⟨Nat.le_of_ble_eq_true rfl, ?_⟩; conv => whnf
    refine finR_c (enc := (fun r : BookState × PresPres × Int => .tup [BookState.v r.1, PresPres.v r.2.1, V.i r.2.2])) H ?_; conv => whnf
    exact ⟨_, .tup (.cons (fzagg (.cons (.id rfl) (.cons (.slw) (.nil))) rfl) (.cons (fzagg (.cons (.id rfl) (.cons (.id rfl) (.cons (.id rfl) (.cons (.id rfl) (.nil))))) rfl) (.cons (.c (.id rfl)) (.nil))))⟩
  conv => whnf
  refine ask_c (p_pres_Key_v _ _) H rfl rfl (fun v3 H => ?_); conv => whnf
  refine ask_c (p_book_State_find_v _ _) H rfl rfl (fun v4 H => ?_); conv => whnf
  refine Tst.not ?_
  refine tst_d H (fun b5 H => ?_) (fun b5 H => ?_)
  · conv => whnf
    iterate 3 (refine Tst.T ?_; conv => whnf)
    refine ⟨Nat.le_of_ble_eq_true rfl, ?_⟩; conv => whnf
    refine ⟨Nat.le_of_ble_eq_true rfl, ?_⟩; conv => whnf
    refine finR_c (enc := (fun r : BookState × PresPres × Int => .tup [BookState.v r.1, PresPres.v r.2.1, V.i r.2.2])) H ?_; conv => whnf
    exact ⟨_, .tup (.cons (fzagg (.cons (.id rfl) (.cons (.slw) (.nil))) rfl) (.cons (fzagg (.cons (.id rfl) (.cons (.id rfl) (.cons (.id rfl) (.cons (.id rfl) (.nil))))) rfl) (.cons (.c (.id rfl)) (.nil))))⟩
  conv => whnf
  iterate 2 (refine Tst.F ?_; conv => whnf)
  refine tst_c H (fun b6 H => ?_) (fun b6 H => ?_)
  · conv => whnf
    refine ⟨Nat.le_of_ble_eq_true rfl, ?_⟩; conv => whnf
    refine ⟨Nat.le_of_ble_eq_true rfl, ?_⟩; conv => whnf
    refine finR_c (enc := (fun r : BookState × PresPres × Int => .tup [BookState.v r.1, PresPres.v r.2.1, V.i r.2.2])) H ?_; conv => whnf
    exact ⟨_, .tup (.cons (fzagg (.cons (.id rfl) (.cons (.slw) (.nil))) rfl) (.cons (fzagg (.cons (.id rfl) (.cons (.id rfl) (.cons (.id rfl) (.cons (.id rfl) (.nil))))) rfl) (.cons (.c (.id rfl)) (.nil))))⟩
  conv => whnf
  refine tst_c H (fun b7 H => ?_) (fun b7 H => ?_)
  · conv => whnf
    refine ⟨Nat.le_of_ble_eq_true rfl, ?_⟩; conv => whnf
    refine ⟨Nat.le_of_ble_eq_true rfl, ?_⟩; conv => whnf
    refine finR_c (enc := (fun r : BookState × PresPres × Int => .tup [BookState.v r.1, PresPres.v r.2.1, V.i r.2.2])) H ?_; conv => whnf
    exact ⟨_, .tup (.cons (fzagg (.cons (.id rfl) (.cons (.slw) (.nil))) rfl) (.cons (fzagg (.cons (.id rfl) (.cons (.id rfl) (.cons (.id rfl) (.cons (.id rfl) (.nil))))) rfl) (.cons (.c (.id rfl)) (.nil))))⟩
  conv => whnf
  refine Ari.w ?_; conv => whnf
  refine ⟨Nat.le_of_ble_eq_true rfl, ?_⟩; conv => whnf
  refine slsC_c (f := BookRow.v) H (fun _ => rfl) (fun x8 H => ?_); conv => whnf
  refine Ari.w ?_; conv => whnf
  refine slsE_c (f := BookRow.v) H (fun _ => rfl) (fun x9 H => ?_); conv => whnf
  refine appX_c (f := BookRow.v) H (fun _ => rfl) rfl (.v (srcM (f := BookRow.v) (fun _ => rfl) _ _)) (by decide) rfl (fun l10 H => ?_) (fun l10 H => ?_)
  · conv => whnf
    refine ⟨Nat.le_of_ble_eq_true rfl, ?_⟩; conv => whnf
    refine FootQ.mk ⟨rfl, ?_⟩; conv => whnf
    refine ⟨Nat.le_of_ble_eq_true rfl, ?_⟩; conv => whnf
    refine ⟨Nat.le_of_ble_eq_true rfl, ?_⟩; conv => whnf
    refine FootQ.mk ⟨rfl, ?_⟩; conv => whnf
    refine finR_c (enc := (fun r : BookState × PresPres × Int => .tup [BookState.v r.1, PresPres.v r.2.1, V.i r.2.2])) H ?_; conv => whnf
    exact ⟨_, .tup (.cons (fzagg (.cons (.id rfl) (.cons (.slw) (.nil))) rfl) (.cons (fzagg (.cons (.id rfl) (.cons (.id rfl) (.cons (.id rfl) (.cons (.id rfl) (.nil))))) rfl) (.cons (.c (.id rfl)) (.nil))))⟩
  conv => whnf
  refine ⟨Nat.le_of_ble_eq_true rfl, ?_⟩; conv => whnf
  refine FootQ.mk ⟨rfl, ?_⟩; conv => whnf
  refine ⟨Nat.le_of_ble_eq_true rfl, ?_⟩; conv => whnf
  refine ⟨Nat.le_of_ble_eq_true rfl, ?_⟩; conv => whnf
  refine FootQ.mk ⟨rfl, ?_⟩; conv => whnf
  refine finR_c (enc := (fun r : BookState × PresPres × Int => .tup [BookState.v r.1, PresPres.v r.2.1, V.i r.2.2])) H ?_; conv => whnf
  exact ⟨_, .tup (.cons (fzagg (.cons (.id rfl) (.cons (fzown (f := BookRow.v) (l := l10) rfl rfl (fun _ => rfl) (fun _ => rfl)) (.nil))) rfl) (.cons (fzagg (.cons (.id rfl) (.cons (.id rfl) (.cons (.id rfl) (.cons (.id rfl) (.nil))))) rfl) (.cons (.c (.id rfl)) (.nil))))⟩
end Go.Proofs.YtljeinlapkgjeaaGreat
/- That the program's functions yield what the plain ones tell (written by a program of mine). -/
namespace Go.Proofs.YtljeinlapkgjeaaGreat
open Go.RowKit
def gc38 : BCode := (.seq (.reg 1 [⟨(some 2), .bx (.tmp 0), none, 0⟩, ⟨(some 4), .mv (.const (.slice none 0 0)), none, 1⟩] none 0 []) (.seq (.seq (.reg 0 [⟨(some 8), .ld 2 true (.tmp 2), none, 0⟩, ⟨(some 9), .cl 36 [(.tmp 8)], none, 0⟩, ⟨(some 10), .bin .neq (.tmp 9) (.const (.int .i64 0)), none, 0⟩] none 0 []) (.cond (.tmp 10) (.seq (.reg 0 [⟨(some 4), .mv (.const (.slice none 0 0)), none, 0⟩] none 0 []) .ret) .skip)) (.seq (.reg 0 [⟨(some 5), .mv (.const (.slice none 0 0)), none, 0⟩] none 0 []) (.seq (.seq (.reg 0 [⟨(some 11), .fa 1 (.tmp 2), none, 0⟩, ⟨(some 12), .ld 1 false (.tmp 11), none, 0⟩, ⟨(some 13), .lens (.tmp 12), none, 0⟩, ⟨(some 14), .mv (.const (.int .i64 0)), none, 0⟩] none 0 []) (.block 0 (.loop (.seq (.reg 0 [⟨(some 15), .bin .lss (.tmp 14) (.tmp 13), none, 0⟩] none 0 []) (.seq (.cond (.tmp 15) .skip (.exit 0)) (.seq (.block 1 (.seq (.reg 1 [⟨(some 16), .ixs 6 (.tmp 12) (.tmp 14), none, 0⟩, ⟨(some 17), .ld 6 true (.tmp 16), none, 0⟩, ⟨(some 7), .al (.agg [(.lit (.string ⟨#[]⟩)), (.lit (.string ⟨#[]⟩)), (.lit (.bool false)), (.lit (.int .i64 0)), (.lit (.int .i64 0)), (.lit (.int .i64 0))]), none, 0⟩, ⟨none, .st 6 (.tmp 7) (.tmp 17), none, 1⟩] none 0 []) (.seq (.reg 0 [⟨(some 18), .fa 0 (.tmp 7), none, 0⟩, ⟨(some 19), .ld 1 false (.tmp 18), none, 0⟩, ⟨(some 20), .mv (.tmp 1), none, 0⟩, ⟨(some 21), .bin .eql (.tmp 19) (.tmp 20), none, 0⟩] none 0 []) (.cond (.tmp 21) (.reg 2 [⟨(some 22), .mv (.tmp 5), none, 0⟩, ⟨(some 23), .ld 6 true (.tmp 7), none, 0⟩, ⟨(some 24), .bs 6 1 [(.lit (.string ⟨#[]⟩)), (.lit (.string ⟨#[]⟩)), (.lit (.bool false)), (.lit (.int .i64 0)), (.lit (.int .i64 0)), (.lit (.int .i64 0))] [(0, (.tmp 23))], none, 0⟩, ⟨(some 25), .ap 6 64 (.tmp 22) (.tmp 24), none, 1⟩, ⟨(some 5), .mv (.tmp 25), none, 2⟩] none 0 []) .skip)))) (.reg 0 [⟨(some 26), .bin .add (.tmp 14) (.const (.int .i64 1)), none, 0⟩, ⟨(some 14), .mv (.tmp 26), none, 0⟩] none 0 []))))))) (.seq (.reg 0 [⟨(some 27), .mv (.tmp 5), none, 0⟩, ⟨(some 4), .mv (.tmp 27), none, 0⟩] none 0 []) .ret)))))
theorem gc38_ok : compF Tryz.prog Tryz.f38 = some (gc38.er, 28, [.tmp 4]) := by unfold gc38; kernel_rfl
set_option maxRecDepth 100000 in
set_option maxHeartbeats 4000000 in
theorem p_book_Of_v {u1 : Bool} (a0 : BookState) (a1 : ByteArray) : CallsO Tryz.prog 38 [.agg [.i a0.Seq, .sl (List.map BookRow.v a0.Rows) u1], .s a1] (fun l : List BookRow => V.sl (l.map BookRow.v) false) (p_book_Of a0 a1) := by
  refine callsO_comp mix Tryz.func38 gc38_ok fun r H => ?_
  rw [p_book_Of] at H
  conv => whnf
  refine ask_c (p_book_Check_v _) H rfl rfl (fun v1 H => ?_); conv => whnf
  refine tst_c H (fun b2 H => ?_) (fun b2 H => ?_)
  · conv => whnf
    refine finR_c (enc := (fun l : List BookRow => V.sl (l.map BookRow.v) false)) H ?_; conv => whnf
    exact ⟨_, .v (.c (.slw))⟩
  conv => whnf
  refine LenQ.M ?_; conv => whnf
  obtain ⟨o4, HL5, HQ6⟩ := bind_c H
  refine loop_c [5, 14] [7, 15, 16, 17, 18, 19, 20, 21, 22, 23, 24, 25, 26, 2, 11] [7, 15, 16, 17, 18, 19, 20, 21, 22, 23, 24, 25, 26, 2, 11] (fun n vals st => (∃ y8, p_book_Of_l1  a1 a0.Rows (a0.Rows.length : Int) n [] y8 = some o4 ∧ vals = [.sl (List.map BookRow.v []) true, .i y8] ∧ st = []) ∨ (∃ y13 y14, p_book_Of_l1  a1 a0.Rows (a0.Rows.length : Int) n y13 y14 = some o4 ∧ vals = [.osl 0 0 (List.length y13) 6 false, .i y14] ∧ st = [.live (cellsM BookRow.v y13) (cellsM BookRow.v y13).length])) fuel 0 [] (.inl (⟨_, HL5, rfl, rfl⟩)) (Nat.zero_le _) rfl (by kernel_rfl) (by kernel_rfl) rfl trivial ?_
  rintro (_ | n7) _ _ (⟨y8, H, rfl, rfl⟩ | ⟨y13, y14, H, rfl, rfl⟩)
  · rw [p_book_Of_l1] at H; cases H
  · rw [p_book_Of_l1] at H; cases H
  · rw [p_book_Of_l1] at H
    conv => whnf
    refine tst_d H (fun b9 H => ?_) (fun b9 H => ?_)
    · conv => whnf
      obtain rfl := Option.some.inj H
      have H := HQ6
      try dsimp only at H
      refine finR_c (enc := (fun l : List BookRow => V.sl (l.map BookRow.v) false)) H ?_; conv => whnf
      exact ⟨_, .v (.c (.slw))⟩
    conv => whnf
    refine ixs_c (f := BookRow.v) H (fun _ => rfl) (fun x10 H => ?_); conv => whnf
    refine ⟨Nat.le_of_ble_eq_true rfl, ?_⟩; conv => whnf
    refine tst_d H (fun b11 H => ?_) (fun b11 H => ?_)
    · conv => whnf
      refine Ari.w ?_; conv => whnf
      exact again_c [7, 15, 16, 17, 18, 19, 20, 21, 22, 23, 24, 25, 26, 2, 11] n7 0 [] (.inl (⟨_, H, rfl, rfl⟩)) (Nat.lt_succ_self _) (Nat.zero_le _) rfl (by kernel_rfl) (by kernel_rfl) rfl trivial
    conv => whnf
    refine appN_c (f := BookRow.v) H (fun _ => rfl) (srcM (f := BookRow.v) (fun _ => rfl) _ _) rfl (.v (srcOwn (f := BookRow.v) (l := [x10]) (fun _ => rfl) rfl rfl rfl)) (by decide) rfl (by simp) (fun l12 H => ?_); conv => whnf
    refine Ari.w ?_; conv => whnf
    exact again_c [7, 15, 16, 17, 18, 19, 20, 21, 22, 23, 24, 25, 26, 2, 11] n7 1 [2] (.inr (⟨_, _, H, rfl, rfl⟩)) (Nat.lt_succ_self _) (Nat.zero_le _) rfl (by kernel_rfl) (by kernel_rfl) rfl (wkB_live0 rfl (cellsM_idlt (f := BookRow.v) (fun _ => rfl) _) rfl trivial)
  rw [p_book_Of_l1] at H
  conv => whnf
  refine tst_d H (fun b15 H => ?_) (fun b15 H => ?_)
  · conv => whnf
    obtain rfl := Option.some.inj H
    have H := HQ6
    try dsimp only at H
    refine finR_c (enc := (fun l : List BookRow => V.sl (l.map BookRow.v) false)) H ?_; conv => whnf
    exact ⟨_, .v (.c (fzown (f := BookRow.v) (l := y13) rfl rfl (fun _ => rfl) (fun _ => rfl)))⟩
  conv => whnf
  refine ixs_c (f := BookRow.v) H (fun _ => rfl) (fun x16 H => ?_); conv => whnf
  refine ⟨Nat.le_of_ble_eq_true rfl, ?_⟩; conv => whnf
  refine tst_d H (fun b17 H => ?_) (fun b17 H => ?_)
  · conv => whnf
    refine Ari.w ?_; conv => whnf
    exact again_c [7, 15, 16, 17, 18, 19, 20, 21, 22, 23, 24, 25, 26, 2, 11] n7 1 [] (.inr (⟨_, _, H, rfl, rfl⟩)) (Nat.lt_succ_self _) (Nat.zero_le _) rfl (by kernel_rfl) (by kernel_rfl) rfl (wkB_live0 rfl (cellsM_idlt (f := BookRow.v) (fun _ => rfl) _) rfl trivial)
  conv => whnf
  refine appO_c (f := BookRow.v) H (fun _ => rfl) rfl (Nat.le_refl _) (.v (srcOwn (f := BookRow.v) (l := [x16]) (fun _ => rfl) rfl rfl rfl)) (by decide) rfl (by simp) (fun l18 H => ?_); conv => whnf
  refine Ari.w ?_; conv => whnf
  exact again_c [7, 15, 16, 17, 18, 19, 20, 21, 22, 23, 24, 25, 26, 2, 11] n7 1 [3] (.inr (⟨_, _, H, rfl, rfl⟩)) (Nat.lt_succ_self _) (Nat.zero_le _) rfl (by kernel_rfl) (by kernel_rfl) rfl (wkB_live0 rfl (cellsM_idlt (f := BookRow.v) (fun _ => rfl) _) rfl trivial)
def gc92 : BCode := (.seq (.reg 2 [⟨(some 2), .bx (.tmp 0), none, 0⟩, ⟨(some 3), .bx (.tmp 1), none, 1⟩, ⟨(some 4), .mv (.const (.bool false)), none, 2⟩] none 0 []) (.seq (.reg 0 [⟨(some 5), .fa 3 (.tmp 3), none, 0⟩, ⟨(some 6), .ld 1 false (.tmp 5), none, 0⟩, ⟨(some 7), .fa 3 (.tmp 2), none, 0⟩, ⟨(some 8), .ld 1 false (.tmp 7), none, 0⟩, ⟨(some 9), .bin .lss (.tmp 6) (.tmp 8), none, 0⟩, ⟨(some 4), .mv (.tmp 9), none, 0⟩] none 0 []) .ret))
theorem gc92_ok : compF Tryz.prog Tryz.f92 = some (gc92.er, 10, [.tmp 4]) := by unfold gc92; kernel_rfl
set_option maxRecDepth 100000 in
set_option maxHeartbeats 4000000 in
theorem p_pres_Newer_v (a0 : PresPres) (a1 : PresPres) : CallsO Tryz.prog 92 [.agg [.b a0.On, .i a0.Show, .i a0.Prio, .i a0.Seq], .agg [.b a1.On, .i a1.Show, .i a1.Prio, .i a1.Seq]] V.b (p_pres_Newer a0 a1) := by
  refine callsO_comp mix Tryz.func92 gc92_ok fun r H => ?_
  rw [p_pres_Newer] at H
  conv => whnf
  exact fin0_c (enc := V.b) H (.inr rfl) (.cons (.tmp rfl) (.nil)) rfl rfl
def gc83 : BCode := (.seq (.reg 2 [⟨(some 2), .bx (.tmp 0), none, 0⟩, ⟨(some 3), .bx (.tmp 1), none, 1⟩, ⟨(some 4), .mv (.const (.bool false)), none, 2⟩] none 0 []) (.seq (.seq (.reg 0 [⟨(some 5), .fa 0 (.tmp 2), none, 0⟩, ⟨(some 6), .ld 1 false (.tmp 5), none, 0⟩, ⟨(some 7), .un .not (.tmp 6), none, 0⟩, ⟨(some 8), .mv (.tmp 7), none, 0⟩, ⟨(some 9), .fa 0 (.tmp 3), (some (8, false)), 0⟩, ⟨(some 10), .ld 1 false (.tmp 9), (some (8, false)), 0⟩, ⟨(some 11), .un .not (.tmp 10), (some (8, false)), 0⟩, ⟨(some 12), .pick (.tmp 8) (.const (.bool true)) (.tmp 11), none, 0⟩] none 0 []) (.cond (.tmp 12) (.seq (.reg 0 [⟨(some 13), .fa 0 (.tmp 2), none, 0⟩, ⟨(some 14), .ld 1 false (.tmp 13), none, 0⟩, ⟨(some 15), .mv (.tmp 14), none, 0⟩, ⟨(some 16), .fa 0 (.tmp 3), (some (15, true)), 0⟩, ⟨(some 17), .ld 1 false (.tmp 16), (some (15, true)), 0⟩, ⟨(some 18), .un .not (.tmp 17), (some (15, true)), 0⟩, ⟨(some 19), .pick (.tmp 15) (.tmp 18) (.const (.bool false)), none, 0⟩, ⟨(some 4), .mv (.tmp 19), none, 0⟩] none 0 []) .ret) .skip)) (.seq (.seq (.reg 0 [⟨(some 20), .fa 2 (.tmp 2), none, 0⟩, ⟨(some 21), .ld 1 false (.tmp 20), none, 0⟩, ⟨(some 22), .fa 2 (.tmp 3), none, 0⟩, ⟨(some 23), .ld 1 false (.tmp 22), none, 0⟩, ⟨(some 24), .bin .eql (.tmp 21) (.tmp 23), none, 0⟩] none 0 []) (.cond (.tmp 24) (.seq (.reg 0 [⟨(some 25), .ld 4 true (.tmp 2), none, 0⟩, ⟨(some 26), .ld 4 true (.tmp 3), none, 0⟩, ⟨(some 27), .cl 92 [(.tmp 25), (.tmp 26)], none, 0⟩, ⟨(some 4), .mv (.tmp 27), none, 0⟩] none 0 []) .ret) .skip)) (.seq (.reg 0 [⟨(some 28), .fa 2 (.tmp 3), none, 0⟩, ⟨(some 29), .ld 1 false (.tmp 28), none, 0⟩, ⟨(some 30), .fa 2 (.tmp 2), none, 0⟩, ⟨(some 31), .ld 1 false (.tmp 30), none, 0⟩, ⟨(some 32), .bin .lss (.tmp 29) (.tmp 31), none, 0⟩, ⟨(some 4), .mv (.tmp 32), none, 0⟩] none 0 []) .ret))))
theorem gc83_ok : compF Tryz.prog Tryz.f83 = some (gc83.er, 33, [.tmp 4]) := by unfold gc83; kernel_rfl
set_option maxRecDepth 100000 in
set_option maxHeartbeats 4000000 in
theorem p_pres_Better_v (a0 : PresPres) (a1 : PresPres) : CallsO Tryz.prog 83 [.agg [.b a0.On, .i a0.Show, .i a0.Prio, .i a0.Seq], .agg [.b a1.On, .i a1.Show, .i a1.Prio, .i a1.Seq]] V.b (p_pres_Better a0 a1) := by
  refine callsO_comp mix Tryz.func83 gc83_ok fun r H => ?_
  rw [p_pres_Better] at H
  conv => whnf
  refine Tst.not ?_
  refine tst_d H (fun b1 H => ?_) (fun b1 H => ?_)
  · conv => whnf
    iterate 4 (refine Tst.T ?_; conv => whnf)
    refine Tst.isF b1 ?_; conv => whnf
    iterate 3 (refine Tst.F ?_; conv => whnf)
    exact fin0_c (enc := V.b) H (.inr rfl) (.cons (.tmp rfl) (.nil)) rfl rfl
  conv => whnf
  iterate 3 (refine Tst.F ?_; conv => whnf)
  refine Tst.not ?_
  refine tst_d H (fun b2 H => ?_) (fun b2 H => ?_)
  · conv => whnf
    refine Tst.isT b1 ?_; conv => whnf
    iterate 3 (refine Tst.T ?_; conv => whnf)
    exact fin0_c (enc := V.b) H (.inr rfl) (.cons (.tmp rfl) (.nil)) rfl rfl
  conv => whnf
  refine tst_d H (fun b3 H => ?_) (fun b3 H => ?_)
  · conv => whnf
    exact fin0_c (enc := V.b) H (.inr rfl) (.cons (.tmp rfl) (.nil)) rfl rfl
  conv => whnf
  refine ask_c (p_pres_Newer_v _ _) H rfl rfl (fun v4 H => ?_); conv => whnf
  exact fin0_c (enc := V.b) H (.inr rfl) (.cons (.tmp rfl) (.nil)) rfl rfl
def gc61 : BCode := (.seq (.reg 0 [⟨(some 2), .mv (.const (.int .i64 0)), none, 0⟩] none 0 []) (.seq (.reg 0 [⟨(some 3), .mv (.const (.int .i64 (-1))), none, 0⟩] none 0 []) (.seq (.seq (.reg 0 [⟨(some 6), .mv (.tmp 0), none, 0⟩, ⟨(some 7), .lens (.tmp 6), none, 0⟩, ⟨(some 8), .mv (.const (.int .i64 0)), none, 0⟩] none 0 []) (.block 0 (.loop (.seq (.reg 0 [⟨(some 9), .bin .lss (.tmp 8) (.tmp 7), none, 0⟩] none 0 []) (.seq (.cond (.tmp 9) .skip (.exit 0)) (.seq (.block 1 (.seq (.reg 1 [⟨(some 10), .mv (.tmp 8), none, 0⟩, ⟨(some 11), .ixs 4 (.tmp 6) (.tmp 8), none, 0⟩, ⟨(some 12), .ld 4 true (.tmp 11), none, 0⟩, ⟨(some 5), .al (.agg [(.lit (.bool false)), (.lit (.int .i64 0)), (.lit (.int .i64 0)), (.lit (.int .i64 0))]), none, 0⟩, ⟨(some 4), .mv (.tmp 10), none, 1⟩, ⟨none, .st 4 (.tmp 5) (.tmp 12), none, 1⟩] none 0 []) (.seq (.reg 0 [⟨(some 13), .fa 0 (.tmp 5), none, 0⟩, ⟨(some 14), .ld 1 false (.tmp 13), none, 0⟩, ⟨(some 15), .mv (.tmp 14), none, 0⟩, ⟨(some 16), .mv (.tmp 3), (some (15, true)), 0⟩, ⟨(some 17), .bin .eql (.tmp 16) (.const (.int .i64 (-1))), (some (15, true)), 0⟩, ⟨(some 18), .mv (.tmp 17), (some (15, true)), 0⟩, ⟨(some 19), .ld 4 true (.tmp 5), (some (18, false)), 0⟩, ⟨(some 20), .mv (.tmp 0), (some (18, false)), 0⟩, ⟨(some 21), .mv (.tmp 3), (some (18, false)), 0⟩, ⟨(some 22), .ixs 4 (.tmp 20) (.tmp 21), (some (18, false)), 0⟩, ⟨(some 23), .ld 4 true (.tmp 22), (some (18, false)), 0⟩, ⟨(some 24), .cl 83 [(.tmp 19), (.tmp 23)], (some (18, false)), 0⟩, ⟨(some 25), .pick (.tmp 18) (.const (.bool true)) (.tmp 24), (some (15, true)), 0⟩, ⟨(some 26), .pick (.tmp 15) (.tmp 25) (.const (.bool false)), none, 0⟩] (some [[], [0], [0, 1], [1, 0, 2], [2, 0, 1, 3], [3, 1, 0, 2, 4], [4, 2, 0, 1, 3, 5], [4, 2, 0, 1, 3, 5], [4, 2, 0, 1, 3, 5], [8, 5, 3, 1, 0, 2, 4, 7], [7, 4, 2, 0, 1, 3, 5, 8, 9], [9, 8, 7, 10, 5, 3, 1, 0, 2, 4, 6], [6, 10, 7, 8, 9, 11, 4, 2, 0, 1, 3, 5], [5, 3, 4, 11, 9, 8, 7, 10, 6, 12, 1, 0, 2]]) 0 []) (.cond (.tmp 26) (.reg 0 [⟨(some 27), .mv (.tmp 4), none, 0⟩, ⟨(some 3), .mv (.tmp 27), none, 0⟩] none 0 []) .skip)))) (.reg 0 [⟨(some 28), .bin .add (.tmp 8) (.const (.int .i64 1)), none, 0⟩, ⟨(some 8), .mv (.tmp 28), none, 0⟩] none 0 []))))))) (.seq (.reg 0 [⟨(some 29), .mv (.tmp 3), none, 0⟩, ⟨(some 2), .mv (.tmp 29), none, 0⟩] none 0 []) .ret))))
theorem gc61_ok : compF Tryz.prog Tryz.f61 = some (gc61.er, 30, [.tmp 2]) := by unfold gc61; kernel_rfl
set_option maxRecDepth 100000 in
set_option maxHeartbeats 4000000 in
theorem p_pres_Best_v {u1 : Bool} (a0 : List PresPres) : CallsO Tryz.prog 61 [.sl (List.map PresPres.v a0) u1] V.i (p_pres_Best a0) := by
  refine callsO_comp mix Tryz.func61 gc61_ok fun r H => ?_
  rw [p_pres_Best] at H
  conv => whnf
  refine LenQ.M ?_; conv => whnf
  obtain ⟨o2, HL3, HQ4⟩ := bind_c H
  refine loop_c [3, 8] [4, 5, 9, 10, 11, 12, 13, 14, 15, 16, 17, 18, 19, 20, 21, 22, 23, 24, 25, 26, 27, 28] [4, 5, 9, 10, 11, 12, 13, 14, 15, 16, 17, 18, 19, 20, 21, 22, 23, 24, 25, 26, 27, 28] (fun n vals st => (∃ y6 y7, p_pres_Best_l1  a0 a0 (a0.length : Int) n y6 y7 = some o2 ∧ vals = [.i y6, .i y7] ∧ st = [])) fuel 0 [] (⟨_, _, HL3, rfl, rfl⟩) (Nat.zero_le _) rfl (by kernel_rfl) (by kernel_rfl) rfl trivial ?_
  rintro (_ | n5) _ _ (⟨y6, y7, H, rfl, rfl⟩)
  · rw [p_pres_Best_l1] at H; cases H
  rw [p_pres_Best_l1] at H
  conv => whnf
  refine tst_d H (fun b8 H => ?_) (fun b8 H => ?_)
  · conv => whnf
    obtain rfl := Option.some.inj H
    have H := HQ4
    try dsimp only at H
    exact fin0_c (enc := V.i) H (.inr rfl) (.cons (.tmp rfl) (.nil)) rfl rfl
  conv => whnf
  refine ixs_c (f := PresPres.v) H (fun _ => rfl) (fun x9 H => ?_); conv => whnf
  refine ⟨Nat.le_of_ble_eq_true rfl, ?_⟩; conv => whnf
  refine tst_d H (fun b10 H => ?_) (fun b10 H => ?_)
  · conv => whnf
    iterate 4 (refine Tst.F ?_; conv => whnf)
    refine FootQ.mk ⟨rfl, ?_⟩; conv => whnf
    refine Tst.F ?_; conv => whnf
    refine Ari.w ?_; conv => whnf
    exact again_c [4, 5, 9, 10, 11, 12, 13, 14, 15, 16, 17, 18, 19, 20, 21, 22, 23, 24, 25, 26, 27, 28] n5 0 [] (⟨_, _, H, rfl, rfl⟩) (Nat.lt_succ_self _) (Nat.zero_le _) rfl (by kernel_rfl) (by kernel_rfl) rfl trivial
  conv => whnf
  iterate 2 (refine Tst.T ?_; conv => whnf)
  refine tst_c H (fun b11 H => ?_) (fun b11 H => ?_)
  · conv => whnf
    iterate 8 (refine Tst.T ?_; conv => whnf)
    refine FootQ.mk ⟨rfl, ?_⟩; conv => whnf
    refine Tst.T ?_; conv => whnf
    refine Ari.w ?_; conv => whnf
    exact again_c [4, 5, 9, 10, 11, 12, 13, 14, 15, 16, 17, 18, 19, 20, 21, 22, 23, 24, 25, 26, 27, 28] n5 0 [] (⟨_, _, H, rfl, rfl⟩) (Nat.lt_succ_self _) (Nat.zero_le _) rfl (by kernel_rfl) (by kernel_rfl) rfl trivial
  conv => whnf
  iterate 3 (refine Tst.F ?_; conv => whnf)
  refine ixs_c (f := PresPres.v) H (fun _ => rfl) (fun x12 H => ?_); conv => whnf
  iterate 2 (refine Tst.F ?_; conv => whnf)
  refine ask_c (p_pres_Better_v _ _) H rfl rfl (fun v13 H => ?_); conv => whnf
  refine Tst.T ?_; conv => whnf
  refine Tst.F ?_; conv => whnf
  refine Tst.T ?_; conv => whnf
  refine FootQ.mk ⟨rfl, ?_⟩; conv => whnf
  refine tst_c H (fun b14 H => ?_) (fun b14 H => ?_)
  · conv => whnf
    refine Ari.w ?_; conv => whnf
    exact again_c [4, 5, 9, 10, 11, 12, 13, 14, 15, 16, 17, 18, 19, 20, 21, 22, 23, 24, 25, 26, 27, 28] n5 0 [] (⟨_, _, H, rfl, rfl⟩) (Nat.lt_succ_self _) (Nat.zero_le _) rfl (by kernel_rfl) (by kernel_rfl) rfl trivial
  conv => whnf
  refine Ari.w ?_; conv => whnf
  exact again_c [4, 5, 9, 10, 11, 12, 13, 14, 15, 16, 17, 18, 19, 20, 21, 22, 23, 24, 25, 26, 27, 28] n5 0 [] (⟨_, _, H, rfl, rfl⟩) (Nat.lt_succ_self _) (Nat.zero_le _) rfl (by kernel_rfl) (by kernel_rfl) rfl trivial
def gc32 : BCode := (.seq (.reg 2 [⟨(some 2), .bx (.tmp 0), none, 0⟩, ⟨(some 4), .al (.agg [(.lit (.string ⟨#[]⟩)), (.lit (.string ⟨#[]⟩)), (.lit (.bool false)), (.lit (.int .i64 0)), (.lit (.int .i64 0)), (.lit (.int .i64 0))]), none, 1⟩, ⟨(some 5), .mv (.const (.bool false)), none, 2⟩] none 0 []) (.seq (.reg 0 [⟨(some 11), .ld 2 true (.tmp 2), none, 0⟩, ⟨(some 12), .mv (.tmp 1), none, 0⟩, ⟨(some 13), .cl 38 [(.tmp 11), (.tmp 12)], none, 0⟩, ⟨(some 6), .mv (.tmp 13), none, 0⟩] none 0 []) (.seq (.reg 0 [⟨(some 7), .mv (.const (.slice none 0 0)), none, 0⟩] none 0 []) (.seq (.seq (.reg 0 [⟨(some 14), .mv (.tmp 6), none, 0⟩, ⟨(some 15), .lens (.tmp 14), none, 0⟩, ⟨(some 16), .mv (.const (.int .i64 0)), none, 0⟩] none 0 []) (.block 0 (.loop (.seq (.reg 0 [⟨(some 17), .bin .lss (.tmp 16) (.tmp 15), none, 0⟩] none 0 []) (.seq (.cond (.tmp 17) .skip (.exit 0)) (.seq (.block 1 (.seq (.reg 1 [⟨(some 18), .ixs 6 (.tmp 14) (.tmp 16), none, 0⟩, ⟨(some 19), .ld 6 true (.tmp 18), none, 0⟩, ⟨(some 9), .al (.agg [(.lit (.string ⟨#[]⟩)), (.lit (.string ⟨#[]⟩)), (.lit (.bool false)), (.lit (.int .i64 0)), (.lit (.int .i64 0)), (.lit (.int .i64 0))]), none, 0⟩, ⟨none, .st 6 (.tmp 9) (.tmp 19), none, 1⟩] none 0 []) (.reg 2 [⟨(some 20), .mv (.tmp 7), none, 0⟩, ⟨(some 21), .fa 2 (.tmp 9), none, 0⟩, ⟨(some 22), .ld 4 true (.tmp 21), none, 0⟩, ⟨(some 23), .bs 4 1 [(.lit (.bool false)), (.lit (.int .i64 0)), (.lit (.int .i64 0)), (.lit (.int .i64 0))] [(0, (.tmp 22))], none, 0⟩, ⟨(some 24), .ap 4 32 (.tmp 20) (.tmp 23), none, 1⟩, ⟨(some 7), .mv (.tmp 24), none, 2⟩] none 0 []))) (.reg 0 [⟨(some 25), .bin .add (.tmp 16) (.const (.int .i64 1)), none, 0⟩, ⟨(some 16), .mv (.tmp 25), none, 0⟩] none 0 []))))))) (.seq (.reg 0 [⟨(some 26), .mv (.tmp 7), none, 0⟩, ⟨(some 27), .cl 61 [(.tmp 26)], none, 0⟩, ⟨(some 10), .mv (.tmp 27), none, 0⟩] none 0 []) (.seq (.seq (.reg 0 [⟨(some 28), .mv (.tmp 10), none, 0⟩, ⟨(some 29), .bin .lss (.tmp 28) (.const (.int .i64 0)), none, 0⟩] none 0 []) (.cond (.tmp 29) (.seq (.reg 0 [⟨(some 30), .bd [(.lit (.string ⟨#[]⟩)), (.lit (.string ⟨#[]⟩)), (.lit (.bool false)), (.lit (.int .i64 0)), (.lit (.int .i64 0)), (.lit (.int .i64 0))] [], none, 0⟩, ⟨none, .st 6 (.tmp 4) (.tmp 30), none, 0⟩, ⟨(some 5), .mv (.const (.bool false)), none, 0⟩] none 0 []) .ret) .skip)) (.seq (.reg 0 [⟨(some 31), .mv (.tmp 6), none, 0⟩, ⟨(some 32), .mv (.tmp 10), none, 0⟩, ⟨(some 33), .ixs 6 (.tmp 31) (.tmp 32), none, 0⟩, ⟨(some 34), .ld 6 true (.tmp 33), none, 0⟩, ⟨none, .st 6 (.tmp 4) (.tmp 34), none, 0⟩, ⟨(some 5), .mv (.const (.bool true)), none, 0⟩] none 0 []) .ret)))))))
theorem gc32_ok : compF Tryz.prog Tryz.f32 = some (gc32.er, 35, [.cell 4 6 true, .tmp 5]) := by unfold gc32; kernel_rfl
set_option maxRecDepth 100000 in
set_option maxHeartbeats 4000000 in
theorem p_book_Best_v {u1 : Bool} (a0 : BookState) (a1 : ByteArray) : CallsO Tryz.prog 32 [.agg [.i a0.Seq, .sl (List.map BookRow.v a0.Rows) u1], .s a1] (fun r : BookRow × Bool => .tup [BookRow.v r.1, V.b r.2]) (p_book_Best a0 a1) := by
  refine callsO_comp mix Tryz.func32 gc32_ok fun r H => ?_
  rw [p_book_Best] at H
  conv => whnf
  refine ask_c (p_book_Of_v _ _) H rfl rfl (fun v1 H => ?_); conv => whnf
  refine LenQ.M ?_; conv => whnf
  obtain ⟨o3, HL4, HQ5⟩ := bind_c H
  refine loop_c [7, 16, 4] [9, 17, 18, 19, 20, 21, 22, 23, 24, 25, 2] [9, 17, 18, 19, 20, 21, 22, 23, 24, 25, 2] (fun n vals st => (∃ y7, p_book_Best_l1  v1 (v1.length : Int) n [] y7 = some o3 ∧ vals = [.sl (List.map PresPres.v []) true, .i y7, .ptr 0 0] ∧ st = [.live [.s (⟨#[]⟩ : ByteArray), .s (⟨#[]⟩ : ByteArray), .b false, .i (0 : Int), .i (0 : Int), .i (0 : Int)] 0]) ∨ (∃ y11 y12, p_book_Best_l1  v1 (v1.length : Int) n y11 y12 = some o3 ∧ vals = [.osl 1 0 (List.length y11) 4 false, .i y12, .ptr 0 0] ∧ st = [.live [.s (⟨#[]⟩ : ByteArray), .s (⟨#[]⟩ : ByteArray), .b false, .i (0 : Int), .i (0 : Int), .i (0 : Int)] 0, .live (cellsM PresPres.v y11) (cellsM PresPres.v y11).length])) fuel 1 [1] (.inl (⟨_, HL4, rfl, rfl⟩)) (Nat.zero_le _) rfl (by kernel_rfl) (by kernel_rfl) rfl ⟨⟨rfl, rfl, rfl⟩, trivial⟩ ?_
  rintro (_ | n6) _ _ (⟨y7, H, rfl, rfl⟩ | ⟨y11, y12, H, rfl, rfl⟩)
  · rw [p_book_Best_l1] at H; cases H
  · rw [p_book_Best_l1] at H; cases H
  · rw [p_book_Best_l1] at H
    conv => whnf
    refine tst_c H (fun b8 H => ?_) (fun b8 H => ?_)
    · conv => whnf
      refine ixs_c (f := BookRow.v) H (fun _ => rfl) (fun x9 H => ?_); conv => whnf
      refine ⟨Nat.le_of_ble_eq_true rfl, ?_⟩; conv => whnf
      refine appN_c (f := PresPres.v) H (fun _ => rfl) (srcM (f := PresPres.v) (fun _ => rfl) _ _) rfl (.v (srcOwn (f := PresPres.v) (l := [x9.P]) (fun _ => rfl) rfl rfl rfl)) (by decide) rfl (by simp) (fun l10 H => ?_); conv => whnf
      refine Ari.w ?_; conv => whnf
      exact again_c [9, 17, 18, 19, 20, 21, 22, 23, 24, 25, 2] n6 2 [0, 3] (.inr (⟨_, _, H, rfl, rfl⟩)) (Nat.lt_succ_self _) (Nat.zero_le _) rfl (by kernel_rfl) (by kernel_rfl) rfl ⟨⟨rfl, rfl, rfl⟩, wkB_live0 rfl (cellsM_idlt (f := PresPres.v) (fun _ => rfl) _) rfl trivial⟩
    conv => whnf
    obtain rfl := Option.some.inj H
    have H := HQ5
    try dsimp only at H
    refine ask_c (p_pres_Best_v _) H rfl rfl (fun v13 H => ?_); conv => whnf
    refine tst_c H (fun b14 H => ?_) (fun b14 H => ?_)
    · conv => whnf
      refine ⟨Nat.le_of_ble_eq_true rfl, ?_⟩; conv => whnf
      exact fin0_c (enc := (fun r : BookRow × Bool => .tup [BookRow.v r.1, V.b r.2])) H (.inr rfl) (.cons (.cell rfl rfl (Nat.le_of_ble_eq_true rfl)) (.cons (.tmp rfl) (.nil))) rfl rfl
    conv => whnf
    refine ixs_c (f := BookRow.v) H (fun _ => rfl) (fun x15 H => ?_); conv => whnf
    refine ⟨Nat.le_of_ble_eq_true rfl, ?_⟩; conv => whnf
    exact fin0_c (enc := (fun r : BookRow × Bool => .tup [BookRow.v r.1, V.b r.2])) H (.inr rfl) (.cons (.cell rfl rfl (Nat.le_of_ble_eq_true rfl)) (.cons (.tmp rfl) (.nil))) rfl rfl
  rw [p_book_Best_l1] at H
  conv => whnf
  refine tst_c H (fun b16 H => ?_) (fun b16 H => ?_)
  · conv => whnf
    refine ixs_c (f := BookRow.v) H (fun _ => rfl) (fun x17 H => ?_); conv => whnf
    refine ⟨Nat.le_of_ble_eq_true rfl, ?_⟩; conv => whnf
    refine appO_c (f := PresPres.v) H (fun _ => rfl) rfl (Nat.le_refl _) (.v (srcOwn (f := PresPres.v) (l := [x17.P]) (fun _ => rfl) rfl rfl rfl)) (by decide) rfl (by simp) (fun l18 H => ?_); conv => whnf
    refine Ari.w ?_; conv => whnf
    exact again_c [9, 17, 18, 19, 20, 21, 22, 23, 24, 25, 2] n6 2 [0, 4] (.inr (⟨_, _, H, rfl, rfl⟩)) (Nat.lt_succ_self _) (Nat.zero_le _) rfl (by kernel_rfl) (by kernel_rfl) rfl ⟨⟨rfl, rfl, rfl⟩, wkB_live0 rfl (cellsM_idlt (f := PresPres.v) (fun _ => rfl) _) rfl trivial⟩
  conv => whnf
  obtain rfl := Option.some.inj H
  have H := HQ5
  try dsimp only at H
  refine askF_c (p_pres_Best_v _) H (.cons (.c (fzown (f := PresPres.v) (l := y11) rfl rfl (fun _ => rfl) (fun _ => rfl))) (.nil)) (fun v19 H => ?_); conv => whnf
  refine tst_c H (fun b20 H => ?_) (fun b20 H => ?_)
  · conv => whnf
    refine ⟨Nat.le_of_ble_eq_true rfl, ?_⟩; conv => whnf
    exact fin0_c (enc := (fun r : BookRow × Bool => .tup [BookRow.v r.1, V.b r.2])) H (.inr rfl) (.cons (.cell rfl rfl (Nat.le_of_ble_eq_true rfl)) (.cons (.tmp rfl) (.nil))) rfl rfl
  conv => whnf
  refine ixs_c (f := BookRow.v) H (fun _ => rfl) (fun x21 H => ?_); conv => whnf
  refine ⟨Nat.le_of_ble_eq_true rfl, ?_⟩; conv => whnf
  exact fin0_c (enc := (fun r : BookRow × Bool => .tup [BookRow.v r.1, V.b r.2])) H (.inr rfl) (.cons (.cell rfl rfl (Nat.le_of_ble_eq_true rfl)) (.cons (.tmp rfl) (.nil))) rfl rfl
def gc34 : BCode := (.seq (.reg 2 [⟨(some 2), .bx (.tmp 0), none, 0⟩, ⟨(some 4), .al (.agg [(.lit (.string ⟨#[]⟩)), (.lit (.string ⟨#[]⟩)), (.lit (.bool false)), (.lit (.int .i64 0)), (.lit (.int .i64 0)), (.lit (.int .i64 0))]), none, 1⟩, ⟨(some 5), .mv (.const (.bool false)), none, 2⟩] none 0 []) (.seq (.seq (.reg 0 [⟨(some 8), .ld 2 true (.tmp 2), none, 0⟩, ⟨(some 9), .cl 36 [(.tmp 8)], none, 0⟩, ⟨(some 10), .bin .neq (.tmp 9) (.const (.int .i64 0)), none, 0⟩] none 0 []) (.cond (.tmp 10) (.seq (.reg 0 [⟨(some 11), .bd [(.lit (.string ⟨#[]⟩)), (.lit (.string ⟨#[]⟩)), (.lit (.bool false)), (.lit (.int .i64 0)), (.lit (.int .i64 0)), (.lit (.int .i64 0))] [], none, 0⟩, ⟨none, .st 6 (.tmp 4) (.tmp 11), none, 0⟩, ⟨(some 5), .mv (.const (.bool false)), none, 0⟩] none 0 []) .ret) .skip)) (.seq (.reg 0 [⟨(some 13), .ld 2 true (.tmp 2), none, 0⟩, ⟨(some 14), .mv (.tmp 1), none, 0⟩, ⟨(some 15), .cl 56 [(.tmp 13), (.tmp 14)], none, 0⟩, ⟨(some 12), .mv (.tmp 15), none, 0⟩, ⟨(some 16), .ex (.tmp 12) 0, none, 0⟩, ⟨(some 17), .ex (.tmp 12) 1, none, 0⟩, ⟨(some 6), .mv (.tmp 16), none, 0⟩, ⟨(some 7), .mv (.tmp 17), none, 0⟩] none 0 []) (.seq (.seq (.reg 0 [⟨(some 18), .mv (.tmp 7), none, 0⟩] none 0 []) (.cond (.tmp 18) (.reg 0 [⟨(some 19), .mv (.tmp 6), none, 0⟩, ⟨(some 20), .bin .add (.tmp 19) (.const (.int .i64 1)), none, 0⟩, ⟨(some 6), .mv (.tmp 20), none, 0⟩] none 0 []) .skip)) (.seq (.seq (.reg 0 [⟨(some 21), .mv (.tmp 6), none, 0⟩, ⟨(some 22), .fa 1 (.tmp 2), none, 0⟩, ⟨(some 23), .ld 1 false (.tmp 22), none, 0⟩, ⟨(some 24), .lens (.tmp 23), none, 0⟩, ⟨(some 25), .bin .eql (.tmp 21) (.tmp 24), none, 0⟩] none 0 []) (.cond (.tmp 25) (.seq (.reg 0 [⟨(some 26), .bd [(.lit (.string ⟨#[]⟩)), (.lit (.string ⟨#[]⟩)), (.lit (.bool false)), (.lit (.int .i64 0)), (.lit (.int .i64 0)), (.lit (.int .i64 0))] [], none, 0⟩, ⟨none, .st 6 (.tmp 4) (.tmp 26), none, 0⟩, ⟨(some 5), .mv (.const (.bool false)), none, 0⟩] none 0 []) .ret) .skip)) (.seq (.reg 0 [⟨(some 27), .fa 1 (.tmp 2), none, 0⟩, ⟨(some 28), .ld 1 false (.tmp 27), none, 0⟩, ⟨(some 29), .mv (.tmp 6), none, 0⟩, ⟨(some 30), .ixs 6 (.tmp 28) (.tmp 29), none, 0⟩, ⟨(some 31), .ld 6 true (.tmp 30), none, 0⟩, ⟨none, .st 6 (.tmp 4) (.tmp 31), none, 0⟩, ⟨(some 5), .mv (.const (.bool true)), none, 0⟩] none 0 []) .ret))))))
theorem gc34_ok : compF Tryz.prog Tryz.f34 = some (gc34.er, 32, [.cell 4 6 true, .tmp 5]) := by unfold gc34; kernel_rfl
set_option maxRecDepth 100000 in
set_option maxHeartbeats 4000000 in
theorem p_book_Next_v {u1 : Bool} (a0 : BookState) (a1 : ByteArray) : CallsO Tryz.prog 34 [.agg [.i a0.Seq, .sl (List.map BookRow.v a0.Rows) u1], .s a1] (fun r : BookRow × Bool => .tup [BookRow.v r.1, V.b r.2]) (p_book_Next a0 a1) := by
  refine callsO_comp mix Tryz.func34 gc34_ok fun r H => ?_
  rw [p_book_Next] at H
  conv => whnf
  refine ask_c (p_book_Check_v _) H rfl rfl (fun v1 H => ?_); conv => whnf
  refine tst_c H (fun b2 H => ?_) (fun b2 H => ?_)
  · conv => whnf
    refine ⟨Nat.le_of_ble_eq_true rfl, ?_⟩; conv => whnf
    exact fin0_c (enc := (fun r : BookRow × Bool => .tup [BookRow.v r.1, V.b r.2])) H (.inr rfl) (.cons (.cell rfl rfl (Nat.le_of_ble_eq_true rfl)) (.cons (.tmp rfl) (.nil))) rfl rfl
  conv => whnf
  refine ask_c (p_book_State_find_v _ _) H rfl rfl (fun v3 H => ?_); conv => whnf
  refine tst_d H (fun b4 H => ?_) (fun b4 H => ?_)
  · conv => whnf
    refine LenQ.M ?_; conv => whnf
    refine tst_c H (fun b7 H => ?_) (fun b7 H => ?_)
    · conv => whnf
      refine ⟨Nat.le_of_ble_eq_true rfl, ?_⟩; conv => whnf
      exact fin0_c (enc := (fun r : BookRow × Bool => .tup [BookRow.v r.1, V.b r.2])) H (.inr rfl) (.cons (.cell rfl rfl (Nat.le_of_ble_eq_true rfl)) (.cons (.tmp rfl) (.nil))) rfl rfl
    conv => whnf
    refine ixs_c (f := BookRow.v) H (fun _ => rfl) (fun x8 H => ?_); conv => whnf
    refine ⟨Nat.le_of_ble_eq_true rfl, ?_⟩; conv => whnf
    exact fin0_c (enc := (fun r : BookRow × Bool => .tup [BookRow.v r.1, V.b r.2])) H (.inr rfl) (.cons (.cell rfl rfl (Nat.le_of_ble_eq_true rfl)) (.cons (.tmp rfl) (.nil))) rfl rfl
  conv => whnf
  refine Ari.w ?_; conv => whnf
  refine LenQ.M ?_; conv => whnf
  refine tst_c H (fun b5 H => ?_) (fun b5 H => ?_)
  · conv => whnf
    refine ⟨Nat.le_of_ble_eq_true rfl, ?_⟩; conv => whnf
    exact fin0_c (enc := (fun r : BookRow × Bool => .tup [BookRow.v r.1, V.b r.2])) H (.inr rfl) (.cons (.cell rfl rfl (Nat.le_of_ble_eq_true rfl)) (.cons (.tmp rfl) (.nil))) rfl rfl
  conv => whnf
  refine ixs_c (f := BookRow.v) H (fun _ => rfl) (fun x6 H => ?_); conv => whnf
  refine ⟨Nat.le_of_ble_eq_true rfl, ?_⟩; conv => whnf
  exact fin0_c (enc := (fun r : BookRow × Bool => .tup [BookRow.v r.1, V.b r.2])) H (.inr rfl) (.cons (.cell rfl rfl (Nat.le_of_ble_eq_true rfl)) (.cons (.tmp rfl) (.nil))) rfl rfl
end Go.Proofs.YtljeinlapkgjeaaGreat
/- That the program's functions yield what the plain ones tell (written by a program of mine). -/
namespace Go.Proofs.YtljeinlapkgjeaaGreat
open Go.RowKit
def gc30 : BCode := (.seq (.reg 2 [⟨(some 3), .bx (.tmp 0), none, 0⟩, ⟨(some 6), .al (.agg [(.lit (.bool false)), (.lit (.int .i64 0)), (.lit (.int .i64 0)), (.lit (.int .i64 0))]), none, 1⟩, ⟨(some 7), .mv (.const (.bool false)), none, 2⟩] none 0 []) (.seq (.reg 0 [⟨(some 11), .mv (.tmp 1), none, 0⟩, ⟨(some 12), .mv (.tmp 2), none, 0⟩, ⟨(some 13), .cl 49 [(.tmp 11), (.tmp 12)], none, 0⟩, ⟨(some 8), .mv (.tmp 13), none, 0⟩] none 0 []) (.seq (.seq (.reg 0 [⟨(some 14), .mv (.tmp 8), none, 0⟩, ⟨(some 15), .bin .eql (.tmp 14) (.const (.string ⟨#[]⟩)), none, 0⟩, ⟨(some 16), .mv (.tmp 15), none, 0⟩, ⟨(some 17), .ld 2 true (.tmp 3), (some (16, false)), 0⟩, ⟨(some 18), .cl 36 [(.tmp 17)], (some (16, false)), 0⟩, ⟨(some 19), .bin .neq (.tmp 18) (.const (.int .i64 0)), (some (16, false)), 0⟩, ⟨(some 20), .pick (.tmp 16) (.const (.bool true)) (.tmp 19), none, 0⟩] none 0 []) (.cond (.tmp 20) (.seq (.reg 0 [⟨(some 21), .bd [(.lit (.bool false)), (.lit (.int .i64 0)), (.lit (.int .i64 0)), (.lit (.int .i64 0))] [], none, 0⟩, ⟨none, .st 4 (.tmp 6) (.tmp 21), none, 0⟩, ⟨(some 7), .mv (.const (.bool false)), none, 0⟩] none 0 []) .ret) .skip)) (.seq (.reg 0 [⟨(some 23), .ld 2 true (.tmp 3), none, 0⟩, ⟨(some 24), .mv (.tmp 8), none, 0⟩, ⟨(some 25), .cl 56 [(.tmp 23), (.tmp 24)], none, 0⟩, ⟨(some 22), .mv (.tmp 25), none, 0⟩, ⟨(some 26), .ex (.tmp 22) 0, none, 0⟩, ⟨(some 27), .ex (.tmp 22) 1, none, 0⟩, ⟨(some 9), .mv (.tmp 26), none, 0⟩, ⟨(some 10), .mv (.tmp 27), none, 0⟩] none 0 []) (.seq (.seq (.reg 0 [⟨(some 28), .mv (.tmp 10), none, 0⟩, ⟨(some 29), .un .not (.tmp 28), none, 0⟩] none 0 []) (.cond (.tmp 29) (.seq (.reg 0 [⟨(some 30), .bd [(.lit (.bool false)), (.lit (.int .i64 0)), (.lit (.int .i64 0)), (.lit (.int .i64 0))] [], none, 0⟩, ⟨none, .st 4 (.tmp 6) (.tmp 30), none, 0⟩, ⟨(some 7), .mv (.const (.bool false)), none, 0⟩] none 0 []) .ret) .skip)) (.seq (.reg 0 [⟨(some 31), .fa 1 (.tmp 3), none, 0⟩, ⟨(some 32), .ld 1 false (.tmp 31), none, 0⟩, ⟨(some 33), .mv (.tmp 9), none, 0⟩, ⟨(some 34), .ixs 6 (.tmp 32) (.tmp 33), none, 0⟩, ⟨(some 35), .fa 2 (.tmp 34), none, 0⟩, ⟨(some 36), .ld 4 true (.tmp 35), none, 0⟩, ⟨none, .st 4 (.tmp 6) (.tmp 36), none, 0⟩, ⟨(some 7), .mv (.const (.bool true)), none, 0⟩] none 0 []) .ret))))))
theorem gc30_ok : compF Tryz.prog Tryz.f30 = some (gc30.er, 37, [.cell 6 4 true, .tmp 7]) := by unfold gc30; kernel_rfl
set_option maxRecDepth 100000 in
set_option maxHeartbeats 4000000 in
theorem p_book_Get_v {u1 : Bool} (a0 : BookState) (a1 : ByteArray) (a2 : ByteArray) : CallsO Tryz.prog 30 [.agg [.i a0.Seq, .sl (List.map BookRow.v a0.Rows) u1], .s a1, .s a2] (fun r : PresPres × Bool => .tup [PresPres.v r.1, V.b r.2]) (p_book_Get a0 a1 a2) := by
  refine callsO_comp mix Tryz.func30 gc30_ok fun r H => ?_
  rw [p_book_Get] at H
  conv => whnf
  refine ask_c (p_pres_Key_v _ _) H rfl rfl (fun v1 H => ?_); conv => whnf
  refine tst_c H (fun b2 H => ?_) (fun b2 H => ?_)
  · conv => whnf
    iterate 4 (refine Tst.T ?_; conv => whnf)
    refine ⟨Nat.le_of_ble_eq_true rfl, ?_⟩; conv => whnf
    exact fin0_c (enc := (fun r : PresPres × Bool => .tup [PresPres.v r.1, V.b r.2])) H (.inr rfl) (.cons (.cell rfl rfl (Nat.le_of_ble_eq_true rfl)) (.cons (.tmp rfl) (.nil))) rfl rfl
  conv => whnf
  refine Tst.F ?_; conv => whnf
  refine ask_c (p_book_Check_v _) H rfl rfl (fun v3 H => ?_); conv => whnf
  iterate 2 (refine Tst.F ?_; conv => whnf)
  refine tst_c H (fun b4 H => ?_) (fun b4 H => ?_)
  · conv => whnf
    refine ⟨Nat.le_of_ble_eq_true rfl, ?_⟩; conv => whnf
    exact fin0_c (enc := (fun r : PresPres × Bool => .tup [PresPres.v r.1, V.b r.2])) H (.inr rfl) (.cons (.cell rfl rfl (Nat.le_of_ble_eq_true rfl)) (.cons (.tmp rfl) (.nil))) rfl rfl
  conv => whnf
  refine ask_c (p_book_State_find_v _ _) H rfl rfl (fun v5 H => ?_); conv => whnf
  refine Tst.not ?_
  refine tst_d H (fun b6 H => ?_) (fun b6 H => ?_)
  · conv => whnf
    refine ⟨Nat.le_of_ble_eq_true rfl, ?_⟩; conv => whnf
    exact fin0_c (enc := (fun r : PresPres × Bool => .tup [PresPres.v r.1, V.b r.2])) H (.inr rfl) (.cons (.cell rfl rfl (Nat.le_of_ble_eq_true rfl)) (.cons (.tmp rfl) (.nil))) rfl rfl
  conv => whnf
  refine ixs_c (f := BookRow.v) H (fun _ => rfl) (fun x7 H => ?_); conv => whnf
  refine ⟨Nat.le_of_ble_eq_true rfl, ?_⟩; conv => whnf
  refine ⟨Nat.le_of_ble_eq_true rfl, ?_⟩; conv => whnf
  exact fin0_c (enc := (fun r : PresPres × Bool => .tup [PresPres.v r.1, V.b r.2])) H (.inr rfl) (.cons (.cell rfl rfl (Nat.le_of_ble_eq_true rfl)) (.cons (.tmp rfl) (.nil))) rfl rfl
def gc41 : BCode := (.seq (.reg 1 [⟨(some 1), .bx (.tmp 0), none, 0⟩, ⟨(some 2), .mv (.const (.slice none 0 0)), none, 1⟩] none 0 []) (.seq (.seq (.reg 0 [⟨(some 6), .ld 2 true (.tmp 1), none, 0⟩, ⟨(some 7), .cl 36 [(.tmp 6)], none, 0⟩, ⟨(some 8), .bin .neq (.tmp 7) (.const (.int .i64 0)), none, 0⟩] none 0 []) (.cond (.tmp 8) (.seq (.reg 0 [⟨(some 2), .mv (.const (.slice none 0 0)), none, 0⟩] none 0 []) .ret) .skip)) (.seq (.reg 0 [⟨(some 3), .mv (.const (.slice none 0 0)), none, 0⟩] none 0 []) (.seq (.seq (.reg 0 [⟨(some 9), .fa 1 (.tmp 1), none, 0⟩, ⟨(some 10), .ld 1 false (.tmp 9), none, 0⟩, ⟨(some 11), .lens (.tmp 10), none, 0⟩, ⟨(some 12), .mv (.const (.int .i64 0)), none, 0⟩] none 0 []) (.block 0 (.loop (.seq (.reg 0 [⟨(some 13), .bin .lss (.tmp 12) (.tmp 11), none, 0⟩] none 0 []) (.seq (.cond (.tmp 13) .skip (.exit 0)) (.seq (.block 1 (.seq (.reg 1 [⟨(some 14), .ixs 6 (.tmp 10) (.tmp 12), none, 0⟩, ⟨(some 15), .ld 6 true (.tmp 14), none, 0⟩, ⟨(some 5), .al (.agg [(.lit (.string ⟨#[]⟩)), (.lit (.string ⟨#[]⟩)), (.lit (.bool false)), (.lit (.int .i64 0)), (.lit (.int .i64 0)), (.lit (.int .i64 0))]), none, 0⟩, ⟨none, .st 6 (.tmp 5) (.tmp 15), none, 1⟩] none 0 []) (.reg 2 [⟨(some 16), .mv (.tmp 3), none, 0⟩, ⟨(some 17), .fa 0 (.tmp 5), none, 0⟩, ⟨(some 18), .ld 1 false (.tmp 17), none, 0⟩, ⟨(some 19), .bs 1 1 [(.lit (.string ⟨#[]⟩))] [(0, (.tmp 18))], none, 0⟩, ⟨(some 20), .ap 1 16 (.tmp 16) (.tmp 19), none, 1⟩, ⟨(some 3), .mv (.tmp 20), none, 2⟩] none 0 []))) (.reg 0 [⟨(some 21), .bin .add (.tmp 12) (.const (.int .i64 1)), none, 0⟩, ⟨(some 12), .mv (.tmp 21), none, 0⟩] none 0 []))))))) (.seq (.reg 0 [⟨(some 22), .mv (.tmp 3), none, 0⟩, ⟨(some 23), .cl 70 [(.tmp 22)], none, 0⟩, ⟨(some 2), .mv (.tmp 23), none, 0⟩] none 0 []) .ret)))))
theorem gc41_ok : compF Tryz.prog Tryz.f41 = some (gc41.er, 24, [.tmp 2]) := by unfold gc41; kernel_rfl
set_option maxRecDepth 100000 in
set_option maxHeartbeats 4000000 in
theorem p_book_Users_v {u1 : Bool} (a0 : BookState) : CallsO Tryz.prog 41 [.agg [.i a0.Seq, .sl (List.map BookRow.v a0.Rows) u1]] (fun l : List ByteArray => V.sl (l.map V.s) false) (p_book_Users a0) := by
  refine callsO_comp mix Tryz.func41 gc41_ok fun r H => ?_
  rw [p_book_Users] at H
  conv => whnf
  refine ask_c (p_book_Check_v _) H rfl rfl (fun v1 H => ?_); conv => whnf
  refine tst_c H (fun b2 H => ?_) (fun b2 H => ?_)
  · conv => whnf
    refine finR_c (enc := (fun l : List ByteArray => V.sl (l.map V.s) false)) H ?_; conv => whnf
    exact ⟨_, .v (.c (.slw))⟩
  conv => whnf
  refine LenQ.M ?_; conv => whnf
  obtain ⟨o4, HL5, HQ6⟩ := bind_c H
  refine loop_c [3, 12] [5, 13, 14, 15, 16, 17, 18, 19, 20, 21, 1, 9] [5, 13, 14, 15, 16, 17, 18, 19, 20, 21, 1, 9] (fun n vals st => (∃ y8, p_book_Users_l1  a0.Rows (a0.Rows.length : Int) n [] y8 = some o4 ∧ vals = [.sl (List.map V.s []) true, .i y8] ∧ st = []) ∨ (∃ y12 y13, p_book_Users_l1  a0.Rows (a0.Rows.length : Int) n y12 y13 = some o4 ∧ vals = [.osl 0 0 (List.length y12) 1 false, .i y13] ∧ st = [.live (cellsM V.s y12) 0])) fuel 0 [] (.inl (⟨_, HL5, rfl, rfl⟩)) (Nat.zero_le _) rfl (by kernel_rfl) (by kernel_rfl) rfl trivial ?_
  rintro (_ | n7) _ _ (⟨y8, H, rfl, rfl⟩ | ⟨y12, y13, H, rfl, rfl⟩)
  · rw [p_book_Users_l1] at H; cases H
  · rw [p_book_Users_l1] at H; cases H
  · rw [p_book_Users_l1] at H
    conv => whnf
    refine tst_d H (fun b9 H => ?_) (fun b9 H => ?_)
    · conv => whnf
      obtain rfl := Option.some.inj H
      have H := HQ6
      try dsimp only at H
      refine ask_c p_slices_Compact_string_v_n H rfl rfl (fun v14 H => ?_); conv => whnf
      refine finR_c (enc := (fun l : List ByteArray => V.sl (l.map V.s) false)) H ?_; conv => whnf
      exact ⟨_, .v (.c (.slw))⟩
    conv => whnf
    refine ixs_c (f := BookRow.v) H (fun _ => rfl) (fun x10 H => ?_); conv => whnf
    refine ⟨Nat.le_of_ble_eq_true rfl, ?_⟩; conv => whnf
    refine appNs_c (f := V.s) H (fun _ => rfl) (srcM (f := V.s) (fun _ => rfl) _ _) rfl (.v (srcOwn (f := V.s) (l := [x10.User]) (fun _ => rfl) rfl rfl rfl)) (by decide) rfl (by simp) (fun l11 H => ?_); conv => whnf
    refine Ari.w ?_; conv => whnf
    exact again_c [5, 13, 14, 15, 16, 17, 18, 19, 20, 21, 1, 9] n7 1 [2] (.inr (⟨_, _, H, rfl, rfl⟩)) (Nat.lt_succ_self _) (Nat.zero_le _) rfl (by kernel_rfl) (by kernel_rfl) rfl (wkB_live0 rfl (cellsM_idlt (f := V.s) (fun _ => rfl) _) rfl trivial)
  rw [p_book_Users_l1] at H
  conv => whnf
  refine tst_d H (fun b15 H => ?_) (fun b15 H => ?_)
  · conv => whnf
    obtain rfl := Option.some.inj H
    have H := HQ6
    try dsimp only at H
    refine askI_c (f := V.s) (p_slices_Compact_string_v _ _ _ rfl) H rfl (fun v18 H => ?_); conv => whnf
    refine finRz_c (enc := (fun l : List ByteArray => V.sl (l.map V.s) false)) [0] H ?_; conv => whnf
    refine ⟨Nat.zero_le _, ?_⟩; conv => whnf
    exact ⟨_, .v (.c (fzown (f := V.s) (l := v18) rfl rfl (fun _ => rfl) (fun _ => rfl)))⟩
  conv => whnf
  refine ixs_c (f := BookRow.v) H (fun _ => rfl) (fun x16 H => ?_); conv => whnf
  refine ⟨Nat.le_of_ble_eq_true rfl, ?_⟩; conv => whnf
  refine appOs_c (f := V.s) H (fun _ => rfl) rfl (rfl) (.v (srcOwn (f := V.s) (l := [x16.User]) (fun _ => rfl) rfl rfl rfl)) (by decide) rfl (by simp) (fun l17 H => ?_); conv => whnf
  refine Ari.w ?_; conv => whnf
  exact again_c [5, 13, 14, 15, 16, 17, 18, 19, 20, 21, 1, 9] n7 1 [3] (.inr (⟨_, _, H, rfl, rfl⟩)) (Nat.lt_succ_self _) (Nat.zero_le _) rfl (by kernel_rfl) (by kernel_rfl) rfl (wkB_live0 rfl (cellsM_idlt (f := V.s) (fun _ => rfl) _) rfl trivial)
def gc40 : BCode := (.seq (.reg 0 [⟨(some 4), .mv (.const (.bool false)), none, 0⟩] none 0 []) (.seq (.seq (.reg 0 [⟨(some 6), .mv (.tmp 0), none, 0⟩, ⟨(some 7), .lens (.tmp 6), none, 0⟩, ⟨(some 8), .mv (.tmp 1), none, 0⟩, ⟨(some 9), .lens (.tmp 8), none, 0⟩, ⟨(some 10), .bin .neq (.tmp 7) (.tmp 9), none, 0⟩] none 0 []) (.cond (.tmp 10) (.seq (.reg 0 [⟨(some 4), .mv (.const (.bool false)), none, 0⟩] none 0 []) .ret) .skip)) (.seq (.seq (.reg 0 [⟨(some 5), .mv (.const (.int .i64 0)), none, 0⟩] none 0 []) (.block 0 (.loop (.seq (.seq (.reg 0 [⟨(some 11), .mv (.tmp 5), none, 0⟩, ⟨(some 12), .mv (.tmp 0), none, 0⟩, ⟨(some 13), .lens (.tmp 12), none, 0⟩, ⟨(some 14), .bin .lss (.tmp 11) (.tmp 13), none, 0⟩] none 0 []) (.cond (.tmp 14) .skip (.exit 0))) (.seq (.block 1 (.seq (.reg 0 [⟨(some 17), .mv (.tmp 0), none, 0⟩, ⟨(some 18), .mv (.tmp 5), none, 0⟩, ⟨(some 19), .ixs 1 (.tmp 17) (.tmp 18), none, 0⟩, ⟨(some 20), .ld 1 false (.tmp 19), none, 0⟩, ⟨(some 21), .mv (.tmp 1), none, 0⟩, ⟨(some 22), .mv (.tmp 5), none, 0⟩, ⟨(some 23), .ixs 1 (.tmp 21) (.tmp 22), none, 0⟩, ⟨(some 24), .ld 1 false (.tmp 23), none, 0⟩, ⟨(some 25), .bin .neq (.tmp 20) (.tmp 24), none, 0⟩] (some [[], [], [1, 0], [0, 1, 2], [], [], [5, 4], [4, 5, 6], [6, 5, 4, 7, 2, 1, 0, 3]]) 0 []) (.cond (.tmp 25) (.seq (.reg 0 [⟨(some 4), .mv (.const (.bool false)), none, 0⟩] none 0 []) .ret) .skip))) (.reg 0 [⟨(some 15), .mv (.tmp 5), none, 0⟩, ⟨(some 16), .bin .add (.tmp 15) (.const (.int .i64 1)), none, 0⟩, ⟨(some 5), .mv (.tmp 16), none, 0⟩] none 0 [])))))) (.seq (.reg 0 [⟨(some 4), .mv (.const (.bool true)), none, 0⟩] none 0 []) .ret))))
theorem gc40_ok : compF Tryz.prog Tryz.f40 = some (gc40.er, 26, [.tmp 4]) := by unfold gc40; kernel_rfl
set_option maxRecDepth 100000 in
set_option maxHeartbeats 4000000 in
theorem p_ref01_SameTexts_v {u1 u2 : Bool} (a0 : List ByteArray) (a1 : List ByteArray) : CallsO Tryz.prog 40 [.sl (List.map V.s a0) u1, .sl (List.map V.s a1) u2] V.b (p_ref01_SameTexts a0 a1) := by
  refine callsO_comp mix Tryz.func40 gc40_ok fun r H => ?_
  rw [p_ref01_SameTexts] at H
  conv => whnf
  iterate 2 (refine LenQ.M ?_; conv => whnf)
  refine tst_c H (fun b1 H => ?_) (fun b1 H => ?_)
  · conv => whnf
    exact fin0_c (enc := V.b) H (.inr rfl) (.cons (.tmp rfl) (.nil)) rfl rfl
  conv => whnf
  obtain ⟨o3, HL4, HQ5⟩ := bind_c H
  refine loop_c [4, 5] [11, 12, 13, 14, 15, 16, 17, 18, 19, 20, 21, 22, 23, 24, 25] [11, 12, 13, 14, 15, 16, 17, 18, 19, 20, 21, 22, 23, 24, 25] (fun n vals st => (∃ y7, p_ref01_SameTexts_l1  a0 a1 n y7 = some o3 ∧ vals = [.b false, .i y7] ∧ st = [])) fuel 0 [] (⟨_, HL4, rfl, rfl⟩) (Nat.zero_le _) rfl (by kernel_rfl) (by kernel_rfl) rfl trivial ?_
  rintro (_ | n6) _ _ (⟨y7, H, rfl, rfl⟩)
  · rw [p_ref01_SameTexts_l1] at H; cases H
  rw [p_ref01_SameTexts_l1] at H
  conv => whnf
  refine LenQ.M ?_; conv => whnf
  refine tst_d H (fun b8 H => ?_) (fun b8 H => ?_)
  · conv => whnf
    obtain rfl := Option.some.inj H
    have H := HQ5
    try dsimp only at H
    exact fin0_c (enc := V.b) H (.inr rfl) (.cons (.tmp rfl) (.nil)) rfl rfl
  conv => whnf
  refine ixs_c (f := V.s) H (fun _ => rfl) (fun x9 H => ?_); conv => whnf
  refine ixs_c (f := V.s) H (fun _ => rfl) (fun x10 H => ?_); conv => whnf
  refine FootQ.mk ⟨rfl, ?_⟩; conv => whnf
  refine Tst.not ?_
  refine tst_d H (fun b11 H => ?_) (fun b11 H => ?_)
  · conv => whnf
    obtain rfl := Option.some.inj H
    have H := HQ5
    try dsimp only at H
    exact fin0_c (enc := V.b) H (.inr rfl) (.cons (.tmp rfl) (.nil)) rfl rfl
  conv => whnf
  refine Ari.w ?_; conv => whnf
  exact again_c [11, 12, 13, 14, 15, 16, 17, 18, 19, 20, 21, 22, 23, 24, 25] n6 0 [] (⟨_, H, rfl, rfl⟩) (Nat.lt_succ_self _) (Nat.zero_le _) rfl (by kernel_rfl) (by kernel_rfl) rfl trivial
def gc71 : BCode := (.seq (.reg 0 [⟨(some 4), .mv (.const (.bool false)), none, 0⟩] none 0 []) (.seq (.seq (.reg 0 [⟨(some 6), .mv (.tmp 0), none, 0⟩, ⟨(some 7), .lens (.tmp 6), none, 0⟩, ⟨(some 8), .mv (.tmp 1), none, 0⟩, ⟨(some 9), .lens (.tmp 8), none, 0⟩, ⟨(some 10), .bin .neq (.tmp 7) (.tmp 9), none, 0⟩] none 0 []) (.cond (.tmp 10) (.seq (.reg 0 [⟨(some 4), .mv (.const (.bool false)), none, 0⟩] none 0 []) .ret) .skip)) (.seq (.seq (.reg 0 [⟨(some 11), .mv (.tmp 0), none, 0⟩, ⟨(some 12), .lens (.tmp 11), none, 0⟩, ⟨(some 13), .mv (.const (.int .i64 0)), none, 0⟩] none 0 []) (.block 0 (.loop (.seq (.reg 0 [⟨(some 14), .bin .lss (.tmp 13) (.tmp 12), none, 0⟩] none 0 []) (.seq (.cond (.tmp 14) .skip (.exit 0)) (.seq (.block 1 (.seq (.reg 0 [⟨(some 15), .mv (.tmp 13), none, 0⟩, ⟨(some 5), .mv (.tmp 15), none, 0⟩] none 0 []) (.seq (.reg 0 [⟨(some 16), .mv (.tmp 0), none, 0⟩, ⟨(some 17), .mv (.tmp 5), none, 0⟩, ⟨(some 18), .ixs 6 (.tmp 16) (.tmp 17), none, 0⟩, ⟨(some 19), .ld 6 true (.tmp 18), none, 0⟩, ⟨(some 20), .mv (.tmp 1), none, 0⟩, ⟨(some 21), .mv (.tmp 5), none, 0⟩, ⟨(some 22), .ixs 6 (.tmp 20) (.tmp 21), none, 0⟩, ⟨(some 23), .ld 6 true (.tmp 22), none, 0⟩, ⟨(some 24), .eqa true [2, 2, 0, 1, 1, 1] (.tmp 19) (.tmp 23), none, 0⟩] (some [[], [], [1, 0], [0, 1, 2], [], [], [5, 4], [4, 5, 6], [6, 5, 4, 7, 2, 1, 0, 3]]) 0 []) (.cond (.tmp 24) (.seq (.reg 0 [⟨(some 4), .mv (.const (.bool false)), none, 0⟩] none 0 []) .ret) .skip)))) (.reg 0 [⟨(some 25), .bin .add (.tmp 13) (.const (.int .i64 1)), none, 0⟩, ⟨(some 13), .mv (.tmp 25), none, 0⟩] none 0 []))))))) (.seq (.reg 0 [⟨(some 4), .mv (.const (.bool true)), none, 0⟩] none 0 []) .ret))))
theorem gc71_ok : compF Tryz.prog Tryz.f71 = some (gc71.er, 26, [.tmp 4]) := by unfold gc71; kernel_rfl
set_option maxRecDepth 100000 in
set_option maxHeartbeats 4000000 in
theorem p_slices_Equal_book_Row_v {u1 u2 : Bool} (a0 : List BookRow) (a1 : List BookRow) : CallsO Tryz.prog 71 [.sl (List.map BookRow.v a0) u1, .sl (List.map BookRow.v a1) u2] V.b (p_slices_Equal_book_Row a0 a1) := by
  refine callsO_comp mix Tryz.func71 gc71_ok fun r H => ?_
  rw [p_slices_Equal_book_Row] at H
  conv => whnf
  iterate 2 (refine LenQ.M ?_; conv => whnf)
  refine tst_c H (fun b1 H => ?_) (fun b1 H => ?_)
  · conv => whnf
    exact fin0_c (enc := V.b) H (.inr rfl) (.cons (.tmp rfl) (.nil)) rfl rfl
  conv => whnf
  refine LenQ.M ?_; conv => whnf
  obtain ⟨o3, HL4, HQ5⟩ := bind_c H
  refine loop_c [4, 13] [5, 14, 15, 16, 17, 18, 19, 20, 21, 22, 23, 24, 25] [5, 14, 15, 16, 17, 18, 19, 20, 21, 22, 23, 24, 25] (fun n vals st => (∃ y7, p_slices_Equal_book_Row_l1  a0 a1 (a0.length : Int) n y7 = some o3 ∧ vals = [.b false, .i y7] ∧ st = [])) fuel 0 [] (⟨_, HL4, rfl, rfl⟩) (Nat.zero_le _) rfl (by kernel_rfl) (by kernel_rfl) rfl trivial ?_
  rintro (_ | n6) _ _ (⟨y7, H, rfl, rfl⟩)
  · rw [p_slices_Equal_book_Row_l1] at H; cases H
  rw [p_slices_Equal_book_Row_l1] at H
  conv => whnf
  refine tst_d H (fun b8 H => ?_) (fun b8 H => ?_)
  · conv => whnf
    obtain rfl := Option.some.inj H
    have H := HQ5
    try dsimp only at H
    exact fin0_c (enc := V.b) H (.inr rfl) (.cons (.tmp rfl) (.nil)) rfl rfl
  conv => whnf
  refine ixs_c (f := BookRow.v) H (fun _ => rfl) (fun x9 H => ?_); conv => whnf
  refine ixs_c (f := BookRow.v) H (fun _ => rfl) (fun x10 H => ?_); conv => whnf
  refine FootQ.mk ⟨rfl, ?_⟩; conv => whnf
  refine Tst.not ?_
  refine tst_d H (fun b11 H => ?_) (fun b11 H => ?_)
  · conv => whnf
    obtain rfl := Option.some.inj H
    have H := HQ5
    try dsimp only at H
    exact fin0_c (enc := V.b) H (.inr rfl) (.cons (.tmp rfl) (.nil)) rfl rfl
  conv => whnf
  refine Ari.w ?_; conv => whnf
  exact again_c [5, 14, 15, 16, 17, 18, 19, 20, 21, 22, 23, 24, 25] n6 0 [] (⟨_, H, rfl, rfl⟩) (Nat.lt_succ_self _) (Nat.zero_le _) rfl (by kernel_rfl) (by kernel_rfl) rfl trivial
def gc43 : BCode := (.seq (.reg 2 [⟨(some 2), .bx (.tmp 0), none, 0⟩, ⟨(some 3), .bx (.tmp 1), none, 1⟩, ⟨(some 4), .mv (.const (.bool false)), none, 2⟩] none 0 []) (.seq (.reg 0 [⟨(some 5), .fa 0 (.tmp 2), none, 0⟩, ⟨(some 6), .ld 1 false (.tmp 5), none, 0⟩, ⟨(some 7), .fa 0 (.tmp 3), none, 0⟩, ⟨(some 8), .ld 1 false (.tmp 7), none, 0⟩, ⟨(some 9), .bin .eql (.tmp 6) (.tmp 8), none, 0⟩, ⟨(some 10), .mv (.tmp 9), none, 0⟩, ⟨(some 11), .fa 1 (.tmp 2), (some (10, true)), 0⟩, ⟨(some 12), .ld 1 false (.tmp 11), (some (10, true)), 0⟩, ⟨(some 13), .fa 1 (.tmp 3), (some (10, true)), 0⟩, ⟨(some 14), .ld 1 false (.tmp 13), (some (10, true)), 0⟩, ⟨(some 15), .cl 71 [(.tmp 12), (.tmp 14)], (some (10, true)), 0⟩, ⟨(some 16), .pick (.tmp 10) (.tmp 15) (.const (.bool false)), none, 0⟩, ⟨(some 4), .mv (.tmp 16), none, 0⟩] none 0 []) .ret))
theorem gc43_ok : compF Tryz.prog Tryz.f43 = some (gc43.er, 17, [.tmp 4]) := by unfold gc43; kernel_rfl
set_option maxRecDepth 100000 in
set_option maxHeartbeats 4000000 in
theorem p_book_Same_v {u1 u2 : Bool} (a0 : BookState) (a1 : BookState) : CallsO Tryz.prog 43 [.agg [.i a0.Seq, .sl (List.map BookRow.v a0.Rows) u1], .agg [.i a1.Seq, .sl (List.map BookRow.v a1.Rows) u2]] V.b (p_book_Same a0 a1) := by
  refine callsO_comp mix Tryz.func43 gc43_ok fun r H => ?_
  rw [p_book_Same] at H
  conv => whnf
  refine tst_d H (fun b1 H => ?_) (fun b1 H => ?_)
  · conv => whnf
    iterate 5 (refine Tst.F ?_; conv => whnf)
    exact fin0_c (enc := V.b) H (.inr rfl) (.cons (.tmp rfl) (.nil)) rfl rfl
  conv => whnf
  iterate 4 (refine Tst.T ?_; conv => whnf)
  refine ask_c (p_slices_Equal_book_Row_v _ _) H rfl rfl (fun v2 H => ?_); conv => whnf
  refine Tst.T ?_; conv => whnf
  exact fin0_c (enc := V.b) H (.inr rfl) (.cons (.tmp rfl) (.nil)) rfl rfl
end Go.Proofs.YtljeinlapkgjeaaGreat
