/- A part of the proof: 3 texts joined. -/
import Derived.Test.YtljeinlapkgjeaaGreatQbA1
import Derived.Test.YtljeinlapkgjeaaGreatQbA5
import Derived.Test.YtljeinlapkgjeaaGreatQaA8
import Derived.KernelRfl
import Derived.Test.YtljeinlapkgjeaaGreatQbA3
import Derived.Test.YtljeinlapkgjeaaGreatQbA4
set_option linter.all false
/- That the program's functions yield what the plain ones tell (written by a program of mine). -/
namespace Go.Proofs.YtljeinlapkgjeaaGreat
open Go.RowKit
def gc27 : BCode := (.seq (.reg 3 [⟨(some 3), .bx (.tmp 0), none, 0⟩, ⟨(some 6), .al (.agg [(.lit (.int .i64 0)), (.sl [] true)]), none, 1⟩, ⟨(some 7), .al (.agg [(.lit (.bool false)), (.lit (.int .i64 0)), (.lit (.int .i64 0)), (.lit (.int .i64 0))]), none, 2⟩, ⟨(some 8), .mv (.const (.int .i64 0)), none, 3⟩] none 0 []) (.seq (.reg 1 [⟨(some 9), .al (.agg [(.lit (.bool false)), (.lit (.int .i64 0)), (.lit (.int .i64 0)), (.lit (.int .i64 0))]), none, 0⟩] none 0 []) (.seq (.reg 0 [⟨(some 14), .mv (.tmp 1), none, 0⟩, ⟨(some 15), .mv (.tmp 2), none, 0⟩, ⟨(some 16), .cl 51 [(.tmp 14), (.tmp 15)], none, 0⟩, ⟨(some 10), .mv (.tmp 16), none, 0⟩] none 0 []) (.seq (.reg 0 [⟨(some 18), .ld 2 true (.tmp 3), none, 0⟩, ⟨(some 19), .mv (.tmp 10), none, 0⟩, ⟨(some 20), .cl 58 [(.tmp 18), (.tmp 19)], none, 0⟩, ⟨(some 17), .mv (.tmp 20), none, 0⟩, ⟨(some 21), .ex (.tmp 17) 0, none, 0⟩, ⟨(some 22), .ex (.tmp 17) 1, none, 0⟩, ⟨(some 11), .mv (.tmp 21), none, 0⟩, ⟨(some 12), .mv (.tmp 22), none, 0⟩] none 0 []) (.seq (.block 0 (.seq (.reg 0 [⟨(some 24), .ld 2 true (.tmp 3), none, 0⟩, ⟨(some 25), .cl 37 [(.tmp 24)], none, 0⟩, ⟨(some 26), .bin .neq (.tmp 25) (.const (.int .i64 0)), none, 0⟩, ⟨(some 23), .mv (.tmp 26), none, 0⟩] none 0 []) (.cond (.tmp 23) (.seq (.reg 0 [⟨(some 27), .ld 2 true (.tmp 3), none, 0⟩, ⟨(some 28), .ld 4 true (.tmp 9), none, 0⟩, ⟨(some 29), .ld 2 true (.tmp 3), none, 0⟩, ⟨(some 30), .cl 37 [(.tmp 29)], none, 0⟩, ⟨none, .st 2 (.tmp 6) (.tmp 27), none, 0⟩, ⟨none, .st 4 (.tmp 7) (.tmp 28), none, 0⟩, ⟨(some 8), .mv (.tmp 30), none, 0⟩] (some [[], [], [], [2], [2, 3, 0], [0, 3, 2, 4, 1], [1, 4, 0, 5, 2, 3]]) 0 []) .ret) (.seq (.reg 0 [⟨(some 32), .mv (.tmp 10), none, 0⟩, ⟨(some 33), .bin .eql (.tmp 32) (.const (.string ⟨#[]⟩)), none, 0⟩, ⟨(some 34), .mv (.tmp 33), none, 0⟩, ⟨(some 35), .mv (.tmp 12), (some (34, false)), 0⟩, ⟨(some 36), .un .not (.tmp 35), (some (34, false)), 0⟩, ⟨(some 37), .pick (.tmp 34) (.const (.bool true)) (.tmp 36), none, 0⟩, ⟨(some 31), .mv (.tmp 37), none, 0⟩] none 0 []) (.cond (.tmp 31) (.seq (.reg 0 [⟨(some 38), .ld 2 true (.tmp 3), none, 0⟩, ⟨(some 39), .ld 4 true (.tmp 9), none, 0⟩, ⟨none, .st 2 (.tmp 6) (.tmp 38), none, 0⟩, ⟨none, .st 4 (.tmp 7) (.tmp 39), none, 0⟩, ⟨(some 8), .mv (.const (.int .i64 6)), none, 0⟩] (some [[], [], [0], [0, 2, 1], [1, 2, 0, 3]]) 0 []) .ret) (.seq (.reg 0 [⟨(some 41), .fa 0 (.tmp 3), none, 0⟩, ⟨(some 42), .ld 1 false (.tmp 41), none, 0⟩, ⟨(some 43), .bin .geq (.tmp 42) (.const (.int .i64 1099511627776)), none, 0⟩, ⟨(some 40), .mv (.tmp 43), none, 0⟩] none 0 []) (.cond (.tmp 40) (.seq (.reg 0 [⟨(some 44), .ld 2 true (.tmp 3), none, 0⟩, ⟨(some 45), .ld 4 true (.tmp 9), none, 0⟩, ⟨none, .st 2 (.tmp 6) (.tmp 44), none, 0⟩, ⟨none, .st 4 (.tmp 7) (.tmp 45), none, 0⟩, ⟨(some 8), .mv (.const (.int .i64 9)), none, 0⟩] (some [[], [], [0], [0, 2, 1], [1, 2, 0, 3]]) 0 []) .ret) .skip))))))) (.seq (.reg 0 [⟨(some 46), .fa 0 (.tmp 3), none, 0⟩, ⟨(some 47), .ld 1 false (.tmp 46), none, 0⟩, ⟨(some 48), .bin .add (.tmp 47) (.const (.int .i64 1)), none, 0⟩, ⟨(some 49), .fa 0 (.tmp 3), none, 0⟩, ⟨none, .st 1 (.tmp 49) (.tmp 48), none, 0⟩] none 0 []) (.seq (.reg 0 [⟨(some 13), .mv (.const (.slice none 0 0)), none, 0⟩] none 0 []) (.seq (.reg 2 [⟨(some 50), .mv (.tmp 13), none, 0⟩, ⟨(some 51), .fa 1 (.tmp 3), none, 0⟩, ⟨(some 52), .ld 1 false (.tmp 51), none, 0⟩, ⟨(some 53), .mv (.tmp 11), none, 0⟩, ⟨(some 54), .sls 6 (.tmp 52) none (some (.tmp 53)) none, none, 0⟩, ⟨(some 55), .ap 6 64 (.tmp 50) (.tmp 54), none, 0⟩, ⟨(some 56), .fa 1 (.tmp 3), none, 1⟩, ⟨(some 57), .ld 1 false (.tmp 56), none, 1⟩, ⟨(some 58), .mv (.tmp 11), none, 1⟩, ⟨(some 59), .bin .add (.tmp 58) (.const (.int .i64 1)), none, 1⟩, ⟨(some 60), .sls 6 (.tmp 57) (some (.tmp 59)) none none, none, 1⟩, ⟨(some 61), .ap 6 64 (.tmp 55) (.tmp 60), none, 1⟩, ⟨(some 62), .fa 1 (.tmp 3), none, 2⟩, ⟨none, .st 1 (.tmp 62) (.tmp 61), none, 2⟩] (some [[], [], [1], [], [3, 1, 2], [2, 1, 3, 4, 0], [], [6], [], [8], [8, 9, 6, 7], [7, 6, 9, 8, 10, 0, 4, 3, 1, 2, 5], [11, 10, 9, 8, 7, 6, 5, 4, 3, 2, 1, 0], [0, 1, 2, 3, 4, 5, 6, 7, 8, 9, 10, 11, 12]]) 0 []) (.seq (.reg 0 [⟨(some 63), .ld 2 true (.tmp 3), none, 0⟩, ⟨(some 64), .fa 0 (.tmp 3), none, 0⟩, ⟨(some 65), .ld 1 false (.tmp 64), none, 0⟩, ⟨(some 66), .bd [(.lit (.bool false)), (.lit (.int .i64 0)), (.lit (.int .i64 0)), (.lit (.int .i64 0))] [(3, 1, (.tmp 65))], none, 0⟩, ⟨none, .st 2 (.tmp 6) (.tmp 63), none, 0⟩, ⟨none, .st 4 (.tmp 7) (.tmp 66), none, 0⟩, ⟨(some 8), .mv (.const (.int .i64 0)), none, 0⟩] (some [[], [], [1], [1, 2], [0], [0, 4, 2, 1, 3], [3, 1, 2, 4, 0, 5]]) 0 []) .ret)))))))))
theorem gc27_ok : compF Tryz.prog Tryz.f27 = some (gc27.er, 67, [.cell 6 2 true, .cell 7 4 true, .tmp 8]) := by unfold gc27; kernel_rfl
set_option maxRecDepth 100000 in
set_option maxHeartbeats 4000000 in
theorem p_ref24_Off_v {u1 : Bool} (a0 : BookState) (a1 : ByteArray) (a2 : ByteArray) : CallsO Tryz.prog 27 [.agg [.i a0.Seq, .sl (List.map BookRow.v a0.Rows) u1], .s a1, .s a2] (fun r : BookState × PresPres × Int => .tup [BookState.v r.1, PresPres.v r.2.1, V.i r.2.2]) (p_ref24_Off a0 a1 a2) := by
  refine callsO_comp mix Tryz.func27 gc27_ok fun r H => ?_
  rw [p_ref24_Off] at H
  conv => whnf
  refine ask_c (p_ref23_Key_v _ _) H rfl rfl (fun v1 H => ?_); conv => whnf
  refine ask_c (p_ref24_place_v _ _) H rfl rfl (fun v2 H => ?_); conv => whnf
  refine ask_c (p_ref24_Check_v _) H rfl rfl (fun v3 H => ?_); conv => whnf
  refine tst_c H (fun b4 H => ?_) (fun b4 H => ?_)
  · conv => whnf
    refine ask_c (p_ref24_Check_v _) H rfl rfl (fun v5 H => ?_); conv => whnf
    refine ⟨Nat.le_of_ble_eq_true rfl, ?_⟩; conv => whnf
    refine ⟨Nat.le_of_ble_eq_true rfl, ?_⟩; conv => whnf
    refine FootQ.mk ⟨rfl, ?_⟩; conv => whnf
    refine finR_c (enc := (fun r : BookState × PresPres × Int => .tup [BookState.v r.1, PresPres.v r.2.1, V.i r.2.2])) H ?_; conv => whnf
    exact ⟨_, .tup (.cons (fzagg (.cons (.id rfl) (.cons (.slw) (.nil))) rfl) (.cons (fzagg (.cons (.id rfl) (.cons (.id rfl) (.cons (.id rfl) (.cons (.id rfl) (.nil))))) rfl) (.cons (.c (.id rfl)) (.nil))))⟩
  conv => whnf
  refine tst_c H (fun b6 H => ?_) (fun b6 H => ?_)
  · conv => whnf
    iterate 3 (refine Tst.T ?_; conv => whnf)
    refine ⟨Nat.le_of_ble_eq_true rfl, ?_⟩; conv => whnf
    refine ⟨Nat.le_of_ble_eq_true rfl, ?_⟩; conv => whnf
    refine FootQ.mk ⟨rfl, ?_⟩; conv => whnf
    refine finR_c (enc := (fun r : BookState × PresPres × Int => .tup [BookState.v r.1, PresPres.v r.2.1, V.i r.2.2])) H ?_; conv => whnf
    exact ⟨_, .tup (.cons (fzagg (.cons (.id rfl) (.cons (.slw) (.nil))) rfl) (.cons (fzagg (.cons (.id rfl) (.cons (.id rfl) (.cons (.id rfl) (.cons (.id rfl) (.nil))))) rfl) (.cons (.c (.id rfl)) (.nil))))⟩
  conv => whnf
  iterate 2 (refine Tst.F ?_; conv => whnf)
  refine Tst.not ?_
  refine tst_d H (fun b7 H => ?_) (fun b7 H => ?_)
  · conv => whnf
    refine ⟨Nat.le_of_ble_eq_true rfl, ?_⟩; conv => whnf
    refine ⟨Nat.le_of_ble_eq_true rfl, ?_⟩; conv => whnf
    refine FootQ.mk ⟨rfl, ?_⟩; conv => whnf
    refine finR_c (enc := (fun r : BookState × PresPres × Int => .tup [BookState.v r.1, PresPres.v r.2.1, V.i r.2.2])) H ?_; conv => whnf
    exact ⟨_, .tup (.cons (fzagg (.cons (.id rfl) (.cons (.slw) (.nil))) rfl) (.cons (fzagg (.cons (.id rfl) (.cons (.id rfl) (.cons (.id rfl) (.cons (.id rfl) (.nil))))) rfl) (.cons (.c (.id rfl)) (.nil))))⟩
  conv => whnf
  refine tst_c H (fun b8 H => ?_) (fun b8 H => ?_)
  · conv => whnf
    refine ⟨Nat.le_of_ble_eq_true rfl, ?_⟩; conv => whnf
    refine ⟨Nat.le_of_ble_eq_true rfl, ?_⟩; conv => whnf
    refine FootQ.mk ⟨rfl, ?_⟩; conv => whnf
    refine finR_c (enc := (fun r : BookState × PresPres × Int => .tup [BookState.v r.1, PresPres.v r.2.1, V.i r.2.2])) H ?_; conv => whnf
    exact ⟨_, .tup (.cons (fzagg (.cons (.id rfl) (.cons (.slw) (.nil))) rfl) (.cons (fzagg (.cons (.id rfl) (.cons (.id rfl) (.cons (.id rfl) (.cons (.id rfl) (.nil))))) rfl) (.cons (.c (.id rfl)) (.nil))))⟩
  conv => whnf
  refine Ari.w ?_; conv => whnf
  refine ⟨Nat.le_of_ble_eq_true rfl, ?_⟩; conv => whnf
  refine slsH_c (f := BookRow.v) H (fun _ => rfl) (fun x9 H => ?_); conv => whnf
  refine appE_c (f := BookRow.v) H (fun _ => rfl) rfl (.v (srcM (f := BookRow.v) (fun _ => rfl) _ _)) (by decide) rfl (fun H => ?_) (fun l10 H => ?_)
  · conv => whnf
    refine Ari.w ?_; conv => whnf
    refine slsE_c (f := BookRow.v) H (fun _ => rfl) (fun x13 H => ?_); conv => whnf
    refine appE_c (f := BookRow.v) H (fun _ => rfl) rfl (.v (srcM (f := BookRow.v) (fun _ => rfl) _ _)) (by decide) rfl (fun H => ?_) (fun l14 H => ?_)
    · conv => whnf
      refine ⟨Nat.le_of_ble_eq_true rfl, ?_⟩; conv => whnf
      refine FootQ.mk ⟨rfl, ?_⟩; conv => whnf
      refine ⟨Nat.le_of_ble_eq_true rfl, ?_⟩; conv => whnf
      refine ⟨Nat.le_of_ble_eq_true rfl, ?_⟩; conv => whnf
      refine FootQ.mk ⟨rfl, ?_⟩; conv => whnf
      refine finR_c (enc := (fun r : BookState × PresPres × Int => .tup [BookState.v r.1, PresPres.v r.2.1, V.i r.2.2])) H ?_; conv => whnf
      exact ⟨_, .tup (.cons (fzagg (.cons (.id rfl) (.cons (.slw) (.nil))) rfl) (.cons (fzagg (.cons (.id rfl) (.cons (.id rfl) (.cons (.id rfl) (.cons (.id rfl) (.nil))))) rfl) (.cons (.c (.id rfl)) (.nil))))⟩
    conv => whnf
    refine ⟨Nat.le_of_ble_eq_true rfl, ?_⟩; conv => whnf
    refine FootQ.mk ⟨rfl, ?_⟩; conv => whnf
    refine ⟨Nat.le_of_ble_eq_true rfl, ?_⟩; conv => whnf
    refine ⟨Nat.le_of_ble_eq_true rfl, ?_⟩; conv => whnf
    refine FootQ.mk ⟨rfl, ?_⟩; conv => whnf
    refine finR_c (enc := (fun r : BookState × PresPres × Int => .tup [BookState.v r.1, PresPres.v r.2.1, V.i r.2.2])) H ?_; conv => whnf
    exact ⟨_, .tup (.cons (fzagg (.cons (.id rfl) (.cons (fzown (f := BookRow.v) (l := l14) rfl rfl (fun _ => rfl) (fun _ => rfl)) (.nil))) rfl) (.cons (fzagg (.cons (.id rfl) (.cons (.id rfl) (.cons (.id rfl) (.cons (.id rfl) (.nil))))) rfl) (.cons (.c (.id rfl)) (.nil))))⟩
  conv => whnf
  refine Ari.w ?_; conv => whnf
  refine slsE_c (f := BookRow.v) H (fun _ => rfl) (fun x11 H => ?_); conv => whnf
  refine appP_c (f := BookRow.v) H (fun _ => rfl) rfl rfl (.v (srcM (f := BookRow.v) (fun _ => rfl) _ _)) (by decide) rfl (fun l12 H => ?_) (fun l12 H => ?_)
  · conv => whnf
    refine ⟨Nat.le_of_ble_eq_true rfl, ?_⟩; conv => whnf
    refine FootQ.mk ⟨rfl, ?_⟩; conv => whnf
    refine ⟨Nat.le_of_ble_eq_true rfl, ?_⟩; conv => whnf
    refine ⟨Nat.le_of_ble_eq_true rfl, ?_⟩; conv => whnf
    refine FootQ.mk ⟨rfl, ?_⟩; conv => whnf
    refine finR_c (enc := (fun r : BookState × PresPres × Int => .tup [BookState.v r.1, PresPres.v r.2.1, V.i r.2.2])) H ?_; conv => whnf
    exact ⟨_, .tup (.cons (fzagg (.cons (.id rfl) (.cons (fzown (f := BookRow.v) (l := l12) rfl rfl (fun _ => rfl) (fun _ => rfl)) (.nil))) rfl) (.cons (fzagg (.cons (.id rfl) (.cons (.id rfl) (.cons (.id rfl) (.cons (.id rfl) (.nil))))) rfl) (.cons (.c (.id rfl)) (.nil))))⟩
  conv => whnf
  refine ⟨Nat.le_of_ble_eq_true rfl, ?_⟩; conv => whnf
  refine FootQ.mk ⟨rfl, ?_⟩; conv => whnf
  refine ⟨Nat.le_of_ble_eq_true rfl, ?_⟩; conv => whnf
  refine ⟨Nat.le_of_ble_eq_true rfl, ?_⟩; conv => whnf
  refine FootQ.mk ⟨rfl, ?_⟩; conv => whnf
  refine finR_c (enc := (fun r : BookState × PresPres × Int => .tup [BookState.v r.1, PresPres.v r.2.1, V.i r.2.2])) H ?_; conv => whnf
  exact ⟨_, .tup (.cons (fzagg (.cons (.id rfl) (.cons (fzown (f := BookRow.v) (l := l12) rfl rfl (fun _ => rfl) (fun _ => rfl)) (.nil))) rfl) (.cons (fzagg (.cons (.id rfl) (.cons (.id rfl) (.cons (.id rfl) (.cons (.id rfl) (.nil))))) rfl) (.cons (.c (.id rfl)) (.nil))))⟩
def gc13 : BCode := (.seq (.reg 0 [⟨(some 2), .mv (.const (.slice none 0 0)), none, 0⟩] none 0 []) (.seq (.reg 0 [⟨(some 3), .mv (.const (.slice none 0 0)), none, 0⟩] none 0 []) (.seq (.seq (.reg 0 [⟨(some 4), .mv (.const (.int .i64 0)), none, 0⟩] none 0 []) (.block 0 (.loop (.seq (.seq (.reg 0 [⟨(some 5), .mv (.tmp 4), none, 0⟩, ⟨(some 6), .mv (.tmp 0), none, 0⟩, ⟨(some 7), .lens (.tmp 6), none, 0⟩, ⟨(some 8), .bin .lss (.tmp 5) (.tmp 7), none, 0⟩] none 0 []) (.cond (.tmp 8) .skip (.exit 0))) (.seq (.block 1 (.reg 2 [⟨(some 11), .mv (.tmp 3), none, 0⟩, ⟨(some 12), .mv (.tmp 0), none, 0⟩, ⟨(some 13), .mv (.tmp 4), none, 0⟩, ⟨(some 14), .ixs 6 (.tmp 12) (.tmp 13), none, 0⟩, ⟨(some 15), .fa 0 (.tmp 14), none, 0⟩, ⟨(some 16), .ld 1 false (.tmp 15), none, 0⟩, ⟨(some 17), .mv (.tmp 0), none, 0⟩, ⟨(some 18), .mv (.tmp 4), none, 0⟩, ⟨(some 19), .ixs 6 (.tmp 17) (.tmp 18), none, 0⟩, ⟨(some 20), .fa 1 (.tmp 19), none, 0⟩, ⟨(some 21), .ld 1 false (.tmp 20), none, 0⟩, ⟨(some 22), .mv (.tmp 0), none, 0⟩, ⟨(some 23), .mv (.tmp 4), none, 0⟩, ⟨(some 24), .ixs 6 (.tmp 22) (.tmp 23), none, 0⟩, ⟨(some 25), .fa 2 (.tmp 24), none, 0⟩, ⟨(some 26), .ld 4 true (.tmp 25), none, 0⟩, ⟨(some 27), .bd [(.lit (.string ⟨#[]⟩)), (.lit (.string ⟨#[]⟩)), (.lit (.bool false)), (.lit (.int .i64 0)), (.lit (.int .i64 0)), (.lit (.int .i64 0))] [(0, 1, (.tmp 16)), (1, 1, (.tmp 21)), (2, 4, (.tmp 26))], none, 0⟩, ⟨(some 28), .bs 6 1 [(.lit (.string ⟨#[]⟩)), (.lit (.string ⟨#[]⟩)), (.lit (.bool false)), (.lit (.int .i64 0)), (.lit (.int .i64 0)), (.lit (.int .i64 0))] [(0, (.tmp 27))], none, 0⟩, ⟨(some 29), .ap 6 64 (.tmp 11) (.tmp 28), none, 1⟩, ⟨(some 3), .mv (.tmp 29), none, 2⟩] (some [[], [], [], [2, 1], [1, 2, 3], [3, 2, 1, 4], [], [], [7, 6], [6, 7, 8], [8, 7, 6, 9], [], [], [12, 11], [11, 12, 13], [13, 12, 11, 14], [14, 11, 12, 13, 15, 9, 6, 7, 8, 10, 4, 1, 2, 3, 5], [5, 3, 2, 1, 4, 10, 8, 7, 6, 9, 15, 13, 12, 11, 14, 16], [16, 14, 11, 12, 13, 15, 9, 6, 7, 8, 10, 4, 1, 2, 3, 5, 17, 0], [0, 17, 5, 3, 2, 1, 4, 10, 8, 7, 6, 9, 15, 13, 12, 11, 14, 16, 18]]) 0 [])) (.reg 0 [⟨(some 9), .mv (.tmp 4), none, 0⟩, ⟨(some 10), .bin .add (.tmp 9) (.const (.int .i64 1)), none, 0⟩, ⟨(some 4), .mv (.tmp 10), none, 0⟩] none 0 [])))))) (.seq (.reg 0 [⟨(some 30), .mv (.tmp 3), none, 0⟩, ⟨(some 2), .mv (.tmp 30), none, 0⟩] none 0 []) .ret))))
theorem gc13_ok : compF Tryz.prog Tryz.f13 = some (gc13.er, 31, [.tmp 2]) := by unfold gc13; kernel_rfl
set_option maxRecDepth 100000 in
set_option maxHeartbeats 4000000 in
theorem p_law24_Rows_v {u1 : Bool} (a0 : List BookRow) : CallsO Tryz.prog 13 [.sl (List.map BookRow.v a0) u1] (fun l : List BookRow => V.sl (l.map BookRow.v) false) (p_law24_Rows a0) := by
  refine callsO_comp mix Tryz.func13 gc13_ok fun r H => ?_
  rw [p_law24_Rows] at H
  conv => whnf
  obtain ⟨o2, HL3, HQ4⟩ := bind_c H
  refine loop_c [3, 4] [5, 6, 7, 8, 9, 10, 11, 12, 13, 14, 15, 16, 17, 18, 19, 20, 21, 22, 23, 24, 25, 26, 27, 28, 29] [5, 6, 7, 8, 9, 10, 11, 12, 13, 14, 15, 16, 17, 18, 19, 20, 21, 22, 23, 24, 25, 26, 27, 28, 29] (fun n vals st => (∃ y6, p_law24_Rows_l1  a0 n [] y6 = some o2 ∧ vals = [.sl (List.map BookRow.v []) true, .i y6] ∧ st = []) ∨ (∃ y12 y13, p_law24_Rows_l1  a0 n y12 y13 = some o2 ∧ vals = [.osl 0 0 (List.length y12) 6 false, .i y13] ∧ st = [.live (cellsM BookRow.v y12) (cellsM BookRow.v y12).length])) fuel 0 [] (.inl (⟨_, HL3, rfl, rfl⟩)) (Nat.zero_le _) rfl (by kernel_rfl) (by kernel_rfl) rfl trivial ?_
  rintro (_ | n5) _ _ (⟨y6, H, rfl, rfl⟩ | ⟨y12, y13, H, rfl, rfl⟩)
  · rw [p_law24_Rows_l1] at H; cases H
  · rw [p_law24_Rows_l1] at H; cases H
  · rw [p_law24_Rows_l1] at H
    conv => whnf
    refine LenQ.M ?_; conv => whnf
    refine tst_d H (fun b7 H => ?_) (fun b7 H => ?_)
    · conv => whnf
      obtain rfl := Option.some.inj H
      have H := HQ4
      try dsimp only at H
      refine finR_c (enc := (fun l : List BookRow => V.sl (l.map BookRow.v) false)) H ?_; conv => whnf
      exact ⟨_, .v (.c (.slw))⟩
    conv => whnf
    refine ixs_c (f := BookRow.v) H (fun _ => rfl) (fun x8 H => ?_); conv => whnf
    refine ⟨Nat.le_of_ble_eq_true rfl, ?_⟩; conv => whnf
    refine ixs_c (f := BookRow.v) H (fun _ => rfl) (fun x9 H => ?_); conv => whnf
    refine ⟨Nat.le_of_ble_eq_true rfl, ?_⟩; conv => whnf
    refine ixs_c (f := BookRow.v) H (fun _ => rfl) (fun x10 H => ?_); conv => whnf
    refine ⟨Nat.le_of_ble_eq_true rfl, ?_⟩; conv => whnf
    refine appN_c (f := BookRow.v) H (fun _ => rfl) (srcM (f := BookRow.v) (fun _ => rfl) _ _) rfl (.v (srcOwn (f := BookRow.v) (l := [(BookRow.mk x8.User x9.Res x10.P)]) (fun _ => rfl) rfl rfl rfl)) (by decide) rfl (by simp) (fun l11 H => ?_); conv => whnf
    refine FootQ.mk ⟨rfl, ?_⟩; conv => whnf
    refine Ari.w ?_; conv => whnf
    exact again_c [5, 6, 7, 8, 9, 10, 11, 12, 13, 14, 15, 16, 17, 18, 19, 20, 21, 22, 23, 24, 25, 26, 27, 28, 29] n5 1 [1] (.inr (⟨_, _, H, rfl, rfl⟩)) (Nat.lt_succ_self _) (Nat.zero_le _) rfl (by kernel_rfl) (by kernel_rfl) rfl (wkB_live0 rfl (cellsM_idlt (f := BookRow.v) (fun _ => rfl) _) rfl trivial)
  rw [p_law24_Rows_l1] at H
  conv => whnf
  refine LenQ.M ?_; conv => whnf
  refine tst_d H (fun b14 H => ?_) (fun b14 H => ?_)
  · conv => whnf
    obtain rfl := Option.some.inj H
    have H := HQ4
    try dsimp only at H
    refine finR_c (enc := (fun l : List BookRow => V.sl (l.map BookRow.v) false)) H ?_; conv => whnf
    exact ⟨_, .v (.c (fzown (f := BookRow.v) (l := y12) rfl rfl (fun _ => rfl) (fun _ => rfl)))⟩
  conv => whnf
  refine ixs_c (f := BookRow.v) H (fun _ => rfl) (fun x15 H => ?_); conv => whnf
  refine ⟨Nat.le_of_ble_eq_true rfl, ?_⟩; conv => whnf
  refine ixs_c (f := BookRow.v) H (fun _ => rfl) (fun x16 H => ?_); conv => whnf
  refine ⟨Nat.le_of_ble_eq_true rfl, ?_⟩; conv => whnf
  refine ixs_c (f := BookRow.v) H (fun _ => rfl) (fun x17 H => ?_); conv => whnf
  refine ⟨Nat.le_of_ble_eq_true rfl, ?_⟩; conv => whnf
  refine appO_c (f := BookRow.v) H (fun _ => rfl) rfl (Nat.le_refl _) (.v (srcOwn (f := BookRow.v) (l := [(BookRow.mk x15.User x16.Res x17.P)]) (fun _ => rfl) rfl rfl rfl)) (by decide) rfl (by simp) (fun l18 H => ?_); conv => whnf
  refine FootQ.mk ⟨rfl, ?_⟩; conv => whnf
  refine Ari.w ?_; conv => whnf
  exact again_c [5, 6, 7, 8, 9, 10, 11, 12, 13, 14, 15, 16, 17, 18, 19, 20, 21, 22, 23, 24, 25, 26, 27, 28, 29] n5 1 [2] (.inr (⟨_, _, H, rfl, rfl⟩)) (Nat.lt_succ_self _) (Nat.zero_le _) rfl (by kernel_rfl) (by kernel_rfl) rfl (wkB_live0 rfl (cellsM_idlt (f := BookRow.v) (fun _ => rfl) _) rfl trivial)
def gc29 : BCode := (.seq (.reg 2 [⟨(some 1), .bx (.tmp 0), none, 0⟩, ⟨(some 2), .al (.agg [(.lit (.int .i64 0)), (.sl [] true)]), none, 1⟩] none 0 []) (.seq (.reg 0 [⟨(some 3), .fa 0 (.tmp 1), none, 0⟩, ⟨(some 4), .ld 1 false (.tmp 3), none, 0⟩, ⟨(some 5), .fa 1 (.tmp 1), none, 0⟩, ⟨(some 6), .ld 1 false (.tmp 5), none, 0⟩, ⟨(some 7), .cl 13 [(.tmp 6)], none, 0⟩, ⟨(some 8), .bd [(.lit (.int .i64 0)), (.sl [] true)] [(0, 1, (.tmp 4)), (1, 1, (.tmp 7))], none, 0⟩, ⟨none, .st 2 (.tmp 2) (.tmp 8), none, 0⟩] (some [[], [0], [], [2], [2, 3], [3, 2, 4, 0, 1], [1, 0, 4, 2, 3, 5]]) 0 []) .ret))
theorem gc29_ok : compF Tryz.prog Tryz.f29 = some (gc29.er, 9, [.cell 2 2 true]) := by unfold gc29; kernel_rfl
set_option maxRecDepth 100000 in
set_option maxHeartbeats 4000000 in
theorem p_law24_Back_v {u1 : Bool} (a0 : BookState) : CallsO Tryz.prog 29 [.agg [.i a0.Seq, .sl (List.map BookRow.v a0.Rows) u1]] BookState.v (p_law24_Back a0) := by
  refine callsO_comp mix Tryz.func29 gc29_ok fun r H => ?_
  rw [p_law24_Back] at H
  conv => whnf
  refine ask_c (p_law24_Rows_v _) H rfl rfl (fun v1 H => ?_); conv => whnf
  refine ⟨Nat.le_of_ble_eq_true rfl, ?_⟩; conv => whnf
  refine FootQ.mk ⟨rfl, ?_⟩; conv => whnf
  exact fin0_c (enc := BookState.v) H (.inr rfl) (.cons (.cell rfl rfl (Nat.le_of_ble_eq_true rfl)) (.nil)) rfl rfl
def gc12 : BCode := (.seq (.reg 0 [⟨(some 4), .mv (.const (.bool false)), none, 0⟩] none 0 []) (.seq (.seq (.reg 0 [⟨(some 6), .mv (.tmp 0), none, 0⟩, ⟨(some 7), .lens (.tmp 6), none, 0⟩, ⟨(some 8), .mv (.tmp 1), none, 0⟩, ⟨(some 9), .lens (.tmp 8), none, 0⟩, ⟨(some 10), .bin .neq (.tmp 7) (.tmp 9), none, 0⟩] none 0 []) (.cond (.tmp 10) (.seq (.reg 0 [⟨(some 4), .mv (.const (.bool false)), none, 0⟩] none 0 []) .ret) .skip)) (.seq (.seq (.reg 0 [⟨(some 5), .mv (.const (.int .i64 0)), none, 0⟩] none 0 []) (.block 0 (.loop (.seq (.seq (.reg 0 [⟨(some 11), .mv (.tmp 5), none, 0⟩, ⟨(some 12), .mv (.tmp 0), none, 0⟩, ⟨(some 13), .lens (.tmp 12), none, 0⟩, ⟨(some 14), .bin .lss (.tmp 11) (.tmp 13), none, 0⟩] none 0 []) (.cond (.tmp 14) .skip (.exit 0))) (.seq (.block 1 (.seq (.reg 0 [⟨(some 17), .mv (.tmp 0), none, 0⟩, ⟨(some 18), .mv (.tmp 5), none, 0⟩, ⟨(some 19), .ixs 6 (.tmp 17) (.tmp 18), none, 0⟩, ⟨(some 20), .ld 6 true (.tmp 19), none, 0⟩, ⟨(some 21), .mv (.tmp 1), none, 0⟩, ⟨(some 22), .mv (.tmp 5), none, 0⟩, ⟨(some 23), .ixs 6 (.tmp 21) (.tmp 22), none, 0⟩, ⟨(some 24), .ld 6 true (.tmp 23), none, 0⟩, ⟨(some 25), .eqa true [2, 2, 0, 1, 1, 1] (.tmp 20) (.tmp 24), none, 0⟩] (some [[], [], [1, 0], [0, 1, 2], [], [], [5, 4], [4, 5, 6], [6, 5, 4, 7, 2, 1, 0, 3]]) 0 []) (.cond (.tmp 25) (.seq (.reg 0 [⟨(some 4), .mv (.const (.bool false)), none, 0⟩] none 0 []) .ret) .skip))) (.reg 0 [⟨(some 15), .mv (.tmp 5), none, 0⟩, ⟨(some 16), .bin .add (.tmp 15) (.const (.int .i64 1)), none, 0⟩, ⟨(some 5), .mv (.tmp 16), none, 0⟩] none 0 [])))))) (.seq (.reg 0 [⟨(some 4), .mv (.const (.bool true)), none, 0⟩] none 0 []) .ret))))
theorem gc12_ok : compF Tryz.prog Tryz.f12 = some (gc12.er, 26, [.tmp 4]) := by unfold gc12; kernel_rfl
set_option maxRecDepth 100000 in
set_option maxHeartbeats 4000000 in
theorem p_ref24_SameRows_v {u1 u2 : Bool} (a0 : List BookRow) (a1 : List BookRow) : CallsO Tryz.prog 12 [.sl (List.map BookRow.v a0) u1, .sl (List.map BookRow.v a1) u2] V.b (p_ref24_SameRows a0 a1) := by
  refine callsO_comp mix Tryz.func12 gc12_ok fun r H => ?_
  rw [p_ref24_SameRows] at H
  conv => whnf
  iterate 2 (refine LenQ.M ?_; conv => whnf)
  refine tst_c H (fun b1 H => ?_) (fun b1 H => ?_)
  · conv => whnf
    exact fin0_c (enc := V.b) H (.inr rfl) (.cons (.tmp rfl) (.nil)) rfl rfl
  conv => whnf
  obtain ⟨o3, HL4, HQ5⟩ := bind_c H
  refine loop_c [4, 5] [11, 12, 13, 14, 15, 16, 17, 18, 19, 20, 21, 22, 23, 24, 25] [11, 12, 13, 14, 15, 16, 17, 18, 19, 20, 21, 22, 23, 24, 25] (fun n vals st => (∃ y7, p_ref24_SameRows_l1  a0 a1 n y7 = some o3 ∧ vals = [.b false, .i y7] ∧ st = [])) fuel 0 [] (⟨_, HL4, rfl, rfl⟩) (Nat.zero_le _) rfl (by kernel_rfl) (by kernel_rfl) rfl trivial ?_
  rintro (_ | n6) _ _ (⟨y7, H, rfl, rfl⟩)
  · rw [p_ref24_SameRows_l1] at H; cases H
  rw [p_ref24_SameRows_l1] at H
  conv => whnf
  refine LenQ.M ?_; conv => whnf
  refine tst_d H (fun b8 H => ?_) (fun b8 H => ?_)
  · conv => whnf
    obtain rfl := Option.some.inj H
    have H := HQ5
    try dsimp only at H
    exact fin0_c (enc := V.b) H (.inr rfl) (.cons (.tmp rfl) (.nil)) rfl rfl
  conv => whnf
  refine ixs_c (f := BookRow.v) H (fun _ => rfl) (fun x9 H => ?_); conv => whnf
  refine ixs_c (f := BookRow.v) H (fun _ => rfl) (fun x10 H => ?_); conv => whnf
  refine FootQ.mk ⟨rfl, ?_⟩; conv => whnf
  refine Tst.not ?_
  refine tst_d H (fun b11 H => ?_) (fun b11 H => ?_)
  · conv => whnf
    obtain rfl := Option.some.inj H
    have H := HQ5
    try dsimp only at H
    exact fin0_c (enc := V.b) H (.inr rfl) (.cons (.tmp rfl) (.nil)) rfl rfl
  conv => whnf
  refine Ari.w ?_; conv => whnf
  exact again_c [11, 12, 13, 14, 15, 16, 17, 18, 19, 20, 21, 22, 23, 24, 25] n6 0 [] (⟨_, H, rfl, rfl⟩) (Nat.lt_succ_self _) (Nat.zero_le _) rfl (by kernel_rfl) (by kernel_rfl) rfl trivial
def gc28 : BCode := (.seq (.reg 2 [⟨(some 2), .bx (.tmp 0), none, 0⟩, ⟨(some 3), .bx (.tmp 1), none, 1⟩, ⟨(some 4), .mv (.const (.bool false)), none, 2⟩] none 0 []) (.seq (.reg 0 [⟨(some 5), .fa 0 (.tmp 2), none, 0⟩, ⟨(some 6), .ld 1 false (.tmp 5), none, 0⟩, ⟨(some 7), .fa 0 (.tmp 3), none, 0⟩, ⟨(some 8), .ld 1 false (.tmp 7), none, 0⟩, ⟨(some 9), .bin .eql (.tmp 6) (.tmp 8), none, 0⟩, ⟨(some 10), .mv (.tmp 9), none, 0⟩, ⟨(some 11), .fa 1 (.tmp 2), (some (10, true)), 0⟩, ⟨(some 12), .ld 1 false (.tmp 11), (some (10, true)), 0⟩, ⟨(some 13), .fa 1 (.tmp 3), (some (10, true)), 0⟩, ⟨(some 14), .ld 1 false (.tmp 13), (some (10, true)), 0⟩, ⟨(some 15), .cl 12 [(.tmp 12), (.tmp 14)], (some (10, true)), 0⟩, ⟨(some 16), .pick (.tmp 10) (.tmp 15) (.const (.bool false)), none, 0⟩, ⟨(some 4), .mv (.tmp 16), none, 0⟩] none 0 []) .ret))
theorem gc28_ok : compF Tryz.prog Tryz.f28 = some (gc28.er, 17, [.tmp 4]) := by unfold gc28; kernel_rfl
set_option maxRecDepth 100000 in
set_option maxHeartbeats 4000000 in
theorem p_ref24_Same_v {u1 u2 : Bool} (a0 : BookState) (a1 : BookState) : CallsO Tryz.prog 28 [.agg [.i a0.Seq, .sl (List.map BookRow.v a0.Rows) u1], .agg [.i a1.Seq, .sl (List.map BookRow.v a1.Rows) u2]] V.b (p_ref24_Same a0 a1) := by
  refine callsO_comp mix Tryz.func28 gc28_ok fun r H => ?_
  rw [p_ref24_Same] at H
  conv => whnf
  refine tst_d H (fun b1 H => ?_) (fun b1 H => ?_)
  · conv => whnf
    iterate 5 (refine Tst.F ?_; conv => whnf)
    exact fin0_c (enc := V.b) H (.inr rfl) (.cons (.tmp rfl) (.nil)) rfl rfl
  conv => whnf
  iterate 4 (refine Tst.T ?_; conv => whnf)
  refine ask_c (p_ref24_SameRows_v _ _) H rfl rfl (fun v2 H => ?_); conv => whnf
  refine Tst.T ?_; conv => whnf
  exact fin0_c (enc := V.b) H (.inr rfl) (.cons (.tmp rfl) (.nil)) rfl rfl
end Go.Proofs.YtljeinlapkgjeaaGreat
/- That the program's functions yield what the plain ones tell (written by a program of mine). -/
namespace Go.Proofs.YtljeinlapkgjeaaGreat
open Go.RowKit
def gc25 : BCode := (.seq (.reg 3 [⟨(some 5), .bx (.tmp 0), none, 0⟩, ⟨(some 10), .al (.agg [(.lit (.int .i64 0)), (.sl [] true)]), none, 1⟩, ⟨(some 11), .al (.agg [(.lit (.bool false)), (.lit (.int .i64 0)), (.lit (.int .i64 0)), (.lit (.int .i64 0))]), none, 2⟩, ⟨(some 12), .mv (.const (.int .i64 0)), none, 3⟩] none 0 []) (.seq (.reg 1 [⟨(some 13), .al (.agg [(.lit (.bool false)), (.lit (.int .i64 0)), (.lit (.int .i64 0)), (.lit (.int .i64 0))]), none, 0⟩] none 0 []) (.seq (.reg 0 [⟨(some 19), .mv (.tmp 1), none, 0⟩, ⟨(some 20), .mv (.tmp 2), none, 0⟩, ⟨(some 21), .cl 51 [(.tmp 19), (.tmp 20)], none, 0⟩, ⟨(some 14), .mv (.tmp 21), none, 0⟩] none 0 []) (.seq (.reg 1 [⟨(some 22), .mv (.tmp 3), none, 0⟩, ⟨(some 23), .mv (.tmp 4), none, 0⟩, ⟨(some 24), .bd [(.lit (.bool false)), (.lit (.int .i64 0)), (.lit (.int .i64 0)), (.lit (.int .i64 0))] [(0, 1, (.const (.bool true))), (1, 1, (.tmp 22)), (2, 1, (.tmp 23))], none, 0⟩, ⟨(some 15), .al (.agg [(.lit (.bool false)), (.lit (.int .i64 0)), (.lit (.int .i64 0)), (.lit (.int .i64 0))]), none, 0⟩, ⟨none, .st 4 (.tmp 15) (.tmp 24), none, 1⟩] none 0 []) (.seq (.reg 0 [⟨(some 26), .ld 2 true (.tmp 5), none, 0⟩, ⟨(some 27), .mv (.tmp 14), none, 0⟩, ⟨(some 28), .cl 58 [(.tmp 26), (.tmp 27)], none, 0⟩, ⟨(some 25), .mv (.tmp 28), none, 0⟩, ⟨(some 29), .ex (.tmp 25) 0, none, 0⟩, ⟨(some 30), .ex (.tmp 25) 1, none, 0⟩, ⟨(some 16), .mv (.tmp 29), none, 0⟩, ⟨(some 17), .mv (.tmp 30), none, 0⟩] none 0 []) (.seq (.block 0 (.seq (.reg 0 [⟨(some 32), .ld 2 true (.tmp 5), none, 0⟩, ⟨(some 33), .cl 37 [(.tmp 32)], none, 0⟩, ⟨(some 34), .bin .neq (.tmp 33) (.const (.int .i64 0)), none, 0⟩, ⟨(some 31), .mv (.tmp 34), none, 0⟩] none 0 []) (.cond (.tmp 31) (.seq (.reg 0 [⟨(some 35), .ld 2 true (.tmp 5), none, 0⟩, ⟨(some 36), .ld 4 true (.tmp 13), none, 0⟩, ⟨(some 37), .ld 2 true (.tmp 5), none, 0⟩, ⟨(some 38), .cl 37 [(.tmp 37)], none, 0⟩, ⟨none, .st 2 (.tmp 10) (.tmp 35), none, 0⟩, ⟨none, .st 4 (.tmp 11) (.tmp 36), none, 0⟩, ⟨(some 12), .mv (.tmp 38), none, 0⟩] (some [[], [], [], [2], [2, 3, 0], [0, 3, 2, 4, 1], [1, 4, 0, 5, 2, 3]]) 0 []) .ret) (.seq (.reg 0 [⟨(some 40), .mv (.tmp 14), none, 0⟩, ⟨(some 41), .bin .eql (.tmp 40) (.const (.string ⟨#[]⟩)), none, 0⟩, ⟨(some 39), .mv (.tmp 41), none, 0⟩] none 0 []) (.cond (.tmp 39) (.seq (.reg 0 [⟨(some 42), .ld 2 true (.tmp 5), none, 0⟩, ⟨(some 43), .ld 4 true (.tmp 13), none, 0⟩, ⟨none, .st 2 (.tmp 10) (.tmp 42), none, 0⟩, ⟨none, .st 4 (.tmp 11) (.tmp 43), none, 0⟩, ⟨(some 12), .mv (.const (.int .i64 11)), none, 0⟩] (some [[], [], [0], [0, 2, 1], [1, 2, 0, 3]]) 0 []) .ret) (.seq (.reg 0 [⟨(some 45), .ld 4 true (.tmp 15), none, 0⟩, ⟨(some 46), .cl 59 [(.tmp 45)], none, 0⟩, ⟨(some 47), .bin .neq (.tmp 46) (.const (.int .i64 0)), none, 0⟩, ⟨(some 44), .mv (.tmp 47), none, 0⟩] none 0 []) (.cond (.tmp 44) (.seq (.reg 0 [⟨(some 48), .ld 2 true (.tmp 5), none, 0⟩, ⟨(some 49), .ld 4 true (.tmp 13), none, 0⟩, ⟨(some 50), .ld 4 true (.tmp 15), none, 0⟩, ⟨(some 51), .cl 59 [(.tmp 50)], none, 0⟩, ⟨none, .st 2 (.tmp 10) (.tmp 48), none, 0⟩, ⟨none, .st 4 (.tmp 11) (.tmp 49), none, 0⟩, ⟨(some 12), .mv (.tmp 51), none, 0⟩] (some [[], [], [], [2], [2, 3, 0], [0, 3, 2, 4, 1], [1, 4, 0, 5, 2, 3]]) 0 []) .ret) (.seq (.reg 0 [⟨(some 53), .mv (.tmp 17), none, 0⟩, ⟨(some 54), .un .not (.tmp 53), none, 0⟩, ⟨(some 55), .mv (.tmp 54), none, 0⟩, ⟨(some 56), .fa 1 (.tmp 5), (some (55, true)), 0⟩, ⟨(some 57), .ld 1 false (.tmp 56), (some (55, true)), 0⟩, ⟨(some 58), .lens (.tmp 57), (some (55, true)), 0⟩, ⟨(some 59), .bin .geq (.tmp 58) (.const (.int .i64 16)), (some (55, true)), 0⟩, ⟨(some 60), .mv (.tmp 59), (some (55, true)), 0⟩, ⟨(some 61), .ld 2 true (.tmp 5), (some (60, false)), 0⟩, ⟨(some 62), .mv (.tmp 1), (some (60, false)), 0⟩, ⟨(some 63), .cl 60 [(.tmp 61), (.tmp 62)], (some (60, false)), 0⟩, ⟨(some 64), .bin .geq (.tmp 63) (.const (.int .i64 3)), (some (60, false)), 0⟩, ⟨(some 65), .pick (.tmp 60) (.const (.bool true)) (.tmp 64), (some (55, true)), 0⟩, ⟨(some 66), .pick (.tmp 55) (.tmp 65) (.const (.bool false)), none, 0⟩, ⟨(some 52), .mv (.tmp 66), none, 0⟩] none 0 []) (.cond (.tmp 52) (.seq (.reg 0 [⟨(some 67), .ld 2 true (.tmp 5), none, 0⟩, ⟨(some 68), .ld 4 true (.tmp 13), none, 0⟩, ⟨none, .st 2 (.tmp 10) (.tmp 67), none, 0⟩, ⟨none, .st 4 (.tmp 11) (.tmp 68), none, 0⟩, ⟨(some 12), .mv (.const (.int .i64 7)), none, 0⟩] (some [[], [], [0], [0, 2, 1], [1, 2, 0, 3]]) 0 []) .ret) (.seq (.reg 0 [⟨(some 70), .fa 0 (.tmp 5), none, 0⟩, ⟨(some 71), .ld 1 false (.tmp 70), none, 0⟩, ⟨(some 72), .bin .geq (.tmp 71) (.const (.int .i64 1099511627776)), none, 0⟩, ⟨(some 69), .mv (.tmp 72), none, 0⟩] none 0 []) (.cond (.tmp 69) (.seq (.reg 0 [⟨(some 73), .ld 2 true (.tmp 5), none, 0⟩, ⟨(some 74), .ld 4 true (.tmp 13), none, 0⟩, ⟨none, .st 2 (.tmp 10) (.tmp 73), none, 0⟩, ⟨none, .st 4 (.tmp 11) (.tmp 74), none, 0⟩, ⟨(some 12), .mv (.const (.int .i64 9)), none, 0⟩] (some [[], [], [0], [0, 2, 1], [1, 2, 0, 3]]) 0 []) .ret) .skip))))))))))) (.seq (.reg 0 [⟨(some 75), .fa 0 (.tmp 5), none, 0⟩, ⟨(some 76), .ld 1 false (.tmp 75), none, 0⟩, ⟨(some 77), .bin .add (.tmp 76) (.const (.int .i64 1)), none, 0⟩, ⟨(some 78), .fa 0 (.tmp 5), none, 0⟩, ⟨none, .st 1 (.tmp 78) (.tmp 77), none, 0⟩] none 0 []) (.seq (.reg 0 [⟨(some 79), .fa 0 (.tmp 5), none, 0⟩, ⟨(some 80), .ld 1 false (.tmp 79), none, 0⟩, ⟨(some 81), .fa 3 (.tmp 15), none, 0⟩, ⟨none, .st 1 (.tmp 81) (.tmp 80), none, 0⟩] none 0 []) (.seq (.reg 0 [⟨(some 18), .mv (.const (.slice none 0 0)), none, 0⟩] none 0 []) (.seq (.reg 3 [⟨(some 82), .mv (.tmp 18), none, 0⟩, ⟨(some 83), .fa 1 (.tmp 5), none, 0⟩, ⟨(some 84), .ld 1 false (.tmp 83), none, 0⟩, ⟨(some 85), .mv (.tmp 16), none, 0⟩, ⟨(some 86), .sls 6 (.tmp 84) none (some (.tmp 85)) none, none, 0⟩, ⟨(some 87), .ap 6 64 (.tmp 82) (.tmp 86), none, 0⟩, ⟨(some 88), .mv (.tmp 1), none, 1⟩, ⟨(some 89), .mv (.tmp 2), none, 1⟩, ⟨(some 90), .ld 4 true (.tmp 15), none, 1⟩, ⟨(some 91), .bd [(.lit (.string ⟨#[]⟩)), (.lit (.string ⟨#[]⟩)), (.lit (.bool false)), (.lit (.int .i64 0)), (.lit (.int .i64 0)), (.lit (.int .i64 0))] [(0, 1, (.tmp 88)), (1, 1, (.tmp 89)), (2, 4, (.tmp 90))], none, 1⟩, ⟨(some 92), .bs 6 1 [(.lit (.string ⟨#[]⟩)), (.lit (.string ⟨#[]⟩)), (.lit (.bool false)), (.lit (.int .i64 0)), (.lit (.int .i64 0)), (.lit (.int .i64 0))] [(0, (.tmp 91))], none, 1⟩, ⟨(some 93), .ap 6 64 (.tmp 87) (.tmp 92), none, 2⟩, ⟨(some 18), .mv (.tmp 93), none, 3⟩] (some [[], [], [1], [], [3, 1, 2], [2, 1, 3, 4, 0], [], [], [], [8, 7, 6], [6, 7, 8, 9], [9, 8, 7, 6, 10, 0, 4, 3, 1, 2, 5], [5, 2, 1, 3, 4, 0, 10, 6, 7, 8, 9, 11]]) 0 []) (.seq (.seq (.reg 0 [⟨(some 94), .mv (.tmp 17), none, 0⟩] none 0 []) (.cond (.tmp 94) (.reg 0 [⟨(some 95), .mv (.tmp 16), none, 0⟩, ⟨(some 96), .bin .add (.tmp 95) (.const (.int .i64 1)), none, 0⟩, ⟨(some 16), .mv (.tmp 96), none, 0⟩] none 0 []) .skip)) (.seq (.reg 1 [⟨(some 97), .mv (.tmp 18), none, 0⟩, ⟨(some 98), .fa 1 (.tmp 5), none, 0⟩, ⟨(some 99), .ld 1 false (.tmp 98), none, 0⟩, ⟨(some 100), .mv (.tmp 16), none, 0⟩, ⟨(some 101), .sls 6 (.tmp 99) (some (.tmp 100)) none none, none, 0⟩, ⟨(some 102), .ap 6 64 (.tmp 97) (.tmp 101), none, 0⟩, ⟨(some 103), .fa 1 (.tmp 5), none, 1⟩, ⟨none, .st 1 (.tmp 103) (.tmp 102), none, 1⟩] none 0 []) (.seq (.reg 0 [⟨(some 104), .ld 2 true (.tmp 5), none, 0⟩, ⟨(some 105), .ld 4 true (.tmp 15), none, 0⟩, ⟨none, .st 2 (.tmp 10) (.tmp 104), none, 0⟩, ⟨none, .st 4 (.tmp 11) (.tmp 105), none, 0⟩, ⟨(some 12), .mv (.const (.int .i64 0)), none, 0⟩] (some [[], [], [0], [0, 2, 1], [1, 2, 0, 3]]) 0 []) .ret)))))))))))))
set_option maxRecDepth 1000000 in
theorem gc25_ok : compF Tryz.prog Tryz.f25 = some (gc25.er, 106, [.cell 10 2 true, .cell 11 4 true, .tmp 12]) := by unfold gc25; kernel_rfl
set_option maxRecDepth 100000 in
set_option maxHeartbeats 4000000 in
theorem p_ref24_Set_v {u1 : Bool} (a0 : BookState) (a1 : ByteArray) (a2 : ByteArray) (a3 : Int) (a4 : Int) : CallsO Tryz.prog 25 [.agg [.i a0.Seq, .sl (List.map BookRow.v a0.Rows) u1], .s a1, .s a2, .i a3, .i a4] (fun r : BookState × PresPres × Int => .tup [BookState.v r.1, PresPres.v r.2.1, V.i r.2.2]) (p_ref24_Set a0 a1 a2 a3 a4) := by
  refine callsO_comp mix Tryz.func25 gc25_ok fun r H => ?_
  rw [p_ref24_Set] at H
  conv => whnf
  refine ask_c (p_ref23_Key_v _ _) H rfl rfl (fun v1 H => ?_); conv => whnf
  refine ⟨Nat.le_of_ble_eq_true rfl, ?_⟩; conv => whnf
  refine ask_c (p_ref24_place_v _ _) H rfl rfl (fun v2 H => ?_); conv => whnf
  refine ask_c (p_ref24_Check_v _) H rfl rfl (fun v3 H => ?_); conv => whnf
  refine tst_c H (fun b4 H => ?_) (fun b4 H => ?_)
  · conv => whnf
    refine ask_c (p_ref24_Check_v _) H rfl rfl (fun v5 H => ?_); conv => whnf
    refine ⟨Nat.le_of_ble_eq_true rfl, ?_⟩; conv => whnf
    refine ⟨Nat.le_of_ble_eq_true rfl, ?_⟩; conv => whnf
    refine FootQ.mk ⟨rfl, ?_⟩; conv => whnf
    refine finR_c (enc := (fun r : BookState × PresPres × Int => .tup [BookState.v r.1, PresPres.v r.2.1, V.i r.2.2])) H ?_; conv => whnf
    exact ⟨_, .tup (.cons (fzagg (.cons (.id rfl) (.cons (.slw) (.nil))) rfl) (.cons (fzagg (.cons (.id rfl) (.cons (.id rfl) (.cons (.id rfl) (.cons (.id rfl) (.nil))))) rfl) (.cons (.c (.id rfl)) (.nil))))⟩
  conv => whnf
  refine tst_c H (fun b6 H => ?_) (fun b6 H => ?_)
  · conv => whnf
    refine ⟨Nat.le_of_ble_eq_true rfl, ?_⟩; conv => whnf
    refine ⟨Nat.le_of_ble_eq_true rfl, ?_⟩; conv => whnf
    refine FootQ.mk ⟨rfl, ?_⟩; conv => whnf
    refine finR_c (enc := (fun r : BookState × PresPres × Int => .tup [BookState.v r.1, PresPres.v r.2.1, V.i r.2.2])) H ?_; conv => whnf
    exact ⟨_, .tup (.cons (fzagg (.cons (.id rfl) (.cons (.slw) (.nil))) rfl) (.cons (fzagg (.cons (.id rfl) (.cons (.id rfl) (.cons (.id rfl) (.cons (.id rfl) (.nil))))) rfl) (.cons (.c (.id rfl)) (.nil))))⟩
  conv => whnf
  refine ask_c (p_ref23_Check_v _) H rfl rfl (fun v7 H => ?_); conv => whnf
  refine tst_c H (fun b8 H => ?_) (fun b8 H => ?_)
  · conv => whnf
    refine ask_c (p_ref23_Check_v _) H rfl rfl (fun v9 H => ?_); conv => whnf
    refine ⟨Nat.le_of_ble_eq_true rfl, ?_⟩; conv => whnf
    refine ⟨Nat.le_of_ble_eq_true rfl, ?_⟩; conv => whnf
    refine FootQ.mk ⟨rfl, ?_⟩; conv => whnf
    refine finR_c (enc := (fun r : BookState × PresPres × Int => .tup [BookState.v r.1, PresPres.v r.2.1, V.i r.2.2])) H ?_; conv => whnf
    exact ⟨_, .tup (.cons (fzagg (.cons (.id rfl) (.cons (.slw) (.nil))) rfl) (.cons (fzagg (.cons (.id rfl) (.cons (.id rfl) (.cons (.id rfl) (.cons (.id rfl) (.nil))))) rfl) (.cons (.c (.id rfl)) (.nil))))⟩
  conv => whnf
  refine Tst.not ?_
  refine tst_c H (fun b10 H => ?_) (fun b10 H => ?_)
  · conv => whnf
    iterate 7 (refine Tst.F ?_; conv => whnf)
    refine tst_c H (fun b11 H => ?_) (fun b11 H => ?_)
    · conv => whnf
      refine ⟨Nat.le_of_ble_eq_true rfl, ?_⟩; conv => whnf
      refine ⟨Nat.le_of_ble_eq_true rfl, ?_⟩; conv => whnf
      refine FootQ.mk ⟨rfl, ?_⟩; conv => whnf
      refine finR_c (enc := (fun r : BookState × PresPres × Int => .tup [BookState.v r.1, PresPres.v r.2.1, V.i r.2.2])) H ?_; conv => whnf
      exact ⟨_, .tup (.cons (fzagg (.cons (.id rfl) (.cons (.slw) (.nil))) rfl) (.cons (fzagg (.cons (.id rfl) (.cons (.id rfl) (.cons (.id rfl) (.cons (.id rfl) (.nil))))) rfl) (.cons (.c (.id rfl)) (.nil))))⟩
    conv => whnf
    refine Ari.w ?_; conv => whnf
    refine ⟨Nat.le_of_ble_eq_true rfl, ?_⟩; conv => whnf
    refine ⟨Nat.le_of_ble_eq_true rfl, ?_⟩; conv => whnf
    refine slsH_c (f := BookRow.v) H (fun _ => rfl) (fun x12 H => ?_); conv => whnf
    refine appE_c (f := BookRow.v) H (fun _ => rfl) rfl (.v (srcM (f := BookRow.v) (fun _ => rfl) _ _)) (by decide) rfl (fun H => ?_) (fun l13 H => ?_)
    · conv => whnf
      refine appN_c (f := BookRow.v) H (fun _ => rfl) (srcM (f := BookRow.v) (fun _ => rfl) _ _) rfl (.v (srcOwn (f := BookRow.v) (l := [(BookRow.mk a1 a2 (PresPres.mk true a3 a4 (w64 (a0.Seq + (1 : Int)))))]) (fun _ => rfl) rfl rfl rfl)) (by decide) rfl (by simp) (fun l17 H => ?_); conv => whnf
      refine FootQ.mk ⟨rfl, ?_⟩; conv => whnf
      refine Tst.isT b10 ?_; conv => whnf
      refine Ari.w ?_; conv => whnf
      refine slsE_c (f := BookRow.v) H (fun _ => rfl) (fun x18 H => ?_); conv => whnf
      refine appP_c (f := BookRow.v) H (fun _ => rfl) rfl rfl (.v (srcM (f := BookRow.v) (fun _ => rfl) _ _)) (by decide) rfl (fun l19 H => ?_) (fun l19 H => ?_)
      · conv => whnf
        refine ⟨Nat.le_of_ble_eq_true rfl, ?_⟩; conv => whnf
        refine ⟨Nat.le_of_ble_eq_true rfl, ?_⟩; conv => whnf
        refine ⟨Nat.le_of_ble_eq_true rfl, ?_⟩; conv => whnf
        refine FootQ.mk ⟨rfl, ?_⟩; conv => whnf
        refine finR_c (enc := (fun r : BookState × PresPres × Int => .tup [BookState.v r.1, PresPres.v r.2.1, V.i r.2.2])) H ?_; conv => whnf
        exact ⟨_, .tup (.cons (fzagg (.cons (.id rfl) (.cons (fzown (f := BookRow.v) (l := l19) rfl rfl (fun _ => rfl) (fun _ => rfl)) (.nil))) rfl) (.cons (fzagg (.cons (.id rfl) (.cons (.id rfl) (.cons (.id rfl) (.cons (.id rfl) (.nil))))) rfl) (.cons (.c (.id rfl)) (.nil))))⟩
      conv => whnf
      refine ⟨Nat.le_of_ble_eq_true rfl, ?_⟩; conv => whnf
      refine ⟨Nat.le_of_ble_eq_true rfl, ?_⟩; conv => whnf
      refine ⟨Nat.le_of_ble_eq_true rfl, ?_⟩; conv => whnf
      refine FootQ.mk ⟨rfl, ?_⟩; conv => whnf
      refine finR_c (enc := (fun r : BookState × PresPres × Int => .tup [BookState.v r.1, PresPres.v r.2.1, V.i r.2.2])) H ?_; conv => whnf
      exact ⟨_, .tup (.cons (fzagg (.cons (.id rfl) (.cons (fzown (f := BookRow.v) (l := l19) rfl rfl (fun _ => rfl) (fun _ => rfl)) (.nil))) rfl) (.cons (fzagg (.cons (.id rfl) (.cons (.id rfl) (.cons (.id rfl) (.cons (.id rfl) (.nil))))) rfl) (.cons (.c (.id rfl)) (.nil))))⟩
    conv => whnf
    refine appO_c (f := BookRow.v) H (fun _ => rfl) rfl (Nat.le_refl _) (.v (srcOwn (f := BookRow.v) (l := [(BookRow.mk a1 a2 (PresPres.mk true a3 a4 (w64 (a0.Seq + (1 : Int)))))]) (fun _ => rfl) rfl rfl rfl)) (by decide) rfl (by simp) (fun l14 H => ?_); conv => whnf
    refine FootQ.mk ⟨rfl, ?_⟩; conv => whnf
    refine Tst.isT b10 ?_; conv => whnf
    refine Ari.w ?_; conv => whnf
    refine slsE_c (f := BookRow.v) H (fun _ => rfl) (fun x15 H => ?_); conv => whnf
    refine appP_c (f := BookRow.v) H (fun _ => rfl) rfl rfl (.v (srcM (f := BookRow.v) (fun _ => rfl) _ _)) (by decide) rfl (fun l16 H => ?_) (fun l16 H => ?_)
    · conv => whnf
      refine ⟨Nat.le_of_ble_eq_true rfl, ?_⟩; conv => whnf
      refine ⟨Nat.le_of_ble_eq_true rfl, ?_⟩; conv => whnf
      refine ⟨Nat.le_of_ble_eq_true rfl, ?_⟩; conv => whnf
      refine FootQ.mk ⟨rfl, ?_⟩; conv => whnf
      refine finR_c (enc := (fun r : BookState × PresPres × Int => .tup [BookState.v r.1, PresPres.v r.2.1, V.i r.2.2])) H ?_; conv => whnf
      exact ⟨_, .tup (.cons (fzagg (.cons (.id rfl) (.cons (fzown (f := BookRow.v) (l := l16) rfl rfl (fun _ => rfl) (fun _ => rfl)) (.nil))) rfl) (.cons (fzagg (.cons (.id rfl) (.cons (.id rfl) (.cons (.id rfl) (.cons (.id rfl) (.nil))))) rfl) (.cons (.c (.id rfl)) (.nil))))⟩
    conv => whnf
    refine ⟨Nat.le_of_ble_eq_true rfl, ?_⟩; conv => whnf
    refine ⟨Nat.le_of_ble_eq_true rfl, ?_⟩; conv => whnf
    refine ⟨Nat.le_of_ble_eq_true rfl, ?_⟩; conv => whnf
    refine FootQ.mk ⟨rfl, ?_⟩; conv => whnf
    refine finR_c (enc := (fun r : BookState × PresPres × Int => .tup [BookState.v r.1, PresPres.v r.2.1, V.i r.2.2])) H ?_; conv => whnf
    exact ⟨_, .tup (.cons (fzagg (.cons (.id rfl) (.cons (fzown (f := BookRow.v) (l := l16) rfl rfl (fun _ => rfl) (fun _ => rfl)) (.nil))) rfl) (.cons (fzagg (.cons (.id rfl) (.cons (.id rfl) (.cons (.id rfl) (.cons (.id rfl) (.nil))))) rfl) (.cons (.c (.id rfl)) (.nil))))⟩
  conv => whnf
  iterate 2 (refine Tst.T ?_; conv => whnf)
  refine LenQ.M ?_; conv => whnf
  iterate 2 (refine Tst.T ?_; conv => whnf)
  refine tst_c H (fun b20 H => ?_) (fun b20 H => ?_)
  · conv => whnf
    iterate 7 (refine Tst.T ?_; conv => whnf)
    refine ⟨Nat.le_of_ble_eq_true rfl, ?_⟩; conv => whnf
    refine ⟨Nat.le_of_ble_eq_true rfl, ?_⟩; conv => whnf
    refine FootQ.mk ⟨rfl, ?_⟩; conv => whnf
    refine finR_c (enc := (fun r : BookState × PresPres × Int => .tup [BookState.v r.1, PresPres.v r.2.1, V.i r.2.2])) H ?_; conv => whnf
    exact ⟨_, .tup (.cons (fzagg (.cons (.id rfl) (.cons (.slw) (.nil))) rfl) (.cons (fzagg (.cons (.id rfl) (.cons (.id rfl) (.cons (.id rfl) (.cons (.id rfl) (.nil))))) rfl) (.cons (.c (.id rfl)) (.nil))))⟩
  conv => whnf
  iterate 2 (refine Tst.F ?_; conv => whnf)
  refine ask_c (p_ref24_many_v _ _) H rfl rfl (fun v21 H => ?_); conv => whnf
  refine Tst.F ?_; conv => whnf
  refine Tst.T ?_; conv => whnf
  refine Tst.F ?_; conv => whnf
  refine Tst.T ?_; conv => whnf
  refine tst_c H (fun b22 H => ?_) (fun b22 H => ?_)
  · conv => whnf
    refine ⟨Nat.le_of_ble_eq_true rfl, ?_⟩; conv => whnf
    refine ⟨Nat.le_of_ble_eq_true rfl, ?_⟩; conv => whnf
    refine FootQ.mk ⟨rfl, ?_⟩; conv => whnf
    refine finR_c (enc := (fun r : BookState × PresPres × Int => .tup [BookState.v r.1, PresPres.v r.2.1, V.i r.2.2])) H ?_; conv => whnf
    exact ⟨_, .tup (.cons (fzagg (.cons (.id rfl) (.cons (.slw) (.nil))) rfl) (.cons (fzagg (.cons (.id rfl) (.cons (.id rfl) (.cons (.id rfl) (.cons (.id rfl) (.nil))))) rfl) (.cons (.c (.id rfl)) (.nil))))⟩
  conv => whnf
  refine tst_c H (fun b23 H => ?_) (fun b23 H => ?_)
  · conv => whnf
    refine ⟨Nat.le_of_ble_eq_true rfl, ?_⟩; conv => whnf
    refine ⟨Nat.le_of_ble_eq_true rfl, ?_⟩; conv => whnf
    refine FootQ.mk ⟨rfl, ?_⟩; conv => whnf
    refine finR_c (enc := (fun r : BookState × PresPres × Int => .tup [BookState.v r.1, PresPres.v r.2.1, V.i r.2.2])) H ?_; conv => whnf
    exact ⟨_, .tup (.cons (fzagg (.cons (.id rfl) (.cons (.slw) (.nil))) rfl) (.cons (fzagg (.cons (.id rfl) (.cons (.id rfl) (.cons (.id rfl) (.cons (.id rfl) (.nil))))) rfl) (.cons (.c (.id rfl)) (.nil))))⟩
  conv => whnf
  refine Ari.w ?_; conv => whnf
  refine ⟨Nat.le_of_ble_eq_true rfl, ?_⟩; conv => whnf
  refine ⟨Nat.le_of_ble_eq_true rfl, ?_⟩; conv => whnf
  refine slsH_c (f := BookRow.v) H (fun _ => rfl) (fun x24 H => ?_); conv => whnf
  refine appE_c (f := BookRow.v) H (fun _ => rfl) rfl (.v (srcM (f := BookRow.v) (fun _ => rfl) _ _)) (by decide) rfl (fun H => ?_) (fun l25 H => ?_)
  · conv => whnf
    refine appN_c (f := BookRow.v) H (fun _ => rfl) (srcM (f := BookRow.v) (fun _ => rfl) _ _) rfl (.v (srcOwn (f := BookRow.v) (l := [(BookRow.mk a1 a2 (PresPres.mk true a3 a4 (w64 (a0.Seq + (1 : Int)))))]) (fun _ => rfl) rfl rfl rfl)) (by decide) rfl (by simp) (fun l29 H => ?_); conv => whnf
    refine FootQ.mk ⟨rfl, ?_⟩; conv => whnf
    refine Tst.isF b10 ?_; conv => whnf
    refine slsE_c (f := BookRow.v) H (fun _ => rfl) (fun x30 H => ?_); conv => whnf
    refine appP_c (f := BookRow.v) H (fun _ => rfl) rfl rfl (.v (srcM (f := BookRow.v) (fun _ => rfl) _ _)) (by decide) rfl (fun l31 H => ?_) (fun l31 H => ?_)
    · conv => whnf
      refine ⟨Nat.le_of_ble_eq_true rfl, ?_⟩; conv => whnf
      refine ⟨Nat.le_of_ble_eq_true rfl, ?_⟩; conv => whnf
      refine ⟨Nat.le_of_ble_eq_true rfl, ?_⟩; conv => whnf
      refine FootQ.mk ⟨rfl, ?_⟩; conv => whnf
      refine finR_c (enc := (fun r : BookState × PresPres × Int => .tup [BookState.v r.1, PresPres.v r.2.1, V.i r.2.2])) H ?_; conv => whnf
      exact ⟨_, .tup (.cons (fzagg (.cons (.id rfl) (.cons (fzown (f := BookRow.v) (l := l31) rfl rfl (fun _ => rfl) (fun _ => rfl)) (.nil))) rfl) (.cons (fzagg (.cons (.id rfl) (.cons (.id rfl) (.cons (.id rfl) (.cons (.id rfl) (.nil))))) rfl) (.cons (.c (.id rfl)) (.nil))))⟩
    conv => whnf
    refine ⟨Nat.le_of_ble_eq_true rfl, ?_⟩; conv => whnf
    refine ⟨Nat.le_of_ble_eq_true rfl, ?_⟩; conv => whnf
    refine ⟨Nat.le_of_ble_eq_true rfl, ?_⟩; conv => whnf
    refine FootQ.mk ⟨rfl, ?_⟩; conv => whnf
    refine finR_c (enc := (fun r : BookState × PresPres × Int => .tup [BookState.v r.1, PresPres.v r.2.1, V.i r.2.2])) H ?_; conv => whnf
    exact ⟨_, .tup (.cons (fzagg (.cons (.id rfl) (.cons (fzown (f := BookRow.v) (l := l31) rfl rfl (fun _ => rfl) (fun _ => rfl)) (.nil))) rfl) (.cons (fzagg (.cons (.id rfl) (.cons (.id rfl) (.cons (.id rfl) (.cons (.id rfl) (.nil))))) rfl) (.cons (.c (.id rfl)) (.nil))))⟩
  conv => whnf
  refine appO_c (f := BookRow.v) H (fun _ => rfl) rfl (Nat.le_refl _) (.v (srcOwn (f := BookRow.v) (l := [(BookRow.mk a1 a2 (PresPres.mk true a3 a4 (w64 (a0.Seq + (1 : Int)))))]) (fun _ => rfl) rfl rfl rfl)) (by decide) rfl (by simp) (fun l26 H => ?_); conv => whnf
  refine FootQ.mk ⟨rfl, ?_⟩; conv => whnf
  refine Tst.isF b10 ?_; conv => whnf
  refine slsE_c (f := BookRow.v) H (fun _ => rfl) (fun x27 H => ?_); conv => whnf
  refine appP_c (f := BookRow.v) H (fun _ => rfl) rfl rfl (.v (srcM (f := BookRow.v) (fun _ => rfl) _ _)) (by decide) rfl (fun l28 H => ?_) (fun l28 H => ?_)
  · conv => whnf
    refine ⟨Nat.le_of_ble_eq_true rfl, ?_⟩; conv => whnf
    refine ⟨Nat.le_of_ble_eq_true rfl, ?_⟩; conv => whnf
    refine ⟨Nat.le_of_ble_eq_true rfl, ?_⟩; conv => whnf
    refine FootQ.mk ⟨rfl, ?_⟩; conv => whnf
    refine finR_c (enc := (fun r : BookState × PresPres × Int => .tup [BookState.v r.1, PresPres.v r.2.1, V.i r.2.2])) H ?_; conv => whnf
    exact ⟨_, .tup (.cons (fzagg (.cons (.id rfl) (.cons (fzown (f := BookRow.v) (l := l28) rfl rfl (fun _ => rfl) (fun _ => rfl)) (.nil))) rfl) (.cons (fzagg (.cons (.id rfl) (.cons (.id rfl) (.cons (.id rfl) (.cons (.id rfl) (.nil))))) rfl) (.cons (.c (.id rfl)) (.nil))))⟩
  conv => whnf
  refine ⟨Nat.le_of_ble_eq_true rfl, ?_⟩; conv => whnf
  refine ⟨Nat.le_of_ble_eq_true rfl, ?_⟩; conv => whnf
  refine ⟨Nat.le_of_ble_eq_true rfl, ?_⟩; conv => whnf
  refine FootQ.mk ⟨rfl, ?_⟩; conv => whnf
  refine finR_c (enc := (fun r : BookState × PresPres × Int => .tup [BookState.v r.1, PresPres.v r.2.1, V.i r.2.2])) H ?_; conv => whnf
  exact ⟨_, .tup (.cons (fzagg (.cons (.id rfl) (.cons (fzown (f := BookRow.v) (l := l28) rfl rfl (fun _ => rfl) (fun _ => rfl)) (.nil))) rfl) (.cons (fzagg (.cons (.id rfl) (.cons (.id rfl) (.cons (.id rfl) (.cons (.id rfl) (.nil))))) rfl) (.cons (.c (.id rfl)) (.nil))))⟩
end Go.Proofs.YtljeinlapkgjeaaGreat
/- That the program's functions yield what the plain ones tell (written by a program of mine). -/
namespace Go.Proofs.YtljeinlapkgjeaaGreat
open Go.RowKit
def gc4 : BCode := (.seq (.reg 2 [⟨(some 2), .bx (.tmp 0), none, 0⟩, ⟨(some 3), .bx (.tmp 1), none, 1⟩, ⟨(some 4), .mv (.const (.bool false)), none, 2⟩] none 0 []) (.seq (.seq (.reg 0 [⟨(some 18), .ld 2 true (.tmp 2), none, 0⟩, ⟨(some 19), .cl 7 [(.tmp 18)], none, 0⟩, ⟨(some 20), .un .not (.tmp 19), none, 0⟩, ⟨(some 21), .mv (.tmp 20), none, 0⟩, ⟨(some 22), .fa 0 (.tmp 3), (some (21, false)), 0⟩, ⟨(some 23), .ld 1 false (.tmp 22), (some (21, false)), 0⟩, ⟨(some 24), .lent (.tmp 23), (some (21, false)), 0⟩, ⟨(some 25), .bin .gtr (.tmp 24) (.const (.int .i64 100)), (some (21, false)), 0⟩, ⟨(some 26), .pick (.tmp 21) (.const (.bool true)) (.tmp 25), none, 0⟩, ⟨(some 27), .mv (.tmp 26), none, 0⟩, ⟨(some 28), .fa 1 (.tmp 3), (some (27, false)), 0⟩, ⟨(some 29), .ld 1 false (.tmp 28), (some (27, false)), 0⟩, ⟨(some 30), .lent (.tmp 29), (some (27, false)), 0⟩, ⟨(some 31), .bin .gtr (.tmp 30) (.const (.int .i64 100)), (some (27, false)), 0⟩, ⟨(some 32), .pick (.tmp 27) (.const (.bool true)) (.tmp 31), none, 0⟩] none 0 []) (.cond (.tmp 32) (.seq (.reg 0 [⟨(some 33), .cl 22 [], none, 0⟩, ⟨(some 4), .mv (.tmp 33), none, 0⟩] none 0 []) .ret) .skip)) (.seq (.reg 1 [⟨(some 34), .ld 2 true (.tmp 2), none, 0⟩, ⟨(some 35), .cl 23 [(.tmp 34)], none, 0⟩, ⟨(some 5), .al (.agg [(.lit (.int .i64 0)), (.sl [] true)]), none, 0⟩, ⟨none, .st 2 (.tmp 5) (.tmp 35), none, 1⟩] none 0 []) (.seq (.reg 2 [⟨(some 37), .ld 2 true (.tmp 5), none, 0⟩, ⟨(some 38), .fa 0 (.tmp 3), none, 0⟩, ⟨(some 39), .ld 1 false (.tmp 38), none, 0⟩, ⟨(some 40), .fa 1 (.tmp 3), none, 0⟩, ⟨(some 41), .ld 1 false (.tmp 40), none, 0⟩, ⟨(some 42), .fa 2 (.tmp 3), none, 0⟩, ⟨(some 43), .fa 1 (.tmp 42), none, 0⟩, ⟨(some 44), .ld 1 false (.tmp 43), none, 0⟩, ⟨(some 45), .fa 2 (.tmp 3), none, 0⟩, ⟨(some 46), .fa 2 (.tmp 45), none, 0⟩, ⟨(some 47), .ld 1 false (.tmp 46), none, 0⟩, ⟨(some 48), .cl 24 [(.tmp 37), (.tmp 39), (.tmp 41), (.tmp 44), (.tmp 47)], none, 0⟩, ⟨(some 36), .mv (.tmp 48), none, 0⟩, ⟨(some 49), .ex (.tmp 36) 0, none, 0⟩, ⟨(some 50), .ex (.tmp 36) 1, none, 0⟩, ⟨(some 51), .ex (.tmp 36) 2, none, 0⟩, ⟨(some 6), .al (.agg [(.lit (.int .i64 0)), (.sl [] true)]), none, 0⟩, ⟨(some 7), .al (.agg [(.lit (.bool false)), (.lit (.int .i64 0)), (.lit (.int .i64 0)), (.lit (.int .i64 0))]), none, 1⟩, ⟨none, .st 2 (.tmp 6) (.tmp 49), none, 2⟩, ⟨none, .st 4 (.tmp 7) (.tmp 50), none, 2⟩, ⟨(some 8), .mv (.tmp 51), none, 2⟩] none 0 []) (.seq (.reg 2 [⟨(some 53), .ld 2 true (.tmp 2), none, 0⟩, ⟨(some 54), .fa 0 (.tmp 3), none, 0⟩, ⟨(some 55), .ld 1 false (.tmp 54), none, 0⟩, ⟨(some 56), .fa 1 (.tmp 3), none, 0⟩, ⟨(some 57), .ld 1 false (.tmp 56), none, 0⟩, ⟨(some 58), .fa 2 (.tmp 3), none, 0⟩, ⟨(some 59), .fa 1 (.tmp 58), none, 0⟩, ⟨(some 60), .ld 1 false (.tmp 59), none, 0⟩, ⟨(some 61), .fa 2 (.tmp 3), none, 0⟩, ⟨(some 62), .fa 2 (.tmp 61), none, 0⟩, ⟨(some 63), .ld 1 false (.tmp 62), none, 0⟩, ⟨(some 64), .cl 25 [(.tmp 53), (.tmp 55), (.tmp 57), (.tmp 60), (.tmp 63)], none, 0⟩, ⟨(some 52), .mv (.tmp 64), none, 0⟩, ⟨(some 65), .ex (.tmp 52) 0, none, 0⟩, ⟨(some 66), .ex (.tmp 52) 1, none, 0⟩, ⟨(some 67), .ex (.tmp 52) 2, none, 0⟩, ⟨(some 9), .al (.agg [(.lit (.int .i64 0)), (.sl [] true)]), none, 0⟩, ⟨(some 10), .al (.agg [(.lit (.bool false)), (.lit (.int .i64 0)), (.lit (.int .i64 0)), (.lit (.int .i64 0))]), none, 1⟩, ⟨none, .st 2 (.tmp 9) (.tmp 65), none, 2⟩, ⟨none, .st 4 (.tmp 10) (.tmp 66), none, 2⟩, ⟨(some 11), .mv (.tmp 67), none, 2⟩] none 0 []) (.seq (.reg 2 [⟨(some 69), .ld 2 true (.tmp 5), none, 0⟩, ⟨(some 70), .fa 0 (.tmp 3), none, 0⟩, ⟨(some 71), .ld 1 false (.tmp 70), none, 0⟩, ⟨(some 72), .fa 1 (.tmp 3), none, 0⟩, ⟨(some 73), .ld 1 false (.tmp 72), none, 0⟩, ⟨(some 74), .cl 26 [(.tmp 69), (.tmp 71), (.tmp 73)], none, 0⟩, ⟨(some 68), .mv (.tmp 74), none, 0⟩, ⟨(some 75), .ex (.tmp 68) 0, none, 0⟩, ⟨(some 76), .ex (.tmp 68) 1, none, 0⟩, ⟨(some 77), .ex (.tmp 68) 2, none, 0⟩, ⟨(some 12), .al (.agg [(.lit (.int .i64 0)), (.sl [] true)]), none, 0⟩, ⟨(some 13), .al (.agg [(.lit (.bool false)), (.lit (.int .i64 0)), (.lit (.int .i64 0)), (.lit (.int .i64 0))]), none, 1⟩, ⟨none, .st 2 (.tmp 12) (.tmp 75), none, 2⟩, ⟨none, .st 4 (.tmp 13) (.tmp 76), none, 2⟩, ⟨(some 14), .mv (.tmp 77), none, 2⟩] none 0 []) (.seq (.reg 2 [⟨(some 79), .ld 2 true (.tmp 2), none, 0⟩, ⟨(some 80), .fa 0 (.tmp 3), none, 0⟩, ⟨(some 81), .ld 1 false (.tmp 80), none, 0⟩, ⟨(some 82), .fa 1 (.tmp 3), none, 0⟩, ⟨(some 83), .ld 1 false (.tmp 82), none, 0⟩, ⟨(some 84), .cl 27 [(.tmp 79), (.tmp 81), (.tmp 83)], none, 0⟩, ⟨(some 78), .mv (.tmp 84), none, 0⟩, ⟨(some 85), .ex (.tmp 78) 0, none, 0⟩, ⟨(some 86), .ex (.tmp 78) 1, none, 0⟩, ⟨(some 87), .ex (.tmp 78) 2, none, 0⟩, ⟨(some 15), .al (.agg [(.lit (.int .i64 0)), (.sl [] true)]), none, 0⟩, ⟨(some 16), .al (.agg [(.lit (.bool false)), (.lit (.int .i64 0)), (.lit (.int .i64 0)), (.lit (.int .i64 0))]), none, 1⟩, ⟨none, .st 2 (.tmp 15) (.tmp 85), none, 2⟩, ⟨none, .st 4 (.tmp 16) (.tmp 86), none, 2⟩, ⟨(some 17), .mv (.tmp 87), none, 2⟩] none 0 []) (.seq (.reg 0 [⟨(some 88), .ld 2 true (.tmp 6), none, 0⟩, ⟨(some 89), .cl 29 [(.tmp 88)], none, 0⟩, ⟨(some 90), .ld 2 true (.tmp 9), none, 0⟩, ⟨(some 91), .cl 28 [(.tmp 89), (.tmp 90)], none, 0⟩, ⟨(some 92), .mv (.tmp 91), none, 0⟩, ⟨(some 93), .ld 4 true (.tmp 7), (some (92, true)), 0⟩, ⟨(some 94), .ld 4 true (.tmp 10), (some (92, true)), 0⟩, ⟨(some 95), .eqa false [0, 1, 1, 1] (.tmp 93) (.tmp 94), (some (92, true)), 0⟩, ⟨(some 96), .pick (.tmp 92) (.tmp 95) (.const (.bool false)), none, 0⟩, ⟨(some 97), .mv (.tmp 96), none, 0⟩, ⟨(some 98), .mv (.tmp 8), (some (97, true)), 0⟩, ⟨(some 99), .mv (.tmp 11), (some (97, true)), 0⟩, ⟨(some 100), .bin .eql (.tmp 98) (.tmp 99), (some (97, true)), 0⟩, ⟨(some 101), .pick (.tmp 97) (.tmp 100) (.const (.bool false)), none, 0⟩, ⟨(some 102), .mv (.tmp 101), none, 0⟩, ⟨(some 103), .ld 2 true (.tmp 12), (some (102, true)), 0⟩, ⟨(some 104), .cl 29 [(.tmp 103)], (some (102, true)), 0⟩, ⟨(some 105), .ld 2 true (.tmp 15), (some (102, true)), 0⟩, ⟨(some 106), .cl 28 [(.tmp 104), (.tmp 105)], (some (102, true)), 0⟩, ⟨(some 107), .pick (.tmp 102) (.tmp 106) (.const (.bool false)), none, 0⟩, ⟨(some 108), .mv (.tmp 107), none, 0⟩, ⟨(some 109), .ld 4 true (.tmp 13), (some (108, true)), 0⟩, ⟨(some 110), .ld 4 true (.tmp 16), (some (108, true)), 0⟩, ⟨(some 111), .eqa false [0, 1, 1, 1] (.tmp 109) (.tmp 110), (some (108, true)), 0⟩, ⟨(some 112), .pick (.tmp 108) (.tmp 111) (.const (.bool false)), none, 0⟩, ⟨(some 113), .mv (.tmp 112), none, 0⟩, ⟨(some 114), .mv (.tmp 14), (some (113, true)), 0⟩, ⟨(some 115), .mv (.tmp 17), (some (113, true)), 0⟩, ⟨(some 116), .bin .eql (.tmp 114) (.tmp 115), (some (113, true)), 0⟩, ⟨(some 117), .pick (.tmp 113) (.tmp 116) (.const (.bool false)), none, 0⟩, ⟨(some 118), .mv (.tmp 117), none, 0⟩, ⟨(some 119), .ld 2 true (.tmp 5), (some (118, true)), 0⟩, ⟨(some 120), .cl 29 [(.tmp 119)], (some (118, true)), 0⟩, ⟨(some 121), .ld 2 true (.tmp 2), (some (118, true)), 0⟩, ⟨(some 122), .cl 28 [(.tmp 120), (.tmp 121)], (some (118, true)), 0⟩, ⟨(some 123), .pick (.tmp 118) (.tmp 122) (.const (.bool false)), none, 0⟩, ⟨(some 124), .mv (.tmp 123), none, 0⟩, ⟨(some 125), .cl 22 [], (some (124, true)), 0⟩, ⟨(some 126), .pick (.tmp 124) (.tmp 125) (.const (.bool false)), none, 0⟩, ⟨(some 4), .mv (.tmp 126), none, 0⟩] (some [[], [0], [], [2, 0, 1], [1, 0, 2, 3], [3, 2, 0, 1, 4], [3, 2, 0, 1, 4], [6, 4, 1, 0, 2, 3, 5], [5, 6, 7, 3, 2, 0, 1, 4], [4, 1, 0, 2, 3, 7, 6, 5, 8], [8, 5, 6, 7, 3, 2, 0, 1, 4, 9], [8, 5, 6, 7, 3, 2, 0, 1, 4, 9], [11, 9, 4, 1, 0, 2, 3, 7, 6, 5, 8, 10], [10, 11, 12, 8, 5, 6, 7, 3, 2, 0, 1, 4, 9], [9, 4, 1, 0, 2, 3, 7, 6, 5, 8, 12, 11, 10, 13], [13, 10, 11, 12, 8, 5, 6, 7, 3, 2, 0, 1, 4, 9, 14], [14, 9, 4, 1, 0, 2, 3, 7, 6, 5, 8, 12, 11, 10, 13, 15], [13, 10, 11, 12, 8, 5, 6, 7, 3, 2, 0, 1, 4, 9, 14], [17, 15, 13, 10, 11, 12, 8, 5, 6, 7, 3, 2, 0, 1, 4, 9, 14, 16], [16, 15, 17, 18, 13, 10, 11, 12, 8, 5, 6, 7, 3, 2, 0, 1, 4, 9, 14], [14, 9, 4, 1, 0, 2, 3, 7, 6, 5, 8, 12, 11, 10, 13, 18, 17, 15, 16, 19], [19, 16, 15, 17, 18, 13, 10, 11, 12, 8, 5, 6, 7, 3, 2, 0, 1, 4, 9, 14, 20], [19, 16, 15, 17, 18, 13, 10, 11, 12, 8, 5, 6, 7, 3, 2, 0, 1, 4, 9, 14, 20], [22, 20, 14, 9, 4, 1, 0, 2, 3, 7, 6, 5, 8, 12, 11, 10, 13, 18, 17, 15, 16, 19, 21], [21, 22, 23, 19, 16, 15, 17, 18, 13, 10, 11, 12, 8, 5, 6, 7, 3, 2, 0, 1, 4, 9, 14, 20], [20, 14, 9, 4, 1, 0, 2, 3, 7, 6, 5, 8, 12, 11, 10, 13, 18, 17, 15, 16, 19, 23, 22, 21, 24], [24, 21, 22, 23, 19, 16, 15, 17, 18, 13, 10, 11, 12, 8, 5, 6, 7, 3, 2, 0, 1, 4, 9, 14, 20, 25], [24, 21, 22, 23, 19, 16, 15, 17, 18, 13, 10, 11, 12, 8, 5, 6, 7, 3, 2, 0, 1, 4, 9, 14, 20, 25], [27, 25, 20, 14, 9, 4, 1, 0, 2, 3, 7, 6, 5, 8, 12, 11, 10, 13, 18, 17, 15, 16, 19, 23, 22, 21, 24, 26], [26, 27, 28, 24, 21, 22, 23, 19, 16, 15, 17, 18, 13, 10, 11, 12, 8, 5, 6, 7, 3, 2, 0, 1, 4, 9, 14, 20, 25], [25, 20, 14, 9, 4, 1, 0, 2, 3, 7, 6, 5, 8, 12, 11, 10, 13, 18, 17, 15, 16, 19, 23, 22, 21, 24, 28, 27, 26, 29], [29, 26, 27, 28, 24, 21, 22, 23, 19, 16, 15, 17, 18, 13, 10, 11, 12, 8, 5, 6, 7, 3, 2, 0, 1, 4, 9, 14, 20, 25, 30], [30, 25, 20, 14, 9, 4, 1, 0, 2, 3, 7, 6, 5, 8, 12, 11, 10, 13, 18, 17, 15, 16, 19, 23, 22, 21, 24, 28, 27, 26, 29, 31], [29, 26, 27, 28, 24, 21, 22, 23, 19, 16, 15, 17, 18, 13, 10, 11, 12, 8, 5, 6, 7, 3, 2, 0, 1, 4, 9, 14, 20, 25, 30], [33, 31, 29, 26, 27, 28, 24, 21, 22, 23, 19, 16, 15, 17, 18, 13, 10, 11, 12, 8, 5, 6, 7, 3, 2, 0, 1, 4, 9, 14, 20, 25, 30, 32], [32, 31, 33, 34, 29, 26, 27, 28, 24, 21, 22, 23, 19, 16, 15, 17, 18, 13, 10, 11, 12, 8, 5, 6, 7, 3, 2, 0, 1, 4, 9, 14, 20, 25, 30], [30, 25, 20, 14, 9, 4, 1, 0, 2, 3, 7, 6, 5, 8, 12, 11, 10, 13, 18, 17, 15, 16, 19, 23, 22, 21, 24, 28, 27, 26, 29, 34, 33, 31, 32, 35], [35, 32, 31, 33, 34, 29, 26, 27, 28, 24, 21, 22, 23, 19, 16, 15, 17, 18, 13, 10, 11, 12, 8, 5, 6, 7, 3, 2, 0, 1, 4, 9, 14, 20, 25, 30, 36], [37, 35, 32, 31, 33, 34, 29, 26, 27, 28, 24, 21, 22, 23, 19, 16, 15, 17, 18, 13, 10, 11, 12, 8, 5, 6, 7, 3, 2, 0, 1, 4, 9, 14, 20, 25, 30, 36], [36, 30, 25, 20, 14, 9, 4, 1, 0, 2, 3, 7, 6, 5, 8, 12, 11, 10, 13, 18, 17, 15, 16, 19, 23, 22, 21, 24, 28, 27, 26, 29, 34, 33, 31, 32, 35, 37, 38]]) 0 []) .ret))))))))
set_option maxRecDepth 1000000 in
theorem gc4_ok : compF Tryz.prog Tryz.f4 = some (gc4.er, 127, [.tmp 4]) := by unfold gc4; kernel_rfl
set_option maxRecDepth 100000 in
set_option maxHeartbeats 4000000 in
theorem p_law24_BookChanges_v {u1 : Bool} (a0 : BookState) (a1 : BookRow) : CallsO Tryz.prog 4 [.agg [.i a0.Seq, .sl (List.map BookRow.v a0.Rows) u1], .agg [.s a1.User, .s a1.Res, .b a1.P.On, .i a1.P.Show, .i a1.P.Prio, .i a1.P.Seq]] V.b (p_law24_BookChanges a0 a1) := by
  refine callsO_comp mix Tryz.func4 gc4_ok fun r H => ?_
  rw [p_law24_BookChanges] at H
  conv => whnf
  refine ask_c (p_ref24_Light_v _) H rfl rfl (fun v1 H => ?_); conv => whnf
  refine Tst.not ?_
  refine tst_d H (fun b2 H => ?_) (fun b2 H => ?_)
  · conv => whnf
    iterate 10 (refine Tst.T ?_; conv => whnf)
    refine ask_c (p_law24_awake_v) H rfl rfl (fun v26 H => ?_); conv => whnf
    exact fin0_c (enc := V.b) H (.inr rfl) (.cons (.tmp rfl) (.nil)) rfl rfl
  conv => whnf
  iterate 4 (refine Tst.F ?_; conv => whnf)
  refine tst_c H (fun b3 H => ?_) (fun b3 H => ?_)
  · conv => whnf
    iterate 5 (refine Tst.T ?_; conv => whnf)
    refine ask_c (p_law24_awake_v) H rfl rfl (fun v4 H => ?_); conv => whnf
    exact fin0_c (enc := V.b) H (.inr rfl) (.cons (.tmp rfl) (.nil)) rfl rfl
  conv => whnf
  iterate 4 (refine Tst.F ?_; conv => whnf)
  refine tst_c H (fun b5 H => ?_) (fun b5 H => ?_)
  · conv => whnf
    refine ask_c (p_law24_awake_v) H rfl rfl (fun v6 H => ?_); conv => whnf
    exact fin0_c (enc := V.b) H (.inr rfl) (.cons (.tmp rfl) (.nil)) rfl rfl
  conv => whnf
  refine ask_c (p_law24_own_v _) H rfl rfl (fun v7 H => ?_); conv => whnf
  refine ⟨Nat.le_of_ble_eq_true rfl, ?_⟩; conv => whnf
  refine ask_c (p_book_Set_v _ _ _ _ _) H rfl rfl (fun v8 H => ?_); conv => whnf
  refine ⟨Nat.le_of_ble_eq_true rfl, ?_⟩; conv => whnf
  refine ⟨Nat.le_of_ble_eq_true rfl, ?_⟩; conv => whnf
  refine ask_c (p_ref24_Set_v _ _ _ _ _) H rfl rfl (fun v9 H => ?_); conv => whnf
  refine ⟨Nat.le_of_ble_eq_true rfl, ?_⟩; conv => whnf
  refine ⟨Nat.le_of_ble_eq_true rfl, ?_⟩; conv => whnf
  refine ask_c (p_book_Off_v _ _ _) H rfl rfl (fun v10 H => ?_); conv => whnf
  refine ⟨Nat.le_of_ble_eq_true rfl, ?_⟩; conv => whnf
  refine ⟨Nat.le_of_ble_eq_true rfl, ?_⟩; conv => whnf
  refine ask_c (p_ref24_Off_v _ _ _) H rfl rfl (fun v11 H => ?_); conv => whnf
  refine ⟨Nat.le_of_ble_eq_true rfl, ?_⟩; conv => whnf
  refine ⟨Nat.le_of_ble_eq_true rfl, ?_⟩; conv => whnf
  refine ask_c (p_law24_Back_v _) H rfl rfl (fun v12 H => ?_); conv => whnf
  refine ask_c (p_ref24_Same_v _ _) H rfl rfl (fun v13 H => ?_); conv => whnf
  refine tst_d H (fun b14 H => ?_) (fun b14 H => ?_)
  · conv => whnf
    iterate 27 (refine Tst.F ?_; conv => whnf)
    refine FootQ.mk ⟨rfl, ?_⟩; conv => whnf
    exact fin0_c (enc := V.b) H (.inr rfl) (.cons (.tmp rfl) (.nil)) rfl rfl
  conv => whnf
  iterate 3 (refine Tst.T ?_; conv => whnf)
  refine tst_d H (fun b15 H => ?_) (fun b15 H => ?_)
  · conv => whnf
    iterate 23 (refine Tst.F ?_; conv => whnf)
    refine FootQ.mk ⟨rfl, ?_⟩; conv => whnf
    exact fin0_c (enc := V.b) H (.inr rfl) (.cons (.tmp rfl) (.nil)) rfl rfl
  conv => whnf
  iterate 3 (refine Tst.T ?_; conv => whnf)
  refine tst_d H (fun b16 H => ?_) (fun b16 H => ?_)
  · conv => whnf
    iterate 19 (refine Tst.F ?_; conv => whnf)
    refine FootQ.mk ⟨rfl, ?_⟩; conv => whnf
    exact fin0_c (enc := V.b) H (.inr rfl) (.cons (.tmp rfl) (.nil)) rfl rfl
  conv => whnf
  refine Tst.T ?_; conv => whnf
  refine ask_c (p_law24_Back_v _) H rfl rfl (fun v17 H => ?_); conv => whnf
  iterate 2 (refine Tst.T ?_; conv => whnf)
  refine ask_c (p_ref24_Same_v _ _) H rfl rfl (fun v18 H => ?_); conv => whnf
  refine Tst.T ?_; conv => whnf
  refine tst_d H (fun b19 H => ?_) (fun b19 H => ?_)
  · conv => whnf
    iterate 14 (refine Tst.F ?_; conv => whnf)
    refine FootQ.mk ⟨rfl, ?_⟩; conv => whnf
    exact fin0_c (enc := V.b) H (.inr rfl) (.cons (.tmp rfl) (.nil)) rfl rfl
  conv => whnf
  iterate 3 (refine Tst.T ?_; conv => whnf)
  refine tst_d H (fun b20 H => ?_) (fun b20 H => ?_)
  · conv => whnf
    iterate 10 (refine Tst.F ?_; conv => whnf)
    refine FootQ.mk ⟨rfl, ?_⟩; conv => whnf
    exact fin0_c (enc := V.b) H (.inr rfl) (.cons (.tmp rfl) (.nil)) rfl rfl
  conv => whnf
  iterate 3 (refine Tst.T ?_; conv => whnf)
  refine tst_d H (fun b21 H => ?_) (fun b21 H => ?_)
  · conv => whnf
    iterate 6 (refine Tst.F ?_; conv => whnf)
    refine FootQ.mk ⟨rfl, ?_⟩; conv => whnf
    exact fin0_c (enc := V.b) H (.inr rfl) (.cons (.tmp rfl) (.nil)) rfl rfl
  conv => whnf
  refine Tst.T ?_; conv => whnf
  refine ask_c (p_law24_Back_v _) H rfl rfl (fun v22 H => ?_); conv => whnf
  iterate 2 (refine Tst.T ?_; conv => whnf)
  refine ask_c (p_ref24_Same_v _ _) H rfl rfl (fun v23 H => ?_); conv => whnf
  refine Tst.T ?_; conv => whnf
  refine tst_d H (fun b24 H => ?_) (fun b24 H => ?_)
  · conv => whnf
    refine Tst.F ?_; conv => whnf
    refine FootQ.mk ⟨rfl, ?_⟩; conv => whnf
    exact fin0_c (enc := V.b) H (.inr rfl) (.cons (.tmp rfl) (.nil)) rfl rfl
  conv => whnf
  refine ask_c (p_law24_awake_v) H rfl rfl (fun v25 H => ?_); conv => whnf
  refine Tst.T ?_; conv => whnf
  refine FootQ.mk ⟨rfl, ?_⟩; conv => whnf
  exact fin0_c (enc := V.b) H (.inr rfl) (.cons (.tmp rfl) (.nil)) rfl rfl
def gc31 : BCode := (.seq (.reg 2 [⟨(some 3), .bx (.tmp 0), none, 0⟩, ⟨(some 6), .al (.agg [(.lit (.bool false)), (.lit (.int .i64 0)), (.lit (.int .i64 0)), (.lit (.int .i64 0))]), none, 1⟩, ⟨(some 7), .mv (.const (.bool false)), none, 2⟩] none 0 []) (.seq (.reg 0 [⟨(some 11), .mv (.tmp 1), none, 0⟩, ⟨(some 12), .mv (.tmp 2), none, 0⟩, ⟨(some 13), .cl 51 [(.tmp 11), (.tmp 12)], none, 0⟩, ⟨(some 8), .mv (.tmp 13), none, 0⟩] none 0 []) (.seq (.reg 0 [⟨(some 15), .ld 2 true (.tmp 3), none, 0⟩, ⟨(some 16), .mv (.tmp 8), none, 0⟩, ⟨(some 17), .cl 58 [(.tmp 15), (.tmp 16)], none, 0⟩, ⟨(some 14), .mv (.tmp 17), none, 0⟩, ⟨(some 18), .ex (.tmp 14) 0, none, 0⟩, ⟨(some 19), .ex (.tmp 14) 1, none, 0⟩, ⟨(some 9), .mv (.tmp 18), none, 0⟩, ⟨(some 10), .mv (.tmp 19), none, 0⟩] none 0 []) (.seq (.seq (.reg 0 [⟨(some 20), .ld 2 true (.tmp 3), none, 0⟩, ⟨(some 21), .cl 37 [(.tmp 20)], none, 0⟩, ⟨(some 22), .bin .neq (.tmp 21) (.const (.int .i64 0)), none, 0⟩, ⟨(some 23), .mv (.tmp 22), none, 0⟩, ⟨(some 24), .mv (.tmp 8), (some (23, false)), 0⟩, ⟨(some 25), .bin .eql (.tmp 24) (.const (.string ⟨#[]⟩)), (some (23, false)), 0⟩, ⟨(some 26), .pick (.tmp 23) (.const (.bool true)) (.tmp 25), none, 0⟩, ⟨(some 27), .mv (.tmp 26), none, 0⟩, ⟨(some 28), .mv (.tmp 10), (some (27, false)), 0⟩, ⟨(some 29), .un .not (.tmp 28), (some (27, false)), 0⟩, ⟨(some 30), .pick (.tmp 27) (.const (.bool true)) (.tmp 29), none, 0⟩] none 0 []) (.cond (.tmp 30) (.seq (.reg 0 [⟨(some 31), .bd [(.lit (.bool false)), (.lit (.int .i64 0)), (.lit (.int .i64 0)), (.lit (.int .i64 0))] [], none, 0⟩, ⟨none, .st 4 (.tmp 6) (.tmp 31), none, 0⟩, ⟨(some 7), .mv (.const (.bool false)), none, 0⟩] none 0 []) .ret) .skip)) (.seq (.reg 0 [⟨(some 32), .fa 1 (.tmp 3), none, 0⟩, ⟨(some 33), .ld 1 false (.tmp 32), none, 0⟩, ⟨(some 34), .mv (.tmp 9), none, 0⟩, ⟨(some 35), .ixs 6 (.tmp 33) (.tmp 34), none, 0⟩, ⟨(some 36), .fa 2 (.tmp 35), none, 0⟩, ⟨(some 37), .ld 4 true (.tmp 36), none, 0⟩, ⟨none, .st 4 (.tmp 6) (.tmp 37), none, 0⟩, ⟨(some 7), .mv (.const (.bool true)), none, 0⟩] none 0 []) .ret)))))
theorem gc31_ok : compF Tryz.prog Tryz.f31 = some (gc31.er, 38, [.cell 6 4 true, .tmp 7]) := by unfold gc31; kernel_rfl
set_option maxRecDepth 100000 in
set_option maxHeartbeats 4000000 in
theorem p_ref24_Get_v {u1 : Bool} (a0 : BookState) (a1 : ByteArray) (a2 : ByteArray) : CallsO Tryz.prog 31 [.agg [.i a0.Seq, .sl (List.map BookRow.v a0.Rows) u1], .s a1, .s a2] (fun r : PresPres × Bool => .tup [PresPres.v r.1, V.b r.2]) (p_ref24_Get a0 a1 a2) := by
  refine callsO_comp mix Tryz.func31 gc31_ok fun r H => ?_
  rw [p_ref24_Get] at H
  conv => whnf
  refine ask_c (p_ref23_Key_v _ _) H rfl rfl (fun v1 H => ?_); conv => whnf
  refine ask_c (p_ref24_place_v _ _) H rfl rfl (fun v2 H => ?_); conv => whnf
  refine ask_c (p_ref24_Check_v _) H rfl rfl (fun v3 H => ?_); conv => whnf
  refine tst_c H (fun b4 H => ?_) (fun b4 H => ?_)
  · conv => whnf
    iterate 6 (refine Tst.T ?_; conv => whnf)
    refine ⟨Nat.le_of_ble_eq_true rfl, ?_⟩; conv => whnf
    exact fin0_c (enc := (fun r : PresPres × Bool => .tup [PresPres.v r.1, V.b r.2])) H (.inr rfl) (.cons (.cell rfl rfl (Nat.le_of_ble_eq_true rfl)) (.cons (.tmp rfl) (.nil))) rfl rfl
  conv => whnf
  iterate 2 (refine Tst.F ?_; conv => whnf)
  refine tst_c H (fun b5 H => ?_) (fun b5 H => ?_)
  · conv => whnf
    iterate 3 (refine Tst.T ?_; conv => whnf)
    refine ⟨Nat.le_of_ble_eq_true rfl, ?_⟩; conv => whnf
    exact fin0_c (enc := (fun r : PresPres × Bool => .tup [PresPres.v r.1, V.b r.2])) H (.inr rfl) (.cons (.cell rfl rfl (Nat.le_of_ble_eq_true rfl)) (.cons (.tmp rfl) (.nil))) rfl rfl
  conv => whnf
  iterate 2 (refine Tst.F ?_; conv => whnf)
  refine Tst.not ?_
  refine tst_d H (fun b6 H => ?_) (fun b6 H => ?_)
  · conv => whnf
    refine ⟨Nat.le_of_ble_eq_true rfl, ?_⟩; conv => whnf
    exact fin0_c (enc := (fun r : PresPres × Bool => .tup [PresPres.v r.1, V.b r.2])) H (.inr rfl) (.cons (.cell rfl rfl (Nat.le_of_ble_eq_true rfl)) (.cons (.tmp rfl) (.nil))) rfl rfl
  conv => whnf
  refine ixs_c (f := BookRow.v) H (fun _ => rfl) (fun x7 H => ?_); conv => whnf
  refine ⟨Nat.le_of_ble_eq_true rfl, ?_⟩; conv => whnf
  refine ⟨Nat.le_of_ble_eq_true rfl, ?_⟩; conv => whnf
  exact fin0_c (enc := (fun r : PresPres × Bool => .tup [PresPres.v r.1, V.b r.2])) H (.inr rfl) (.cons (.cell rfl rfl (Nat.le_of_ble_eq_true rfl)) (.cons (.tmp rfl) (.nil))) rfl rfl
def gc39 : BCode := (.seq (.reg 1 [⟨(some 2), .bx (.tmp 0), none, 0⟩, ⟨(some 4), .mv (.const (.slice none 0 0)), none, 1⟩] none 0 []) (.seq (.reg 0 [⟨(some 5), .mv (.const (.slice none 0 0)), none, 0⟩] none 0 []) (.seq (.seq (.reg 0 [⟨(some 6), .mv (.const (.int .i64 0)), none, 0⟩] none 0 []) (.block 0 (.loop (.seq (.seq (.reg 0 [⟨(some 7), .mv (.tmp 6), none, 0⟩, ⟨(some 8), .fa 1 (.tmp 2), none, 0⟩, ⟨(some 9), .ld 1 false (.tmp 8), none, 0⟩, ⟨(some 10), .lens (.tmp 9), none, 0⟩, ⟨(some 11), .bin .lss (.tmp 7) (.tmp 10), none, 0⟩, ⟨(some 12), .mv (.tmp 11), none, 0⟩, ⟨(some 13), .ld 2 true (.tmp 2), (some (12, true)), 0⟩, ⟨(some 14), .cl 37 [(.tmp 13)], (some (12, true)), 0⟩, ⟨(some 15), .bin .eql (.tmp 14) (.const (.int .i64 0)), (some (12, true)), 0⟩, ⟨(some 16), .pick (.tmp 12) (.tmp 15) (.const (.bool false)), none, 0⟩] none 0 []) (.cond (.tmp 16) .skip (.exit 0))) (.seq (.block 1 (.seq (.reg 0 [⟨(some 19), .fa 1 (.tmp 2), none, 0⟩, ⟨(some 20), .ld 1 false (.tmp 19), none, 0⟩, ⟨(some 21), .mv (.tmp 6), none, 0⟩, ⟨(some 22), .ixs 6 (.tmp 20) (.tmp 21), none, 0⟩, ⟨(some 23), .fa 0 (.tmp 22), none, 0⟩, ⟨(some 24), .ld 1 false (.tmp 23), none, 0⟩, ⟨(some 25), .mv (.tmp 1), none, 0⟩, ⟨(some 26), .bin .eql (.tmp 24) (.tmp 25), none, 0⟩] none 0 []) (.cond (.tmp 26) (.reg 2 [⟨(some 27), .mv (.tmp 5), none, 0⟩, ⟨(some 28), .fa 1 (.tmp 2), none, 0⟩, ⟨(some 29), .ld 1 false (.tmp 28), none, 0⟩, ⟨(some 30), .mv (.tmp 6), none, 0⟩, ⟨(some 31), .ixs 6 (.tmp 29) (.tmp 30), none, 0⟩, ⟨(some 32), .ld 6 true (.tmp 31), none, 0⟩, ⟨(some 33), .bs 6 1 [(.lit (.string ⟨#[]⟩)), (.lit (.string ⟨#[]⟩)), (.lit (.bool false)), (.lit (.int .i64 0)), (.lit (.int .i64 0)), (.lit (.int .i64 0))] [(0, (.tmp 32))], none, 0⟩, ⟨(some 34), .ap 6 64 (.tmp 27) (.tmp 33), none, 1⟩, ⟨(some 5), .mv (.tmp 34), none, 2⟩] none 0 []) .skip))) (.reg 0 [⟨(some 17), .mv (.tmp 6), none, 0⟩, ⟨(some 18), .bin .add (.tmp 17) (.const (.int .i64 1)), none, 0⟩, ⟨(some 6), .mv (.tmp 18), none, 0⟩] none 0 [])))))) (.seq (.reg 0 [⟨(some 35), .mv (.tmp 5), none, 0⟩, ⟨(some 4), .mv (.tmp 35), none, 0⟩] none 0 []) .ret))))
theorem gc39_ok : compF Tryz.prog Tryz.f39 = some (gc39.er, 36, [.tmp 4]) := by unfold gc39; kernel_rfl
set_option maxRecDepth 100000 in
set_option maxHeartbeats 4000000 in
theorem p_ref24_Of_v {u1 : Bool} (a0 : BookState) (a1 : ByteArray) : CallsO Tryz.prog 39 [.agg [.i a0.Seq, .sl (List.map BookRow.v a0.Rows) u1], .s a1] (fun l : List BookRow => V.sl (l.map BookRow.v) false) (p_ref24_Of a0 a1) := by
  refine callsO_comp mix Tryz.func39 gc39_ok fun r H => ?_
  rw [p_ref24_Of] at H
  conv => whnf
  obtain ⟨o2, HL3, HQ4⟩ := bind_c H
  refine loop_c [5, 6] [7, 8, 9, 10, 11, 12, 13, 14, 15, 16, 17, 18, 19, 20, 21, 22, 23, 24, 25, 26, 27, 28, 29, 30, 31, 32, 33, 34] [7, 8, 9, 10, 11, 12, 13, 14, 15, 16, 17, 18, 19, 20, 21, 22, 23, 24, 25, 26, 27, 28, 29, 30, 31, 32, 33, 34] (fun n vals st => (∃ y6, p_ref24_Of_l1  a1 a0 n [] y6 = some o2 ∧ vals = [.sl (List.map BookRow.v []) true, .i y6] ∧ st = [.live [.i a0.Seq, .sl (List.map BookRow.v a0.Rows) u1] 0]) ∨ (∃ y14 y15, p_ref24_Of_l1  a1 a0 n y14 y15 = some o2 ∧ vals = [.osl 1 0 (List.length y14) 6 false, .i y15] ∧ st = [.live [.i a0.Seq, .sl (List.map BookRow.v a0.Rows) u1] 0, .live (cellsM BookRow.v y14) (cellsM BookRow.v y14).length])) fuel 1 [] (.inl (⟨_, HL3, rfl, rfl⟩)) (Nat.zero_le _) rfl (by kernel_rfl) (by kernel_rfl) rfl ⟨⟨rfl, rfl, rfl⟩, trivial⟩ ?_
  rintro (_ | n5) _ _ (⟨y6, H, rfl, rfl⟩ | ⟨y14, y15, H, rfl, rfl⟩)
  · rw [p_ref24_Of_l1] at H; cases H
  · rw [p_ref24_Of_l1] at H; cases H
  · rw [p_ref24_Of_l1] at H
    conv => whnf
    refine LenQ.M ?_; conv => whnf
    refine tst_d H (fun b7 H => ?_) (fun b7 H => ?_)
    · conv => whnf
      iterate 4 (refine Tst.F ?_; conv => whnf)
      obtain rfl := Option.some.inj H
      have H := HQ4
      try dsimp only at H
      refine finR_c (enc := (fun l : List BookRow => V.sl (l.map BookRow.v) false)) H ?_; conv => whnf
      exact ⟨_, .v (.c (.slw))⟩
    conv => whnf
    refine Tst.T ?_; conv => whnf
    refine ask_c (p_ref24_Check_v _) H rfl rfl (fun v8 H => ?_); conv => whnf
    iterate 2 (refine Tst.T ?_; conv => whnf)
    refine tst_d H (fun b9 H => ?_) (fun b9 H => ?_)
    · conv => whnf
      obtain rfl := Option.some.inj H
      have H := HQ4
      try dsimp only at H
      refine finR_c (enc := (fun l : List BookRow => V.sl (l.map BookRow.v) false)) H ?_; conv => whnf
      exact ⟨_, .v (.c (.slw))⟩
    conv => whnf
    refine ixs_c (f := BookRow.v) H (fun _ => rfl) (fun x10 H => ?_); conv => whnf
    refine ⟨Nat.le_of_ble_eq_true rfl, ?_⟩; conv => whnf
    refine tst_d H (fun b11 H => ?_) (fun b11 H => ?_)
    · conv => whnf
      refine Ari.w ?_; conv => whnf
      exact again_c [7, 8, 9, 10, 11, 12, 13, 14, 15, 16, 17, 18, 19, 20, 21, 22, 23, 24, 25, 26, 27, 28, 29, 30, 31, 32, 33, 34] n5 1 [] (.inl (⟨_, H, rfl, rfl⟩)) (Nat.lt_succ_self _) (Nat.zero_le _) rfl (by kernel_rfl) (by kernel_rfl) rfl ⟨⟨rfl, rfl, rfl⟩, trivial⟩
    conv => whnf
    refine ixs_c (f := BookRow.v) H (fun _ => rfl) (fun x12 H => ?_); conv => whnf
    refine appN_c (f := BookRow.v) H (fun _ => rfl) (srcM (f := BookRow.v) (fun _ => rfl) _ _) rfl (.v (srcOwn (f := BookRow.v) (l := [x12]) (fun _ => rfl) rfl rfl rfl)) (by decide) rfl (by simp) (fun l13 H => ?_); conv => whnf
    refine Ari.w ?_; conv => whnf
    exact again_c [7, 8, 9, 10, 11, 12, 13, 14, 15, 16, 17, 18, 19, 20, 21, 22, 23, 24, 25, 26, 27, 28, 29, 30, 31, 32, 33, 34] n5 2 [0, 2] (.inr (⟨_, _, H, rfl, rfl⟩)) (Nat.lt_succ_self _) (Nat.zero_le _) rfl (by kernel_rfl) (by kernel_rfl) rfl ⟨⟨rfl, rfl, rfl⟩, wkB_live0 rfl (cellsM_idlt (f := BookRow.v) (fun _ => rfl) _) rfl trivial⟩
  rw [p_ref24_Of_l1] at H
  conv => whnf
  refine LenQ.M ?_; conv => whnf
  refine tst_d H (fun b16 H => ?_) (fun b16 H => ?_)
  · conv => whnf
    iterate 4 (refine Tst.F ?_; conv => whnf)
    obtain rfl := Option.some.inj H
    have H := HQ4
    try dsimp only at H
    refine finR_c (enc := (fun l : List BookRow => V.sl (l.map BookRow.v) false)) H ?_; conv => whnf
    exact ⟨_, .v (.c (fzown (f := BookRow.v) (l := y14) rfl rfl (fun _ => rfl) (fun _ => rfl)))⟩
  conv => whnf
  refine Tst.T ?_; conv => whnf
  refine ask_c (p_ref24_Check_v _) H rfl rfl (fun v17 H => ?_); conv => whnf
  iterate 2 (refine Tst.T ?_; conv => whnf)
  refine tst_d H (fun b18 H => ?_) (fun b18 H => ?_)
  · conv => whnf
    obtain rfl := Option.some.inj H
    have H := HQ4
    try dsimp only at H
    refine finR_c (enc := (fun l : List BookRow => V.sl (l.map BookRow.v) false)) H ?_; conv => whnf
    exact ⟨_, .v (.c (fzown (f := BookRow.v) (l := y14) rfl rfl (fun _ => rfl) (fun _ => rfl)))⟩
  conv => whnf
  refine ixs_c (f := BookRow.v) H (fun _ => rfl) (fun x19 H => ?_); conv => whnf
  refine ⟨Nat.le_of_ble_eq_true rfl, ?_⟩; conv => whnf
  refine tst_d H (fun b20 H => ?_) (fun b20 H => ?_)
  · conv => whnf
    refine Ari.w ?_; conv => whnf
    exact again_c [7, 8, 9, 10, 11, 12, 13, 14, 15, 16, 17, 18, 19, 20, 21, 22, 23, 24, 25, 26, 27, 28, 29, 30, 31, 32, 33, 34] n5 2 [] (.inr (⟨_, _, H, rfl, rfl⟩)) (Nat.lt_succ_self _) (Nat.zero_le _) rfl (by kernel_rfl) (by kernel_rfl) rfl ⟨⟨rfl, rfl, rfl⟩, wkB_live0 rfl (cellsM_idlt (f := BookRow.v) (fun _ => rfl) _) rfl trivial⟩
  conv => whnf
  refine ixs_c (f := BookRow.v) H (fun _ => rfl) (fun x21 H => ?_); conv => whnf
  refine appO_c (f := BookRow.v) H (fun _ => rfl) rfl (Nat.le_refl _) (.v (srcOwn (f := BookRow.v) (l := [x21]) (fun _ => rfl) rfl rfl rfl)) (by decide) rfl (by simp) (fun l22 H => ?_); conv => whnf
  refine Ari.w ?_; conv => whnf
  exact again_c [7, 8, 9, 10, 11, 12, 13, 14, 15, 16, 17, 18, 19, 20, 21, 22, 23, 24, 25, 26, 27, 28, 29, 30, 31, 32, 33, 34] n5 2 [0, 3] (.inr (⟨_, _, H, rfl, rfl⟩)) (Nat.lt_succ_self _) (Nat.zero_le _) rfl (by kernel_rfl) (by kernel_rfl) rfl ⟨⟨rfl, rfl, rfl⟩, wkB_live0 rfl (cellsM_idlt (f := BookRow.v) (fun _ => rfl) _) rfl trivial⟩
def gc93 : BCode := (.seq (.reg 2 [⟨(some 2), .bx (.tmp 0), none, 0⟩, ⟨(some 3), .bx (.tmp 1), none, 1⟩, ⟨(some 4), .mv (.const (.bool false)), none, 2⟩] none 0 []) (.seq (.reg 0 [⟨(some 5), .fa 3 (.tmp 2), none, 0⟩, ⟨(some 6), .ld 1 false (.tmp 5), none, 0⟩, ⟨(some 7), .fa 3 (.tmp 3), none, 0⟩, ⟨(some 8), .ld 1 false (.tmp 7), none, 0⟩, ⟨(some 9), .bin .gtr (.tmp 6) (.tmp 8), none, 0⟩, ⟨(some 4), .mv (.tmp 9), none, 0⟩] none 0 []) .ret))
theorem gc93_ok : compF Tryz.prog Tryz.f93 = some (gc93.er, 10, [.tmp 4]) := by unfold gc93; kernel_rfl
set_option maxRecDepth 100000 in
set_option maxHeartbeats 4000000 in
theorem p_ref23_Newer_v (a0 : PresPres) (a1 : PresPres) : CallsO Tryz.prog 93 [.agg [.b a0.On, .i a0.Show, .i a0.Prio, .i a0.Seq], .agg [.b a1.On, .i a1.Show, .i a1.Prio, .i a1.Seq]] V.b (p_ref23_Newer a0 a1) := by
  refine callsO_comp mix Tryz.func93 gc93_ok fun r H => ?_
  rw [p_ref23_Newer] at H
  conv => whnf
  exact fin0_c (enc := V.b) H (.inr rfl) (.cons (.tmp rfl) (.nil)) rfl rfl
end Go.Proofs.YtljeinlapkgjeaaGreat
