/- DirsChanges: for every input the call returns true, and its arguments read as they did. -/
import Derived.Test.YthmgficajgedlaaGreatRaA11
import Derived.Test.YthmgficajgedlaaGreatRaA14
import Derived.Test.YthmgficajgedlaaGreatRaA8
import Derived.KernelRfl
import Derived.Test.YthmgficajgedlaaGreatRaA12
import Derived.Test.YthmgficajgedlaaGreatRaA13
import Derived.Test.YthmgficajgedlaaGreatRows
set_option linter.all false
/- That the program's functions yield what the plain ones tell (written by a program of mine). -/
namespace Go.Proofs.YthmgficajgedlaaGreat
open Go.RowKit
def gc29 : BCode := (.seq (.reg 0 [⟨(some 6), .mv (.const (.slice none 0 0)), none, 0⟩, ⟨(some 7), .mv (.const (.bool false)), none, 0⟩] none 0 []) (.seq (.seq (.reg 0 [⟨(some 10), .mv (.tmp 0), none, 0⟩, ⟨(some 11), .mv (.tmp 1), none, 0⟩, ⟨(some 12), .mv (.tmp 2), none, 0⟩, ⟨(some 13), .cl 90 [(.tmp 10), (.tmp 11), (.tmp 12)], none, 0⟩, ⟨(some 14), .un .not (.tmp 13), none, 0⟩] none 0 []) (.cond (.tmp 14) (.seq (.reg 0 [⟨(some 15), .mv (.tmp 0), none, 0⟩, ⟨(some 6), .mv (.tmp 15), none, 0⟩, ⟨(some 7), .mv (.const (.bool false)), none, 0⟩] none 0 []) .ret) .skip)) (.seq (.reg 0 [⟨(some 8), .mv (.const (.slice none 0 0)), none, 0⟩] none 0 []) (.seq (.seq (.reg 0 [⟨(some 9), .mv (.const (.int .i64 0)), none, 0⟩] none 0 []) (.block 0 (.loop (.seq (.seq (.reg 0 [⟨(some 16), .mv (.tmp 9), none, 0⟩, ⟨(some 17), .mv (.tmp 0), none, 0⟩, ⟨(some 18), .lens (.tmp 17), none, 0⟩, ⟨(some 19), .bin .lss (.tmp 16) (.tmp 18), none, 0⟩] none 0 []) (.cond (.tmp 19) .skip (.exit 0))) (.seq (.block 1 (.seq (.reg 0 [⟨(some 22), .mv (.tmp 0), none, 0⟩, ⟨(some 23), .mv (.tmp 9), none, 0⟩, ⟨(some 24), .ixs 2 (.tmp 22) (.tmp 23), none, 0⟩, ⟨(some 25), .fa 0 (.tmp 24), none, 0⟩, ⟨(some 26), .ld 1 false (.tmp 25), none, 0⟩, ⟨(some 27), .mv (.tmp 1), none, 0⟩, ⟨(some 28), .bin .neq (.tmp 26) (.tmp 27), none, 0⟩, ⟨(some 29), .mv (.tmp 28), none, 0⟩, ⟨(some 30), .mv (.tmp 0), (some (29, false)), 0⟩, ⟨(some 31), .mv (.tmp 9), (some (29, false)), 0⟩, ⟨(some 32), .ixs 2 (.tmp 30) (.tmp 31), (some (29, false)), 0⟩, ⟨(some 33), .fa 1 (.tmp 32), (some (29, false)), 0⟩, ⟨(some 34), .ld 1 false (.tmp 33), (some (29, false)), 0⟩, ⟨(some 35), .mv (.tmp 2), (some (29, false)), 0⟩, ⟨(some 36), .bin .neq (.tmp 34) (.tmp 35), (some (29, false)), 0⟩, ⟨(some 37), .pick (.tmp 29) (.const (.bool true)) (.tmp 36), none, 0⟩] none 0 []) (.cond (.tmp 37) (.reg 2 [⟨(some 38), .mv (.tmp 8), none, 0⟩, ⟨(some 39), .mv (.tmp 0), none, 0⟩, ⟨(some 40), .mv (.tmp 9), none, 0⟩, ⟨(some 41), .ixs 2 (.tmp 39) (.tmp 40), none, 0⟩, ⟨(some 42), .ld 2 true (.tmp 41), none, 0⟩, ⟨(some 43), .bs 2 1 [(.lit (.string ⟨#[]⟩)), (.lit (.string ⟨#[]⟩))] [(0, (.tmp 42))], none, 0⟩, ⟨(some 44), .ap 2 32 (.tmp 38) (.tmp 43), none, 1⟩, ⟨(some 8), .mv (.tmp 44), none, 2⟩] none 0 []) .skip))) (.reg 0 [⟨(some 20), .mv (.tmp 9), none, 0⟩, ⟨(some 21), .bin .add (.tmp 20) (.const (.int .i64 1)), none, 0⟩, ⟨(some 9), .mv (.tmp 21), none, 0⟩] none 0 [])))))) (.seq (.reg 0 [⟨(some 45), .mv (.tmp 8), none, 0⟩, ⟨(some 6), .mv (.tmp 45), none, 0⟩, ⟨(some 7), .mv (.const (.bool true)), none, 0⟩] none 0 []) .ret)))))
theorem gc29_ok : compF Tryz.prog Tryz.f29 = some (gc29.er, 46, [.tmp 6, .tmp 7]) := by unfold gc29; kernel_rfl
set_option maxRecDepth 100000 in
set_option maxHeartbeats 4000000 in
theorem p_ref29_Del_v {u1 : Bool} (a0 : List Ref29Arrow) (a1 : ByteArray) (a2 : ByteArray) : CallsO Tryz.prog 29 [.sl (List.map Ref29Arrow.v a0) u1, .s a1, .s a2] (fun r : (List Ref29Arrow) × Bool => .tup [(fun l : List Ref29Arrow => V.sl (l.map Ref29Arrow.v) false) r.1, V.b r.2]) (p_ref29_Del a0 a1 a2) := by
  refine callsO_comp mix Tryz.func29 gc29_ok fun r H => ?_
  rw [p_ref29_Del] at H
  conv => whnf
  refine ask_c (p_ref29_Has_v _ _ _) H rfl rfl (fun v1 H => ?_); conv => whnf
  refine Tst.not ?_
  refine tst_d H (fun b2 H => ?_) (fun b2 H => ?_)
  · conv => whnf
    refine finR_c (enc := (fun r : (List Ref29Arrow) × Bool => .tup [(fun l : List Ref29Arrow => V.sl (l.map Ref29Arrow.v) false) r.1, V.b r.2])) H ?_; conv => whnf
    exact ⟨_, .tup (.cons (.c (.slw)) (.cons (.c (.id rfl)) (.nil)))⟩
  conv => whnf
  obtain ⟨o4, HL5, HQ6⟩ := bind_c H
  refine loop_c [8, 9] [16, 17, 18, 19, 20, 21, 22, 23, 24, 25, 26, 27, 28, 29, 30, 31, 32, 33, 34, 35, 36, 37, 38, 39, 40, 41, 42, 43, 44] [16, 17, 18, 19, 20, 21, 22, 23, 24, 25, 26, 27, 28, 29, 30, 31, 32, 33, 34, 35, 36, 37, 38, 39, 40, 41, 42, 43, 44] (fun n vals st => (∃ y8, p_ref29_Del_l1  a0 a1 a2 n [] y8 = some o4 ∧ vals = [.sl (List.map Ref29Arrow.v []) true, .i y8] ∧ st = []) ∨ (∃ y16 y17, p_ref29_Del_l1  a0 a1 a2 n y16 y17 = some o4 ∧ vals = [.osl 0 0 (List.length y16) 2 false, .i y17] ∧ st = [.live (cellsM Ref29Arrow.v y16) (cellsM Ref29Arrow.v y16).length])) fuel 0 [] (.inl (⟨_, HL5, rfl, rfl⟩)) (Nat.zero_le _) rfl (by kernel_rfl) (by kernel_rfl) rfl trivial ?_
  rintro (_ | n7) _ _ (⟨y8, H, rfl, rfl⟩ | ⟨y16, y17, H, rfl, rfl⟩)
  · rw [p_ref29_Del_l1] at H; cases H
  · rw [p_ref29_Del_l1] at H; cases H
  · rw [p_ref29_Del_l1] at H
    conv => whnf
    refine LenQ.M ?_; conv => whnf
    refine tst_d H (fun b9 H => ?_) (fun b9 H => ?_)
    · conv => whnf
      obtain rfl := Option.some.inj H
      have H := HQ6
      try dsimp only at H
      refine finR_c (enc := (fun r : (List Ref29Arrow) × Bool => .tup [(fun l : List Ref29Arrow => V.sl (l.map Ref29Arrow.v) false) r.1, V.b r.2])) H ?_; conv => whnf
      exact ⟨_, .tup (.cons (.c (.slw)) (.cons (.c (.id rfl)) (.nil)))⟩
    conv => whnf
    refine ixs_c (f := Ref29Arrow.v) H (fun _ => rfl) (fun x10 H => ?_); conv => whnf
    refine ⟨Nat.le_of_ble_eq_true rfl, ?_⟩; conv => whnf
    refine Tst.not ?_
    refine tst_d H (fun b11 H => ?_) (fun b11 H => ?_)
    · conv => whnf
      iterate 8 (refine Tst.T ?_; conv => whnf)
      refine ixs_c (f := Ref29Arrow.v) H (fun _ => rfl) (fun x18 H => ?_); conv => whnf
      refine appN_c (f := Ref29Arrow.v) H (fun _ => rfl) (srcM (f := Ref29Arrow.v) (fun _ => rfl) _ _) rfl (.v (srcOwn (f := Ref29Arrow.v) (l := [x18]) (fun _ => rfl) rfl rfl rfl)) (by decide) rfl (by simp) (fun l19 H => ?_); conv => whnf
      refine Ari.w ?_; conv => whnf
      exact again_c [16, 17, 18, 19, 20, 21, 22, 23, 24, 25, 26, 27, 28, 29, 30, 31, 32, 33, 34, 35, 36, 37, 38, 39, 40, 41, 42, 43, 44] n7 1 [1] (.inr (⟨_, _, H, rfl, rfl⟩)) (Nat.lt_succ_self _) (Nat.zero_le _) rfl (by kernel_rfl) (by kernel_rfl) rfl (wkB_live0 rfl (cellsM_idlt (f := Ref29Arrow.v) (fun _ => rfl) _) rfl trivial)
    conv => whnf
    iterate 2 (refine Tst.F ?_; conv => whnf)
    refine ixs_c (f := Ref29Arrow.v) H (fun _ => rfl) (fun x12 H => ?_); conv => whnf
    refine Tst.F ?_; conv => whnf
    refine ⟨Nat.le_of_ble_eq_true rfl, ?_⟩; conv => whnf
    iterate 4 (refine Tst.F ?_; conv => whnf)
    refine Tst.not ?_
    refine tst_c H (fun b13 H => ?_) (fun b13 H => ?_)
    · conv => whnf
      refine Ari.w ?_; conv => whnf
      exact again_c [16, 17, 18, 19, 20, 21, 22, 23, 24, 25, 26, 27, 28, 29, 30, 31, 32, 33, 34, 35, 36, 37, 38, 39, 40, 41, 42, 43, 44] n7 0 [] (.inl (⟨_, H, rfl, rfl⟩)) (Nat.lt_succ_self _) (Nat.zero_le _) rfl (by kernel_rfl) (by kernel_rfl) rfl trivial
    conv => whnf
    refine ixs_c (f := Ref29Arrow.v) H (fun _ => rfl) (fun x14 H => ?_); conv => whnf
    refine appN_c (f := Ref29Arrow.v) H (fun _ => rfl) (srcM (f := Ref29Arrow.v) (fun _ => rfl) _ _) rfl (.v (srcOwn (f := Ref29Arrow.v) (l := [x14]) (fun _ => rfl) rfl rfl rfl)) (by decide) rfl (by simp) (fun l15 H => ?_); conv => whnf
    refine Ari.w ?_; conv => whnf
    exact again_c [16, 17, 18, 19, 20, 21, 22, 23, 24, 25, 26, 27, 28, 29, 30, 31, 32, 33, 34, 35, 36, 37, 38, 39, 40, 41, 42, 43, 44] n7 1 [1] (.inr (⟨_, _, H, rfl, rfl⟩)) (Nat.lt_succ_self _) (Nat.zero_le _) rfl (by kernel_rfl) (by kernel_rfl) rfl (wkB_live0 rfl (cellsM_idlt (f := Ref29Arrow.v) (fun _ => rfl) _) rfl trivial)
  rw [p_ref29_Del_l1] at H
  conv => whnf
  refine LenQ.M ?_; conv => whnf
  refine tst_d H (fun b20 H => ?_) (fun b20 H => ?_)
  · conv => whnf
    obtain rfl := Option.some.inj H
    have H := HQ6
    try dsimp only at H
    refine finR_c (enc := (fun r : (List Ref29Arrow) × Bool => .tup [(fun l : List Ref29Arrow => V.sl (l.map Ref29Arrow.v) false) r.1, V.b r.2])) H ?_; conv => whnf
    exact ⟨_, .tup (.cons (.c (fzown (f := Ref29Arrow.v) (l := y16) rfl rfl (fun _ => rfl) (fun _ => rfl))) (.cons (.c (.id rfl)) (.nil)))⟩
  conv => whnf
  refine ixs_c (f := Ref29Arrow.v) H (fun _ => rfl) (fun x21 H => ?_); conv => whnf
  refine ⟨Nat.le_of_ble_eq_true rfl, ?_⟩; conv => whnf
  refine Tst.not ?_
  refine tst_d H (fun b22 H => ?_) (fun b22 H => ?_)
  · conv => whnf
    iterate 8 (refine Tst.T ?_; conv => whnf)
    refine ixs_c (f := Ref29Arrow.v) H (fun _ => rfl) (fun x27 H => ?_); conv => whnf
    refine appO_c (f := Ref29Arrow.v) H (fun _ => rfl) rfl (Nat.le_refl _) (.v (srcOwn (f := Ref29Arrow.v) (l := [x27]) (fun _ => rfl) rfl rfl rfl)) (by decide) rfl (by simp) (fun l28 H => ?_); conv => whnf
    refine Ari.w ?_; conv => whnf
    exact again_c [16, 17, 18, 19, 20, 21, 22, 23, 24, 25, 26, 27, 28, 29, 30, 31, 32, 33, 34, 35, 36, 37, 38, 39, 40, 41, 42, 43, 44] n7 1 [2] (.inr (⟨_, _, H, rfl, rfl⟩)) (Nat.lt_succ_self _) (Nat.zero_le _) rfl (by kernel_rfl) (by kernel_rfl) rfl (wkB_live0 rfl (cellsM_idlt (f := Ref29Arrow.v) (fun _ => rfl) _) rfl trivial)
  conv => whnf
  iterate 2 (refine Tst.F ?_; conv => whnf)
  refine ixs_c (f := Ref29Arrow.v) H (fun _ => rfl) (fun x23 H => ?_); conv => whnf
  refine Tst.F ?_; conv => whnf
  refine ⟨Nat.le_of_ble_eq_true rfl, ?_⟩; conv => whnf
  iterate 4 (refine Tst.F ?_; conv => whnf)
  refine Tst.not ?_
  refine tst_c H (fun b24 H => ?_) (fun b24 H => ?_)
  · conv => whnf
    refine Ari.w ?_; conv => whnf
    exact again_c [16, 17, 18, 19, 20, 21, 22, 23, 24, 25, 26, 27, 28, 29, 30, 31, 32, 33, 34, 35, 36, 37, 38, 39, 40, 41, 42, 43, 44] n7 1 [] (.inr (⟨_, _, H, rfl, rfl⟩)) (Nat.lt_succ_self _) (Nat.zero_le _) rfl (by kernel_rfl) (by kernel_rfl) rfl (wkB_live0 rfl (cellsM_idlt (f := Ref29Arrow.v) (fun _ => rfl) _) rfl trivial)
  conv => whnf
  refine ixs_c (f := Ref29Arrow.v) H (fun _ => rfl) (fun x25 H => ?_); conv => whnf
  refine appO_c (f := Ref29Arrow.v) H (fun _ => rfl) rfl (Nat.le_refl _) (.v (srcOwn (f := Ref29Arrow.v) (l := [x25]) (fun _ => rfl) rfl rfl rfl)) (by decide) rfl (by simp) (fun l26 H => ?_); conv => whnf
  refine Ari.w ?_; conv => whnf
  exact again_c [16, 17, 18, 19, 20, 21, 22, 23, 24, 25, 26, 27, 28, 29, 30, 31, 32, 33, 34, 35, 36, 37, 38, 39, 40, 41, 42, 43, 44] n7 1 [2] (.inr (⟨_, _, H, rfl, rfl⟩)) (Nat.lt_succ_self _) (Nat.zero_le _) rfl (by kernel_rfl) (by kernel_rfl) rfl (wkB_live0 rfl (cellsM_idlt (f := Ref29Arrow.v) (fun _ => rfl) _) rfl trivial)
def gc96 : BCode := (.seq (.reg 0 [⟨(some 4), .mv (.const (.slice none 0 0)), none, 0⟩] none 0 []) (.seq (.reg 0 [⟨(some 5), .mv (.const (.slice none 0 0)), none, 0⟩] none 0 []) (.seq (.seq (.reg 0 [⟨(some 6), .mv (.const (.int .i64 0)), none, 0⟩] none 0 []) (.block 0 (.loop (.seq (.seq (.reg 0 [⟨(some 7), .mv (.tmp 6), none, 0⟩, ⟨(some 8), .mv (.tmp 0), none, 0⟩, ⟨(some 9), .lens (.tmp 8), none, 0⟩, ⟨(some 10), .bin .lss (.tmp 7) (.tmp 9), none, 0⟩, ⟨(some 11), .mv (.tmp 10), none, 0⟩, ⟨(some 12), .mv (.tmp 0), (some (11, true)), 0⟩, ⟨(some 13), .cl 88 [(.tmp 12)], (some (11, true)), 0⟩, ⟨(some 14), .bin .eql (.tmp 13) (.const (.int .i64 0)), (some (11, true)), 0⟩, ⟨(some 15), .pick (.tmp 11) (.tmp 14) (.const (.bool false)), none, 0⟩] none 0 []) (.cond (.tmp 15) .skip (.exit 0))) (.seq (.block 1 (.seq (.reg 0 [⟨(some 18), .mv (.tmp 0), none, 0⟩, ⟨(some 19), .mv (.tmp 6), none, 0⟩, ⟨(some 20), .ixs 2 (.tmp 18) (.tmp 19), none, 0⟩, ⟨(some 21), .fa 0 (.tmp 20), none, 0⟩, ⟨(some 22), .ld 1 false (.tmp 21), none, 0⟩, ⟨(some 23), .mv (.tmp 1), none, 0⟩, ⟨(some 24), .bin .eql (.tmp 22) (.tmp 23), none, 0⟩] none 0 []) (.cond (.tmp 24) (.reg 2 [⟨(some 25), .mv (.tmp 5), none, 0⟩, ⟨(some 26), .mv (.tmp 0), none, 0⟩, ⟨(some 27), .mv (.tmp 6), none, 0⟩, ⟨(some 28), .ixs 2 (.tmp 26) (.tmp 27), none, 0⟩, ⟨(some 29), .fa 1 (.tmp 28), none, 0⟩, ⟨(some 30), .ld 1 false (.tmp 29), none, 0⟩, ⟨(some 31), .bs 1 1 [(.lit (.string ⟨#[]⟩))] [(0, (.tmp 30))], none, 0⟩, ⟨(some 32), .ap 1 16 (.tmp 25) (.tmp 31), none, 1⟩, ⟨(some 5), .mv (.tmp 32), none, 2⟩] none 0 []) .skip))) (.reg 0 [⟨(some 16), .mv (.tmp 6), none, 0⟩, ⟨(some 17), .bin .add (.tmp 16) (.const (.int .i64 1)), none, 0⟩, ⟨(some 6), .mv (.tmp 17), none, 0⟩] none 0 [])))))) (.seq (.reg 0 [⟨(some 33), .mv (.tmp 5), none, 0⟩, ⟨(some 4), .mv (.tmp 33), none, 0⟩] none 0 []) .ret))))
theorem gc96_ok : compF Tryz.prog Tryz.f96 = some (gc96.er, 34, [.tmp 4]) := by unfold gc96; kernel_rfl
set_option maxRecDepth 100000 in
set_option maxHeartbeats 4000000 in
theorem p_ref29_Of_v {u1 : Bool} (a0 : List Ref29Arrow) (a1 : ByteArray) : CallsO Tryz.prog 96 [.sl (List.map Ref29Arrow.v a0) u1, .s a1] (fun l : List ByteArray => V.sl (l.map V.s) false) (p_ref29_Of a0 a1) := by
  refine callsO_comp mix Tryz.func96 gc96_ok fun r H => ?_
  rw [p_ref29_Of] at H
  conv => whnf
  obtain ⟨o2, HL3, HQ4⟩ := bind_c H
  refine loop_c [5, 6] [7, 8, 9, 10, 11, 12, 13, 14, 15, 16, 17, 18, 19, 20, 21, 22, 23, 24, 25, 26, 27, 28, 29, 30, 31, 32] [7, 8, 9, 10, 11, 12, 13, 14, 15, 16, 17, 18, 19, 20, 21, 22, 23, 24, 25, 26, 27, 28, 29, 30, 31, 32] (fun n vals st => (∃ y6, p_ref29_Of_l1  a0 a1 n [] y6 = some o2 ∧ vals = [.sl (List.map V.s []) true, .i y6] ∧ st = []) ∨ (∃ y14 y15, p_ref29_Of_l1  a0 a1 n y14 y15 = some o2 ∧ vals = [.osl 0 0 (List.length y14) 1 false, .i y15] ∧ st = [.live (cellsM V.s y14) (cellsM V.s y14).length])) fuel 0 [] (.inl (⟨_, HL3, rfl, rfl⟩)) (Nat.zero_le _) rfl (by kernel_rfl) (by kernel_rfl) rfl trivial ?_
  rintro (_ | n5) _ _ (⟨y6, H, rfl, rfl⟩ | ⟨y14, y15, H, rfl, rfl⟩)
  · rw [p_ref29_Of_l1] at H; cases H
  · rw [p_ref29_Of_l1] at H; cases H
  · rw [p_ref29_Of_l1] at H
    conv => whnf
    refine LenQ.M ?_; conv => whnf
    refine tst_d H (fun b7 H => ?_) (fun b7 H => ?_)
    · conv => whnf
      iterate 4 (refine Tst.F ?_; conv => whnf)
      obtain rfl := Option.some.inj H
      have H := HQ4
      try dsimp only at H
      refine finR_c (enc := (fun l : List ByteArray => V.sl (l.map V.s) false)) H ?_; conv => whnf
      exact ⟨_, .v (.c (.slw))⟩
    conv => whnf
    refine Tst.T ?_; conv => whnf
    refine ask_c (p_ref29_Check_v _) H rfl rfl (fun v8 H => ?_); conv => whnf
    iterate 2 (refine Tst.T ?_; conv => whnf)
    refine tst_d H (fun b9 H => ?_) (fun b9 H => ?_)
    · conv => whnf
      obtain rfl := Option.some.inj H
      have H := HQ4
      try dsimp only at H
      refine finR_c (enc := (fun l : List ByteArray => V.sl (l.map V.s) false)) H ?_; conv => whnf
      exact ⟨_, .v (.c (.slw))⟩
    conv => whnf
    refine ixs_c (f := Ref29Arrow.v) H (fun _ => rfl) (fun x10 H => ?_); conv => whnf
    refine ⟨Nat.le_of_ble_eq_true rfl, ?_⟩; conv => whnf
    refine tst_d H (fun b11 H => ?_) (fun b11 H => ?_)
    · conv => whnf
      refine Ari.w ?_; conv => whnf
      exact again_c [7, 8, 9, 10, 11, 12, 13, 14, 15, 16, 17, 18, 19, 20, 21, 22, 23, 24, 25, 26, 27, 28, 29, 30, 31, 32] n5 0 [] (.inl (⟨_, H, rfl, rfl⟩)) (Nat.lt_succ_self _) (Nat.zero_le _) rfl (by kernel_rfl) (by kernel_rfl) rfl trivial
    conv => whnf
    refine ixs_c (f := Ref29Arrow.v) H (fun _ => rfl) (fun x12 H => ?_); conv => whnf
    refine ⟨Nat.le_of_ble_eq_true rfl, ?_⟩; conv => whnf
    refine appN_c (f := V.s) H (fun _ => rfl) (srcM (f := V.s) (fun _ => rfl) _ _) rfl (.v (srcOwn (f := V.s) (l := [x12.To]) (fun _ => rfl) rfl rfl rfl)) (by decide) rfl (by simp) (fun l13 H => ?_); conv => whnf
    refine Ari.w ?_; conv => whnf
    exact again_c [7, 8, 9, 10, 11, 12, 13, 14, 15, 16, 17, 18, 19, 20, 21, 22, 23, 24, 25, 26, 27, 28, 29, 30, 31, 32] n5 1 [1] (.inr (⟨_, _, H, rfl, rfl⟩)) (Nat.lt_succ_self _) (Nat.zero_le _) rfl (by kernel_rfl) (by kernel_rfl) rfl (wkB_live0 rfl (cellsM_idlt (f := V.s) (fun _ => rfl) _) rfl trivial)
  rw [p_ref29_Of_l1] at H
  conv => whnf
  refine LenQ.M ?_; conv => whnf
  refine tst_d H (fun b16 H => ?_) (fun b16 H => ?_)
  · conv => whnf
    iterate 4 (refine Tst.F ?_; conv => whnf)
    obtain rfl := Option.some.inj H
    have H := HQ4
    try dsimp only at H
    refine finR_c (enc := (fun l : List ByteArray => V.sl (l.map V.s) false)) H ?_; conv => whnf
    exact ⟨_, .v (.c (fzown (f := V.s) (l := y14) rfl rfl (fun _ => rfl) (fun _ => rfl)))⟩
  conv => whnf
  refine Tst.T ?_; conv => whnf
  refine ask_c (p_ref29_Check_v _) H rfl rfl (fun v17 H => ?_); conv => whnf
  iterate 2 (refine Tst.T ?_; conv => whnf)
  refine tst_d H (fun b18 H => ?_) (fun b18 H => ?_)
  · conv => whnf
    obtain rfl := Option.some.inj H
    have H := HQ4
    try dsimp only at H
    refine finR_c (enc := (fun l : List ByteArray => V.sl (l.map V.s) false)) H ?_; conv => whnf
    exact ⟨_, .v (.c (fzown (f := V.s) (l := y14) rfl rfl (fun _ => rfl) (fun _ => rfl)))⟩
  conv => whnf
  refine ixs_c (f := Ref29Arrow.v) H (fun _ => rfl) (fun x19 H => ?_); conv => whnf
  refine ⟨Nat.le_of_ble_eq_true rfl, ?_⟩; conv => whnf
  refine tst_d H (fun b20 H => ?_) (fun b20 H => ?_)
  · conv => whnf
    refine Ari.w ?_; conv => whnf
    exact again_c [7, 8, 9, 10, 11, 12, 13, 14, 15, 16, 17, 18, 19, 20, 21, 22, 23, 24, 25, 26, 27, 28, 29, 30, 31, 32] n5 1 [] (.inr (⟨_, _, H, rfl, rfl⟩)) (Nat.lt_succ_self _) (Nat.zero_le _) rfl (by kernel_rfl) (by kernel_rfl) rfl (wkB_live0 rfl (cellsM_idlt (f := V.s) (fun _ => rfl) _) rfl trivial)
  conv => whnf
  refine ixs_c (f := Ref29Arrow.v) H (fun _ => rfl) (fun x21 H => ?_); conv => whnf
  refine ⟨Nat.le_of_ble_eq_true rfl, ?_⟩; conv => whnf
  refine appO_c (f := V.s) H (fun _ => rfl) rfl (Nat.le_refl _) (.v (srcOwn (f := V.s) (l := [x21.To]) (fun _ => rfl) rfl rfl rfl)) (by decide) rfl (by simp) (fun l22 H => ?_); conv => whnf
  refine Ari.w ?_; conv => whnf
  exact again_c [7, 8, 9, 10, 11, 12, 13, 14, 15, 16, 17, 18, 19, 20, 21, 22, 23, 24, 25, 26, 27, 28, 29, 30, 31, 32] n5 1 [2] (.inr (⟨_, _, H, rfl, rfl⟩)) (Nat.lt_succ_self _) (Nat.zero_le _) rfl (by kernel_rfl) (by kernel_rfl) rfl (wkB_live0 rfl (cellsM_idlt (f := V.s) (fun _ => rfl) _) rfl trivial)
def gc31 : BCode := (.seq (.reg 0 [⟨(some 4), .mv (.const (.slice none 0 0)), none, 0⟩, ⟨(some 5), .mv (.const (.slice none 0 0)), none, 0⟩] none 0 []) (.seq (.seq (.reg 0 [⟨(some 8), .mv (.tmp 0), none, 0⟩, ⟨(some 9), .cl 88 [(.tmp 8)], none, 0⟩, ⟨(some 10), .bin .neq (.tmp 9) (.const (.int .i64 0)), none, 0⟩] none 0 []) (.cond (.tmp 10) (.seq (.reg 0 [⟨(some 11), .mv (.tmp 0), none, 0⟩, ⟨(some 4), .mv (.tmp 11), none, 0⟩, ⟨(some 5), .mv (.const (.slice none 0 0)), none, 0⟩] none 0 []) .ret) .skip)) (.seq (.reg 0 [⟨(some 6), .mv (.const (.slice none 0 0)), none, 0⟩] none 0 []) (.seq (.seq (.reg 0 [⟨(some 7), .mv (.const (.int .i64 0)), none, 0⟩] none 0 []) (.block 0 (.loop (.seq (.seq (.reg 0 [⟨(some 12), .mv (.tmp 7), none, 0⟩, ⟨(some 13), .mv (.tmp 0), none, 0⟩, ⟨(some 14), .lens (.tmp 13), none, 0⟩, ⟨(some 15), .bin .lss (.tmp 12) (.tmp 14), none, 0⟩] none 0 []) (.cond (.tmp 15) .skip (.exit 0))) (.seq (.block 1 (.seq (.reg 0 [⟨(some 18), .mv (.tmp 0), none, 0⟩, ⟨(some 19), .mv (.tmp 7), none, 0⟩, ⟨(some 20), .ixs 2 (.tmp 18) (.tmp 19), none, 0⟩, ⟨(some 21), .fa 0 (.tmp 20), none, 0⟩, ⟨(some 22), .ld 1 false (.tmp 21), none, 0⟩, ⟨(some 23), .mv (.tmp 1), none, 0⟩, ⟨(some 24), .bin .neq (.tmp 22) (.tmp 23), none, 0⟩] none 0 []) (.cond (.tmp 24) (.reg 2 [⟨(some 25), .mv (.tmp 6), none, 0⟩, ⟨(some 26), .mv (.tmp 0), none, 0⟩, ⟨(some 27), .mv (.tmp 7), none, 0⟩, ⟨(some 28), .ixs 2 (.tmp 26) (.tmp 27), none, 0⟩, ⟨(some 29), .ld 2 true (.tmp 28), none, 0⟩, ⟨(some 30), .bs 2 1 [(.lit (.string ⟨#[]⟩)), (.lit (.string ⟨#[]⟩))] [(0, (.tmp 29))], none, 0⟩, ⟨(some 31), .ap 2 32 (.tmp 25) (.tmp 30), none, 1⟩, ⟨(some 6), .mv (.tmp 31), none, 2⟩] none 0 []) .skip))) (.reg 0 [⟨(some 16), .mv (.tmp 7), none, 0⟩, ⟨(some 17), .bin .add (.tmp 16) (.const (.int .i64 1)), none, 0⟩, ⟨(some 7), .mv (.tmp 17), none, 0⟩] none 0 [])))))) (.seq (.reg 0 [⟨(some 32), .mv (.tmp 6), none, 0⟩, ⟨(some 33), .mv (.tmp 0), none, 0⟩, ⟨(some 34), .mv (.tmp 1), none, 0⟩, ⟨(some 35), .cl 96 [(.tmp 33), (.tmp 34)], none, 0⟩, ⟨(some 4), .mv (.tmp 32), none, 0⟩, ⟨(some 5), .mv (.tmp 35), none, 0⟩] none 0 []) .ret)))))
theorem gc31_ok : compF Tryz.prog Tryz.f31 = some (gc31.er, 36, [.tmp 4, .tmp 5]) := by unfold gc31; kernel_rfl
set_option maxRecDepth 100000 in
set_option maxHeartbeats 4000000 in
theorem p_ref29_Clear_v {u1 : Bool} (a0 : List Ref29Arrow) (a1 : ByteArray) : CallsO Tryz.prog 31 [.sl (List.map Ref29Arrow.v a0) u1, .s a1] (fun r : (List Ref29Arrow) × (List ByteArray) => .tup [(fun l : List Ref29Arrow => V.sl (l.map Ref29Arrow.v) false) r.1, (fun l : List ByteArray => V.sl (l.map V.s) false) r.2]) (p_ref29_Clear a0 a1) := by
  refine callsO_comp mix Tryz.func31 gc31_ok fun r H => ?_
  rw [p_ref29_Clear] at H
  conv => whnf
  refine ask_c (p_ref29_Check_v _) H rfl rfl (fun v1 H => ?_); conv => whnf
  refine tst_c H (fun b2 H => ?_) (fun b2 H => ?_)
  · conv => whnf
    refine finR_c (enc := (fun r : (List Ref29Arrow) × (List ByteArray) => .tup [(fun l : List Ref29Arrow => V.sl (l.map Ref29Arrow.v) false) r.1, (fun l : List ByteArray => V.sl (l.map V.s) false) r.2])) H ?_; conv => whnf
    exact ⟨_, .tup (.cons (.c (.slw)) (.cons (.c (.slw)) (.nil)))⟩
  conv => whnf
  obtain ⟨o4, HL5, HQ6⟩ := bind_c H
  refine loop_c [6, 7] [12, 13, 14, 15, 16, 17, 18, 19, 20, 21, 22, 23, 24, 25, 26, 27, 28, 29, 30, 31] [12, 13, 14, 15, 16, 17, 18, 19, 20, 21, 22, 23, 24, 25, 26, 27, 28, 29, 30, 31] (fun n vals st => (∃ y8, p_ref29_Clear_l1  a0 a1 n [] y8 = some o4 ∧ vals = [.sl (List.map Ref29Arrow.v []) true, .i y8] ∧ st = []) ∨ (∃ y14 y15, p_ref29_Clear_l1  a0 a1 n y14 y15 = some o4 ∧ vals = [.osl 0 0 (List.length y14) 2 false, .i y15] ∧ st = [.live (cellsM Ref29Arrow.v y14) (cellsM Ref29Arrow.v y14).length])) fuel 0 [] (.inl (⟨_, HL5, rfl, rfl⟩)) (Nat.zero_le _) rfl (by kernel_rfl) (by kernel_rfl) rfl trivial ?_
  rintro (_ | n7) _ _ (⟨y8, H, rfl, rfl⟩ | ⟨y14, y15, H, rfl, rfl⟩)
  · rw [p_ref29_Clear_l1] at H; cases H
  · rw [p_ref29_Clear_l1] at H; cases H
  · rw [p_ref29_Clear_l1] at H
    conv => whnf
    refine LenQ.M ?_; conv => whnf
    refine tst_d H (fun b9 H => ?_) (fun b9 H => ?_)
    · conv => whnf
      obtain rfl := Option.some.inj H
      have H := HQ6
      try dsimp only at H
      refine ask_c (p_ref29_Of_v _ _) H rfl rfl (fun v16 H => ?_); conv => whnf
      refine finR_c (enc := (fun r : (List Ref29Arrow) × (List ByteArray) => .tup [(fun l : List Ref29Arrow => V.sl (l.map Ref29Arrow.v) false) r.1, (fun l : List ByteArray => V.sl (l.map V.s) false) r.2])) H ?_; conv => whnf
      exact ⟨_, .tup (.cons (.c (.slw)) (.cons (.c (.id rfl)) (.nil)))⟩
    conv => whnf
    refine ixs_c (f := Ref29Arrow.v) H (fun _ => rfl) (fun x10 H => ?_); conv => whnf
    refine ⟨Nat.le_of_ble_eq_true rfl, ?_⟩; conv => whnf
    refine Tst.not ?_
    refine tst_c H (fun b11 H => ?_) (fun b11 H => ?_)
    · conv => whnf
      refine Ari.w ?_; conv => whnf
      exact again_c [12, 13, 14, 15, 16, 17, 18, 19, 20, 21, 22, 23, 24, 25, 26, 27, 28, 29, 30, 31] n7 0 [] (.inl (⟨_, H, rfl, rfl⟩)) (Nat.lt_succ_self _) (Nat.zero_le _) rfl (by kernel_rfl) (by kernel_rfl) rfl trivial
    conv => whnf
    refine ixs_c (f := Ref29Arrow.v) H (fun _ => rfl) (fun x12 H => ?_); conv => whnf
    refine appN_c (f := Ref29Arrow.v) H (fun _ => rfl) (srcM (f := Ref29Arrow.v) (fun _ => rfl) _ _) rfl (.v (srcOwn (f := Ref29Arrow.v) (l := [x12]) (fun _ => rfl) rfl rfl rfl)) (by decide) rfl (by simp) (fun l13 H => ?_); conv => whnf
    refine Ari.w ?_; conv => whnf
    exact again_c [12, 13, 14, 15, 16, 17, 18, 19, 20, 21, 22, 23, 24, 25, 26, 27, 28, 29, 30, 31] n7 1 [1] (.inr (⟨_, _, H, rfl, rfl⟩)) (Nat.lt_succ_self _) (Nat.zero_le _) rfl (by kernel_rfl) (by kernel_rfl) rfl (wkB_live0 rfl (cellsM_idlt (f := Ref29Arrow.v) (fun _ => rfl) _) rfl trivial)
  rw [p_ref29_Clear_l1] at H
  conv => whnf
  refine LenQ.M ?_; conv => whnf
  refine tst_d H (fun b17 H => ?_) (fun b17 H => ?_)
  · conv => whnf
    obtain rfl := Option.some.inj H
    have H := HQ6
    try dsimp only at H
    refine ask_c (p_ref29_Of_v _ _) H rfl rfl (fun v22 H => ?_); conv => whnf
    refine finR_c (enc := (fun r : (List Ref29Arrow) × (List ByteArray) => .tup [(fun l : List Ref29Arrow => V.sl (l.map Ref29Arrow.v) false) r.1, (fun l : List ByteArray => V.sl (l.map V.s) false) r.2])) H ?_; conv => whnf
    exact ⟨_, .tup (.cons (.c (fzown (f := Ref29Arrow.v) (l := y14) rfl rfl (fun _ => rfl) (fun _ => rfl))) (.cons (.c (.id rfl)) (.nil)))⟩
  conv => whnf
  refine ixs_c (f := Ref29Arrow.v) H (fun _ => rfl) (fun x18 H => ?_); conv => whnf
  refine ⟨Nat.le_of_ble_eq_true rfl, ?_⟩; conv => whnf
  refine Tst.not ?_
  refine tst_c H (fun b19 H => ?_) (fun b19 H => ?_)
  · conv => whnf
    refine Ari.w ?_; conv => whnf
    exact again_c [12, 13, 14, 15, 16, 17, 18, 19, 20, 21, 22, 23, 24, 25, 26, 27, 28, 29, 30, 31] n7 1 [] (.inr (⟨_, _, H, rfl, rfl⟩)) (Nat.lt_succ_self _) (Nat.zero_le _) rfl (by kernel_rfl) (by kernel_rfl) rfl (wkB_live0 rfl (cellsM_idlt (f := Ref29Arrow.v) (fun _ => rfl) _) rfl trivial)
  conv => whnf
  refine ixs_c (f := Ref29Arrow.v) H (fun _ => rfl) (fun x20 H => ?_); conv => whnf
  refine appO_c (f := Ref29Arrow.v) H (fun _ => rfl) rfl (Nat.le_refl _) (.v (srcOwn (f := Ref29Arrow.v) (l := [x20]) (fun _ => rfl) rfl rfl rfl)) (by decide) rfl (by simp) (fun l21 H => ?_); conv => whnf
  refine Ari.w ?_; conv => whnf
  exact again_c [12, 13, 14, 15, 16, 17, 18, 19, 20, 21, 22, 23, 24, 25, 26, 27, 28, 29, 30, 31] n7 1 [2] (.inr (⟨_, _, H, rfl, rfl⟩)) (Nat.lt_succ_self _) (Nat.zero_le _) rfl (by kernel_rfl) (by kernel_rfl) rfl (wkB_live0 rfl (cellsM_idlt (f := Ref29Arrow.v) (fun _ => rfl) _) rfl trivial)
end Go.Proofs.YthmgficajgedlaaGreat
/- That the program's functions yield what the plain ones tell (written by a program of mine). -/
namespace Go.Proofs.YthmgficajgedlaaGreat
open Go.RowKit
def gc33 : BCode := (.seq (.reg 0 [⟨(some 6), .mv (.const (.slice none 0 0)), none, 0⟩, ⟨(some 7), .mv (.const (.int .i64 0)), none, 0⟩] none 0 []) (.seq (.seq (.reg 0 [⟨(some 13), .mv (.tmp 0), none, 0⟩, ⟨(some 14), .cl 88 [(.tmp 13)], none, 0⟩, ⟨(some 15), .bin .neq (.tmp 14) (.const (.int .i64 0)), none, 0⟩] none 0 []) (.cond (.tmp 15) (.seq (.reg 0 [⟨(some 16), .mv (.tmp 0), none, 0⟩, ⟨(some 6), .mv (.tmp 16), none, 0⟩, ⟨(some 7), .mv (.const (.int .i64 0)), none, 0⟩] none 0 []) .ret) .skip)) (.seq (.reg 0 [⟨(some 8), .mv (.const (.slice none 0 0)), none, 0⟩] none 0 []) (.seq (.seq (.reg 0 [⟨(some 9), .mv (.const (.int .i64 0)), none, 0⟩] none 0 []) (.block 0 (.loop (.seq (.seq (.reg 0 [⟨(some 17), .mv (.tmp 9), none, 0⟩, ⟨(some 18), .mv (.tmp 0), none, 0⟩, ⟨(some 19), .lens (.tmp 18), none, 0⟩, ⟨(some 20), .bin .lss (.tmp 17) (.tmp 19), none, 0⟩] none 0 []) (.cond (.tmp 20) .skip (.exit 0))) (.seq (.block 1 (.seq (.reg 0 [⟨(some 24), .mv (.tmp 0), none, 0⟩, ⟨(some 25), .mv (.tmp 9), none, 0⟩, ⟨(some 26), .ixs 2 (.tmp 24) (.tmp 25), none, 0⟩, ⟨(some 27), .fa 0 (.tmp 26), none, 0⟩, ⟨(some 28), .ld 1 false (.tmp 27), none, 0⟩, ⟨(some 29), .cl 99 [(.tmp 28)], none, 0⟩, ⟨(some 23), .mv (.tmp 29), none, 0⟩, ⟨(some 30), .ex (.tmp 23) 0, none, 0⟩, ⟨(some 31), .ex (.tmp 23) 1, none, 0⟩, ⟨(some 32), .ex (.tmp 23) 2, none, 0⟩, ⟨(some 10), .mv (.tmp 30), none, 0⟩, ⟨(some 11), .mv (.tmp 31), none, 0⟩, ⟨(some 12), .mv (.tmp 32), none, 0⟩] none 0 []) (.seq (.reg 0 [⟨(some 33), .mv (.tmp 10), none, 0⟩, ⟨(some 34), .mv (.tmp 1), none, 0⟩, ⟨(some 35), .bin .neq (.tmp 33) (.tmp 34), none, 0⟩, ⟨(some 36), .mv (.tmp 35), none, 0⟩, ⟨(some 37), .mv (.tmp 0), (some (36, false)), 0⟩, ⟨(some 38), .mv (.tmp 9), (some (36, false)), 0⟩, ⟨(some 39), .ixs 2 (.tmp 37) (.tmp 38), (some (36, false)), 0⟩, ⟨(some 40), .fa 1 (.tmp 39), (some (36, false)), 0⟩, ⟨(some 41), .ld 1 false (.tmp 40), (some (36, false)), 0⟩, ⟨(some 42), .mv (.tmp 2), (some (36, false)), 0⟩, ⟨(some 43), .bin .neq (.tmp 41) (.tmp 42), (some (36, false)), 0⟩, ⟨(some 44), .pick (.tmp 36) (.const (.bool true)) (.tmp 43), none, 0⟩] none 0 []) (.cond (.tmp 44) (.reg 2 [⟨(some 45), .mv (.tmp 8), none, 0⟩, ⟨(some 46), .mv (.tmp 0), none, 0⟩, ⟨(some 47), .mv (.tmp 9), none, 0⟩, ⟨(some 48), .ixs 2 (.tmp 46) (.tmp 47), none, 0⟩, ⟨(some 49), .ld 2 true (.tmp 48), none, 0⟩, ⟨(some 50), .bs 2 1 [(.lit (.string ⟨#[]⟩)), (.lit (.string ⟨#[]⟩))] [(0, (.tmp 49))], none, 0⟩, ⟨(some 51), .ap 2 32 (.tmp 45) (.tmp 50), none, 1⟩, ⟨(some 8), .mv (.tmp 51), none, 2⟩] none 0 []) .skip)))) (.reg 0 [⟨(some 21), .mv (.tmp 9), none, 0⟩, ⟨(some 22), .bin .add (.tmp 21) (.const (.int .i64 1)), none, 0⟩, ⟨(some 9), .mv (.tmp 22), none, 0⟩] none 0 [])))))) (.seq (.reg 0 [⟨(some 52), .mv (.tmp 8), none, 0⟩, ⟨(some 53), .mv (.tmp 0), none, 0⟩, ⟨(some 54), .lens (.tmp 53), none, 0⟩, ⟨(some 55), .mv (.tmp 8), none, 0⟩, ⟨(some 56), .lens (.tmp 55), none, 0⟩, ⟨(some 57), .bin .sub (.tmp 54) (.tmp 56), none, 0⟩, ⟨(some 6), .mv (.tmp 52), none, 0⟩, ⟨(some 7), .mv (.tmp 57), none, 0⟩] none 0 []) .ret)))))
theorem gc33_ok : compF Tryz.prog Tryz.f33 = some (gc33.er, 58, [.tmp 6, .tmp 7]) := by unfold gc33; kernel_rfl
set_option maxRecDepth 100000 in
set_option maxHeartbeats 4000000 in
theorem p_ref29_Only_v {u1 : Bool} (a0 : List Ref29Arrow) (a1 : ByteArray) (a2 : ByteArray) : CallsO Tryz.prog 33 [.sl (List.map Ref29Arrow.v a0) u1, .s a1, .s a2] (fun r : (List Ref29Arrow) × Int => .tup [(fun l : List Ref29Arrow => V.sl (l.map Ref29Arrow.v) false) r.1, V.i r.2]) (p_ref29_Only a0 a1 a2) := by
  refine callsO_comp mix Tryz.func33 gc33_ok fun r H => ?_
  rw [p_ref29_Only] at H
  conv => whnf
  refine ask_c (p_ref29_Check_v _) H rfl rfl (fun v1 H => ?_); conv => whnf
  refine tst_c H (fun b2 H => ?_) (fun b2 H => ?_)
  · conv => whnf
    refine finR_c (enc := (fun r : (List Ref29Arrow) × Int => .tup [(fun l : List Ref29Arrow => V.sl (l.map Ref29Arrow.v) false) r.1, V.i r.2])) H ?_; conv => whnf
    exact ⟨_, .tup (.cons (.c (.slw)) (.cons (.c (.id rfl)) (.nil)))⟩
  conv => whnf
  obtain ⟨o4, HL5, HQ6⟩ := bind_c H
  refine loop_c [8, 9] [10, 11, 12, 17, 18, 19, 20, 21, 22, 23, 24, 25, 26, 27, 28, 29, 30, 31, 32, 33, 34, 35, 36, 37, 38, 39, 40, 41, 42, 43, 44, 45, 46, 47, 48, 49, 50, 51] [10, 11, 12, 17, 18, 19, 20, 21, 22, 23, 24, 25, 26, 27, 28, 29, 30, 31, 32, 33, 34, 35, 36, 37, 38, 39, 40, 41, 42, 43, 44, 45, 46, 47, 48, 49, 50, 51] (fun n vals st => (∃ y8, p_ref29_Only_l1  a0 a1 a2 n [] y8 = some o4 ∧ vals = [.sl (List.map Ref29Arrow.v []) true, .i y8] ∧ st = []) ∨ (∃ y17 y18, p_ref29_Only_l1  a0 a1 a2 n y17 y18 = some o4 ∧ vals = [.osl 0 0 (List.length y17) 2 false, .i y18] ∧ st = [.live (cellsM Ref29Arrow.v y17) (cellsM Ref29Arrow.v y17).length])) fuel 0 [] (.inl (⟨_, HL5, rfl, rfl⟩)) (Nat.zero_le _) rfl (by kernel_rfl) (by kernel_rfl) rfl trivial ?_
  rintro (_ | n7) _ _ (⟨y8, H, rfl, rfl⟩ | ⟨y17, y18, H, rfl, rfl⟩)
  · rw [p_ref29_Only_l1] at H; cases H
  · rw [p_ref29_Only_l1] at H; cases H
  · rw [p_ref29_Only_l1] at H
    conv => whnf
    refine LenQ.M ?_; conv => whnf
    refine tst_d H (fun b9 H => ?_) (fun b9 H => ?_)
    · conv => whnf
      obtain rfl := Option.some.inj H
      have H := HQ6
      try dsimp only at H
      refine LenQ.M ?_; conv => whnf
      refine LenQ.ok ?_; conv => whnf
      refine Ari.w ?_; conv => whnf
      refine finR_c (enc := (fun r : (List Ref29Arrow) × Int => .tup [(fun l : List Ref29Arrow => V.sl (l.map Ref29Arrow.v) false) r.1, V.i r.2])) H ?_; conv => whnf
      exact ⟨_, .tup (.cons (.c (.slw)) (.cons (.c (.id rfl)) (.nil)))⟩
    conv => whnf
    refine ixs_c (f := Ref29Arrow.v) H (fun _ => rfl) (fun x10 H => ?_); conv => whnf
    refine ⟨Nat.le_of_ble_eq_true rfl, ?_⟩; conv => whnf
    refine ask_c (p_ref23_Split_v _) H rfl rfl (fun v11 H => ?_); conv => whnf
    refine Tst.not ?_
    refine tst_d H (fun b12 H => ?_) (fun b12 H => ?_)
    · conv => whnf
      iterate 8 (refine Tst.T ?_; conv => whnf)
      refine ixs_c (f := Ref29Arrow.v) H (fun _ => rfl) (fun x19 H => ?_); conv => whnf
      refine appN_c (f := Ref29Arrow.v) H (fun _ => rfl) (srcM (f := Ref29Arrow.v) (fun _ => rfl) _ _) rfl (.v (srcOwn (f := Ref29Arrow.v) (l := [x19]) (fun _ => rfl) rfl rfl rfl)) (by decide) rfl (by simp) (fun l20 H => ?_); conv => whnf
      refine Ari.w ?_; conv => whnf
      exact again_c [10, 11, 12, 17, 18, 19, 20, 21, 22, 23, 24, 25, 26, 27, 28, 29, 30, 31, 32, 33, 34, 35, 36, 37, 38, 39, 40, 41, 42, 43, 44, 45, 46, 47, 48, 49, 50, 51] n7 1 [1] (.inr (⟨_, _, H, rfl, rfl⟩)) (Nat.lt_succ_self _) (Nat.zero_le _) rfl (by kernel_rfl) (by kernel_rfl) rfl (wkB_live0 rfl (cellsM_idlt (f := Ref29Arrow.v) (fun _ => rfl) _) rfl trivial)
    conv => whnf
    iterate 2 (refine Tst.F ?_; conv => whnf)
    refine ixs_c (f := Ref29Arrow.v) H (fun _ => rfl) (fun x13 H => ?_); conv => whnf
    refine Tst.F ?_; conv => whnf
    refine ⟨Nat.le_of_ble_eq_true rfl, ?_⟩; conv => whnf
    iterate 4 (refine Tst.F ?_; conv => whnf)
    refine Tst.not ?_
    refine tst_c H (fun b14 H => ?_) (fun b14 H => ?_)
    · conv => whnf
      refine Ari.w ?_; conv => whnf
      exact again_c [10, 11, 12, 17, 18, 19, 20, 21, 22, 23, 24, 25, 26, 27, 28, 29, 30, 31, 32, 33, 34, 35, 36, 37, 38, 39, 40, 41, 42, 43, 44, 45, 46, 47, 48, 49, 50, 51] n7 0 [] (.inl (⟨_, H, rfl, rfl⟩)) (Nat.lt_succ_self _) (Nat.zero_le _) rfl (by kernel_rfl) (by kernel_rfl) rfl trivial
    conv => whnf
    refine ixs_c (f := Ref29Arrow.v) H (fun _ => rfl) (fun x15 H => ?_); conv => whnf
    refine appN_c (f := Ref29Arrow.v) H (fun _ => rfl) (srcM (f := Ref29Arrow.v) (fun _ => rfl) _ _) rfl (.v (srcOwn (f := Ref29Arrow.v) (l := [x15]) (fun _ => rfl) rfl rfl rfl)) (by decide) rfl (by simp) (fun l16 H => ?_); conv => whnf
    refine Ari.w ?_; conv => whnf
    exact again_c [10, 11, 12, 17, 18, 19, 20, 21, 22, 23, 24, 25, 26, 27, 28, 29, 30, 31, 32, 33, 34, 35, 36, 37, 38, 39, 40, 41, 42, 43, 44, 45, 46, 47, 48, 49, 50, 51] n7 1 [1] (.inr (⟨_, _, H, rfl, rfl⟩)) (Nat.lt_succ_self _) (Nat.zero_le _) rfl (by kernel_rfl) (by kernel_rfl) rfl (wkB_live0 rfl (cellsM_idlt (f := Ref29Arrow.v) (fun _ => rfl) _) rfl trivial)
  rw [p_ref29_Only_l1] at H
  conv => whnf
  refine LenQ.M ?_; conv => whnf
  refine tst_d H (fun b21 H => ?_) (fun b21 H => ?_)
  · conv => whnf
    obtain rfl := Option.some.inj H
    have H := HQ6
    try dsimp only at H
    refine LenQ.M ?_; conv => whnf
    refine Ari.w ?_; conv => whnf
    refine finR_c (enc := (fun r : (List Ref29Arrow) × Int => .tup [(fun l : List Ref29Arrow => V.sl (l.map Ref29Arrow.v) false) r.1, V.i r.2])) H ?_; conv => whnf
    exact ⟨_, .tup (.cons (.c (fzown (f := Ref29Arrow.v) (l := y17) rfl rfl (fun _ => rfl) (fun _ => rfl))) (.cons (.c (.id rfl)) (.nil)))⟩
  conv => whnf
  refine ixs_c (f := Ref29Arrow.v) H (fun _ => rfl) (fun x22 H => ?_); conv => whnf
  refine ⟨Nat.le_of_ble_eq_true rfl, ?_⟩; conv => whnf
  refine ask_c (p_ref23_Split_v _) H rfl rfl (fun v23 H => ?_); conv => whnf
  refine Tst.not ?_
  refine tst_d H (fun b24 H => ?_) (fun b24 H => ?_)
  · conv => whnf
    iterate 8 (refine Tst.T ?_; conv => whnf)
    refine ixs_c (f := Ref29Arrow.v) H (fun _ => rfl) (fun x29 H => ?_); conv => whnf
    refine appO_c (f := Ref29Arrow.v) H (fun _ => rfl) rfl (Nat.le_refl _) (.v (srcOwn (f := Ref29Arrow.v) (l := [x29]) (fun _ => rfl) rfl rfl rfl)) (by decide) rfl (by simp) (fun l30 H => ?_); conv => whnf
    refine Ari.w ?_; conv => whnf
    exact again_c [10, 11, 12, 17, 18, 19, 20, 21, 22, 23, 24, 25, 26, 27, 28, 29, 30, 31, 32, 33, 34, 35, 36, 37, 38, 39, 40, 41, 42, 43, 44, 45, 46, 47, 48, 49, 50, 51] n7 1 [2] (.inr (⟨_, _, H, rfl, rfl⟩)) (Nat.lt_succ_self _) (Nat.zero_le _) rfl (by kernel_rfl) (by kernel_rfl) rfl (wkB_live0 rfl (cellsM_idlt (f := Ref29Arrow.v) (fun _ => rfl) _) rfl trivial)
  conv => whnf
  iterate 2 (refine Tst.F ?_; conv => whnf)
  refine ixs_c (f := Ref29Arrow.v) H (fun _ => rfl) (fun x25 H => ?_); conv => whnf
  refine Tst.F ?_; conv => whnf
  refine ⟨Nat.le_of_ble_eq_true rfl, ?_⟩; conv => whnf
  iterate 4 (refine Tst.F ?_; conv => whnf)
  refine Tst.not ?_
  refine tst_c H (fun b26 H => ?_) (fun b26 H => ?_)
  · conv => whnf
    refine Ari.w ?_; conv => whnf
    exact again_c [10, 11, 12, 17, 18, 19, 20, 21, 22, 23, 24, 25, 26, 27, 28, 29, 30, 31, 32, 33, 34, 35, 36, 37, 38, 39, 40, 41, 42, 43, 44, 45, 46, 47, 48, 49, 50, 51] n7 1 [] (.inr (⟨_, _, H, rfl, rfl⟩)) (Nat.lt_succ_self _) (Nat.zero_le _) rfl (by kernel_rfl) (by kernel_rfl) rfl (wkB_live0 rfl (cellsM_idlt (f := Ref29Arrow.v) (fun _ => rfl) _) rfl trivial)
  conv => whnf
  refine ixs_c (f := Ref29Arrow.v) H (fun _ => rfl) (fun x27 H => ?_); conv => whnf
  refine appO_c (f := Ref29Arrow.v) H (fun _ => rfl) rfl (Nat.le_refl _) (.v (srcOwn (f := Ref29Arrow.v) (l := [x27]) (fun _ => rfl) rfl rfl rfl)) (by decide) rfl (by simp) (fun l28 H => ?_); conv => whnf
  refine Ari.w ?_; conv => whnf
  exact again_c [10, 11, 12, 17, 18, 19, 20, 21, 22, 23, 24, 25, 26, 27, 28, 29, 30, 31, 32, 33, 34, 35, 36, 37, 38, 39, 40, 41, 42, 43, 44, 45, 46, 47, 48, 49, 50, 51] n7 1 [2] (.inr (⟨_, _, H, rfl, rfl⟩)) (Nat.lt_succ_self _) (Nat.zero_le _) rfl (by kernel_rfl) (by kernel_rfl) rfl (wkB_live0 rfl (cellsM_idlt (f := Ref29Arrow.v) (fun _ => rfl) _) rfl trivial)
def gc35 : BCode := (.seq (.reg 0 [⟨(some 2), .mv (.const (.slice none 0 0)), none, 0⟩] none 0 []) (.seq (.reg 0 [⟨(some 3), .mv (.const (.slice none 0 0)), none, 0⟩] none 0 []) (.seq (.seq (.reg 0 [⟨(some 4), .mv (.const (.int .i64 0)), none, 0⟩] none 0 []) (.block 0 (.loop (.seq (.seq (.reg 0 [⟨(some 5), .mv (.tmp 4), none, 0⟩, ⟨(some 6), .mv (.tmp 0), none, 0⟩, ⟨(some 7), .lens (.tmp 6), none, 0⟩, ⟨(some 8), .bin .lss (.tmp 5) (.tmp 7), none, 0⟩] none 0 []) (.cond (.tmp 8) .skip (.exit 0))) (.seq (.block 1 (.reg 2 [⟨(some 11), .mv (.tmp 3), none, 0⟩, ⟨(some 12), .mv (.tmp 0), none, 0⟩, ⟨(some 13), .mv (.tmp 4), none, 0⟩, ⟨(some 14), .ixs 2 (.tmp 12) (.tmp 13), none, 0⟩, ⟨(some 15), .ld 2 true (.tmp 14), none, 0⟩, ⟨(some 16), .bs 2 1 [(.lit (.string ⟨#[]⟩)), (.lit (.string ⟨#[]⟩))] [(0, (.tmp 15))], none, 0⟩, ⟨(some 17), .ap 2 32 (.tmp 11) (.tmp 16), none, 1⟩, ⟨(some 3), .mv (.tmp 17), none, 2⟩] none 0 [])) (.reg 0 [⟨(some 9), .mv (.tmp 4), none, 0⟩, ⟨(some 10), .bin .add (.tmp 9) (.const (.int .i64 1)), none, 0⟩, ⟨(some 4), .mv (.tmp 10), none, 0⟩] none 0 [])))))) (.seq (.reg 0 [⟨(some 18), .mv (.tmp 3), none, 0⟩, ⟨(some 2), .mv (.tmp 18), none, 0⟩] none 0 []) .ret))))
theorem gc35_ok : compF Tryz.prog Tryz.f35 = some (gc35.er, 19, [.tmp 2]) := by unfold gc35; kernel_rfl
set_option maxRecDepth 100000 in
set_option maxHeartbeats 4000000 in
theorem p_law29_Back_v {u1 : Bool} (a0 : List Ref29Arrow) : CallsO Tryz.prog 35 [.sl (List.map Ref29Arrow.v a0) u1] (fun l : List Ref29Arrow => V.sl (l.map Ref29Arrow.v) false) (p_law29_Back a0) := by
  refine callsO_comp mix Tryz.func35 gc35_ok fun r H => ?_
  rw [p_law29_Back] at H
  conv => whnf
  obtain ⟨o2, HL3, HQ4⟩ := bind_c H
  refine loop_c [3, 4] [5, 6, 7, 8, 9, 10, 11, 12, 13, 14, 15, 16, 17] [5, 6, 7, 8, 9, 10, 11, 12, 13, 14, 15, 16, 17] (fun n vals st => (∃ y6, p_law29_Back_l1  a0 n [] y6 = some o2 ∧ vals = [.sl (List.map Ref29Arrow.v []) true, .i y6] ∧ st = []) ∨ (∃ y10 y11, p_law29_Back_l1  a0 n y10 y11 = some o2 ∧ vals = [.osl 0 0 (List.length y10) 2 false, .i y11] ∧ st = [.live (cellsM Ref29Arrow.v y10) (cellsM Ref29Arrow.v y10).length])) fuel 0 [] (.inl (⟨_, HL3, rfl, rfl⟩)) (Nat.zero_le _) rfl (by kernel_rfl) (by kernel_rfl) rfl trivial ?_
  rintro (_ | n5) _ _ (⟨y6, H, rfl, rfl⟩ | ⟨y10, y11, H, rfl, rfl⟩)
  · rw [p_law29_Back_l1] at H; cases H
  · rw [p_law29_Back_l1] at H; cases H
  · rw [p_law29_Back_l1] at H
    conv => whnf
    refine LenQ.M ?_; conv => whnf
    refine tst_d H (fun b7 H => ?_) (fun b7 H => ?_)
    · conv => whnf
      obtain rfl := Option.some.inj H
      have H := HQ4
      try dsimp only at H
      refine finR_c (enc := (fun l : List Ref29Arrow => V.sl (l.map Ref29Arrow.v) false)) H ?_; conv => whnf
      exact ⟨_, .v (.c (.slw))⟩
    conv => whnf
    refine ixs_c (f := Ref29Arrow.v) H (fun _ => rfl) (fun x8 H => ?_); conv => whnf
    refine appN_c (f := Ref29Arrow.v) H (fun _ => rfl) (srcM (f := Ref29Arrow.v) (fun _ => rfl) _ _) rfl (.v (srcOwn (f := Ref29Arrow.v) (l := [x8]) (fun _ => rfl) rfl rfl rfl)) (by decide) rfl (by simp) (fun l9 H => ?_); conv => whnf
    refine Ari.w ?_; conv => whnf
    exact again_c [5, 6, 7, 8, 9, 10, 11, 12, 13, 14, 15, 16, 17] n5 1 [1] (.inr (⟨_, _, H, rfl, rfl⟩)) (Nat.lt_succ_self _) (Nat.zero_le _) rfl (by kernel_rfl) (by kernel_rfl) rfl (wkB_live0 rfl (cellsM_idlt (f := Ref29Arrow.v) (fun _ => rfl) _) rfl trivial)
  rw [p_law29_Back_l1] at H
  conv => whnf
  refine LenQ.M ?_; conv => whnf
  refine tst_d H (fun b12 H => ?_) (fun b12 H => ?_)
  · conv => whnf
    obtain rfl := Option.some.inj H
    have H := HQ4
    try dsimp only at H
    refine finR_c (enc := (fun l : List Ref29Arrow => V.sl (l.map Ref29Arrow.v) false)) H ?_; conv => whnf
    exact ⟨_, .v (.c (fzown (f := Ref29Arrow.v) (l := y10) rfl rfl (fun _ => rfl) (fun _ => rfl)))⟩
  conv => whnf
  refine ixs_c (f := Ref29Arrow.v) H (fun _ => rfl) (fun x13 H => ?_); conv => whnf
  refine appO_c (f := Ref29Arrow.v) H (fun _ => rfl) rfl (Nat.le_refl _) (.v (srcOwn (f := Ref29Arrow.v) (l := [x13]) (fun _ => rfl) rfl rfl rfl)) (by decide) rfl (by simp) (fun l14 H => ?_); conv => whnf
  refine Ari.w ?_; conv => whnf
  exact again_c [5, 6, 7, 8, 9, 10, 11, 12, 13, 14, 15, 16, 17] n5 1 [2] (.inr (⟨_, _, H, rfl, rfl⟩)) (Nat.lt_succ_self _) (Nat.zero_le _) rfl (by kernel_rfl) (by kernel_rfl) rfl (wkB_live0 rfl (cellsM_idlt (f := Ref29Arrow.v) (fun _ => rfl) _) rfl trivial)
def gc34 : BCode := (.seq (.reg 0 [⟨(some 4), .mv (.const (.bool false)), none, 0⟩] none 0 []) (.seq (.seq (.reg 0 [⟨(some 6), .mv (.tmp 0), none, 0⟩, ⟨(some 7), .lens (.tmp 6), none, 0⟩, ⟨(some 8), .mv (.tmp 1), none, 0⟩, ⟨(some 9), .lens (.tmp 8), none, 0⟩, ⟨(some 10), .bin .neq (.tmp 7) (.tmp 9), none, 0⟩] none 0 []) (.cond (.tmp 10) (.seq (.reg 0 [⟨(some 4), .mv (.const (.bool false)), none, 0⟩] none 0 []) .ret) .skip)) (.seq (.seq (.reg 0 [⟨(some 5), .mv (.const (.int .i64 0)), none, 0⟩] none 0 []) (.block 0 (.loop (.seq (.seq (.reg 0 [⟨(some 11), .mv (.tmp 5), none, 0⟩, ⟨(some 12), .mv (.tmp 0), none, 0⟩, ⟨(some 13), .lens (.tmp 12), none, 0⟩, ⟨(some 14), .bin .lss (.tmp 11) (.tmp 13), none, 0⟩] none 0 []) (.cond (.tmp 14) .skip (.exit 0))) (.seq (.block 1 (.seq (.reg 0 [⟨(some 17), .mv (.tmp 0), none, 0⟩, ⟨(some 18), .mv (.tmp 5), none, 0⟩, ⟨(some 19), .ixs 2 (.tmp 17) (.tmp 18), none, 0⟩, ⟨(some 20), .ld 2 true (.tmp 19), none, 0⟩, ⟨(some 21), .mv (.tmp 1), none, 0⟩, ⟨(some 22), .mv (.tmp 5), none, 0⟩, ⟨(some 23), .ixs 2 (.tmp 21) (.tmp 22), none, 0⟩, ⟨(some 24), .ld 2 true (.tmp 23), none, 0⟩, ⟨(some 25), .eqa true [2, 2] (.tmp 20) (.tmp 24), none, 0⟩] (some [[], [], [1, 0], [0, 1, 2], [], [], [5, 4], [4, 5, 6], [6, 5, 4, 7, 2, 1, 0, 3]]) 0 []) (.cond (.tmp 25) (.seq (.reg 0 [⟨(some 4), .mv (.const (.bool false)), none, 0⟩] none 0 []) .ret) .skip))) (.reg 0 [⟨(some 15), .mv (.tmp 5), none, 0⟩, ⟨(some 16), .bin .add (.tmp 15) (.const (.int .i64 1)), none, 0⟩, ⟨(some 5), .mv (.tmp 16), none, 0⟩] none 0 [])))))) (.seq (.reg 0 [⟨(some 4), .mv (.const (.bool true)), none, 0⟩] none 0 []) .ret))))
theorem gc34_ok : compF Tryz.prog Tryz.f34 = some (gc34.er, 26, [.tmp 4]) := by unfold gc34; kernel_rfl
set_option maxRecDepth 100000 in
set_option maxHeartbeats 4000000 in
theorem p_ref29_Same_v {u1 u2 : Bool} (a0 : List Ref29Arrow) (a1 : List Ref29Arrow) : CallsO Tryz.prog 34 [.sl (List.map Ref29Arrow.v a0) u1, .sl (List.map Ref29Arrow.v a1) u2] V.b (p_ref29_Same a0 a1) := by
  refine callsO_comp mix Tryz.func34 gc34_ok fun r H => ?_
  rw [p_ref29_Same] at H
  conv => whnf
  iterate 2 (refine LenQ.M ?_; conv => whnf)
  refine tst_c H (fun b1 H => ?_) (fun b1 H => ?_)
  · conv => whnf
    exact fin0_c (enc := V.b) H (.inr rfl) (.cons (.tmp rfl) (.nil)) rfl rfl
  conv => whnf
  obtain ⟨o3, HL4, HQ5⟩ := bind_c H
  refine loop_c [4, 5] [11, 12, 13, 14, 15, 16, 17, 18, 19, 20, 21, 22, 23, 24, 25] [11, 12, 13, 14, 15, 16, 17, 18, 19, 20, 21, 22, 23, 24, 25] (fun n vals st => (∃ y7, p_ref29_Same_l1  a0 a1 n y7 = some o3 ∧ vals = [.b false, .i y7] ∧ st = [])) fuel 0 [] (⟨_, HL4, rfl, rfl⟩) (Nat.zero_le _) rfl (by kernel_rfl) (by kernel_rfl) rfl trivial ?_
  rintro (_ | n6) _ _ (⟨y7, H, rfl, rfl⟩)
  · rw [p_ref29_Same_l1] at H; cases H
  rw [p_ref29_Same_l1] at H
  conv => whnf
  refine LenQ.M ?_; conv => whnf
  refine tst_d H (fun b8 H => ?_) (fun b8 H => ?_)
  · conv => whnf
    obtain rfl := Option.some.inj H
    have H := HQ5
    try dsimp only at H
    exact fin0_c (enc := V.b) H (.inr rfl) (.cons (.tmp rfl) (.nil)) rfl rfl
  conv => whnf
  refine ixs_c (f := Ref29Arrow.v) H (fun _ => rfl) (fun x9 H => ?_); conv => whnf
  refine ixs_c (f := Ref29Arrow.v) H (fun _ => rfl) (fun x10 H => ?_); conv => whnf
  refine FootQ.mk ⟨rfl, ?_⟩; conv => whnf
  refine Tst.not ?_
  refine tst_d H (fun b11 H => ?_) (fun b11 H => ?_)
  · conv => whnf
    obtain rfl := Option.some.inj H
    have H := HQ5
    try dsimp only at H
    exact fin0_c (enc := V.b) H (.inr rfl) (.cons (.tmp rfl) (.nil)) rfl rfl
  conv => whnf
  refine Ari.w ?_; conv => whnf
  exact again_c [11, 12, 13, 14, 15, 16, 17, 18, 19, 20, 21, 22, 23, 24, 25] n6 0 [] (⟨_, H, rfl, rfl⟩) (Nat.lt_succ_self _) (Nat.zero_le _) rfl (by kernel_rfl) (by kernel_rfl) rfl trivial
end Go.Proofs.YthmgficajgedlaaGreat
/- That the program's functions yield what the plain ones tell (written by a program of mine). -/
namespace Go.Proofs.YthmgficajgedlaaGreat
open Go.RowKit
def gc4 : BCode := (.seq (.reg 0 [⟨(some 6), .mv (.const (.bool false)), none, 0⟩] none 0 []) (.seq (.seq (.reg 0 [⟨(some 24), .mv (.tmp 0), none, 0⟩, ⟨(some 25), .cl 23 [(.tmp 24)], none, 0⟩, ⟨(some 26), .un .not (.tmp 25), none, 0⟩, ⟨(some 27), .mv (.tmp 26), none, 0⟩, ⟨(some 28), .mv (.tmp 1), (some (27, false)), 0⟩, ⟨(some 29), .lent (.tmp 28), (some (27, false)), 0⟩, ⟨(some 30), .bin .gtr (.tmp 29) (.const (.int .i64 100)), (some (27, false)), 0⟩, ⟨(some 31), .pick (.tmp 27) (.const (.bool true)) (.tmp 30), none, 0⟩, ⟨(some 32), .mv (.tmp 31), none, 0⟩, ⟨(some 33), .mv (.tmp 2), (some (32, false)), 0⟩, ⟨(some 34), .lent (.tmp 33), (some (32, false)), 0⟩, ⟨(some 35), .bin .gtr (.tmp 34) (.const (.int .i64 100)), (some (32, false)), 0⟩, ⟨(some 36), .pick (.tmp 32) (.const (.bool true)) (.tmp 35), none, 0⟩] none 0 []) (.cond (.tmp 36) (.seq (.reg 0 [⟨(some 37), .cl 24 [], none, 0⟩, ⟨(some 6), .mv (.tmp 37), none, 0⟩] none 0 []) .ret) .skip)) (.seq (.reg 0 [⟨(some 38), .mv (.tmp 0), none, 0⟩, ⟨(some 39), .cl 25 [(.tmp 38)], none, 0⟩, ⟨(some 7), .mv (.tmp 39), none, 0⟩] none 0 []) (.seq (.reg 0 [⟨(some 41), .mv (.tmp 7), none, 0⟩, ⟨(some 42), .mv (.tmp 1), none, 0⟩, ⟨(some 43), .mv (.tmp 2), none, 0⟩, ⟨(some 44), .cl 26 [(.tmp 41), (.tmp 42), (.tmp 43)], none, 0⟩, ⟨(some 40), .mv (.tmp 44), none, 0⟩, ⟨(some 45), .ex (.tmp 40) 0, none, 0⟩, ⟨(some 46), .ex (.tmp 40) 1, none, 0⟩, ⟨(some 8), .mv (.tmp 45), none, 0⟩, ⟨(some 9), .mv (.tmp 46), none, 0⟩] none 0 []) (.seq (.reg 0 [⟨(some 48), .mv (.tmp 0), none, 0⟩, ⟨(some 49), .mv (.tmp 1), none, 0⟩, ⟨(some 50), .mv (.tmp 2), none, 0⟩, ⟨(some 51), .cl 27 [(.tmp 48), (.tmp 49), (.tmp 50)], none, 0⟩, ⟨(some 47), .mv (.tmp 51), none, 0⟩, ⟨(some 52), .ex (.tmp 47) 0, none, 0⟩, ⟨(some 53), .ex (.tmp 47) 1, none, 0⟩, ⟨(some 10), .mv (.tmp 52), none, 0⟩, ⟨(some 11), .mv (.tmp 53), none, 0⟩] none 0 []) (.seq (.reg 0 [⟨(some 55), .mv (.tmp 7), none, 0⟩, ⟨(some 56), .mv (.tmp 1), none, 0⟩, ⟨(some 57), .mv (.tmp 2), none, 0⟩, ⟨(some 58), .cl 28 [(.tmp 55), (.tmp 56), (.tmp 57)], none, 0⟩, ⟨(some 54), .mv (.tmp 58), none, 0⟩, ⟨(some 59), .ex (.tmp 54) 0, none, 0⟩, ⟨(some 60), .ex (.tmp 54) 1, none, 0⟩, ⟨(some 12), .mv (.tmp 59), none, 0⟩, ⟨(some 13), .mv (.tmp 60), none, 0⟩] none 0 []) (.seq (.reg 0 [⟨(some 62), .mv (.tmp 0), none, 0⟩, ⟨(some 63), .mv (.tmp 1), none, 0⟩, ⟨(some 64), .mv (.tmp 2), none, 0⟩, ⟨(some 65), .cl 29 [(.tmp 62), (.tmp 63), (.tmp 64)], none, 0⟩, ⟨(some 61), .mv (.tmp 65), none, 0⟩, ⟨(some 66), .ex (.tmp 61) 0, none, 0⟩, ⟨(some 67), .ex (.tmp 61) 1, none, 0⟩, ⟨(some 14), .mv (.tmp 66), none, 0⟩, ⟨(some 15), .mv (.tmp 67), none, 0⟩] none 0 []) (.seq (.reg 0 [⟨(some 69), .mv (.tmp 7), none, 0⟩, ⟨(some 70), .mv (.tmp 1), none, 0⟩, ⟨(some 71), .cl 30 [(.tmp 69), (.tmp 70)], none, 0⟩, ⟨(some 68), .mv (.tmp 71), none, 0⟩, ⟨(some 72), .ex (.tmp 68) 0, none, 0⟩, ⟨(some 73), .ex (.tmp 68) 1, none, 0⟩, ⟨(some 16), .mv (.tmp 72), none, 0⟩, ⟨(some 17), .mv (.tmp 73), none, 0⟩] none 0 []) (.seq (.reg 0 [⟨(some 75), .mv (.tmp 0), none, 0⟩, ⟨(some 76), .mv (.tmp 1), none, 0⟩, ⟨(some 77), .cl 31 [(.tmp 75), (.tmp 76)], none, 0⟩, ⟨(some 74), .mv (.tmp 77), none, 0⟩, ⟨(some 78), .ex (.tmp 74) 0, none, 0⟩, ⟨(some 79), .ex (.tmp 74) 1, none, 0⟩, ⟨(some 18), .mv (.tmp 78), none, 0⟩, ⟨(some 19), .mv (.tmp 79), none, 0⟩] none 0 []) (.seq (.reg 0 [⟨(some 81), .mv (.tmp 7), none, 0⟩, ⟨(some 82), .mv (.tmp 1), none, 0⟩, ⟨(some 83), .mv (.tmp 2), none, 0⟩, ⟨(some 84), .cl 32 [(.tmp 81), (.tmp 82), (.tmp 83)], none, 0⟩, ⟨(some 80), .mv (.tmp 84), none, 0⟩, ⟨(some 85), .ex (.tmp 80) 0, none, 0⟩, ⟨(some 86), .ex (.tmp 80) 1, none, 0⟩, ⟨(some 20), .mv (.tmp 85), none, 0⟩, ⟨(some 21), .mv (.tmp 86), none, 0⟩] none 0 []) (.seq (.reg 0 [⟨(some 88), .mv (.tmp 0), none, 0⟩, ⟨(some 89), .mv (.tmp 1), none, 0⟩, ⟨(some 90), .mv (.tmp 2), none, 0⟩, ⟨(some 91), .cl 33 [(.tmp 88), (.tmp 89), (.tmp 90)], none, 0⟩, ⟨(some 87), .mv (.tmp 91), none, 0⟩, ⟨(some 92), .ex (.tmp 87) 0, none, 0⟩, ⟨(some 93), .ex (.tmp 87) 1, none, 0⟩, ⟨(some 22), .mv (.tmp 92), none, 0⟩, ⟨(some 23), .mv (.tmp 93), none, 0⟩] none 0 []) (.seq (.reg 0 [⟨(some 94), .mv (.tmp 8), none, 0⟩, ⟨(some 95), .cl 35 [(.tmp 94)], none, 0⟩, ⟨(some 96), .mv (.tmp 10), none, 0⟩, ⟨(some 97), .cl 34 [(.tmp 95), (.tmp 96)], none, 0⟩, ⟨(some 98), .mv (.tmp 97), none, 0⟩, ⟨(some 99), .mv (.tmp 9), (some (98, true)), 0⟩, ⟨(some 100), .mv (.tmp 11), (some (98, true)), 0⟩, ⟨(some 101), .bin .eql (.tmp 99) (.tmp 100), (some (98, true)), 0⟩, ⟨(some 102), .pick (.tmp 98) (.tmp 101) (.const (.bool false)), none, 0⟩, ⟨(some 103), .mv (.tmp 102), none, 0⟩, ⟨(some 104), .mv (.tmp 12), (some (103, true)), 0⟩, ⟨(some 105), .cl 35 [(.tmp 104)], (some (103, true)), 0⟩, ⟨(some 106), .mv (.tmp 14), (some (103, true)), 0⟩, ⟨(some 107), .cl 34 [(.tmp 105), (.tmp 106)], (some (103, true)), 0⟩, ⟨(some 108), .pick (.tmp 103) (.tmp 107) (.const (.bool false)), none, 0⟩, ⟨(some 109), .mv (.tmp 108), none, 0⟩, ⟨(some 110), .mv (.tmp 13), (some (109, true)), 0⟩, ⟨(some 111), .mv (.tmp 15), (some (109, true)), 0⟩, ⟨(some 112), .binb false (.tmp 110) (.tmp 111), (some (109, true)), 0⟩, ⟨(some 113), .pick (.tmp 109) (.tmp 112) (.const (.bool false)), none, 0⟩, ⟨(some 114), .mv (.tmp 113), none, 0⟩, ⟨(some 115), .mv (.tmp 16), (some (114, true)), 0⟩, ⟨(some 116), .cl 35 [(.tmp 115)], (some (114, true)), 0⟩, ⟨(some 117), .mv (.tmp 18), (some (114, true)), 0⟩, ⟨(some 118), .cl 34 [(.tmp 116), (.tmp 117)], (some (114, true)), 0⟩, ⟨(some 119), .pick (.tmp 114) (.tmp 118) (.const (.bool false)), none, 0⟩, ⟨(some 120), .mv (.tmp 119), none, 0⟩, ⟨(some 121), .mv (.tmp 17), (some (120, true)), 0⟩, ⟨(some 122), .mv (.tmp 19), (some (120, true)), 0⟩, ⟨(some 123), .cl 36 [(.tmp 121), (.tmp 122)], (some (120, true)), 0⟩, ⟨(some 124), .pick (.tmp 120) (.tmp 123) (.const (.bool false)), none, 0⟩, ⟨(some 125), .mv (.tmp 124), none, 0⟩, ⟨(some 126), .mv (.tmp 20), (some (125, true)), 0⟩, ⟨(some 127), .cl 35 [(.tmp 126)], (some (125, true)), 0⟩, ⟨(some 128), .mv (.tmp 22), (some (125, true)), 0⟩, ⟨(some 129), .cl 34 [(.tmp 127), (.tmp 128)], (some (125, true)), 0⟩, ⟨(some 130), .pick (.tmp 125) (.tmp 129) (.const (.bool false)), none, 0⟩, ⟨(some 131), .mv (.tmp 130), none, 0⟩, ⟨(some 132), .mv (.tmp 21), (some (131, true)), 0⟩, ⟨(some 133), .mv (.tmp 23), (some (131, true)), 0⟩, ⟨(some 134), .bin .eql (.tmp 132) (.tmp 133), (some (131, true)), 0⟩, ⟨(some 135), .pick (.tmp 131) (.tmp 134) (.const (.bool false)), none, 0⟩, ⟨(some 136), .mv (.tmp 135), none, 0⟩, ⟨(some 137), .mv (.tmp 7), (some (136, true)), 0⟩, ⟨(some 138), .cl 35 [(.tmp 137)], (some (136, true)), 0⟩, ⟨(some 139), .mv (.tmp 0), (some (136, true)), 0⟩, ⟨(some 140), .cl 34 [(.tmp 138), (.tmp 139)], (some (136, true)), 0⟩, ⟨(some 141), .pick (.tmp 136) (.tmp 140) (.const (.bool false)), none, 0⟩, ⟨(some 142), .mv (.tmp 141), none, 0⟩, ⟨(some 143), .cl 24 [], (some (142, true)), 0⟩, ⟨(some 144), .pick (.tmp 142) (.tmp 143) (.const (.bool false)), none, 0⟩, ⟨(some 6), .mv (.tmp 144), none, 0⟩] none 0 []) .ret))))))))))))
set_option maxRecDepth 1000000 in
theorem gc4_ok : compF Tryz.prog Tryz.f4 = some (gc4.er, 145, [.tmp 6]) := by unfold gc4; kernel_rfl
set_option maxRecDepth 100000 in
set_option maxHeartbeats 4000000 in
theorem p_law29_DirsChanges_v {u1 : Bool} (a0 : List Ref29Arrow) (a1 : ByteArray) (a2 : ByteArray) : CallsO Tryz.prog 4 [.sl (List.map Ref29Arrow.v a0) u1, .s a1, .s a2] V.b (p_law29_DirsChanges a0 a1 a2) := by
  refine callsO_comp mix Tryz.func4 gc4_ok fun r H => ?_
  rw [p_law29_DirsChanges] at H
  conv => whnf
  refine ask_c (p_ref29_Light_v _) H rfl rfl (fun v1 H => ?_); conv => whnf
  refine Tst.not ?_
  refine tst_d H (fun b2 H => ?_) (fun b2 H => ?_)
  · conv => whnf
    iterate 8 (refine Tst.T ?_; conv => whnf)
    refine ask_c (p_law29_awake_v) H rfl rfl (fun v37 H => ?_); conv => whnf
    exact fin0_c (enc := V.b) H (.inr rfl) (.cons (.tmp rfl) (.nil)) rfl rfl
  conv => whnf
  iterate 3 (refine Tst.F ?_; conv => whnf)
  refine tst_c H (fun b3 H => ?_) (fun b3 H => ?_)
  · conv => whnf
    iterate 4 (refine Tst.T ?_; conv => whnf)
    refine ask_c (p_law29_awake_v) H rfl rfl (fun v4 H => ?_); conv => whnf
    exact fin0_c (enc := V.b) H (.inr rfl) (.cons (.tmp rfl) (.nil)) rfl rfl
  conv => whnf
  iterate 3 (refine Tst.F ?_; conv => whnf)
  refine tst_c H (fun b5 H => ?_) (fun b5 H => ?_)
  · conv => whnf
    refine ask_c (p_law29_awake_v) H rfl rfl (fun v6 H => ?_); conv => whnf
    exact fin0_c (enc := V.b) H (.inr rfl) (.cons (.tmp rfl) (.nil)) rfl rfl
  conv => whnf
  refine ask_c (p_law29_own_v _) H rfl rfl (fun v7 H => ?_); conv => whnf
  refine ask_c (p_dirs_Add_v _ _ _) H rfl rfl (fun v8 H => ?_); conv => whnf
  refine ask_c (p_ref29_Add_v _ _ _) H rfl rfl (fun v9 H => ?_); conv => whnf
  refine ask_c (p_dirs_Del_v _ _ _) H rfl rfl (fun v10 H => ?_); conv => whnf
  refine ask_c (p_ref29_Del_v _ _ _) H rfl rfl (fun v11 H => ?_); conv => whnf
  refine ask_c (p_dirs_Clear_v _ _) H rfl rfl (fun v12 H => ?_); conv => whnf
  refine ask_c (p_ref29_Clear_v _ _) H rfl rfl (fun v13 H => ?_); conv => whnf
  refine ask_c (p_dirs_Only_v _ _ _) H rfl rfl (fun v14 H => ?_); conv => whnf
  refine ask_c (p_ref29_Only_v _ _ _) H rfl rfl (fun v15 H => ?_); conv => whnf
  refine ask_c (p_law29_Back_v _) H rfl rfl (fun v16 H => ?_); conv => whnf
  refine ask_c (p_ref29_Same_v _ _) H rfl rfl (fun v17 H => ?_); conv => whnf
  refine tst_d H (fun b18 H => ?_) (fun b18 H => ?_)
  · conv => whnf
    iterate 37 (refine Tst.F ?_; conv => whnf)
    exact fin0_c (enc := V.b) H (.inr rfl) (.cons (.tmp rfl) (.nil)) rfl rfl
  conv => whnf
  iterate 3 (refine Tst.T ?_; conv => whnf)
  refine tst_d H (fun b19 H => ?_) (fun b19 H => ?_)
  · conv => whnf
    iterate 33 (refine Tst.F ?_; conv => whnf)
    exact fin0_c (enc := V.b) H (.inr rfl) (.cons (.tmp rfl) (.nil)) rfl rfl
  conv => whnf
  refine Tst.T ?_; conv => whnf
  refine ask_c (p_law29_Back_v _) H rfl rfl (fun v20 H => ?_); conv => whnf
  iterate 2 (refine Tst.T ?_; conv => whnf)
  refine ask_c (p_ref29_Same_v _ _) H rfl rfl (fun v21 H => ?_); conv => whnf
  refine Tst.T ?_; conv => whnf
  refine tst_d H (fun b22 H => ?_) (fun b22 H => ?_)
  · conv => whnf
    iterate 28 (refine Tst.F ?_; conv => whnf)
    exact fin0_c (enc := V.b) H (.inr rfl) (.cons (.tmp rfl) (.nil)) rfl rfl
  conv => whnf
  iterate 3 (refine Tst.T ?_; conv => whnf)
  refine tst_d H (fun b23 H => ?_) (fun b23 H => ?_)
  · conv => whnf
    iterate 24 (refine Tst.F ?_; conv => whnf)
    exact fin0_c (enc := V.b) H (.inr rfl) (.cons (.tmp rfl) (.nil)) rfl rfl
  conv => whnf
  refine Tst.T ?_; conv => whnf
  refine ask_c (p_law29_Back_v _) H rfl rfl (fun v24 H => ?_); conv => whnf
  iterate 2 (refine Tst.T ?_; conv => whnf)
  refine ask_c (p_ref29_Same_v _ _) H rfl rfl (fun v25 H => ?_); conv => whnf
  refine Tst.T ?_; conv => whnf
  refine tst_d H (fun b26 H => ?_) (fun b26 H => ?_)
  · conv => whnf
    iterate 19 (refine Tst.F ?_; conv => whnf)
    exact fin0_c (enc := V.b) H (.inr rfl) (.cons (.tmp rfl) (.nil)) rfl rfl
  conv => whnf
  iterate 2 (refine Tst.T ?_; conv => whnf)
  refine ask_c (p_ref01_SameTexts_v _ _) H rfl rfl (fun v27 H => ?_); conv => whnf
  refine Tst.T ?_; conv => whnf
  refine tst_d H (fun b28 H => ?_) (fun b28 H => ?_)
  · conv => whnf
    iterate 15 (refine Tst.F ?_; conv => whnf)
    exact fin0_c (enc := V.b) H (.inr rfl) (.cons (.tmp rfl) (.nil)) rfl rfl
  conv => whnf
  refine Tst.T ?_; conv => whnf
  refine ask_c (p_law29_Back_v _) H rfl rfl (fun v29 H => ?_); conv => whnf
  iterate 2 (refine Tst.T ?_; conv => whnf)
  refine ask_c (p_ref29_Same_v _ _) H rfl rfl (fun v30 H => ?_); conv => whnf
  refine Tst.T ?_; conv => whnf
  refine tst_d H (fun b31 H => ?_) (fun b31 H => ?_)
  · conv => whnf
    iterate 10 (refine Tst.F ?_; conv => whnf)
    exact fin0_c (enc := V.b) H (.inr rfl) (.cons (.tmp rfl) (.nil)) rfl rfl
  conv => whnf
  iterate 3 (refine Tst.T ?_; conv => whnf)
  refine tst_d H (fun b32 H => ?_) (fun b32 H => ?_)
  · conv => whnf
    iterate 6 (refine Tst.F ?_; conv => whnf)
    exact fin0_c (enc := V.b) H (.inr rfl) (.cons (.tmp rfl) (.nil)) rfl rfl
  conv => whnf
  refine Tst.T ?_; conv => whnf
  refine ask_c (p_law29_Back_v _) H rfl rfl (fun v33 H => ?_); conv => whnf
  iterate 2 (refine Tst.T ?_; conv => whnf)
  refine ask_c (p_ref29_Same_v _ _) H rfl rfl (fun v34 H => ?_); conv => whnf
  refine Tst.T ?_; conv => whnf
  refine tst_d H (fun b35 H => ?_) (fun b35 H => ?_)
  · conv => whnf
    refine Tst.F ?_; conv => whnf
    exact fin0_c (enc := V.b) H (.inr rfl) (.cons (.tmp rfl) (.nil)) rfl rfl
  conv => whnf
  refine ask_c (p_law29_awake_v) H rfl rfl (fun v36 H => ?_); conv => whnf
  refine Tst.T ?_; conv => whnf
  exact fin0_c (enc := V.b) H (.inr rfl) (.cons (.tmp rfl) (.nil)) rfl rfl
end Go.Proofs.YthmgficajgedlaaGreat
/- DirsChanges: for every input the call returns true, and its arguments read as they did. -/
namespace Go.Proofs.YthmgficajgedlaaGreat
open Go.ChangeShapes Go.WideShapes Go.ChangeAt Go.RowKit Go.Joins Go.Deep
set_option maxRecDepth 100000 in
theorem dirsChanges_lifted (os : Os) (started : os.Started) (H : Type) (enc : TypeId × Value → H) :
    ReturnsInHanded {} Tryz.checked os 4 .any (Rows.dirsChangesSpec.pre6 enc Tryz.prog Tryz.f4 Rows.dirsChangesRow.domain false) (Rows.dirsChangesSpec.post enc Tryz.prog Tryz.f4 false true false false) := by
  refine returnsInHanded_of_change_shaped (C := Tryz.checked) own0 started (by kernel_rfl) Tryz.func4
    (ChangeSpec.witness6 (enc := enc) (C := Tryz.checked) false ⟨#[], #[.slice none 0 0, .string ⟨#[]⟩, .string ⟨#[]⟩], []⟩ 8 (by kernel_rfl) (by kernel_rfl) (by kernel_rfl) (by kernel_rfl)) ?_
  intro W base args ds gs before hval0 hW hcnd _ hsh _
  have hval : ∀ (j : Nat) t v, Tryz.f4.params[j]? = some t → args[j]? = some v → Value.okWide Tryz.prog W .any base t v := hval0
  have hW' := hW
  obtain ⟨p, q, hA0, hV, rfl, hfz, hnd⟩ := hW
  have hA : DataW.TrodAll enc Tryz.prog W 0 (fun _ => true) true Tryz.f4.params.toList args.toList ds p := hA0
  rw [Tryz.params4] at hA hval
  have hA2 := hA
  obtain ⟨v0, v1, v2, d0, d1, d2, p0, p1, p2, rfl, rfl, hp, h0, h1, h2⟩ := trodAll_three hA
  obtain ⟨rfl, rfl⟩ := trodVars_none hV
  obtain ⟨fu0, hf0⟩ := h0
  obtain ⟨q0, l0, k0, rfl⟩ := okWide_slice Tryz.underlying58 (hval 0 _ v0 rfl rfl)
  obtain ⟨a0, r0⟩ := rd_T58 hf0
  have hx0 : Rep (MW W) noBk _ _ := r0.2 0 (by simp [Value.cells]) (by simp)
  obtain ⟨fu1, hf1⟩ := h1
  obtain ⟨q1, rfl⟩ := okWide_string Tryz.underlying9 (hval 1 _ v1 rfl rfl)
  obtain ⟨a1, r1⟩ := rd_string Tryz.underlying9 hf1
  have hx1 : Rep (MW W) noBk _ _ := r1.2 0 (by simp [Value.cells]) (by simp)
  obtain ⟨fu2, hf2⟩ := h2
  obtain ⟨q2, rfl⟩ := okWide_string Tryz.underlying9 (hval 2 _ v2 rfl rfl)
  obtain ⟨a2, r2⟩ := rd_string Tryz.underlying9 hf2
  have hx2 : Rep (MW W) noBk _ _ := r2.2 0 (by simp [Value.cells]) (by simp)
  refine (rep_one (callsO_true (p_law29_DirsChanges_v a0 a1 a2) (dirsChanges_pure a0 a1 a2)) (maxLen_cell W hsh) (repA3 hx0 hx1 hx2)).mono ?_
  rintro e W' ⟨rfl, bel⟩
  refine ⟨_, rfl, _, _, _, [], p, [], hW', ?_, ?_, ?_, ?_, ?_⟩
  · exact trodAll_mk1 (shut_bool Tryz.underlying4 true)
  · exact trodAll_below laid0 bel (by
      intro t ht
      simp at ht
      rcases ht with rfl | rfl <;> exact ⟨by kernel_rfl, of_decide_eq_true (by kernel_rfl)⟩) hA2
  · rfl
  · exact bel.frame _
  · exact fun h => by cases h
theorem dirsChanges_holds : Rows.DirsChangesSaid :=
  OpenClaim.holds_of_wide 4 Tryz.f4 rfl rfl rfl rfl rfl rfl rfl ⟨rfl, rfl, rfl, rfl, rfl⟩ rfl rfl rfl rfl rfl (by kernel_rfl) Tryz.func4 (by kernel_rfl)
    (of_decide_eq_true (by kernel_rfl)) (by unfold Func.isWrapper; first | (rw [if_pos (by decide +kernel)]; kernel_rfl) | (rw [if_neg (by decide +kernel)]; exact ⟨rfl, rfl⟩))
    (fun os started H enc _ => dirsChanges_lifted os started H enc)
#print axioms dirsChanges_holds
end Go.Proofs.YthmgficajgedlaaGreat
