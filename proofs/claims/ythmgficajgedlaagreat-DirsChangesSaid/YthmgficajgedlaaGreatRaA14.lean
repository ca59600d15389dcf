/- A part of the proof: 3 texts joined. -/
import Derived.Test.YthmgficajgedlaaGreatRaA11
import Derived.Test.YthmgficajgedlaaGreatRaA12
import Derived.Test.YthmgficajgedlaaGreatRaA13
import Derived.Test.YthmgficajgedlaaGreatRaA8
import Derived.KernelRfl
import Derived.Test.YthmgficajgedlaaGreatRaA10
set_option linter.all false
/- That the program's functions yield what the plain ones tell (written by a program of mine). -/
namespace Go.Proofs.YthmgficajgedlaaGreat
open Go.RowKit
def gc97 : BCode := (.seq (.reg 1 [⟨(some 3), .bx (.tmp 0), none, 0⟩, ⟨(some 4), .mv (.const (.bool false)), none, 1⟩] none 0 []) (.seq (.reg 0 [⟨(some 8), .ld 2 true (.tmp 3), none, 0⟩, ⟨(some 9), .cl 98 [(.tmp 8)], none, 0⟩, ⟨(some 7), .mv (.tmp 9), none, 0⟩, ⟨(some 10), .ex (.tmp 7) 0, none, 0⟩, ⟨(some 11), .ex (.tmp 7) 1, none, 0⟩, ⟨(some 5), .mv (.tmp 10), none, 0⟩, ⟨(some 6), .mv (.tmp 11), none, 0⟩] none 0 []) (.seq (.reg 0 [⟨(some 12), .mv (.tmp 5), none, 0⟩, ⟨(some 13), .ld 1 false (.tmp 1), none, 0⟩, ⟨(some 14), .bin .eql (.tmp 12) (.tmp 13), none, 0⟩, ⟨(some 15), .mv (.tmp 14), none, 0⟩, ⟨(some 16), .fa 1 (.tmp 3), (some (15, true)), 0⟩, ⟨(some 17), .ld 1 false (.tmp 16), (some (15, true)), 0⟩, ⟨(some 18), .ld 1 false (.tmp 2), (some (15, true)), 0⟩, ⟨(some 19), .bin .eql (.tmp 17) (.tmp 18), (some (15, true)), 0⟩, ⟨(some 20), .pick (.tmp 15) (.tmp 19) (.const (.bool false)), none, 0⟩, ⟨(some 4), .mv (.tmp 20), none, 0⟩] none 0 []) .ret)))
theorem gc97_ok : compF Tryz.prog Tryz.f97 = some (gc97.er, 21, [.tmp 4]) := by unfold gc97; kernel_rfl
set_option maxRecDepth 100000 in
set_option maxHeartbeats 4000000 in
theorem p_dirs_Only_1_v (a0 : Ref29Arrow) (c0 : ByteArray) (c1 : ByteArray) : CallsO Tryz.prog 97 [.agg [.s a0.From, .s a0.To], .eptr [.s c0], .eptr [.s c1]] V.b (p_dirs_Only_1 a0 c0 c1) := by
  refine callsO_comp mix Tryz.func97 gc97_ok fun r H => ?_
  rw [p_dirs_Only_1] at H
  conv => whnf
  refine ask_c (p_dirs_Arrow_user_v _) H rfl rfl (fun v1 H => ?_); conv => whnf
  refine tst_c H (fun b2 H => ?_) (fun b2 H => ?_)
  · conv => whnf
    iterate 4 (refine Tst.T ?_; conv => whnf)
    exact fin0_c (enc := V.b) H (.inr rfl) (.cons (.tmp rfl) (.nil)) rfl rfl
  conv => whnf
  iterate 4 (refine Tst.F ?_; conv => whnf)
  exact fin0_c (enc := V.b) H (.inr rfl) (.cons (.tmp rfl) (.nil)) rfl rfl
def gc32 : BCode := (.seq (.reg 2 [⟨(some 4), .bx (.tmp 1), none, 0⟩, ⟨(some 5), .bx (.tmp 2), none, 1⟩, ⟨(some 6), .mv (.const (.slice none 0 0)), none, 2⟩, ⟨(some 7), .mv (.const (.int .i64 0)), none, 2⟩] none 0 []) (.seq (.seq (.reg 0 [⟨(some 10), .mv (.tmp 0), none, 0⟩, ⟨(some 11), .cl 82 [(.tmp 10)], none, 0⟩, ⟨(some 12), .bin .neq (.tmp 11) (.const (.int .i64 0)), none, 0⟩] none 0 []) (.cond (.tmp 12) (.seq (.reg 0 [⟨(some 13), .mv (.tmp 0), none, 0⟩, ⟨(some 6), .mv (.tmp 13), none, 0⟩, ⟨(some 7), .mv (.const (.int .i64 0)), none, 0⟩] none 0 []) .ret) .skip)) (.seq (.reg 0 [⟨(some 15), .mv (.tmp 0), none, 0⟩, ⟨(some 16), .mf (.func 97) [(.tmp 4), (.tmp 5)], none, 0⟩, ⟨(some 17), .cl 92 [(.tmp 15), (.tmp 16)], none, 0⟩, ⟨(some 14), .mv (.tmp 17), none, 0⟩, ⟨(some 18), .ex (.tmp 14) 0, none, 0⟩, ⟨(some 19), .ex (.tmp 14) 1, none, 0⟩, ⟨(some 8), .mv (.tmp 18), none, 0⟩, ⟨(some 9), .mv (.tmp 19), none, 0⟩] none 0 [4, 5]) (.seq (.reg 0 [⟨(some 20), .mv (.tmp 8), none, 0⟩, ⟨(some 21), .mv (.tmp 9), none, 0⟩, ⟨(some 22), .lens (.tmp 21), none, 0⟩, ⟨(some 6), .mv (.tmp 20), none, 0⟩, ⟨(some 7), .mv (.tmp 22), none, 0⟩] none 0 []) .ret))))
theorem gc32_ok : compF Tryz.prog Tryz.f32 = some (gc32.er, 23, [.tmp 6, .tmp 7]) := by unfold gc32; kernel_rfl
set_option maxRecDepth 100000 in
set_option maxHeartbeats 4000000 in
theorem p_dirs_Only_v {u1 : Bool} (a0 : List Ref29Arrow) (a1 : ByteArray) (a2 : ByteArray) : CallsO Tryz.prog 32 [.sl (List.map Ref29Arrow.v a0) u1, .s a1, .s a2] (fun r : (List Ref29Arrow) × Int => .tup [(fun l : List Ref29Arrow => V.sl (l.map Ref29Arrow.v) false) r.1, V.i r.2]) (p_dirs_Only a0 a1 a2) := by
  refine callsO_comp mix Tryz.func32 gc32_ok fun r H => ?_
  rw [p_dirs_Only] at H
  conv => whnf
  refine ask_c (p_dirs_Check_v _) H rfl rfl (fun v1 H => ?_); conv => whnf
  refine tst_c H (fun b2 H => ?_) (fun b2 H => ?_)
  · conv => whnf
    refine finR_c (enc := (fun r : (List Ref29Arrow) × Int => .tup [(fun l : List Ref29Arrow => V.sl (l.map Ref29Arrow.v) false) r.1, V.i r.2])) H ?_; conv => whnf
    exact ⟨_, .tup (.cons (.c (.slw)) (.cons (.c (.id rfl)) (.nil)))⟩
  conv => whnf
  refine ⟨Nat.zero_le _, ?_⟩; conv => whnf
  refine ⟨Nat.zero_le _, ?_⟩; conv => whnf
  refine askF_c (p_dirs_State_without_v _ _ ⟨⟨_, Tryz.func97, by kernel_rfl, by kernel_rfl⟩, rfl, fun x0 => p_dirs_Only_1_v _ _ _⟩) H (.cons (.c (.slw)) (.cons (.c (.clo (.cons (.ptr rfl (Nat.le_of_ble_eq_true rfl) (.cons (.id rfl) (.nil))) (.cons (.ptr rfl (Nat.le_of_ble_eq_true rfl) (.cons (.id rfl) (.nil))) (.nil))))) (.nil))) (fun v3 H => ?_); conv => whnf
  refine LenQ.M ?_; conv => whnf
  exact fin0_c (enc := (fun r : (List Ref29Arrow) × Int => .tup [(fun l : List Ref29Arrow => V.sl (l.map Ref29Arrow.v) false) r.1, V.i r.2])) H (.inr rfl) (.cons (.tmp rfl) (.cons (.tmp rfl) (.nil))) rfl rfl
def gc36 : BCode := (.seq (.reg 0 [⟨(some 4), .mv (.const (.bool false)), none, 0⟩] none 0 []) (.seq (.seq (.reg 0 [⟨(some 6), .mv (.tmp 0), none, 0⟩, ⟨(some 7), .lens (.tmp 6), none, 0⟩, ⟨(some 8), .mv (.tmp 1), none, 0⟩, ⟨(some 9), .lens (.tmp 8), none, 0⟩, ⟨(some 10), .bin .neq (.tmp 7) (.tmp 9), none, 0⟩] none 0 []) (.cond (.tmp 10) (.seq (.reg 0 [⟨(some 4), .mv (.const (.bool false)), none, 0⟩] none 0 []) .ret) .skip)) (.seq (.seq (.reg 0 [⟨(some 5), .mv (.const (.int .i64 0)), none, 0⟩] none 0 []) (.block 0 (.loop (.seq (.seq (.reg 0 [⟨(some 11), .mv (.tmp 5), none, 0⟩, ⟨(some 12), .mv (.tmp 0), none, 0⟩, ⟨(some 13), .lens (.tmp 12), none, 0⟩, ⟨(some 14), .bin .lss (.tmp 11) (.tmp 13), none, 0⟩] none 0 []) (.cond (.tmp 14) .skip (.exit 0))) (.seq (.block 1 (.seq (.reg 0 [⟨(some 17), .mv (.tmp 0), none, 0⟩, ⟨(some 18), .mv (.tmp 5), none, 0⟩, ⟨(some 19), .ixs 1 (.tmp 17) (.tmp 18), none, 0⟩, ⟨(some 20), .ld 1 false (.tmp 19), none, 0⟩, ⟨(some 21), .mv (.tmp 1), none, 0⟩, ⟨(some 22), .mv (.tmp 5), none, 0⟩, ⟨(some 23), .ixs 1 (.tmp 21) (.tmp 22), none, 0⟩, ⟨(some 24), .ld 1 false (.tmp 23), none, 0⟩, ⟨(some 25), .bin .neq (.tmp 20) (.tmp 24), none, 0⟩] (some [[], [], [1, 0], [0, 1, 2], [], [], [5, 4], [4, 5, 6], [6, 5, 4, 7, 2, 1, 0, 3]]) 0 []) (.cond (.tmp 25) (.seq (.reg 0 [⟨(some 4), .mv (.const (.bool false)), none, 0⟩] none 0 []) .ret) .skip))) (.reg 0 [⟨(some 15), .mv (.tmp 5), none, 0⟩, ⟨(some 16), .bin .add (.tmp 15) (.const (.int .i64 1)), none, 0⟩, ⟨(some 5), .mv (.tmp 16), none, 0⟩] none 0 [])))))) (.seq (.reg 0 [⟨(some 4), .mv (.const (.bool true)), none, 0⟩] none 0 []) .ret))))
theorem gc36_ok : compF Tryz.prog Tryz.f36 = some (gc36.er, 26, [.tmp 4]) := by unfold gc36; kernel_rfl
set_option maxRecDepth 100000 in
set_option maxHeartbeats 4000000 in
theorem p_ref01_SameTexts_v {u1 u2 : Bool} (a0 : List ByteArray) (a1 : List ByteArray) : CallsO Tryz.prog 36 [.sl (List.map V.s a0) u1, .sl (List.map V.s a1) u2] V.b (p_ref01_SameTexts a0 a1) := by
  refine callsO_comp mix Tryz.func36 gc36_ok fun r H => ?_
  rw [p_ref01_SameTexts] at H
  conv => whnf
  iterate 2 (refine LenQ.M ?_; conv => whnf)
  refine tst_c H (fun b1 H => ?_) (fun b1 H => ?_)
  · conv => whnf
    exact fin0_c (enc := V.b) H (.inr rfl) (.cons (.tmp rfl) (.nil)) rfl rfl
  conv => whnf
  obtain ⟨o3, HL4, HQ5⟩ := bind_c H
  refine loop_c [4, 5] [11, 12, 13, 14, 15, 16, 17, 18, 19, 20, 21, 22, 23, 24, 25] [11, 12, 13, 14, 15, 16, 17, 18, 19, 20, 21, 22, 23, 24, 25] (fun n vals st => (∃ y7, p_ref01_SameTexts_l1  a0 a1 n y7 = some o3 ∧ vals = [.b false, .i y7] ∧ st = [])) fuel 0 [] (⟨_, HL4, rfl, rfl⟩) (Nat.zero_le _) rfl (by kernel_rfl) (by kernel_rfl) rfl trivial ?_
  rintro (_ | n6) _ _ (⟨y7, H, rfl, rfl⟩)
  · rw [p_ref01_SameTexts_l1] at H; cases H
  rw [p_ref01_SameTexts_l1] at H
  conv => whnf
  refine LenQ.M ?_; conv => whnf
  refine tst_d H (fun b8 H => ?_) (fun b8 H => ?_)
  · conv => whnf
    obtain rfl := Option.some.inj H
    have H := HQ5
    try dsimp only at H
    exact fin0_c (enc := V.b) H (.inr rfl) (.cons (.tmp rfl) (.nil)) rfl rfl
  conv => whnf
  refine ixs_c (f := V.s) H (fun _ => rfl) (fun x9 H => ?_); conv => whnf
  refine ixs_c (f := V.s) H (fun _ => rfl) (fun x10 H => ?_); conv => whnf
  refine FootQ.mk ⟨rfl, ?_⟩; conv => whnf
  refine Tst.not ?_
  refine tst_d H (fun b11 H => ?_) (fun b11 H => ?_)
  · conv => whnf
    obtain rfl := Option.some.inj H
    have H := HQ5
    try dsimp only at H
    exact fin0_c (enc := V.b) H (.inr rfl) (.cons (.tmp rfl) (.nil)) rfl rfl
  conv => whnf
  refine Ari.w ?_; conv => whnf
  exact again_c [11, 12, 13, 14, 15, 16, 17, 18, 19, 20, 21, 22, 23, 24, 25] n6 0 [] (⟨_, H, rfl, rfl⟩) (Nat.lt_succ_self _) (Nat.zero_le _) rfl (by kernel_rfl) (by kernel_rfl) rfl trivial
def gc152 : BCode := (.seq (.reg 0 [⟨(some 4), .mv (.const (.bool false)), none, 0⟩] none 0 []) (.seq (.seq (.reg 0 [⟨(some 6), .mv (.tmp 0), none, 0⟩, ⟨(some 7), .lens (.tmp 6), none, 0⟩, ⟨(some 8), .mv (.tmp 1), none, 0⟩, ⟨(some 9), .lens (.tmp 8), none, 0⟩, ⟨(some 10), .bin .neq (.tmp 7) (.tmp 9), none, 0⟩] none 0 []) (.cond (.tmp 10) (.seq (.reg 0 [⟨(some 4), .mv (.const (.bool false)), none, 0⟩] none 0 []) .ret) .skip)) (.seq (.seq (.reg 0 [⟨(some 11), .mv (.tmp 0), none, 0⟩, ⟨(some 12), .lens (.tmp 11), none, 0⟩, ⟨(some 13), .mv (.const (.int .i64 0)), none, 0⟩] none 0 []) (.block 0 (.loop (.seq (.reg 0 [⟨(some 14), .bin .lss (.tmp 13) (.tmp 12), none, 0⟩] none 0 []) (.seq (.cond (.tmp 14) .skip (.exit 0)) (.seq (.block 1 (.seq (.reg 0 [⟨(some 15), .mv (.tmp 13), none, 0⟩, ⟨(some 5), .mv (.tmp 15), none, 0⟩] none 0 []) (.seq (.reg 0 [⟨(some 16), .mv (.tmp 0), none, 0⟩, ⟨(some 17), .mv (.tmp 5), none, 0⟩, ⟨(some 18), .ixs 2 (.tmp 16) (.tmp 17), none, 0⟩, ⟨(some 19), .ld 2 true (.tmp 18), none, 0⟩, ⟨(some 20), .mv (.tmp 1), none, 0⟩, ⟨(some 21), .mv (.tmp 5), none, 0⟩, ⟨(some 22), .ixs 2 (.tmp 20) (.tmp 21), none, 0⟩, ⟨(some 23), .ld 2 true (.tmp 22), none, 0⟩, ⟨(some 24), .eqa true [2, 2] (.tmp 19) (.tmp 23), none, 0⟩] (some [[], [], [1, 0], [0, 1, 2], [], [], [5, 4], [4, 5, 6], [6, 5, 4, 7, 2, 1, 0, 3]]) 0 []) (.cond (.tmp 24) (.seq (.reg 0 [⟨(some 4), .mv (.const (.bool false)), none, 0⟩] none 0 []) .ret) .skip)))) (.reg 0 [⟨(some 25), .bin .add (.tmp 13) (.const (.int .i64 1)), none, 0⟩, ⟨(some 13), .mv (.tmp 25), none, 0⟩] none 0 []))))))) (.seq (.reg 0 [⟨(some 4), .mv (.const (.bool true)), none, 0⟩] none 0 []) .ret))))
theorem gc152_ok : compF Tryz.prog Tryz.f152 = some (gc152.er, 26, [.tmp 4]) := by unfold gc152; kernel_rfl
set_option maxRecDepth 100000 in
set_option maxHeartbeats 4000000 in
theorem p_slices_Equal_dirs_State_dirs_Arrow__v {u1 u2 : Bool} (a0 : List Ref29Arrow) (a1 : List Ref29Arrow) : CallsO Tryz.prog 152 [.sl (List.map Ref29Arrow.v a0) u1, .sl (List.map Ref29Arrow.v a1) u2] V.b (p_slices_Equal_dirs_State_dirs_Arrow_ a0 a1) := by
  refine callsO_comp mix Tryz.func152 gc152_ok fun r H => ?_
  rw [p_slices_Equal_dirs_State_dirs_Arrow_] at H
  conv => whnf
  iterate 2 (refine LenQ.M ?_; conv => whnf)
  refine tst_c H (fun b1 H => ?_) (fun b1 H => ?_)
  · conv => whnf
    exact fin0_c (enc := V.b) H (.inr rfl) (.cons (.tmp rfl) (.nil)) rfl rfl
  conv => whnf
  refine LenQ.M ?_; conv => whnf
  obtain ⟨o3, HL4, HQ5⟩ := bind_c H
  refine loop_c [4, 13] [5, 14, 15, 16, 17, 18, 19, 20, 21, 22, 23, 24, 25] [5, 14, 15, 16, 17, 18, 19, 20, 21, 22, 23, 24, 25] (fun n vals st => (∃ y7, p_slices_Equal_dirs_State_dirs_Arrow__l1  a0 a1 (a0.length : Int) n y7 = some o3 ∧ vals = [.b false, .i y7] ∧ st = [])) fuel 0 [] (⟨_, HL4, rfl, rfl⟩) (Nat.zero_le _) rfl (by kernel_rfl) (by kernel_rfl) rfl trivial ?_
  rintro (_ | n6) _ _ (⟨y7, H, rfl, rfl⟩)
  · rw [p_slices_Equal_dirs_State_dirs_Arrow__l1] at H; cases H
  rw [p_slices_Equal_dirs_State_dirs_Arrow__l1] at H
  conv => whnf
  refine tst_d H (fun b8 H => ?_) (fun b8 H => ?_)
  · conv => whnf
    obtain rfl := Option.some.inj H
    have H := HQ5
    try dsimp only at H
    exact fin0_c (enc := V.b) H (.inr rfl) (.cons (.tmp rfl) (.nil)) rfl rfl
  conv => whnf
  refine ixs_c (f := Ref29Arrow.v) H (fun _ => rfl) (fun x9 H => ?_); conv => whnf
  refine ixs_c (f := Ref29Arrow.v) H (fun _ => rfl) (fun x10 H => ?_); conv => whnf
  refine FootQ.mk ⟨rfl, ?_⟩; conv => whnf
  refine Tst.not ?_
  refine tst_d H (fun b11 H => ?_) (fun b11 H => ?_)
  · conv => whnf
    obtain rfl := Option.some.inj H
    have H := HQ5
    try dsimp only at H
    exact fin0_c (enc := V.b) H (.inr rfl) (.cons (.tmp rfl) (.nil)) rfl rfl
  conv => whnf
  refine Ari.w ?_; conv => whnf
  exact again_c [5, 14, 15, 16, 17, 18, 19, 20, 21, 22, 23, 24, 25] n6 0 [] (⟨_, H, rfl, rfl⟩) (Nat.lt_succ_self _) (Nat.zero_le _) rfl (by kernel_rfl) (by kernel_rfl) rfl trivial
def gc78 : BCode := (.seq (.reg 0 [⟨(some 4), .mv (.const (.bool false)), none, 0⟩] none 0 []) (.seq (.reg 0 [⟨(some 5), .mv (.tmp 0), none, 0⟩, ⟨(some 6), .mv (.tmp 1), none, 0⟩, ⟨(some 7), .cl 152 [(.tmp 5), (.tmp 6)], none, 0⟩, ⟨(some 4), .mv (.tmp 7), none, 0⟩] none 0 []) .ret))
theorem gc78_ok : compF Tryz.prog Tryz.f78 = some (gc78.er, 8, [.tmp 4]) := by unfold gc78; kernel_rfl
set_option maxRecDepth 100000 in
set_option maxHeartbeats 4000000 in
theorem p_dirs_Same_v {u1 u2 : Bool} (a0 : List Ref29Arrow) (a1 : List Ref29Arrow) : CallsO Tryz.prog 78 [.sl (List.map Ref29Arrow.v a0) u1, .sl (List.map Ref29Arrow.v a1) u2] V.b (p_dirs_Same a0 a1) := by
  refine callsO_comp mix Tryz.func78 gc78_ok fun r H => ?_
  rw [p_dirs_Same] at H
  conv => whnf
  refine ask_c (p_slices_Equal_dirs_State_dirs_Arrow__v _ _) H rfl rfl (fun v1 H => ?_); conv => whnf
  exact fin0_c (enc := V.b) H (.inr rfl) (.cons (.tmp rfl) (.nil)) rfl rfl
def gc79 : BCode := (.seq (.reg 0 [⟨(some 4), .mv (.const (.slice none 0 0)), none, 0⟩] none 0 []) (.seq (.seq (.reg 0 [⟨(some 8), .mv (.tmp 0), none, 0⟩, ⟨(some 9), .cl 82 [(.tmp 8)], none, 0⟩, ⟨(some 10), .bin .neq (.tmp 9) (.const (.int .i64 0)), none, 0⟩] none 0 []) (.cond (.tmp 10) (.seq (.reg 0 [⟨(some 4), .mv (.const (.slice none 0 0)), none, 0⟩] none 0 []) .ret) .skip)) (.seq (.reg 0 [⟨(some 5), .mv (.const (.slice none 0 0)), none, 0⟩] none 0 []) (.seq (.seq (.reg 0 [⟨(some 11), .mv (.tmp 0), none, 0⟩, ⟨(some 12), .lens (.tmp 11), none, 0⟩, ⟨(some 13), .mv (.const (.int .i64 0)), none, 0⟩] none 0 []) (.block 0 (.loop (.seq (.reg 0 [⟨(some 14), .bin .lss (.tmp 13) (.tmp 12), none, 0⟩] none 0 []) (.seq (.cond (.tmp 14) .skip (.exit 0)) (.seq (.block 1 (.seq (.reg 1 [⟨(some 15), .ixs 2 (.tmp 11) (.tmp 13), none, 0⟩, ⟨(some 16), .ld 2 true (.tmp 15), none, 0⟩, ⟨(some 7), .al (.agg [(.lit (.string ⟨#[]⟩)), (.lit (.string ⟨#[]⟩))]), none, 0⟩, ⟨none, .st 2 (.tmp 7) (.tmp 16), none, 1⟩] none 0 []) (.seq (.reg 0 [⟨(some 17), .fa 1 (.tmp 7), none, 0⟩, ⟨(some 18), .ld 1 false (.tmp 17), none, 0⟩, ⟨(some 19), .mv (.tmp 1), none, 0⟩, ⟨(some 20), .bin .eql (.tmp 18) (.tmp 19), none, 0⟩] none 0 []) (.cond (.tmp 20) (.reg 2 [⟨(some 21), .mv (.tmp 5), none, 0⟩, ⟨(some 22), .fa 0 (.tmp 7), none, 0⟩, ⟨(some 23), .ld 1 false (.tmp 22), none, 0⟩, ⟨(some 24), .bs 1 1 [(.lit (.string ⟨#[]⟩))] [(0, (.tmp 23))], none, 0⟩, ⟨(some 25), .ap 1 16 (.tmp 21) (.tmp 24), none, 1⟩, ⟨(some 5), .mv (.tmp 25), none, 2⟩] none 0 []) .skip)))) (.reg 0 [⟨(some 26), .bin .add (.tmp 13) (.const (.int .i64 1)), none, 0⟩, ⟨(some 13), .mv (.tmp 26), none, 0⟩] none 0 []))))))) (.seq (.reg 0 [⟨(some 27), .mv (.tmp 5), none, 0⟩, ⟨(some 4), .mv (.tmp 27), none, 0⟩] none 0 []) .ret)))))
theorem gc79_ok : compF Tryz.prog Tryz.f79 = some (gc79.er, 28, [.tmp 4]) := by unfold gc79; kernel_rfl
set_option maxRecDepth 100000 in
set_option maxHeartbeats 4000000 in
theorem p_dirs_Keys_v {u1 : Bool} (a0 : List Ref29Arrow) (a1 : ByteArray) : CallsO Tryz.prog 79 [.sl (List.map Ref29Arrow.v a0) u1, .s a1] (fun l : List ByteArray => V.sl (l.map V.s) false) (p_dirs_Keys a0 a1) := by
  refine callsO_comp mix Tryz.func79 gc79_ok fun r H => ?_
  rw [p_dirs_Keys] at H
  conv => whnf
  refine ask_c (p_dirs_Check_v _) H rfl rfl (fun v1 H => ?_); conv => whnf
  refine tst_c H (fun b2 H => ?_) (fun b2 H => ?_)
  · conv => whnf
    refine finR_c (enc := (fun l : List ByteArray => V.sl (l.map V.s) false)) H ?_; conv => whnf
    exact ⟨_, .v (.c (.slw))⟩
  conv => whnf
  refine LenQ.M ?_; conv => whnf
  obtain ⟨o4, HL5, HQ6⟩ := bind_c H
  refine loop_c [5, 13] [7, 14, 15, 16, 17, 18, 19, 20, 21, 22, 23, 24, 25, 26] [7, 14, 15, 16, 17, 18, 19, 20, 21, 22, 23, 24, 25, 26] (fun n vals st => (∃ y8, p_dirs_Keys_l1  a1 a0 (a0.length : Int) n [] y8 = some o4 ∧ vals = [.sl (List.map V.s []) true, .i y8] ∧ st = []) ∨ (∃ y13 y14, p_dirs_Keys_l1  a1 a0 (a0.length : Int) n y13 y14 = some o4 ∧ vals = [.osl 0 0 (List.length y13) 1 false, .i y14] ∧ st = [.live (cellsM V.s y13) (cellsM V.s y13).length])) fuel 0 [] (.inl (⟨_, HL5, rfl, rfl⟩)) (Nat.zero_le _) rfl (by kernel_rfl) (by kernel_rfl) rfl trivial ?_
  rintro (_ | n7) _ _ (⟨y8, H, rfl, rfl⟩ | ⟨y13, y14, H, rfl, rfl⟩)
  · rw [p_dirs_Keys_l1] at H; cases H
  · rw [p_dirs_Keys_l1] at H; cases H
  · rw [p_dirs_Keys_l1] at H
    conv => whnf
    refine tst_d H (fun b9 H => ?_) (fun b9 H => ?_)
    · conv => whnf
      obtain rfl := Option.some.inj H
      have H := HQ6
      try dsimp only at H
      refine finR_c (enc := (fun l : List ByteArray => V.sl (l.map V.s) false)) H ?_; conv => whnf
      exact ⟨_, .v (.c (.slw))⟩
    conv => whnf
    refine ixs_c (f := Ref29Arrow.v) H (fun _ => rfl) (fun x10 H => ?_); conv => whnf
    refine ⟨Nat.le_of_ble_eq_true rfl, ?_⟩; conv => whnf
    refine tst_d H (fun b11 H => ?_) (fun b11 H => ?_)
    · conv => whnf
      refine Ari.w ?_; conv => whnf
      exact again_c [7, 14, 15, 16, 17, 18, 19, 20, 21, 22, 23, 24, 25, 26] n7 0 [] (.inl (⟨_, H, rfl, rfl⟩)) (Nat.lt_succ_self _) (Nat.zero_le _) rfl (by kernel_rfl) (by kernel_rfl) rfl trivial
    conv => whnf
    refine appN_c (f := V.s) H (fun _ => rfl) (srcM (f := V.s) (fun _ => rfl) _ _) rfl (.v (srcOwn (f := V.s) (l := [x10.From]) (fun _ => rfl) rfl rfl rfl)) (by decide) rfl (by simp) (fun l12 H => ?_); conv => whnf
    refine Ari.w ?_; conv => whnf
    exact again_c [7, 14, 15, 16, 17, 18, 19, 20, 21, 22, 23, 24, 25, 26] n7 1 [2] (.inr (⟨_, _, H, rfl, rfl⟩)) (Nat.lt_succ_self _) (Nat.zero_le _) rfl (by kernel_rfl) (by kernel_rfl) rfl (wkB_live0 rfl (cellsM_idlt (f := V.s) (fun _ => rfl) _) rfl trivial)
  rw [p_dirs_Keys_l1] at H
  conv => whnf
  refine tst_d H (fun b15 H => ?_) (fun b15 H => ?_)
  · conv => whnf
    obtain rfl := Option.some.inj H
    have H := HQ6
    try dsimp only at H
    refine finR_c (enc := (fun l : List ByteArray => V.sl (l.map V.s) false)) H ?_; conv => whnf
    exact ⟨_, .v (.c (fzown (f := V.s) (l := y13) rfl rfl (fun _ => rfl) (fun _ => rfl)))⟩
  conv => whnf
  refine ixs_c (f := Ref29Arrow.v) H (fun _ => rfl) (fun x16 H => ?_); conv => whnf
  refine ⟨Nat.le_of_ble_eq_true rfl, ?_⟩; conv => whnf
  refine tst_d H (fun b17 H => ?_) (fun b17 H => ?_)
  · conv => whnf
    refine Ari.w ?_; conv => whnf
    exact again_c [7, 14, 15, 16, 17, 18, 19, 20, 21, 22, 23, 24, 25, 26] n7 1 [] (.inr (⟨_, _, H, rfl, rfl⟩)) (Nat.lt_succ_self _) (Nat.zero_le _) rfl (by kernel_rfl) (by kernel_rfl) rfl (wkB_live0 rfl (cellsM_idlt (f := V.s) (fun _ => rfl) _) rfl trivial)
  conv => whnf
  refine appO_c (f := V.s) H (fun _ => rfl) rfl (Nat.le_refl _) (.v (srcOwn (f := V.s) (l := [x16.From]) (fun _ => rfl) rfl rfl rfl)) (by decide) rfl (by simp) (fun l18 H => ?_); conv => whnf
  refine Ari.w ?_; conv => whnf
  exact again_c [7, 14, 15, 16, 17, 18, 19, 20, 21, 22, 23, 24, 25, 26] n7 1 [3] (.inr (⟨_, _, H, rfl, rfl⟩)) (Nat.lt_succ_self _) (Nat.zero_le _) rfl (by kernel_rfl) (by kernel_rfl) rfl (wkB_live0 rfl (cellsM_idlt (f := V.s) (fun _ => rfl) _) rfl trivial)
def gc80 : BCode := (.seq (.reg 0 [⟨(some 4), .mv (.const (.slice none 0 0)), none, 0⟩] none 0 []) (.seq (.reg 0 [⟨(some 8), .mv (.tmp 0), none, 0⟩, ⟨(some 9), .mv (.tmp 1), none, 0⟩, ⟨(some 10), .cl 30 [(.tmp 8), (.tmp 9)], none, 0⟩, ⟨(some 7), .mv (.tmp 10), none, 0⟩, ⟨(some 11), .ex (.tmp 7) 0, none, 0⟩, ⟨(some 12), .ex (.tmp 7) 1, none, 0⟩, ⟨(some 5), .mv (.tmp 11), none, 0⟩, ⟨(some 6), .mv (.tmp 12), none, 0⟩] none 0 []) (.seq (.reg 0 [⟨(some 13), .mv (.tmp 6), none, 0⟩, ⟨(some 4), .mv (.tmp 13), none, 0⟩] none 0 []) .ret)))
theorem gc80_ok : compF Tryz.prog Tryz.f80 = some (gc80.er, 14, [.tmp 4]) := by unfold gc80; kernel_rfl
set_option maxRecDepth 100000 in
set_option maxHeartbeats 4000000 in
theorem p_dirs_Of_v {u1 : Bool} (a0 : List Ref29Arrow) (a1 : ByteArray) : CallsO Tryz.prog 80 [.sl (List.map Ref29Arrow.v a0) u1, .s a1] (fun l : List ByteArray => V.sl (l.map V.s) false) (p_dirs_Of a0 a1) := by
  refine callsO_comp mix Tryz.func80 gc80_ok fun r H => ?_
  rw [p_dirs_Of] at H
  conv => whnf
  refine ask_c (p_dirs_Clear_v _ _) H rfl rfl (fun v1 H => ?_); conv => whnf
  exact fin0_c (enc := (fun l : List ByteArray => V.sl (l.map V.s) false)) H (.inr rfl) (.cons (.tmp rfl) (.nil)) rfl rfl
def gc81 : BCode := (.seq (.reg 0 [⟨(some 6), .mv (.const (.bool false)), none, 0⟩] none 0 []) (.seq (.reg 0 [⟨(some 10), .mv (.tmp 0), none, 0⟩, ⟨(some 11), .mv (.tmp 1), none, 0⟩, ⟨(some 12), .mv (.tmp 2), none, 0⟩, ⟨(some 13), .cl 28 [(.tmp 10), (.tmp 11), (.tmp 12)], none, 0⟩, ⟨(some 9), .mv (.tmp 13), none, 0⟩, ⟨(some 14), .ex (.tmp 9) 0, none, 0⟩, ⟨(some 15), .ex (.tmp 9) 1, none, 0⟩, ⟨(some 7), .mv (.tmp 14), none, 0⟩, ⟨(some 8), .mv (.tmp 15), none, 0⟩] none 0 []) (.seq (.reg 0 [⟨(some 16), .mv (.tmp 8), none, 0⟩, ⟨(some 6), .mv (.tmp 16), none, 0⟩] none 0 []) .ret)))
theorem gc81_ok : compF Tryz.prog Tryz.f81 = some (gc81.er, 17, [.tmp 6]) := by unfold gc81; kernel_rfl
set_option maxRecDepth 100000 in
set_option maxHeartbeats 4000000 in
theorem p_dirs_Has_v {u1 : Bool} (a0 : List Ref29Arrow) (a1 : ByteArray) (a2 : ByteArray) : CallsO Tryz.prog 81 [.sl (List.map Ref29Arrow.v a0) u1, .s a1, .s a2] V.b (p_dirs_Has a0 a1 a2) := by
  refine callsO_comp mix Tryz.func81 gc81_ok fun r H => ?_
  rw [p_dirs_Has] at H
  conv => whnf
  refine ask_c (p_dirs_Del_v _ _ _) H rfl rfl (fun v1 H => ?_); conv => whnf
  exact fin0_c (enc := V.b) H (.inr rfl) (.cons (.tmp rfl) (.nil)) rfl rfl
end Go.Proofs.YthmgficajgedlaaGreat
/- That the program's functions yield what the plain ones tell (written by a program of mine). -/
namespace Go.Proofs.YthmgficajgedlaaGreat
open Go.RowKit
def gc24 : BCode := (.seq (.reg 0 [⟨(some 0), .mv (.const (.bool false)), none, 0⟩] none 0 []) (.seq (.reg 0 [⟨(some 18), .cl 26 [(.const (.slice none 0 0)), (.const (.string ⟨#[98, 64, 120, 32, 49]⟩)), (.const (.string ⟨#[99, 64, 120]⟩))], none, 0⟩, ⟨(some 17), .mv (.tmp 18), none, 0⟩, ⟨(some 19), .ex (.tmp 17) 0, none, 0⟩, ⟨(some 20), .ex (.tmp 17) 1, none, 0⟩, ⟨(some 1), .mv (.tmp 19), none, 0⟩, ⟨(some 2), .mv (.tmp 20), none, 0⟩] none 0 []) (.seq (.reg 0 [⟨(some 22), .mv (.tmp 1), none, 0⟩, ⟨(some 23), .cl 26 [(.tmp 22), (.const (.string ⟨#[97, 64, 120, 32]⟩)), (.const (.string ⟨#[99, 64, 120]⟩))], none, 0⟩, ⟨(some 21), .mv (.tmp 23), none, 0⟩, ⟨(some 24), .ex (.tmp 21) 0, none, 0⟩, ⟨(some 25), .ex (.tmp 21) 1, none, 0⟩, ⟨(some 3), .mv (.tmp 24), none, 0⟩, ⟨(some 4), .mv (.tmp 25), none, 0⟩] none 0 []) (.seq (.reg 0 [⟨(some 27), .mv (.tmp 3), none, 0⟩, ⟨(some 28), .cl 26 [(.tmp 27), (.const (.string ⟨#[97, 64, 120, 32]⟩)), (.const (.string ⟨#[100, 64, 120]⟩))], none, 0⟩, ⟨(some 26), .mv (.tmp 28), none, 0⟩, ⟨(some 29), .ex (.tmp 26) 0, none, 0⟩, ⟨(some 30), .ex (.tmp 26) 1, none, 0⟩, ⟨(some 5), .mv (.tmp 29), none, 0⟩, ⟨(some 6), .mv (.tmp 30), none, 0⟩] none 0 []) (.seq (.reg 0 [⟨(some 32), .mv (.tmp 5), none, 0⟩, ⟨(some 33), .cl 28 [(.tmp 32), (.const (.string ⟨#[98, 64, 120, 32, 49]⟩)), (.const (.string ⟨#[99, 64, 120]⟩))], none, 0⟩, ⟨(some 31), .mv (.tmp 33), none, 0⟩, ⟨(some 34), .ex (.tmp 31) 0, none, 0⟩, ⟨(some 35), .ex (.tmp 31) 1, none, 0⟩, ⟨(some 7), .mv (.tmp 34), none, 0⟩, ⟨(some 8), .mv (.tmp 35), none, 0⟩] none 0 []) (.seq (.reg 0 [⟨(some 37), .mv (.tmp 7), none, 0⟩, ⟨(some 38), .cl 28 [(.tmp 37), (.const (.string ⟨#[98, 64, 120, 32, 49]⟩)), (.const (.string ⟨#[99, 64, 120]⟩))], none, 0⟩, ⟨(some 36), .mv (.tmp 38), none, 0⟩, ⟨(some 39), .ex (.tmp 36) 0, none, 0⟩, ⟨(some 40), .ex (.tmp 36) 1, none, 0⟩, ⟨(some 9), .mv (.tmp 39), none, 0⟩, ⟨(some 10), .mv (.tmp 40), none, 0⟩] none 0 []) (.seq (.reg 0 [⟨(some 42), .mv (.tmp 5), none, 0⟩, ⟨(some 43), .cl 30 [(.tmp 42), (.const (.string ⟨#[97, 64, 120, 32]⟩))], none, 0⟩, ⟨(some 41), .mv (.tmp 43), none, 0⟩, ⟨(some 44), .ex (.tmp 41) 0, none, 0⟩, ⟨(some 45), .ex (.tmp 41) 1, none, 0⟩, ⟨(some 11), .mv (.tmp 44), none, 0⟩, ⟨(some 12), .mv (.tmp 45), none, 0⟩] none 0 []) (.seq (.reg 0 [⟨(some 47), .mv (.tmp 5), none, 0⟩, ⟨(some 48), .cl 32 [(.tmp 47), (.const (.string ⟨#[98, 64, 120]⟩)), (.const (.string ⟨#[99, 64, 120]⟩))], none, 0⟩, ⟨(some 46), .mv (.tmp 48), none, 0⟩, ⟨(some 49), .ex (.tmp 46) 0, none, 0⟩, ⟨(some 50), .ex (.tmp 46) 1, none, 0⟩, ⟨(some 13), .mv (.tmp 49), none, 0⟩, ⟨(some 14), .mv (.tmp 50), none, 0⟩] none 0 []) (.seq (.reg 0 [⟨(some 52), .mv (.tmp 5), none, 0⟩, ⟨(some 53), .cl 26 [(.tmp 52), (.const (.string ⟨#[97]⟩)), (.const (.string ⟨#[100, 64, 120]⟩))], none, 0⟩, ⟨(some 51), .mv (.tmp 53), none, 0⟩, ⟨(some 54), .ex (.tmp 51) 0, none, 0⟩, ⟨(some 55), .ex (.tmp 51) 1, none, 0⟩, ⟨(some 15), .mv (.tmp 54), none, 0⟩, ⟨(some 16), .mv (.tmp 55), none, 0⟩] none 0 []) (.seq (.reg 4 [⟨(some 56), .mv (.tmp 2), none, 0⟩, ⟨(some 57), .bin .eql (.tmp 56) (.const (.int .i64 0)), none, 0⟩, ⟨(some 58), .mv (.tmp 57), none, 0⟩, ⟨(some 59), .mv (.tmp 4), (some (58, true)), 0⟩, ⟨(some 60), .bin .eql (.tmp 59) (.const (.int .i64 0)), (some (58, true)), 0⟩, ⟨(some 61), .pick (.tmp 58) (.tmp 60) (.const (.bool false)), none, 0⟩, ⟨(some 62), .mv (.tmp 61), none, 0⟩, ⟨(some 63), .mv (.tmp 6), (some (62, true)), 0⟩, ⟨(some 64), .bin .eql (.tmp 63) (.const (.int .i64 0)), (some (62, true)), 0⟩, ⟨(some 65), .pick (.tmp 62) (.tmp 64) (.const (.bool false)), none, 0⟩, ⟨(some 66), .mv (.tmp 65), none, 0⟩, ⟨(some 67), .mv (.tmp 8), (some (66, true)), 0⟩, ⟨(some 68), .pick (.tmp 66) (.tmp 67) (.const (.bool false)), none, 0⟩, ⟨(some 69), .mv (.tmp 68), none, 0⟩, ⟨(some 70), .mv (.tmp 10), (some (69, true)), 0⟩, ⟨(some 71), .un .not (.tmp 70), (some (69, true)), 0⟩, ⟨(some 72), .pick (.tmp 69) (.tmp 71) (.const (.bool false)), none, 0⟩, ⟨(some 73), .mv (.tmp 72), none, 0⟩, ⟨(some 74), .mv (.tmp 12), (some (73, true)), 0⟩, ⟨(some 75), .bs 1 2 [(.lit (.string ⟨#[]⟩)), (.lit (.string ⟨#[]⟩))] [(0, (.const (.string ⟨#[99, 64, 120]⟩))), (1, (.const (.string ⟨#[100, 64, 120]⟩)))], (some (73, true)), 0⟩, ⟨(some 76), .cl 36 [(.tmp 74), (.tmp 75)], (some (73, true)), 1⟩, ⟨(some 77), .pick (.tmp 73) (.tmp 76) (.const (.bool false)), none, 1⟩, ⟨(some 78), .mv (.tmp 77), none, 1⟩, ⟨(some 79), .mv (.tmp 11), (some (78, true)), 1⟩, ⟨(some 80), .lens (.tmp 79), (some (78, true)), 1⟩, ⟨(some 81), .bin .eql (.tmp 80) (.const (.int .i64 1)), (some (78, true)), 1⟩, ⟨(some 82), .pick (.tmp 78) (.tmp 81) (.const (.bool false)), none, 1⟩, ⟨(some 83), .mv (.tmp 82), none, 1⟩, ⟨(some 84), .mv (.tmp 14), (some (83, true)), 1⟩, ⟨(some 85), .bin .eql (.tmp 84) (.const (.int .i64 1)), (some (83, true)), 1⟩, ⟨(some 86), .pick (.tmp 83) (.tmp 85) (.const (.bool false)), none, 1⟩, ⟨(some 87), .mv (.tmp 86), none, 1⟩, ⟨(some 88), .mv (.tmp 13), (some (87, true)), 1⟩, ⟨(some 89), .mv (.tmp 7), (some (87, true)), 1⟩, ⟨(some 90), .cl 78 [(.tmp 88), (.tmp 89)], (some (87, true)), 1⟩, ⟨(some 91), .pick (.tmp 87) (.tmp 90) (.const (.bool false)), none, 1⟩, ⟨(some 92), .mv (.tmp 91), none, 1⟩, ⟨(some 93), .mv (.tmp 16), (some (92, true)), 1⟩, ⟨(some 94), .bin .eql (.tmp 93) (.const (.int .i64 11)), (some (92, true)), 1⟩, ⟨(some 95), .pick (.tmp 92) (.tmp 94) (.const (.bool false)), none, 1⟩, ⟨(some 96), .mv (.tmp 95), none, 1⟩, ⟨(some 97), .mv (.tmp 5), (some (96, true)), 1⟩, ⟨(some 98), .cl 79 [(.tmp 97), (.const (.string ⟨#[99, 64, 120]⟩))], (some (96, true)), 1⟩, ⟨(some 99), .bs 1 2 [(.lit (.string ⟨#[]⟩)), (.lit (.string ⟨#[]⟩))] [(0, (.const (.string ⟨#[97, 64, 120, 32]⟩))), (1, (.const (.string ⟨#[98, 64, 120, 32, 49]⟩)))], (some (96, true)), 1⟩, ⟨(some 100), .cl 36 [(.tmp 98), (.tmp 99)], (some (96, true)), 2⟩, ⟨(some 101), .pick (.tmp 96) (.tmp 100) (.const (.bool false)), none, 2⟩, ⟨(some 102), .mv (.tmp 101), none, 2⟩, ⟨(some 103), .mv (.tmp 5), (some (102, true)), 2⟩, ⟨(some 104), .cl 80 [(.tmp 103), (.const (.string ⟨#[97, 64, 120, 32]⟩))], (some (102, true)), 2⟩, ⟨(some 105), .bs 1 2 [(.lit (.string ⟨#[]⟩)), (.lit (.string ⟨#[]⟩))] [(0, (.const (.string ⟨#[99, 64, 120]⟩))), (1, (.const (.string ⟨#[100, 64, 120]⟩)))], (some (102, true)), 2⟩, ⟨(some 106), .cl 36 [(.tmp 104), (.tmp 105)], (some (102, true)), 3⟩, ⟨(some 107), .pick (.tmp 102) (.tmp 106) (.const (.bool false)), none, 3⟩, ⟨(some 108), .mv (.tmp 107), none, 3⟩, ⟨(some 109), .mv (.tmp 5), (some (108, true)), 3⟩, ⟨(some 110), .cl 81 [(.tmp 109), (.const (.string ⟨#[97, 64, 120, 32]⟩)), (.const (.string ⟨#[100, 64, 120]⟩))], (some (108, true)), 3⟩, ⟨(some 111), .pick (.tmp 108) (.tmp 110) (.const (.bool false)), none, 3⟩, ⟨(some 112), .mv (.tmp 111), none, 3⟩, ⟨(some 113), .mv (.tmp 5), (some (112, true)), 3⟩, ⟨(some 114), .cl 81 [(.tmp 113), (.const (.string ⟨#[98, 64, 120, 32, 49]⟩)), (.const (.string ⟨#[100, 64, 120]⟩))], (some (112, true)), 3⟩, ⟨(some 115), .un .not (.tmp 114), (some (112, true)), 3⟩, ⟨(some 116), .pick (.tmp 112) (.tmp 115) (.const (.bool false)), none, 3⟩, ⟨(some 117), .mv (.tmp 116), none, 3⟩, ⟨(some 118), .mv (.tmp 5), (some (117, true)), 3⟩, ⟨(some 119), .cl 82 [(.tmp 118)], (some (117, true)), 3⟩, ⟨(some 120), .bin .eql (.tmp 119) (.const (.int .i64 0)), (some (117, true)), 3⟩, ⟨(some 121), .pick (.tmp 117) (.tmp 120) (.const (.bool false)), none, 3⟩, ⟨(some 122), .mv (.tmp 121), none, 3⟩, ⟨(some 123), .bd [(.lit (.string ⟨#[]⟩)), (.lit (.string ⟨#[]⟩))] [], (some (122, true)), 3⟩, ⟨(some 124), .bs 2 1 [(.lit (.string ⟨#[]⟩)), (.lit (.string ⟨#[]⟩))] [(0, (.tmp 123))], (some (122, true)), 3⟩, ⟨(some 125), .cl 82 [(.tmp 124)], (some (122, true)), 4⟩, ⟨(some 126), .bin .eql (.tmp 125) (.const (.int .i64 11)), (some (122, true)), 4⟩, ⟨(some 127), .pick (.tmp 122) (.tmp 126) (.const (.bool false)), none, 4⟩, ⟨(some 128), .mv (.tmp 127), none, 4⟩, ⟨(some 129), .mv (.tmp 5), (some (128, true)), 4⟩, ⟨(some 130), .mv (.tmp 7), (some (128, true)), 4⟩, ⟨(some 131), .cl 78 [(.tmp 129), (.tmp 130)], (some (128, true)), 4⟩, ⟨(some 132), .un .not (.tmp 131), (some (128, true)), 4⟩, ⟨(some 133), .pick (.tmp 128) (.tmp 132) (.const (.bool false)), none, 4⟩, ⟨(some 134), .mv (.tmp 133), none, 4⟩, ⟨(some 135), .pick (.tmp 134) (.const (.bool true)) (.const (.bool false)), none, 4⟩, ⟨(some 136), .mv (.tmp 135), none, 4⟩, ⟨(some 137), .pick (.tmp 136) (.const (.bool true)) (.const (.bool false)), none, 4⟩, ⟨(some 0), .mv (.tmp 137), none, 4⟩] none 0 []) .ret))))))))))
set_option maxRecDepth 1000000 in
theorem gc24_ok : compF Tryz.prog Tryz.f24 = some (gc24.er, 138, [.tmp 0]) := by unfold gc24; kernel_rfl
set_option maxRecDepth 100000 in
set_option maxHeartbeats 4000000 in
theorem p_law29_awake_v : CallsO Tryz.prog 24 [] V.b (p_law29_awake) := by
  refine callsO_comp mix Tryz.func24 gc24_ok fun r H => ?_
  rw [p_law29_awake] at H
  conv => whnf
  refine ask_c (p_dirs_Add_v _ _ _) H rfl rfl (fun v1 H => ?_); conv => whnf
  refine ask_c (p_dirs_Add_v _ _ _) H rfl rfl (fun v2 H => ?_); conv => whnf
  refine ask_c (p_dirs_Add_v _ _ _) H rfl rfl (fun v3 H => ?_); conv => whnf
  refine ask_c (p_dirs_Del_v _ _ _) H rfl rfl (fun v4 H => ?_); conv => whnf
  refine ask_c (p_dirs_Del_v _ _ _) H rfl rfl (fun v5 H => ?_); conv => whnf
  refine ask_c (p_dirs_Clear_v _ _) H rfl rfl (fun v6 H => ?_); conv => whnf
  refine ask_c (p_dirs_Only_v _ _ _) H rfl rfl (fun v7 H => ?_); conv => whnf
  refine ask_c (p_dirs_Add_v _ _ _) H rfl rfl (fun v8 H => ?_); conv => whnf
  refine tst_d H (fun b9 H => ?_) (fun b9 H => ?_)
  · conv => whnf
    iterate 61 (refine Tst.F ?_; conv => whnf)
    exact fin0_c (enc := V.b) H (.inr rfl) (.cons (.tmp rfl) (.nil)) rfl rfl
  conv => whnf
  iterate 2 (refine Tst.T ?_; conv => whnf)
  refine tst_d H (fun b10 H => ?_) (fun b10 H => ?_)
  · conv => whnf
    iterate 58 (refine Tst.F ?_; conv => whnf)
    exact fin0_c (enc := V.b) H (.inr rfl) (.cons (.tmp rfl) (.nil)) rfl rfl
  conv => whnf
  iterate 2 (refine Tst.T ?_; conv => whnf)
  refine tst_d H (fun b11 H => ?_) (fun b11 H => ?_)
  · conv => whnf
    iterate 55 (refine Tst.F ?_; conv => whnf)
    exact fin0_c (enc := V.b) H (.inr rfl) (.cons (.tmp rfl) (.nil)) rfl rfl
  conv => whnf
  refine Tst.T ?_; conv => whnf
  refine tst_d H (fun b12 H => ?_) (fun b12 H => ?_)
  · conv => whnf
    iterate 53 (refine Tst.F ?_; conv => whnf)
    exact fin0_c (enc := V.b) H (.inr rfl) (.cons (.tmp rfl) (.nil)) rfl rfl
  conv => whnf
  iterate 2 (refine Tst.T ?_; conv => whnf)
  refine Tst.not ?_
  refine tst_c H (fun b13 H => ?_) (fun b13 H => ?_)
  · conv => whnf
    iterate 50 (refine Tst.F ?_; conv => whnf)
    exact fin0_c (enc := V.b) H (.inr rfl) (.cons (.tmp rfl) (.nil)) rfl rfl
  conv => whnf
  iterate 2 (refine Tst.T ?_; conv => whnf)
  refine askF_c (p_ref01_SameTexts_v _ _) H (.cons (.c (.id rfl)) (.cons (.c (fzown (f := V.s) (l := [(⟨#[99, 64, 120]⟩ : ByteArray), (⟨#[100, 64, 120]⟩ : ByteArray)]) rfl rfl (fun _ => rfl) (fun _ => rfl))) (.nil))) (fun v14 H => ?_); conv => whnf
  refine Tst.T ?_; conv => whnf
  refine tst_d H (fun b15 H => ?_) (fun b15 H => ?_)
  · conv => whnf
    iterate 46 (refine Tst.F ?_; conv => whnf)
    exact fin0_c (enc := V.b) H (.inr rfl) (.cons (.tmp rfl) (.nil)) rfl rfl
  conv => whnf
  refine Tst.T ?_; conv => whnf
  refine LenQ.M ?_; conv => whnf
  iterate 2 (refine Tst.T ?_; conv => whnf)
  refine tst_d H (fun b16 H => ?_) (fun b16 H => ?_)
  · conv => whnf
    iterate 42 (refine Tst.F ?_; conv => whnf)
    exact fin0_c (enc := V.b) H (.inr rfl) (.cons (.tmp rfl) (.nil)) rfl rfl
  conv => whnf
  iterate 2 (refine Tst.T ?_; conv => whnf)
  refine tst_d H (fun b17 H => ?_) (fun b17 H => ?_)
  · conv => whnf
    iterate 39 (refine Tst.F ?_; conv => whnf)
    exact fin0_c (enc := V.b) H (.inr rfl) (.cons (.tmp rfl) (.nil)) rfl rfl
  conv => whnf
  iterate 2 (refine Tst.T ?_; conv => whnf)
  refine ask_c (p_dirs_Same_v _ _) H rfl rfl (fun v18 H => ?_); conv => whnf
  refine Tst.T ?_; conv => whnf
  refine tst_d H (fun b19 H => ?_) (fun b19 H => ?_)
  · conv => whnf
    iterate 35 (refine Tst.F ?_; conv => whnf)
    exact fin0_c (enc := V.b) H (.inr rfl) (.cons (.tmp rfl) (.nil)) rfl rfl
  conv => whnf
  iterate 2 (refine Tst.T ?_; conv => whnf)
  refine tst_d H (fun b20 H => ?_) (fun b20 H => ?_)
  · conv => whnf
    iterate 32 (refine Tst.F ?_; conv => whnf)
    exact fin0_c (enc := V.b) H (.inr rfl) (.cons (.tmp rfl) (.nil)) rfl rfl
  conv => whnf
  refine Tst.T ?_; conv => whnf
  refine ask_c (p_dirs_Keys_v _ _) H rfl rfl (fun v21 H => ?_); conv => whnf
  iterate 2 (refine Tst.T ?_; conv => whnf)
  refine askF_c (p_ref01_SameTexts_v _ _) H (.cons (.c (.id rfl)) (.cons (.c (fzown (f := V.s) (l := [(⟨#[97, 64, 120, 32]⟩ : ByteArray), (⟨#[98, 64, 120, 32, 49]⟩ : ByteArray)]) rfl rfl (fun _ => rfl) (fun _ => rfl))) (.nil))) (fun v22 H => ?_); conv => whnf
  refine Tst.T ?_; conv => whnf
  refine tst_d H (fun b23 H => ?_) (fun b23 H => ?_)
  · conv => whnf
    iterate 27 (refine Tst.F ?_; conv => whnf)
    exact fin0_c (enc := V.b) H (.inr rfl) (.cons (.tmp rfl) (.nil)) rfl rfl
  conv => whnf
  refine Tst.T ?_; conv => whnf
  refine ask_c (p_dirs_Of_v _ _) H rfl rfl (fun v24 H => ?_); conv => whnf
  iterate 2 (refine Tst.T ?_; conv => whnf)
  refine askF_c (p_ref01_SameTexts_v _ _) H (.cons (.c (.id rfl)) (.cons (.c (fzown (f := V.s) (l := [(⟨#[99, 64, 120]⟩ : ByteArray), (⟨#[100, 64, 120]⟩ : ByteArray)]) rfl rfl (fun _ => rfl) (fun _ => rfl))) (.nil))) (fun v25 H => ?_); conv => whnf
  refine Tst.T ?_; conv => whnf
  refine tst_d H (fun b26 H => ?_) (fun b26 H => ?_)
  · conv => whnf
    iterate 22 (refine Tst.F ?_; conv => whnf)
    exact fin0_c (enc := V.b) H (.inr rfl) (.cons (.tmp rfl) (.nil)) rfl rfl
  conv => whnf
  refine Tst.T ?_; conv => whnf
  refine ask_c (p_dirs_Has_v _ _ _) H rfl rfl (fun v27 H => ?_); conv => whnf
  refine Tst.T ?_; conv => whnf
  refine tst_d H (fun b28 H => ?_) (fun b28 H => ?_)
  · conv => whnf
    iterate 19 (refine Tst.F ?_; conv => whnf)
    exact fin0_c (enc := V.b) H (.inr rfl) (.cons (.tmp rfl) (.nil)) rfl rfl
  conv => whnf
  refine Tst.T ?_; conv => whnf
  refine ask_c (p_dirs_Has_v _ _ _) H rfl rfl (fun v29 H => ?_); conv => whnf
  iterate 2 (refine Tst.T ?_; conv => whnf)
  refine Tst.not ?_
  refine tst_c H (fun b30 H => ?_) (fun b30 H => ?_)
  · conv => whnf
    iterate 15 (refine Tst.F ?_; conv => whnf)
    exact fin0_c (enc := V.b) H (.inr rfl) (.cons (.tmp rfl) (.nil)) rfl rfl
  conv => whnf
  refine Tst.T ?_; conv => whnf
  refine ask_c (p_dirs_Check_v _) H rfl rfl (fun v31 H => ?_); conv => whnf
  iterate 2 (refine Tst.T ?_; conv => whnf)
  refine tst_d H (fun b32 H => ?_) (fun b32 H => ?_)
  · conv => whnf
    iterate 11 (refine Tst.F ?_; conv => whnf)
    exact fin0_c (enc := V.b) H (.inr rfl) (.cons (.tmp rfl) (.nil)) rfl rfl
  conv => whnf
  iterate 2 (refine Tst.T ?_; conv => whnf)
  refine askF_c (p_dirs_Check_v _) H (.cons (.c (fzown (f := Ref29Arrow.v) (l := [(Ref29Arrow.mk (⟨#[]⟩ : ByteArray) (⟨#[]⟩ : ByteArray))]) rfl rfl (fun _ => rfl) (fun _ => rfl))) (.nil)) (fun v33 H => ?_); conv => whnf
  iterate 2 (refine Tst.T ?_; conv => whnf)
  refine tst_d H (fun b34 H => ?_) (fun b34 H => ?_)
  · conv => whnf
    iterate 6 (refine Tst.F ?_; conv => whnf)
    exact fin0_c (enc := V.b) H (.inr rfl) (.cons (.tmp rfl) (.nil)) rfl rfl
  conv => whnf
  iterate 2 (refine Tst.T ?_; conv => whnf)
  refine ask_c (p_dirs_Same_v _ _) H rfl rfl (fun v35 H => ?_); conv => whnf
  iterate 2 (refine Tst.T ?_; conv => whnf)
  refine Tst.not ?_
  refine tst_c H (fun b36 H => ?_) (fun b36 H => ?_)
  · conv => whnf
    refine Tst.F ?_; conv => whnf
    exact fin0_c (enc := V.b) H (.inr rfl) (.cons (.tmp rfl) (.nil)) rfl rfl
  conv => whnf
  refine Tst.T ?_; conv => whnf
  exact fin0_c (enc := V.b) H (.inr rfl) (.cons (.tmp rfl) (.nil)) rfl rfl
def gc25 : BCode := (.seq (.reg 0 [⟨(some 2), .mv (.const (.slice none 0 0)), none, 0⟩] none 0 []) (.seq (.reg 0 [⟨(some 3), .mv (.const (.slice none 0 0)), none, 0⟩] none 0 []) (.seq (.seq (.reg 0 [⟨(some 4), .mv (.const (.int .i64 0)), none, 0⟩] none 0 []) (.block 0 (.loop (.seq (.seq (.reg 0 [⟨(some 5), .mv (.tmp 4), none, 0⟩, ⟨(some 6), .mv (.tmp 0), none, 0⟩, ⟨(some 7), .lens (.tmp 6), none, 0⟩, ⟨(some 8), .bin .lss (.tmp 5) (.tmp 7), none, 0⟩] none 0 []) (.cond (.tmp 8) .skip (.exit 0))) (.seq (.block 1 (.reg 2 [⟨(some 11), .mv (.tmp 3), none, 0⟩, ⟨(some 12), .mv (.tmp 0), none, 0⟩, ⟨(some 13), .mv (.tmp 4), none, 0⟩, ⟨(some 14), .ixs 2 (.tmp 12) (.tmp 13), none, 0⟩, ⟨(some 15), .ld 2 true (.tmp 14), none, 0⟩, ⟨(some 16), .bs 2 1 [(.lit (.string ⟨#[]⟩)), (.lit (.string ⟨#[]⟩))] [(0, (.tmp 15))], none, 0⟩, ⟨(some 17), .ap 2 32 (.tmp 11) (.tmp 16), none, 1⟩, ⟨(some 3), .mv (.tmp 17), none, 2⟩] none 0 [])) (.reg 0 [⟨(some 9), .mv (.tmp 4), none, 0⟩, ⟨(some 10), .bin .add (.tmp 9) (.const (.int .i64 1)), none, 0⟩, ⟨(some 4), .mv (.tmp 10), none, 0⟩] none 0 [])))))) (.seq (.reg 0 [⟨(some 18), .mv (.tmp 3), none, 0⟩, ⟨(some 2), .mv (.tmp 18), none, 0⟩] none 0 []) .ret))))
theorem gc25_ok : compF Tryz.prog Tryz.f25 = some (gc25.er, 19, [.tmp 2]) := by unfold gc25; kernel_rfl
set_option maxRecDepth 100000 in
set_option maxHeartbeats 4000000 in
theorem p_law29_own_v {u1 : Bool} (a0 : List Ref29Arrow) : CallsO Tryz.prog 25 [.sl (List.map Ref29Arrow.v a0) u1] (fun l : List Ref29Arrow => V.sl (l.map Ref29Arrow.v) false) (p_law29_own a0) := by
  refine callsO_comp mix Tryz.func25 gc25_ok fun r H => ?_
  rw [p_law29_own] at H
  conv => whnf
  obtain ⟨o2, HL3, HQ4⟩ := bind_c H
  refine loop_c [3, 4] [5, 6, 7, 8, 9, 10, 11, 12, 13, 14, 15, 16, 17] [5, 6, 7, 8, 9, 10, 11, 12, 13, 14, 15, 16, 17] (fun n vals st => (∃ y6, p_law29_own_l1  a0 n [] y6 = some o2 ∧ vals = [.sl (List.map Ref29Arrow.v []) true, .i y6] ∧ st = []) ∨ (∃ y10 y11, p_law29_own_l1  a0 n y10 y11 = some o2 ∧ vals = [.osl 0 0 (List.length y10) 2 false, .i y11] ∧ st = [.live (cellsM Ref29Arrow.v y10) (cellsM Ref29Arrow.v y10).length])) fuel 0 [] (.inl (⟨_, HL3, rfl, rfl⟩)) (Nat.zero_le _) rfl (by kernel_rfl) (by kernel_rfl) rfl trivial ?_
  rintro (_ | n5) _ _ (⟨y6, H, rfl, rfl⟩ | ⟨y10, y11, H, rfl, rfl⟩)
  · rw [p_law29_own_l1] at H; cases H
  · rw [p_law29_own_l1] at H; cases H
  · rw [p_law29_own_l1] at H
    conv => whnf
    refine LenQ.M ?_; conv => whnf
    refine tst_d H (fun b7 H => ?_) (fun b7 H => ?_)
    · conv => whnf
      obtain rfl := Option.some.inj H
      have H := HQ4
      try dsimp only at H
      refine finR_c (enc := (fun l : List Ref29Arrow => V.sl (l.map Ref29Arrow.v) false)) H ?_; conv => whnf
      exact ⟨_, .v (.c (.slw))⟩
    conv => whnf
    refine ixs_c (f := Ref29Arrow.v) H (fun _ => rfl) (fun x8 H => ?_); conv => whnf
    refine appN_c (f := Ref29Arrow.v) H (fun _ => rfl) (srcM (f := Ref29Arrow.v) (fun _ => rfl) _ _) rfl (.v (srcOwn (f := Ref29Arrow.v) (l := [x8]) (fun _ => rfl) rfl rfl rfl)) (by decide) rfl (by simp) (fun l9 H => ?_); conv => whnf
    refine Ari.w ?_; conv => whnf
    exact again_c [5, 6, 7, 8, 9, 10, 11, 12, 13, 14, 15, 16, 17] n5 1 [1] (.inr (⟨_, _, H, rfl, rfl⟩)) (Nat.lt_succ_self _) (Nat.zero_le _) rfl (by kernel_rfl) (by kernel_rfl) rfl (wkB_live0 rfl (cellsM_idlt (f := Ref29Arrow.v) (fun _ => rfl) _) rfl trivial)
  rw [p_law29_own_l1] at H
  conv => whnf
  refine LenQ.M ?_; conv => whnf
  refine tst_d H (fun b12 H => ?_) (fun b12 H => ?_)
  · conv => whnf
    obtain rfl := Option.some.inj H
    have H := HQ4
    try dsimp only at H
    refine finR_c (enc := (fun l : List Ref29Arrow => V.sl (l.map Ref29Arrow.v) false)) H ?_; conv => whnf
    exact ⟨_, .v (.c (fzown (f := Ref29Arrow.v) (l := y10) rfl rfl (fun _ => rfl) (fun _ => rfl)))⟩
  conv => whnf
  refine ixs_c (f := Ref29Arrow.v) H (fun _ => rfl) (fun x13 H => ?_); conv => whnf
  refine appO_c (f := Ref29Arrow.v) H (fun _ => rfl) rfl (Nat.le_refl _) (.v (srcOwn (f := Ref29Arrow.v) (l := [x13]) (fun _ => rfl) rfl rfl rfl)) (by decide) rfl (by simp) (fun l14 H => ?_); conv => whnf
  refine Ari.w ?_; conv => whnf
  exact again_c [5, 6, 7, 8, 9, 10, 11, 12, 13, 14, 15, 16, 17] n5 1 [2] (.inr (⟨_, _, H, rfl, rfl⟩)) (Nat.lt_succ_self _) (Nat.zero_le _) rfl (by kernel_rfl) (by kernel_rfl) rfl (wkB_live0 rfl (cellsM_idlt (f := Ref29Arrow.v) (fun _ => rfl) _) rfl trivial)
def gc99 : BCode := (.seq (.reg 0 [⟨(some 2), .mv (.const (.string ⟨#[]⟩)), none, 0⟩, ⟨(some 3), .mv (.const (.string ⟨#[]⟩)), none, 0⟩, ⟨(some 4), .mv (.const (.int .i64 0)), none, 0⟩] none 0 []) (.seq (.reg 0 [⟨(some 5), .mv (.const (.int .i64 0)), none, 0⟩] none 0 []) (.seq (.block 0 (.loop (.seq (.seq (.reg 0 [⟨(some 8), .mv (.tmp 5), none, 0⟩, ⟨(some 9), .mv (.tmp 0), none, 0⟩, ⟨(some 10), .lent (.tmp 9), none, 0⟩, ⟨(some 11), .bin .lss (.tmp 8) (.tmp 10), none, 0⟩, ⟨(some 12), .mv (.tmp 11), none, 0⟩, ⟨(some 13), .mv (.tmp 0), (some (12, true)), 0⟩, ⟨(some 14), .mv (.tmp 5), (some (12, true)), 0⟩, ⟨(some 15), .ixt (.tmp 13) (.tmp 14), (some (12, true)), 0⟩, ⟨(some 16), .bin .neq (.tmp 15) (.const (.int .u8 32)), (some (12, true)), 0⟩, ⟨(some 17), .pick (.tmp 12) (.tmp 16) (.const (.bool false)), none, 0⟩] none 0 []) (.cond (.tmp 17) .skip (.exit 0))) (.block 1 (.reg 0 [⟨(some 18), .mv (.tmp 5), none, 0⟩, ⟨(some 19), .bin .add (.tmp 18) (.const (.int .i64 1)), none, 0⟩, ⟨(some 5), .mv (.tmp 19), none, 0⟩] none 0 []))))) (.seq (.seq (.reg 0 [⟨(some 20), .mv (.tmp 5), none, 0⟩, ⟨(some 21), .mv (.tmp 0), none, 0⟩, ⟨(some 22), .lent (.tmp 21), none, 0⟩, ⟨(some 23), .bin .eql (.tmp 20) (.tmp 22), none, 0⟩] none 0 []) (.cond (.tmp 23) (.seq (.reg 0 [⟨(some 2), .mv (.const (.string ⟨#[]⟩)), none, 0⟩, ⟨(some 3), .mv (.const (.string ⟨#[]⟩)), none, 0⟩, ⟨(some 4), .mv (.const (.int .i64 4)), none, 0⟩] none 0 []) .ret) .skip)) (.seq (.reg 0 [⟨(some 24), .mv (.tmp 0), none, 0⟩, ⟨(some 25), .mv (.tmp 5), none, 0⟩, ⟨(some 26), .slt (.tmp 24) none (some (.tmp 25)), none, 0⟩, ⟨(some 27), .mv (.tmp 0), none, 0⟩, ⟨(some 28), .mv (.tmp 5), none, 0⟩, ⟨(some 29), .bin .add (.tmp 28) (.const (.int .i64 1)), none, 0⟩, ⟨(some 30), .slt (.tmp 27) (some (.tmp 29)) none, none, 0⟩, ⟨(some 6), .mv (.tmp 26), none, 0⟩, ⟨(some 7), .mv (.tmp 30), none, 0⟩] (some [[], [], [1, 0], [], [], [4], [4, 5, 3], [0, 1, 2], [2, 1, 0, 7, 3, 5, 4, 6]]) 0 []) (.seq (.block 2 (.seq (.reg 0 [⟨(some 32), .mv (.tmp 6), none, 0⟩, ⟨(some 33), .cl 110 [(.tmp 32)], none, 0⟩, ⟨(some 34), .un .not (.tmp 33), none, 0⟩, ⟨(some 31), .mv (.tmp 34), none, 0⟩] none 0 []) (.cond (.tmp 31) (.seq (.reg 0 [⟨(some 2), .mv (.const (.string ⟨#[]⟩)), none, 0⟩, ⟨(some 3), .mv (.const (.string ⟨#[]⟩)), none, 0⟩, ⟨(some 4), .mv (.const (.int .i64 11)), none, 0⟩] none 0 []) .ret) (.seq (.reg 0 [⟨(some 36), .mv (.tmp 7), none, 0⟩, ⟨(some 37), .cl 159 [(.tmp 36)], none, 0⟩, ⟨(some 38), .bin .neq (.tmp 37) (.const (.int .i64 0)), none, 0⟩, ⟨(some 35), .mv (.tmp 38), none, 0⟩] none 0 []) (.cond (.tmp 35) (.seq (.reg 0 [⟨(some 39), .mv (.tmp 7), none, 0⟩, ⟨(some 40), .cl 159 [(.tmp 39)], none, 0⟩, ⟨(some 2), .mv (.const (.string ⟨#[]⟩)), none, 0⟩, ⟨(some 3), .mv (.const (.string ⟨#[]⟩)), none, 0⟩, ⟨(some 4), .mv (.tmp 40), none, 0⟩] none 0 []) .ret) .skip))))) (.seq (.reg 0 [⟨(some 41), .mv (.tmp 6), none, 0⟩, ⟨(some 42), .mv (.tmp 7), none, 0⟩, ⟨(some 2), .mv (.tmp 41), none, 0⟩, ⟨(some 3), .mv (.tmp 42), none, 0⟩, ⟨(some 4), .mv (.const (.int .i64 0)), none, 0⟩] none 0 []) .ret)))))))
theorem gc99_ok : compF Tryz.prog Tryz.f99 = some (gc99.er, 43, [.tmp 2, .tmp 3, .tmp 4]) := by unfold gc99; kernel_rfl
set_option maxRecDepth 100000 in
set_option maxHeartbeats 4000000 in
theorem p_ref23_Split_v (a0 : ByteArray) : CallsO Tryz.prog 99 [.s a0] (fun r : ByteArray × ByteArray × Int => .tup [V.s r.1, V.s r.2.1, V.i r.2.2]) (p_ref23_Split a0) := by
  refine callsO_comp mix Tryz.func99 gc99_ok fun r H => ?_
  rw [p_ref23_Split] at H
  conv => whnf
  obtain ⟨o2, HL3, HQ4⟩ := bind_c H
  refine loop_c [5] [8, 9, 10, 11, 12, 13, 14, 15, 16, 17, 18, 19] [8, 9, 10, 11, 12, 13, 14, 15, 16, 17, 18, 19] (fun n vals st => (∃ y6, p_ref23_Split_l1  a0 n y6 = some o2 ∧ vals = [.i y6] ∧ st = [])) fuel 0 [] (⟨_, HL3, rfl, rfl⟩) (Nat.zero_le _) rfl (by kernel_rfl) (by kernel_rfl) rfl trivial ?_
  rintro (_ | n5) _ _ (⟨y6, H, rfl, rfl⟩)
  · rw [p_ref23_Split_l1] at H; cases H
  rw [p_ref23_Split_l1] at H
  conv => whnf
  refine tst_d H (fun b7 H => ?_) (fun b7 H => ?_)
  · conv => whnf
    iterate 5 (refine Tst.F ?_; conv => whnf)
    obtain rfl := Option.some.inj H
    have H := HQ4
    try dsimp only at H
    refine tst_c H (fun b18 H => ?_) (fun b18 H => ?_)
    · conv => whnf
      exact fin0_c (enc := (fun r : ByteArray × ByteArray × Int => .tup [V.s r.1, V.s r.2.1, V.i r.2.2])) H (.inr rfl) (.cons (.tmp rfl) (.cons (.tmp rfl) (.cons (.tmp rfl) (.nil)))) rfl rfl
    conv => whnf
    refine slt_c H (fun s19 H => ?_); conv => whnf
    refine Ari.w ?_; conv => whnf
    refine slt_c H (fun s20 H => ?_); conv => whnf
    refine FootQ.mk ⟨rfl, ?_⟩; conv => whnf
    refine ask_c (p_ref09_IsBare_v _) H rfl rfl (fun v21 H => ?_); conv => whnf
    refine Tst.not ?_
    refine tst_d H (fun b22 H => ?_) (fun b22 H => ?_)
    · conv => whnf
      exact fin0_c (enc := (fun r : ByteArray × ByteArray × Int => .tup [V.s r.1, V.s r.2.1, V.i r.2.2])) H (.inr rfl) (.cons (.tmp rfl) (.cons (.tmp rfl) (.cons (.tmp rfl) (.nil)))) rfl rfl
    conv => whnf
    refine ask_c (p_ref09_Resource_v _) H rfl rfl (fun v23 H => ?_); conv => whnf
    refine tst_d H (fun b24 H => ?_) (fun b24 H => ?_)
    · conv => whnf
      exact fin0_c (enc := (fun r : ByteArray × ByteArray × Int => .tup [V.s r.1, V.s r.2.1, V.i r.2.2])) H (.inr rfl) (.cons (.tmp rfl) (.cons (.tmp rfl) (.cons (.tmp rfl) (.nil)))) rfl rfl
    conv => whnf
    refine ask_c (p_ref09_Resource_v _) H rfl rfl (fun v25 H => ?_); conv => whnf
    exact fin0_c (enc := (fun r : ByteArray × ByteArray × Int => .tup [V.s r.1, V.s r.2.1, V.i r.2.2])) H (.inr rfl) (.cons (.tmp rfl) (.cons (.tmp rfl) (.cons (.tmp rfl) (.nil)))) rfl rfl
  conv => whnf
  iterate 2 (refine Tst.T ?_; conv => whnf)
  refine ixt_c H (fun c8 H => ?_); conv => whnf
  iterate 2 (refine Tst.T ?_; conv => whnf)
  refine tst_c H (fun b9 H => ?_) (fun b9 H => ?_)
  · conv => whnf
    refine Ari.w ?_; conv => whnf
    exact again_c [8, 9, 10, 11, 12, 13, 14, 15, 16, 17, 18, 19] n5 0 [] (⟨_, H, rfl, rfl⟩) (Nat.lt_succ_self _) (Nat.zero_le _) rfl (by kernel_rfl) (by kernel_rfl) rfl trivial
  conv => whnf
  obtain rfl := Option.some.inj H
  have H := HQ4
  try dsimp only at H
  refine tst_c H (fun b10 H => ?_) (fun b10 H => ?_)
  · conv => whnf
    exact fin0_c (enc := (fun r : ByteArray × ByteArray × Int => .tup [V.s r.1, V.s r.2.1, V.i r.2.2])) H (.inr rfl) (.cons (.tmp rfl) (.cons (.tmp rfl) (.cons (.tmp rfl) (.nil)))) rfl rfl
  conv => whnf
  refine slt_c H (fun s11 H => ?_); conv => whnf
  refine Ari.w ?_; conv => whnf
  refine slt_c H (fun s12 H => ?_); conv => whnf
  refine FootQ.mk ⟨rfl, ?_⟩; conv => whnf
  refine ask_c (p_ref09_IsBare_v _) H rfl rfl (fun v13 H => ?_); conv => whnf
  refine Tst.not ?_
  refine tst_d H (fun b14 H => ?_) (fun b14 H => ?_)
  · conv => whnf
    exact fin0_c (enc := (fun r : ByteArray × ByteArray × Int => .tup [V.s r.1, V.s r.2.1, V.i r.2.2])) H (.inr rfl) (.cons (.tmp rfl) (.cons (.tmp rfl) (.cons (.tmp rfl) (.nil)))) rfl rfl
  conv => whnf
  refine ask_c (p_ref09_Resource_v _) H rfl rfl (fun v15 H => ?_); conv => whnf
  refine tst_d H (fun b16 H => ?_) (fun b16 H => ?_)
  · conv => whnf
    exact fin0_c (enc := (fun r : ByteArray × ByteArray × Int => .tup [V.s r.1, V.s r.2.1, V.i r.2.2])) H (.inr rfl) (.cons (.tmp rfl) (.cons (.tmp rfl) (.cons (.tmp rfl) (.nil)))) rfl rfl
  conv => whnf
  refine ask_c (p_ref09_Resource_v _) H rfl rfl (fun v17 H => ?_); conv => whnf
  exact fin0_c (enc := (fun r : ByteArray × ByteArray × Int => .tup [V.s r.1, V.s r.2.1, V.i r.2.2])) H (.inr rfl) (.cons (.tmp rfl) (.cons (.tmp rfl) (.cons (.tmp rfl) (.nil)))) rfl rfl
def gc89 : BCode := (.seq (.reg 1 [⟨(some 1), .bx (.tmp 0), none, 0⟩, ⟨(some 2), .mv (.const (.bool false)), none, 1⟩] none 0 []) (.seq (.reg 0 [⟨(some 7), .fa 0 (.tmp 1), none, 0⟩, ⟨(some 8), .ld 1 false (.tmp 7), none, 0⟩, ⟨(some 9), .cl 99 [(.tmp 8)], none, 0⟩, ⟨(some 6), .mv (.tmp 9), none, 0⟩, ⟨(some 10), .ex (.tmp 6) 0, none, 0⟩, ⟨(some 11), .ex (.tmp 6) 1, none, 0⟩, ⟨(some 12), .ex (.tmp 6) 2, none, 0⟩, ⟨(some 3), .mv (.tmp 10), none, 0⟩, ⟨(some 4), .mv (.tmp 11), none, 0⟩, ⟨(some 5), .mv (.tmp 12), none, 0⟩] none 0 []) (.seq (.reg 0 [⟨(some 13), .mv (.tmp 5), none, 0⟩, ⟨(some 14), .bin .eql (.tmp 13) (.const (.int .i64 0)), none, 0⟩, ⟨(some 15), .mv (.tmp 14), none, 0⟩, ⟨(some 16), .fa 1 (.tmp 1), (some (15, true)), 0⟩, ⟨(some 17), .ld 1 false (.tmp 16), (some (15, true)), 0⟩, ⟨(some 18), .cl 110 [(.tmp 17)], (some (15, true)), 0⟩, ⟨(some 19), .pick (.tmp 15) (.tmp 18) (.const (.bool false)), none, 0⟩, ⟨(some 2), .mv (.tmp 19), none, 0⟩] none 0 []) .ret)))
theorem gc89_ok : compF Tryz.prog Tryz.f89 = some (gc89.er, 20, [.tmp 2]) := by unfold gc89; kernel_rfl
set_option maxRecDepth 100000 in
set_option maxHeartbeats 4000000 in
theorem p_ref29_fine_v (a0 : Ref29Arrow) : CallsO Tryz.prog 89 [.agg [.s a0.From, .s a0.To]] V.b (p_ref29_fine a0) := by
  refine callsO_comp mix Tryz.func89 gc89_ok fun r H => ?_
  rw [p_ref29_fine] at H
  conv => whnf
  refine ask_c (p_ref23_Split_v _) H rfl rfl (fun v1 H => ?_); conv => whnf
  refine tst_d H (fun b2 H => ?_) (fun b2 H => ?_)
  · conv => whnf
    iterate 3 (refine Tst.F ?_; conv => whnf)
    exact fin0_c (enc := V.b) H (.inr rfl) (.cons (.tmp rfl) (.nil)) rfl rfl
  conv => whnf
  iterate 2 (refine Tst.T ?_; conv => whnf)
  refine ask_c (p_ref09_IsBare_v _) H rfl rfl (fun v3 H => ?_); conv => whnf
  refine Tst.T ?_; conv => whnf
  exact fin0_c (enc := V.b) H (.inr rfl) (.cons (.tmp rfl) (.nil)) rfl rfl
end Go.Proofs.YthmgficajgedlaaGreat
/- That the program's functions yield what the plain ones tell (written by a program of mine). -/
namespace Go.Proofs.YthmgficajgedlaaGreat
open Go.RowKit
def gc91 : BCode := (.seq (.reg 2 [⟨(some 2), .bx (.tmp 0), none, 0⟩, ⟨(some 3), .bx (.tmp 1), none, 1⟩, ⟨(some 4), .mv (.const (.bool false)), none, 2⟩] none 0 []) (.seq (.reg 0 [⟨(some 5), .fa 0 (.tmp 2), none, 0⟩, ⟨(some 6), .ld 1 false (.tmp 5), none, 0⟩, ⟨(some 7), .fa 0 (.tmp 3), none, 0⟩, ⟨(some 8), .ld 1 false (.tmp 7), none, 0⟩, ⟨(some 9), .bin .lss (.tmp 6) (.tmp 8), none, 0⟩, ⟨(some 10), .mv (.tmp 9), none, 0⟩, ⟨(some 11), .fa 0 (.tmp 2), (some (10, false)), 0⟩, ⟨(some 12), .ld 1 false (.tmp 11), (some (10, false)), 0⟩, ⟨(some 13), .fa 0 (.tmp 3), (some (10, false)), 0⟩, ⟨(some 14), .ld 1 false (.tmp 13), (some (10, false)), 0⟩, ⟨(some 15), .bin .eql (.tmp 12) (.tmp 14), (some (10, false)), 0⟩, ⟨(some 16), .mv (.tmp 15), (some (10, false)), 0⟩, ⟨(some 17), .fa 1 (.tmp 2), (some (16, true)), 0⟩, ⟨(some 18), .ld 1 false (.tmp 17), (some (16, true)), 0⟩, ⟨(some 19), .fa 1 (.tmp 3), (some (16, true)), 0⟩, ⟨(some 20), .ld 1 false (.tmp 19), (some (16, true)), 0⟩, ⟨(some 21), .bin .lss (.tmp 18) (.tmp 20), (some (16, true)), 0⟩, ⟨(some 22), .pick (.tmp 16) (.tmp 21) (.const (.bool false)), (some (10, false)), 0⟩, ⟨(some 23), .pick (.tmp 10) (.const (.bool true)) (.tmp 22), none, 0⟩, ⟨(some 4), .mv (.tmp 23), none, 0⟩] none 0 []) .ret))
theorem gc91_ok : compF Tryz.prog Tryz.f91 = some (gc91.er, 24, [.tmp 4]) := by unfold gc91; kernel_rfl
set_option maxRecDepth 100000 in
set_option maxHeartbeats 4000000 in
theorem p_ref29_less_v (a0 : Ref29Arrow) (a1 : Ref29Arrow) : CallsO Tryz.prog 91 [.agg [.s a0.From, .s a0.To], .agg [.s a1.From, .s a1.To]] V.b (p_ref29_less a0 a1) := by
  refine callsO_comp mix Tryz.func91 gc91_ok fun r H => ?_
  rw [p_ref29_less] at H
  conv => whnf
  refine tst_c H (fun b1 H => ?_) (fun b1 H => ?_)
  · conv => whnf
    iterate 7 (refine Tst.T ?_; conv => whnf)
    exact fin0_c (enc := V.b) H (.inr rfl) (.cons (.tmp rfl) (.nil)) rfl rfl
  conv => whnf
  iterate 5 (refine Tst.F ?_; conv => whnf)
  refine tst_c H (fun b2 H => ?_) (fun b2 H => ?_)
  · conv => whnf
    iterate 4 (refine Tst.T ?_; conv => whnf)
    refine Tst.F ?_; conv => whnf
    refine Tst.T ?_; conv => whnf
    refine Tst.F ?_; conv => whnf
    exact fin0_c (enc := V.b) H (.inr rfl) (.cons (.tmp rfl) (.nil)) rfl rfl
  conv => whnf
  iterate 7 (refine Tst.F ?_; conv => whnf)
  exact fin0_c (enc := V.b) H (.inr rfl) (.cons (.tmp rfl) (.nil)) rfl rfl
def gc88 : BCode := (.seq (.reg 0 [⟨(some 2), .mv (.const (.int .i64 0)), none, 0⟩] none 0 []) (.seq (.seq (.reg 0 [⟨(some 5), .mv (.tmp 0), none, 0⟩, ⟨(some 6), .lens (.tmp 5), none, 0⟩, ⟨(some 7), .bin .gtr (.tmp 6) (.const (.int .i64 32)), none, 0⟩] none 0 []) (.cond (.tmp 7) (.seq (.reg 0 [⟨(some 2), .mv (.const (.int .i64 5)), none, 0⟩] none 0 []) .ret) .skip)) (.seq (.seq (.reg 0 [⟨(some 3), .mv (.const (.int .i64 0)), none, 0⟩] none 0 []) (.block 0 (.loop (.seq (.seq (.reg 0 [⟨(some 8), .mv (.tmp 3), none, 0⟩, ⟨(some 9), .mv (.tmp 0), none, 0⟩, ⟨(some 10), .lens (.tmp 9), none, 0⟩, ⟨(some 11), .bin .lss (.tmp 8) (.tmp 10), none, 0⟩] none 0 []) (.cond (.tmp 11) .skip (.exit 0))) (.seq (.block 1 (.seq (.reg 0 [⟨(some 14), .mv (.tmp 0), none, 0⟩, ⟨(some 15), .mv (.tmp 3), none, 0⟩, ⟨(some 16), .ixs 2 (.tmp 14) (.tmp 15), none, 0⟩, ⟨(some 17), .ld 2 true (.tmp 16), none, 0⟩, ⟨(some 18), .cl 89 [(.tmp 17)], none, 0⟩, ⟨(some 19), .un .not (.tmp 18), none, 0⟩] none 0 []) (.cond (.tmp 19) (.seq (.reg 0 [⟨(some 2), .mv (.const (.int .i64 11)), none, 0⟩] none 0 []) .ret) .skip))) (.reg 0 [⟨(some 12), .mv (.tmp 3), none, 0⟩, ⟨(some 13), .bin .add (.tmp 12) (.const (.int .i64 1)), none, 0⟩, ⟨(some 3), .mv (.tmp 13), none, 0⟩] none 0 [])))))) (.seq (.seq (.reg 0 [⟨(some 4), .mv (.const (.int .i64 1)), none, 0⟩] none 0 []) (.block 2 (.loop (.seq (.seq (.reg 0 [⟨(some 20), .mv (.tmp 4), none, 0⟩, ⟨(some 21), .mv (.tmp 0), none, 0⟩, ⟨(some 22), .lens (.tmp 21), none, 0⟩, ⟨(some 23), .bin .lss (.tmp 20) (.tmp 22), none, 0⟩] none 0 []) (.cond (.tmp 23) .skip (.exit 2))) (.seq (.block 3 (.seq (.reg 0 [⟨(some 26), .mv (.tmp 0), none, 0⟩, ⟨(some 27), .mv (.tmp 4), none, 0⟩, ⟨(some 28), .bin .sub (.tmp 27) (.const (.int .i64 1)), none, 0⟩, ⟨(some 29), .ixs 2 (.tmp 26) (.tmp 28), none, 0⟩, ⟨(some 30), .ld 2 true (.tmp 29), none, 0⟩, ⟨(some 31), .mv (.tmp 0), none, 0⟩, ⟨(some 32), .mv (.tmp 4), none, 0⟩, ⟨(some 33), .ixs 2 (.tmp 31) (.tmp 32), none, 0⟩, ⟨(some 34), .ld 2 true (.tmp 33), none, 0⟩, ⟨(some 35), .cl 91 [(.tmp 30), (.tmp 34)], none, 0⟩, ⟨(some 36), .un .not (.tmp 35), none, 0⟩] (some [[], [], [1], [1, 2, 0], [0, 2, 1, 3], [], [], [6, 5], [5, 6, 7], [7, 6, 5, 8, 3, 1, 2, 0, 4], [4, 0, 2, 1, 3, 8, 5, 6, 7, 9]]) 0 []) (.cond (.tmp 36) (.seq (.reg 0 [⟨(some 2), .mv (.const (.int .i64 10)), none, 0⟩] none 0 []) .ret) .skip))) (.reg 0 [⟨(some 24), .mv (.tmp 4), none, 0⟩, ⟨(some 25), .bin .add (.tmp 24) (.const (.int .i64 1)), none, 0⟩, ⟨(some 4), .mv (.tmp 25), none, 0⟩] none 0 [])))))) (.seq (.reg 0 [⟨(some 2), .mv (.const (.int .i64 0)), none, 0⟩] none 0 []) .ret)))))
theorem gc88_ok : compF Tryz.prog Tryz.f88 = some (gc88.er, 37, [.tmp 2]) := by unfold gc88; kernel_rfl
set_option maxRecDepth 100000 in
set_option maxHeartbeats 4000000 in
theorem p_ref29_Check_v {u1 : Bool} (a0 : List Ref29Arrow) : CallsO Tryz.prog 88 [.sl (List.map Ref29Arrow.v a0) u1] V.i (p_ref29_Check a0) := by
  refine callsO_comp mix Tryz.func88 gc88_ok fun r H => ?_
  rw [p_ref29_Check] at H
  conv => whnf
  refine LenQ.M ?_; conv => whnf
  refine tst_c H (fun b1 H => ?_) (fun b1 H => ?_)
  · conv => whnf
    exact fin0_c (enc := V.i) H (.inr rfl) (.cons (.tmp rfl) (.nil)) rfl rfl
  conv => whnf
  obtain ⟨o3, HL4, HQ5⟩ := bind_c H
  refine loop_c [2, 3] [8, 9, 10, 11, 12, 13, 14, 15, 16, 17, 18, 19] [8, 9, 10, 11, 12, 13, 14, 15, 16, 17, 18, 19] (fun n vals st => (∃ y7, p_ref29_Check_l1  a0 n y7 = some o3 ∧ vals = [.i (0 : Int), .i y7] ∧ st = [])) fuel 0 [] (⟨_, HL4, rfl, rfl⟩) (Nat.zero_le _) rfl (by kernel_rfl) (by kernel_rfl) rfl trivial ?_
  rintro (_ | n6) _ _ (⟨y7, H, rfl, rfl⟩)
  · rw [p_ref29_Check_l1] at H; cases H
  rw [p_ref29_Check_l1] at H
  conv => whnf
  refine LenQ.M ?_; conv => whnf
  refine tst_c H (fun b8 H => ?_) (fun b8 H => ?_)
  · conv => whnf
    refine ixs_c (f := Ref29Arrow.v) H (fun _ => rfl) (fun x9 H => ?_); conv => whnf
    refine ask_c (p_ref29_fine_v _) H rfl rfl (fun v10 H => ?_); conv => whnf
    refine Tst.not ?_
    refine tst_d H (fun b11 H => ?_) (fun b11 H => ?_)
    · conv => whnf
      obtain rfl := Option.some.inj H
      have H := HQ5
      try dsimp only at H
      exact fin0_c (enc := V.i) H (.inr rfl) (.cons (.tmp rfl) (.nil)) rfl rfl
    conv => whnf
    refine Ari.w ?_; conv => whnf
    exact again_c [8, 9, 10, 11, 12, 13, 14, 15, 16, 17, 18, 19] n6 0 [] (⟨_, H, rfl, rfl⟩) (Nat.lt_succ_self _) (Nat.zero_le _) rfl (by kernel_rfl) (by kernel_rfl) rfl trivial
  conv => whnf
  obtain rfl := Option.some.inj H
  have H := HQ5
  try dsimp only at H
  obtain ⟨o13, HL14, HQ15⟩ := bind_c H
  refine loop_c [2, 4] [20, 21, 22, 23, 24, 25, 26, 27, 28, 29, 30, 31, 32, 33, 34, 35, 36] [20, 21, 22, 23, 24, 25, 26, 27, 28, 29, 30, 31, 32, 33, 34, 35, 36] (fun n vals st => (∃ y17, p_ref29_Check_l2  a0 n y17 = some o13 ∧ vals = [.i (0 : Int), .i y17] ∧ st = [])) fuel 0 [] (⟨_, HL14, rfl, rfl⟩) (Nat.zero_le _) rfl (by kernel_rfl) (by kernel_rfl) rfl trivial ?_
  rintro (_ | n16) _ _ (⟨y17, H, rfl, rfl⟩)
  · rw [p_ref29_Check_l2] at H; cases H
  rw [p_ref29_Check_l2] at H
  conv => whnf
  refine LenQ.M ?_; conv => whnf
  refine tst_d H (fun b18 H => ?_) (fun b18 H => ?_)
  · conv => whnf
    obtain rfl := Option.some.inj H
    have H := HQ15
    try dsimp only at H
    exact fin0_c (enc := V.i) H (.inr rfl) (.cons (.tmp rfl) (.nil)) rfl rfl
  conv => whnf
  refine Ari.w ?_; conv => whnf
  refine ixs_c (f := Ref29Arrow.v) H (fun _ => rfl) (fun x19 H => ?_); conv => whnf
  refine ixs_c (f := Ref29Arrow.v) H (fun _ => rfl) (fun x20 H => ?_); conv => whnf
  refine ask_c (p_ref29_less_v _ _) H rfl rfl (fun v21 H => ?_); conv => whnf
  refine FootQ.mk ⟨rfl, ?_⟩; conv => whnf
  refine Tst.not ?_
  refine tst_d H (fun b22 H => ?_) (fun b22 H => ?_)
  · conv => whnf
    obtain rfl := Option.some.inj H
    have H := HQ15
    try dsimp only at H
    exact fin0_c (enc := V.i) H (.inr rfl) (.cons (.tmp rfl) (.nil)) rfl rfl
  conv => whnf
  refine Ari.w ?_; conv => whnf
  exact again_c [20, 21, 22, 23, 24, 25, 26, 27, 28, 29, 30, 31, 32, 33, 34, 35, 36] n16 0 [] (⟨_, H, rfl, rfl⟩) (Nat.lt_succ_self _) (Nat.zero_le _) rfl (by kernel_rfl) (by kernel_rfl) rfl trivial
def gc90 : BCode := (.seq (.reg 0 [⟨(some 6), .mv (.const (.bool false)), none, 0⟩] none 0 []) (.seq (.seq (.reg 0 [⟨(some 7), .mv (.const (.int .i64 0)), none, 0⟩] none 0 []) (.block 0 (.loop (.seq (.seq (.reg 0 [⟨(some 8), .mv (.tmp 7), none, 0⟩, ⟨(some 9), .mv (.tmp 0), none, 0⟩, ⟨(some 10), .lens (.tmp 9), none, 0⟩, ⟨(some 11), .bin .lss (.tmp 8) (.tmp 10), none, 0⟩, ⟨(some 12), .mv (.tmp 11), none, 0⟩, ⟨(some 13), .mv (.tmp 0), (some (12, true)), 0⟩, ⟨(some 14), .cl 88 [(.tmp 13)], (some (12, true)), 0⟩, ⟨(some 15), .bin .eql (.tmp 14) (.const (.int .i64 0)), (some (12, true)), 0⟩, ⟨(some 16), .pick (.tmp 12) (.tmp 15) (.const (.bool false)), none, 0⟩] none 0 []) (.cond (.tmp 16) .skip (.exit 0))) (.seq (.block 1 (.seq (.reg 0 [⟨(some 19), .mv (.tmp 0), none, 0⟩, ⟨(some 20), .mv (.tmp 7), none, 0⟩, ⟨(some 21), .ixs 2 (.tmp 19) (.tmp 20), none, 0⟩, ⟨(some 22), .fa 0 (.tmp 21), none, 0⟩, ⟨(some 23), .ld 1 false (.tmp 22), none, 0⟩, ⟨(some 24), .mv (.tmp 1), none, 0⟩, ⟨(some 25), .bin .eql (.tmp 23) (.tmp 24), none, 0⟩, ⟨(some 26), .mv (.tmp 25), none, 0⟩, ⟨(some 27), .mv (.tmp 0), (some (26, true)), 0⟩, ⟨(some 28), .mv (.tmp 7), (some (26, true)), 0⟩, ⟨(some 29), .ixs 2 (.tmp 27) (.tmp 28), (some (26, true)), 0⟩, ⟨(some 30), .fa 1 (.tmp 29), (some (26, true)), 0⟩, ⟨(some 31), .ld 1 false (.tmp 30), (some (26, true)), 0⟩, ⟨(some 32), .mv (.tmp 2), (some (26, true)), 0⟩, ⟨(some 33), .bin .eql (.tmp 31) (.tmp 32), (some (26, true)), 0⟩, ⟨(some 34), .pick (.tmp 26) (.tmp 33) (.const (.bool false)), none, 0⟩] none 0 []) (.cond (.tmp 34) (.seq (.reg 0 [⟨(some 6), .mv (.const (.bool true)), none, 0⟩] none 0 []) .ret) .skip))) (.reg 0 [⟨(some 17), .mv (.tmp 7), none, 0⟩, ⟨(some 18), .bin .add (.tmp 17) (.const (.int .i64 1)), none, 0⟩, ⟨(some 7), .mv (.tmp 18), none, 0⟩] none 0 [])))))) (.seq (.reg 0 [⟨(some 6), .mv (.const (.bool false)), none, 0⟩] none 0 []) .ret)))
theorem gc90_ok : compF Tryz.prog Tryz.f90 = some (gc90.er, 35, [.tmp 6]) := by unfold gc90; kernel_rfl
set_option maxRecDepth 100000 in
set_option maxHeartbeats 4000000 in
theorem p_ref29_Has_v {u1 : Bool} (a0 : List Ref29Arrow) (a1 : ByteArray) (a2 : ByteArray) : CallsO Tryz.prog 90 [.sl (List.map Ref29Arrow.v a0) u1, .s a1, .s a2] V.b (p_ref29_Has a0 a1 a2) := by
  refine callsO_comp mix Tryz.func90 gc90_ok fun r H => ?_
  rw [p_ref29_Has] at H
  conv => whnf
  obtain ⟨o2, HL3, HQ4⟩ := bind_c H
  refine loop_c [6, 7] [8, 9, 10, 11, 12, 13, 14, 15, 16, 17, 18, 19, 20, 21, 22, 23, 24, 25, 26, 27, 28, 29, 30, 31, 32, 33, 34] [8, 9, 10, 11, 12, 13, 14, 15, 16, 17, 18, 19, 20, 21, 22, 23, 24, 25, 26, 27, 28, 29, 30, 31, 32, 33, 34] (fun n vals st => (∃ y6, p_ref29_Has_l1  a0 a1 a2 n y6 = some o2 ∧ vals = [.b false, .i y6] ∧ st = [])) fuel 0 [] (⟨_, HL3, rfl, rfl⟩) (Nat.zero_le _) rfl (by kernel_rfl) (by kernel_rfl) rfl trivial ?_
  rintro (_ | n5) _ _ (⟨y6, H, rfl, rfl⟩)
  · rw [p_ref29_Has_l1] at H; cases H
  rw [p_ref29_Has_l1] at H
  conv => whnf
  refine LenQ.M ?_; conv => whnf
  refine tst_d H (fun b7 H => ?_) (fun b7 H => ?_)
  · conv => whnf
    iterate 4 (refine Tst.F ?_; conv => whnf)
    obtain rfl := Option.some.inj H
    have H := HQ4
    try dsimp only at H
    exact fin0_c (enc := V.b) H (.inr rfl) (.cons (.tmp rfl) (.nil)) rfl rfl
  conv => whnf
  refine Tst.T ?_; conv => whnf
  refine ask_c (p_ref29_Check_v _) H rfl rfl (fun v8 H => ?_); conv => whnf
  iterate 2 (refine Tst.T ?_; conv => whnf)
  refine tst_d H (fun b9 H => ?_) (fun b9 H => ?_)
  · conv => whnf
    obtain rfl := Option.some.inj H
    have H := HQ4
    try dsimp only at H
    exact fin0_c (enc := V.b) H (.inr rfl) (.cons (.tmp rfl) (.nil)) rfl rfl
  conv => whnf
  refine ixs_c (f := Ref29Arrow.v) H (fun _ => rfl) (fun x10 H => ?_); conv => whnf
  refine ⟨Nat.le_of_ble_eq_true rfl, ?_⟩; conv => whnf
  refine tst_d H (fun b11 H => ?_) (fun b11 H => ?_)
  · conv => whnf
    iterate 8 (refine Tst.F ?_; conv => whnf)
    refine Ari.w ?_; conv => whnf
    exact again_c [8, 9, 10, 11, 12, 13, 14, 15, 16, 17, 18, 19, 20, 21, 22, 23, 24, 25, 26, 27, 28, 29, 30, 31, 32, 33, 34] n5 0 [] (⟨_, H, rfl, rfl⟩) (Nat.lt_succ_self _) (Nat.zero_le _) rfl (by kernel_rfl) (by kernel_rfl) rfl trivial
  conv => whnf
  iterate 2 (refine Tst.T ?_; conv => whnf)
  refine ixs_c (f := Ref29Arrow.v) H (fun _ => rfl) (fun x12 H => ?_); conv => whnf
  refine Tst.T ?_; conv => whnf
  refine ⟨Nat.le_of_ble_eq_true rfl, ?_⟩; conv => whnf
  iterate 4 (refine Tst.T ?_; conv => whnf)
  refine tst_c H (fun b13 H => ?_) (fun b13 H => ?_)
  · conv => whnf
    obtain rfl := Option.some.inj H
    have H := HQ4
    try dsimp only at H
    exact fin0_c (enc := V.b) H (.inr rfl) (.cons (.tmp rfl) (.nil)) rfl rfl
  conv => whnf
  refine Ari.w ?_; conv => whnf
  exact again_c [8, 9, 10, 11, 12, 13, 14, 15, 16, 17, 18, 19, 20, 21, 22, 23, 24, 25, 26, 27, 28, 29, 30, 31, 32, 33, 34] n5 0 [] (⟨_, H, rfl, rfl⟩) (Nat.lt_succ_self _) (Nat.zero_le _) rfl (by kernel_rfl) (by kernel_rfl) rfl trivial
def gc27 : BCode := (.seq (.reg 0 [⟨(some 6), .mv (.const (.slice none 0 0)), none, 0⟩, ⟨(some 7), .mv (.const (.int .i64 0)), none, 0⟩] none 0 []) (.seq (.reg 1 [⟨(some 11), .mv (.tmp 1), none, 0⟩, ⟨(some 12), .mv (.tmp 2), none, 0⟩, ⟨(some 13), .bd [(.lit (.string ⟨#[]⟩)), (.lit (.string ⟨#[]⟩))] [(0, 1, (.tmp 11)), (1, 1, (.tmp 12))], none, 0⟩, ⟨(some 8), .al (.agg [(.lit (.string ⟨#[]⟩)), (.lit (.string ⟨#[]⟩))]), none, 0⟩, ⟨none, .st 2 (.tmp 8) (.tmp 13), none, 1⟩] none 0 []) (.seq (.block 0 (.seq (.reg 0 [⟨(some 15), .mv (.tmp 0), none, 0⟩, ⟨(some 16), .cl 88 [(.tmp 15)], none, 0⟩, ⟨(some 17), .bin .neq (.tmp 16) (.const (.int .i64 0)), none, 0⟩, ⟨(some 14), .mv (.tmp 17), none, 0⟩] none 0 []) (.cond (.tmp 14) (.seq (.reg 0 [⟨(some 18), .mv (.tmp 0), none, 0⟩, ⟨(some 19), .mv (.tmp 0), none, 0⟩, ⟨(some 20), .cl 88 [(.tmp 19)], none, 0⟩, ⟨(some 6), .mv (.tmp 18), none, 0⟩, ⟨(some 7), .mv (.tmp 20), none, 0⟩] none 0 []) .ret) (.seq (.reg 0 [⟨(some 22), .ld 2 true (.tmp 8), none, 0⟩, ⟨(some 23), .cl 89 [(.tmp 22)], none, 0⟩, ⟨(some 24), .un .not (.tmp 23), none, 0⟩, ⟨(some 21), .mv (.tmp 24), none, 0⟩] none 0 []) (.cond (.tmp 21) (.seq (.reg 0 [⟨(some 25), .mv (.tmp 0), none, 0⟩, ⟨(some 6), .mv (.tmp 25), none, 0⟩, ⟨(some 7), .mv (.const (.int .i64 11)), none, 0⟩] none 0 []) .ret) (.seq (.reg 0 [⟨(some 27), .mv (.tmp 0), none, 0⟩, ⟨(some 28), .mv (.tmp 1), none, 0⟩, ⟨(some 29), .mv (.tmp 2), none, 0⟩, ⟨(some 30), .cl 90 [(.tmp 27), (.tmp 28), (.tmp 29)], none, 0⟩, ⟨(some 26), .mv (.tmp 30), none, 0⟩] none 0 []) (.cond (.tmp 26) (.seq (.reg 0 [⟨(some 31), .mv (.tmp 0), none, 0⟩, ⟨(some 6), .mv (.tmp 31), none, 0⟩, ⟨(some 7), .mv (.const (.int .i64 0)), none, 0⟩] none 0 []) .ret) (.seq (.reg 0 [⟨(some 33), .mv (.tmp 0), none, 0⟩, ⟨(some 34), .lens (.tmp 33), none, 0⟩, ⟨(some 35), .bin .geq (.tmp 34) (.const (.int .i64 32)), none, 0⟩, ⟨(some 32), .mv (.tmp 35), none, 0⟩] none 0 []) (.cond (.tmp 32) (.seq (.reg 0 [⟨(some 36), .mv (.tmp 0), none, 0⟩, ⟨(some 6), .mv (.tmp 36), none, 0⟩, ⟨(some 7), .mv (.const (.int .i64 7)), none, 0⟩] none 0 []) .ret) .skip))))))))) (.seq (.reg 0 [⟨(some 9), .mv (.const (.int .i64 0)), none, 0⟩] none 0 []) (.seq (.block 1 (.loop (.seq (.seq (.reg 0 [⟨(some 37), .mv (.tmp 9), none, 0⟩, ⟨(some 38), .mv (.tmp 0), none, 0⟩, ⟨(some 39), .lens (.tmp 38), none, 0⟩, ⟨(some 40), .bin .lss (.tmp 37) (.tmp 39), none, 0⟩, ⟨(some 41), .mv (.tmp 40), none, 0⟩, ⟨(some 42), .mv (.tmp 0), (some (41, true)), 0⟩, ⟨(some 43), .mv (.tmp 9), (some (41, true)), 0⟩, ⟨(some 44), .ixs 2 (.tmp 42) (.tmp 43), (some (41, true)), 0⟩, ⟨(some 45), .ld 2 true (.tmp 44), (some (41, true)), 0⟩, ⟨(some 46), .ld 2 true (.tmp 8), (some (41, true)), 0⟩, ⟨(some 47), .cl 91 [(.tmp 45), (.tmp 46)], (some (41, true)), 0⟩, ⟨(some 48), .pick (.tmp 41) (.tmp 47) (.const (.bool false)), none, 0⟩] (some [[], [], [1], [1, 2, 0], [0, 2, 1, 3], [3, 1, 2, 0, 4], [3, 1, 2, 0, 4], [6, 4, 0, 2, 1, 3, 5], [5, 3, 1, 2, 0, 4, 6, 7], [3, 1, 2, 0, 4], [9, 7, 6, 4, 0, 2, 1, 3, 5, 8], [8, 5, 6, 7, 9, 10, 3, 1, 2, 0, 4]]) 0 []) (.cond (.tmp 48) .skip (.exit 1))) (.block 2 (.reg 0 [⟨(some 49), .mv (.tmp 9), none, 0⟩, ⟨(some 50), .bin .add (.tmp 49) (.const (.int .i64 1)), none, 0⟩, ⟨(some 9), .mv (.tmp 50), none, 0⟩] none 0 []))))) (.seq (.reg 0 [⟨(some 10), .mv (.const (.slice none 0 0)), none, 0⟩] none 0 []) (.seq (.reg 4 [⟨(some 51), .mv (.tmp 10), none, 0⟩, ⟨(some 52), .mv (.tmp 0), none, 0⟩, ⟨(some 53), .mv (.tmp 9), none, 0⟩, ⟨(some 54), .sls 2 (.tmp 52) none (some (.tmp 53)) none, none, 0⟩, ⟨(some 55), .ap 2 32 (.tmp 51) (.tmp 54), none, 0⟩, ⟨(some 56), .ld 2 true (.tmp 8), none, 1⟩, ⟨(some 57), .bs 2 1 [(.lit (.string ⟨#[]⟩)), (.lit (.string ⟨#[]⟩))] [(0, (.tmp 56))], none, 1⟩, ⟨(some 58), .ap 2 32 (.tmp 55) (.tmp 57), none, 2⟩, ⟨(some 59), .mv (.tmp 0), none, 3⟩, ⟨(some 60), .mv (.tmp 9), none, 3⟩, ⟨(some 61), .sls 2 (.tmp 59) (some (.tmp 60)) none none, none, 3⟩, ⟨(some 62), .ap 2 32 (.tmp 58) (.tmp 61), none, 3⟩, ⟨(some 6), .mv (.tmp 62), none, 4⟩, ⟨(some 7), .mv (.const (.int .i64 0)), none, 4⟩] (some [[], [], [], [2, 1], [1, 2, 3, 0], [], [5], [5, 6, 0, 3, 2, 1, 4], [], [], [9, 8], [8, 9, 10, 4, 1, 2, 3, 0, 6, 5, 7], [7, 5, 6, 0, 3, 2, 1, 4, 10, 9, 8, 11], [11, 8, 9, 10, 4, 1, 2, 3, 0, 6, 5, 7, 12]]) 0 []) .ret)))))))
theorem gc27_ok : compF Tryz.prog Tryz.f27 = some (gc27.er, 63, [.tmp 6, .tmp 7]) := by unfold gc27; kernel_rfl
set_option maxRecDepth 100000 in
set_option maxHeartbeats 4000000 in
theorem p_ref29_Add_v {u1 : Bool} (a0 : List Ref29Arrow) (a1 : ByteArray) (a2 : ByteArray) : CallsO Tryz.prog 27 [.sl (List.map Ref29Arrow.v a0) u1, .s a1, .s a2] (fun r : (List Ref29Arrow) × Int => .tup [(fun l : List Ref29Arrow => V.sl (l.map Ref29Arrow.v) false) r.1, V.i r.2]) (p_ref29_Add a0 a1 a2) := by
  refine callsO_comp mix Tryz.func27 gc27_ok fun r H => ?_
  rw [p_ref29_Add] at H
  conv => whnf
  refine ⟨Nat.le_of_ble_eq_true rfl, ?_⟩; conv => whnf
  refine ask_c (p_ref29_Check_v _) H rfl rfl (fun v1 H => ?_); conv => whnf
  refine tst_c H (fun b2 H => ?_) (fun b2 H => ?_)
  · conv => whnf
    refine ask_c (p_ref29_Check_v _) H rfl rfl (fun v3 H => ?_); conv => whnf
    refine finR_c (enc := (fun r : (List Ref29Arrow) × Int => .tup [(fun l : List Ref29Arrow => V.sl (l.map Ref29Arrow.v) false) r.1, V.i r.2])) H ?_; conv => whnf
    exact ⟨_, .tup (.cons (.c (.slw)) (.cons (.c (.id rfl)) (.nil)))⟩
  conv => whnf
  refine ask_c (p_ref29_fine_v _) H rfl rfl (fun v4 H => ?_); conv => whnf
  refine Tst.not ?_
  refine tst_d H (fun b5 H => ?_) (fun b5 H => ?_)
  · conv => whnf
    refine finR_c (enc := (fun r : (List Ref29Arrow) × Int => .tup [(fun l : List Ref29Arrow => V.sl (l.map Ref29Arrow.v) false) r.1, V.i r.2])) H ?_; conv => whnf
    exact ⟨_, .tup (.cons (.c (.slw)) (.cons (.c (.id rfl)) (.nil)))⟩
  conv => whnf
  refine ask_c (p_ref29_Has_v _ _ _) H rfl rfl (fun v6 H => ?_); conv => whnf
  refine tst_c H (fun b7 H => ?_) (fun b7 H => ?_)
  · conv => whnf
    refine finR_c (enc := (fun r : (List Ref29Arrow) × Int => .tup [(fun l : List Ref29Arrow => V.sl (l.map Ref29Arrow.v) false) r.1, V.i r.2])) H ?_; conv => whnf
    exact ⟨_, .tup (.cons (.c (.slw)) (.cons (.c (.id rfl)) (.nil)))⟩
  conv => whnf
  refine LenQ.M ?_; conv => whnf
  refine tst_c H (fun b8 H => ?_) (fun b8 H => ?_)
  · conv => whnf
    refine finR_c (enc := (fun r : (List Ref29Arrow) × Int => .tup [(fun l : List Ref29Arrow => V.sl (l.map Ref29Arrow.v) false) r.1, V.i r.2])) H ?_; conv => whnf
    exact ⟨_, .tup (.cons (.c (.slw)) (.cons (.c (.id rfl)) (.nil)))⟩
  conv => whnf
  obtain ⟨o10, HL11, HQ12⟩ := bind_c H
  refine loop_c [9] [37, 38, 39, 40, 41, 42, 43, 44, 45, 46, 47, 48, 49, 50] [37, 38, 39, 40, 41, 42, 43, 44, 45, 46, 47, 48, 49, 50] (fun n vals st => (∃ y14, p_ref29_Add_l1  a0 (Ref29Arrow.mk a1 a2) n y14 = some o10 ∧ vals = [.i y14] ∧ st = [.live [.s a1, .s a2] 0])) fuel 1 [] (⟨_, HL11, rfl, rfl⟩) (Nat.zero_le _) rfl (by kernel_rfl) (by kernel_rfl) rfl ⟨⟨rfl, rfl, rfl⟩, trivial⟩ ?_
  rintro (_ | n13) _ _ (⟨y14, H, rfl, rfl⟩)
  · rw [p_ref29_Add_l1] at H; cases H
  rw [p_ref29_Add_l1] at H
  conv => whnf
  refine LenQ.M ?_; conv => whnf
  refine tst_d H (fun b15 H => ?_) (fun b15 H => ?_)
  · conv => whnf
    iterate 6 (refine Tst.F ?_; conv => whnf)
    refine FootQ.mk ⟨rfl, ?_⟩; conv => whnf
    refine Tst.F ?_; conv => whnf
    obtain rfl := Option.some.inj H
    have H := HQ12
    try dsimp only at H
    refine slsH_c (f := Ref29Arrow.v) H (fun _ => rfl) (fun x27 H => ?_); conv => whnf
    refine appE_c (f := Ref29Arrow.v) H (fun _ => rfl) rfl (.v (srcM (f := Ref29Arrow.v) (fun _ => rfl) _ _)) (by decide) rfl (fun H => ?_) (fun l28 H => ?_)
    · conv => whnf
      refine appN_c (f := Ref29Arrow.v) H (fun _ => rfl) (srcM (f := Ref29Arrow.v) (fun _ => rfl) _ _) rfl (.v (srcOwn (f := Ref29Arrow.v) (l := [(Ref29Arrow.mk a1 a2)]) (fun _ => rfl) rfl rfl rfl)) (by decide) rfl (by simp) (fun l32 H => ?_); conv => whnf
      refine slsE_c (f := Ref29Arrow.v) H (fun _ => rfl) (fun x33 H => ?_); conv => whnf
      refine appP_c (f := Ref29Arrow.v) H (fun _ => rfl) rfl rfl (.v (srcM (f := Ref29Arrow.v) (fun _ => rfl) _ _)) (by decide) rfl (fun l34 H => ?_) (fun l34 H => ?_)
      · conv => whnf
        refine FootQ.mk ⟨rfl, ?_⟩; conv => whnf
        refine finR_c (enc := (fun r : (List Ref29Arrow) × Int => .tup [(fun l : List Ref29Arrow => V.sl (l.map Ref29Arrow.v) false) r.1, V.i r.2])) H ?_; conv => whnf
        exact ⟨_, .tup (.cons (.c (fzown (f := Ref29Arrow.v) (l := l34) rfl rfl (fun _ => rfl) (fun _ => rfl))) (.cons (.c (.id rfl)) (.nil)))⟩
      conv => whnf
      refine FootQ.mk ⟨rfl, ?_⟩; conv => whnf
      refine finR_c (enc := (fun r : (List Ref29Arrow) × Int => .tup [(fun l : List Ref29Arrow => V.sl (l.map Ref29Arrow.v) false) r.1, V.i r.2])) H ?_; conv => whnf
      exact ⟨_, .tup (.cons (.c (fzown (f := Ref29Arrow.v) (l := l34) rfl rfl (fun _ => rfl) (fun _ => rfl))) (.cons (.c (.id rfl)) (.nil)))⟩
    conv => whnf
    refine appO_c (f := Ref29Arrow.v) H (fun _ => rfl) rfl (Nat.le_refl _) (.v (srcOwn (f := Ref29Arrow.v) (l := [(Ref29Arrow.mk a1 a2)]) (fun _ => rfl) rfl rfl rfl)) (by decide) rfl (by simp) (fun l29 H => ?_); conv => whnf
    refine slsE_c (f := Ref29Arrow.v) H (fun _ => rfl) (fun x30 H => ?_); conv => whnf
    refine appP_c (f := Ref29Arrow.v) H (fun _ => rfl) rfl rfl (.v (srcM (f := Ref29Arrow.v) (fun _ => rfl) _ _)) (by decide) rfl (fun l31 H => ?_) (fun l31 H => ?_)
    · conv => whnf
      refine FootQ.mk ⟨rfl, ?_⟩; conv => whnf
      refine finR_c (enc := (fun r : (List Ref29Arrow) × Int => .tup [(fun l : List Ref29Arrow => V.sl (l.map Ref29Arrow.v) false) r.1, V.i r.2])) H ?_; conv => whnf
      exact ⟨_, .tup (.cons (.c (fzown (f := Ref29Arrow.v) (l := l31) rfl rfl (fun _ => rfl) (fun _ => rfl))) (.cons (.c (.id rfl)) (.nil)))⟩
    conv => whnf
    refine FootQ.mk ⟨rfl, ?_⟩; conv => whnf
    refine finR_c (enc := (fun r : (List Ref29Arrow) × Int => .tup [(fun l : List Ref29Arrow => V.sl (l.map Ref29Arrow.v) false) r.1, V.i r.2])) H ?_; conv => whnf
    exact ⟨_, .tup (.cons (.c (fzown (f := Ref29Arrow.v) (l := l31) rfl rfl (fun _ => rfl) (fun _ => rfl))) (.cons (.c (.id rfl)) (.nil)))⟩
  conv => whnf
  iterate 2 (refine Tst.T ?_; conv => whnf)
  refine ixs_c (f := Ref29Arrow.v) H (fun _ => rfl) (fun x16 H => ?_); conv => whnf
  iterate 3 (refine Tst.T ?_; conv => whnf)
  refine ask_c (p_ref29_less_v _ _) H rfl rfl (fun v17 H => ?_); conv => whnf
  refine Tst.T ?_; conv => whnf
  refine FootQ.mk ⟨rfl, ?_⟩; conv => whnf
  refine tst_c H (fun b18 H => ?_) (fun b18 H => ?_)
  · conv => whnf
    refine Ari.w ?_; conv => whnf
    exact again_c [37, 38, 39, 40, 41, 42, 43, 44, 45, 46, 47, 48, 49, 50] n13 1 [] (⟨_, H, rfl, rfl⟩) (Nat.lt_succ_self _) (Nat.zero_le _) rfl (by kernel_rfl) (by kernel_rfl) rfl ⟨⟨rfl, rfl, rfl⟩, trivial⟩
  conv => whnf
  obtain rfl := Option.some.inj H
  have H := HQ12
  try dsimp only at H
  refine slsH_c (f := Ref29Arrow.v) H (fun _ => rfl) (fun x19 H => ?_); conv => whnf
  refine appE_c (f := Ref29Arrow.v) H (fun _ => rfl) rfl (.v (srcM (f := Ref29Arrow.v) (fun _ => rfl) _ _)) (by decide) rfl (fun H => ?_) (fun l20 H => ?_)
  · conv => whnf
    refine appN_c (f := Ref29Arrow.v) H (fun _ => rfl) (srcM (f := Ref29Arrow.v) (fun _ => rfl) _ _) rfl (.v (srcOwn (f := Ref29Arrow.v) (l := [(Ref29Arrow.mk a1 a2)]) (fun _ => rfl) rfl rfl rfl)) (by decide) rfl (by simp) (fun l24 H => ?_); conv => whnf
    refine slsE_c (f := Ref29Arrow.v) H (fun _ => rfl) (fun x25 H => ?_); conv => whnf
    refine appP_c (f := Ref29Arrow.v) H (fun _ => rfl) rfl rfl (.v (srcM (f := Ref29Arrow.v) (fun _ => rfl) _ _)) (by decide) rfl (fun l26 H => ?_) (fun l26 H => ?_)
    · conv => whnf
      refine FootQ.mk ⟨rfl, ?_⟩; conv => whnf
      refine finR_c (enc := (fun r : (List Ref29Arrow) × Int => .tup [(fun l : List Ref29Arrow => V.sl (l.map Ref29Arrow.v) false) r.1, V.i r.2])) H ?_; conv => whnf
      exact ⟨_, .tup (.cons (.c (fzown (f := Ref29Arrow.v) (l := l26) rfl rfl (fun _ => rfl) (fun _ => rfl))) (.cons (.c (.id rfl)) (.nil)))⟩
    conv => whnf
    refine FootQ.mk ⟨rfl, ?_⟩; conv => whnf
    refine finR_c (enc := (fun r : (List Ref29Arrow) × Int => .tup [(fun l : List Ref29Arrow => V.sl (l.map Ref29Arrow.v) false) r.1, V.i r.2])) H ?_; conv => whnf
    exact ⟨_, .tup (.cons (.c (fzown (f := Ref29Arrow.v) (l := l26) rfl rfl (fun _ => rfl) (fun _ => rfl))) (.cons (.c (.id rfl)) (.nil)))⟩
  conv => whnf
  refine appO_c (f := Ref29Arrow.v) H (fun _ => rfl) rfl (Nat.le_refl _) (.v (srcOwn (f := Ref29Arrow.v) (l := [(Ref29Arrow.mk a1 a2)]) (fun _ => rfl) rfl rfl rfl)) (by decide) rfl (by simp) (fun l21 H => ?_); conv => whnf
  refine slsE_c (f := Ref29Arrow.v) H (fun _ => rfl) (fun x22 H => ?_); conv => whnf
  refine appP_c (f := Ref29Arrow.v) H (fun _ => rfl) rfl rfl (.v (srcM (f := Ref29Arrow.v) (fun _ => rfl) _ _)) (by decide) rfl (fun l23 H => ?_) (fun l23 H => ?_)
  · conv => whnf
    refine FootQ.mk ⟨rfl, ?_⟩; conv => whnf
    refine finR_c (enc := (fun r : (List Ref29Arrow) × Int => .tup [(fun l : List Ref29Arrow => V.sl (l.map Ref29Arrow.v) false) r.1, V.i r.2])) H ?_; conv => whnf
    exact ⟨_, .tup (.cons (.c (fzown (f := Ref29Arrow.v) (l := l23) rfl rfl (fun _ => rfl) (fun _ => rfl))) (.cons (.c (.id rfl)) (.nil)))⟩
  conv => whnf
  refine FootQ.mk ⟨rfl, ?_⟩; conv => whnf
  refine finR_c (enc := (fun r : (List Ref29Arrow) × Int => .tup [(fun l : List Ref29Arrow => V.sl (l.map Ref29Arrow.v) false) r.1, V.i r.2])) H ?_; conv => whnf
  exact ⟨_, .tup (.cons (.c (fzown (f := Ref29Arrow.v) (l := l23) rfl rfl (fun _ => rfl) (fun _ => rfl))) (.cons (.c (.id rfl)) (.nil)))⟩
end Go.Proofs.YthmgficajgedlaaGreat
