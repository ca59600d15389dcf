/- A part of the proof: 7 texts joined. -/
import Derived.Test.YthmgficajgedlaaRcA9
import Derived.Test.YthmgficajgedlaaRcA11
import Derived.Test.YthmgficajgedlaaRcA5
import Derived.KernelRfl
import Derived.Test.YthmgficajgedlaaRcA7
import Derived.Test.YthmgficajgedlaaRcA8
import Derived.Test.YthmgficajgedlaaRcA10
set_option linter.all false
/- That the program's functions yield what the plain ones tell (written by a program of mine). -/
namespace Go.Proofs.Ythmgficajgedlaa
open Go.RowKit
def gc80 : BCode := (.seq (.reg 1 [⟨(some 3), .bx (.tmp 0), none, 0⟩, ⟨(some 4), .mv (.const (.bool false)), none, 1⟩] none 0 []) (.seq (.reg 0 [⟨(some 8), .ld 2 true (.tmp 3), none, 0⟩, ⟨(some 9), .cl 81 [(.tmp 8)], none, 0⟩, ⟨(some 7), .mv (.tmp 9), none, 0⟩, ⟨(some 10), .ex (.tmp 7) 0, none, 0⟩, ⟨(some 11), .ex (.tmp 7) 1, none, 0⟩, ⟨(some 5), .mv (.tmp 10), none, 0⟩, ⟨(some 6), .mv (.tmp 11), none, 0⟩] none 0 []) (.seq (.reg 0 [⟨(some 12), .mv (.tmp 5), none, 0⟩, ⟨(some 13), .ld 1 false (.tmp 1), none, 0⟩, ⟨(some 14), .bin .eql (.tmp 12) (.tmp 13), none, 0⟩, ⟨(some 15), .mv (.tmp 14), none, 0⟩, ⟨(some 16), .fa 1 (.tmp 3), (some (15, true)), 0⟩, ⟨(some 17), .ld 1 false (.tmp 16), (some (15, true)), 0⟩, ⟨(some 18), .ld 1 false (.tmp 2), (some (15, true)), 0⟩, ⟨(some 19), .bin .eql (.tmp 17) (.tmp 18), (some (15, true)), 0⟩, ⟨(some 20), .pick (.tmp 15) (.tmp 19) (.const (.bool false)), none, 0⟩, ⟨(some 4), .mv (.tmp 20), none, 0⟩] none 0 []) .ret)))
theorem gc80_ok : compF Try.prog Try.f80 = some (gc80.er, 21, [.tmp 4]) := by unfold gc80; kernel_rfl
set_option maxRecDepth 100000 in
set_option maxHeartbeats 4000000 in
theorem p_dirs_Only_1_v (a0 : Ref29Arrow) (c0 : ByteArray) (c1 : ByteArray) : CallsO Try.prog 80 [.agg [.s a0.From, .s a0.To], .eptr [.s c0], .eptr [.s c1]] V.b (p_dirs_Only_1 a0 c0 c1) := by
  refine callsO_comp mix Try.func80 gc80_ok fun r H => ?_
  rw [p_dirs_Only_1] at H
  conv => whnf
  refine ask_c (p_dirs_Arrow_user_v _) H rfl rfl (fun v1 H => ?_); conv => whnf
  refine tst_c H (fun b2 H => ?_) (fun b2 H => ?_)
  · conv => whnf
    iterate 4 (refine Tst.T ?_; conv => whnf)
    exact fin0_c (enc := V.b) H (.inr rfl) (.cons (.tmp rfl) (.nil)) rfl rfl
  conv => whnf
  iterate 4 (refine Tst.F ?_; conv => whnf)
  exact fin0_c (enc := V.b) H (.inr rfl) (.cons (.tmp rfl) (.nil)) rfl rfl
def gc43 : BCode := (.seq (.reg 2 [⟨(some 4), .bx (.tmp 1), none, 0⟩, ⟨(some 5), .bx (.tmp 2), none, 1⟩, ⟨(some 6), .mv (.const (.slice none 0 0)), none, 2⟩, ⟨(some 7), .mv (.const (.int .i64 0)), none, 2⟩] none 0 []) (.seq (.seq (.reg 0 [⟨(some 10), .mv (.tmp 0), none, 0⟩, ⟨(some 11), .cl 29 [(.tmp 10)], none, 0⟩, ⟨(some 12), .bin .neq (.tmp 11) (.const (.int .i64 0)), none, 0⟩] none 0 []) (.cond (.tmp 12) (.seq (.reg 0 [⟨(some 13), .mv (.tmp 0), none, 0⟩, ⟨(some 6), .mv (.tmp 13), none, 0⟩, ⟨(some 7), .mv (.const (.int .i64 0)), none, 0⟩] none 0 []) .ret) .skip)) (.seq (.reg 0 [⟨(some 15), .mv (.tmp 0), none, 0⟩, ⟨(some 16), .mf (.func 80) [(.tmp 4), (.tmp 5)], none, 0⟩, ⟨(some 17), .cl 73 [(.tmp 15), (.tmp 16)], none, 0⟩, ⟨(some 14), .mv (.tmp 17), none, 0⟩, ⟨(some 18), .ex (.tmp 14) 0, none, 0⟩, ⟨(some 19), .ex (.tmp 14) 1, none, 0⟩, ⟨(some 8), .mv (.tmp 18), none, 0⟩, ⟨(some 9), .mv (.tmp 19), none, 0⟩] none 0 [4, 5]) (.seq (.reg 0 [⟨(some 20), .mv (.tmp 8), none, 0⟩, ⟨(some 21), .mv (.tmp 9), none, 0⟩, ⟨(some 22), .lens (.tmp 21), none, 0⟩, ⟨(some 6), .mv (.tmp 20), none, 0⟩, ⟨(some 7), .mv (.tmp 22), none, 0⟩] none 0 []) .ret))))
theorem gc43_ok : compF Try.prog Try.f43 = some (gc43.er, 23, [.tmp 6, .tmp 7]) := by unfold gc43; kernel_rfl
set_option maxRecDepth 100000 in
set_option maxHeartbeats 4000000 in
theorem p_dirs_Only_v {u1 : Bool} (a0 : List Ref29Arrow) (a1 : ByteArray) (a2 : ByteArray) : CallsO Try.prog 43 [.sl (List.map Ref29Arrow.v a0) u1, .s a1, .s a2] (fun r : (List Ref29Arrow) × Int => .tup [(fun l : List Ref29Arrow => V.sl (l.map Ref29Arrow.v) false) r.1, V.i r.2]) (p_dirs_Only a0 a1 a2) := by
  refine callsO_comp mix Try.func43 gc43_ok fun r H => ?_
  rw [p_dirs_Only] at H
  conv => whnf
  refine ask_c (p_dirs_Check_v _) H rfl rfl (fun v1 H => ?_); conv => whnf
  refine tst_c H (fun b2 H => ?_) (fun b2 H => ?_)
  · conv => whnf
    refine finR_c (enc := (fun r : (List Ref29Arrow) × Int => .tup [(fun l : List Ref29Arrow => V.sl (l.map Ref29Arrow.v) false) r.1, V.i r.2])) H ?_; conv => whnf
    exact ⟨_, .tup (.cons (.c (.slw)) (.cons (.c (.id rfl)) (.nil)))⟩
  conv => whnf
  refine ⟨Nat.zero_le _, ?_⟩; conv => whnf
  refine ⟨Nat.zero_le _, ?_⟩; conv => whnf
  refine askF_c (p_dirs_State_without_v _ _ ⟨⟨_, Try.func80, by kernel_rfl, by kernel_rfl⟩, rfl, fun x0 => p_dirs_Only_1_v _ _ _⟩) H (.cons (.c (.slw)) (.cons (.c (.clo (.cons (.ptr rfl (Nat.le_of_ble_eq_true rfl) (.cons (.id rfl) (.nil))) (.cons (.ptr rfl (Nat.le_of_ble_eq_true rfl) (.cons (.id rfl) (.nil))) (.nil))))) (.nil))) (fun v3 H => ?_); conv => whnf
  refine LenQ.M ?_; conv => whnf
  exact fin0_c (enc := (fun r : (List Ref29Arrow) × Int => .tup [(fun l : List Ref29Arrow => V.sl (l.map Ref29Arrow.v) false) r.1, V.i r.2])) H (.inr rfl) (.cons (.tmp rfl) (.cons (.tmp rfl) (.nil))) rfl rfl
def gc31 : BCode := (.seq (.reg 0 [⟨(some 4), .mv (.const (.bool false)), none, 0⟩] none 0 []) (.seq (.seq (.reg 0 [⟨(some 6), .mv (.tmp 0), none, 0⟩, ⟨(some 7), .lens (.tmp 6), none, 0⟩, ⟨(some 8), .mv (.tmp 1), none, 0⟩, ⟨(some 9), .lens (.tmp 8), none, 0⟩, ⟨(some 10), .bin .neq (.tmp 7) (.tmp 9), none, 0⟩] none 0 []) (.cond (.tmp 10) (.seq (.reg 0 [⟨(some 4), .mv (.const (.bool false)), none, 0⟩] none 0 []) .ret) .skip)) (.seq (.seq (.reg 0 [⟨(some 5), .mv (.const (.int .i64 0)), none, 0⟩] none 0 []) (.block 0 (.loop (.seq (.seq (.reg 0 [⟨(some 11), .mv (.tmp 5), none, 0⟩, ⟨(some 12), .mv (.tmp 0), none, 0⟩, ⟨(some 13), .lens (.tmp 12), none, 0⟩, ⟨(some 14), .bin .lss (.tmp 11) (.tmp 13), none, 0⟩] none 0 []) (.cond (.tmp 14) .skip (.exit 0))) (.seq (.block 1 (.seq (.reg 0 [⟨(some 17), .mv (.tmp 0), none, 0⟩, ⟨(some 18), .mv (.tmp 5), none, 0⟩, ⟨(some 19), .ixs 1 (.tmp 17) (.tmp 18), none, 0⟩, ⟨(some 20), .ld 1 false (.tmp 19), none, 0⟩, ⟨(some 21), .mv (.tmp 1), none, 0⟩, ⟨(some 22), .mv (.tmp 5), none, 0⟩, ⟨(some 23), .ixs 1 (.tmp 21) (.tmp 22), none, 0⟩, ⟨(some 24), .ld 1 false (.tmp 23), none, 0⟩, ⟨(some 25), .bin .neq (.tmp 20) (.tmp 24), none, 0⟩] (some [[], [], [1, 0], [0, 1, 2], [], [], [5, 4], [4, 5, 6], [6, 5, 4, 7, 2, 1, 0, 3]]) 0 []) (.cond (.tmp 25) (.seq (.reg 0 [⟨(some 4), .mv (.const (.bool false)), none, 0⟩] none 0 []) .ret) .skip))) (.reg 0 [⟨(some 15), .mv (.tmp 5), none, 0⟩, ⟨(some 16), .bin .add (.tmp 15) (.const (.int .i64 1)), none, 0⟩, ⟨(some 5), .mv (.tmp 16), none, 0⟩] none 0 [])))))) (.seq (.reg 0 [⟨(some 4), .mv (.const (.bool true)), none, 0⟩] none 0 []) .ret))))
theorem gc31_ok : compF Try.prog Try.f31 = some (gc31.er, 26, [.tmp 4]) := by unfold gc31; kernel_rfl
set_option maxRecDepth 100000 in
set_option maxHeartbeats 4000000 in
theorem p_ref01_SameTexts_v {u1 u2 : Bool} (a0 : List ByteArray) (a1 : List ByteArray) : CallsO Try.prog 31 [.sl (List.map V.s a0) u1, .sl (List.map V.s a1) u2] V.b (p_ref01_SameTexts a0 a1) := by
  refine callsO_comp mix Try.func31 gc31_ok fun r H => ?_
  rw [p_ref01_SameTexts] at H
  conv => whnf
  iterate 2 (refine LenQ.M ?_; conv => whnf)
  refine tst_c H (fun b1 H => ?_) (fun b1 H => ?_)
  · conv => whnf
    exact fin0_c (enc := V.b) H (.inr rfl) (.cons (.tmp rfl) (.nil)) rfl rfl
  conv => whnf
  obtain ⟨o3, HL4, HQ5⟩ := bind_c H
  refine loop_c [4, 5] [11, 12, 13, 14, 15, 16, 17, 18, 19, 20, 21, 22, 23, 24, 25] [11, 12, 13, 14, 15, 16, 17, 18, 19, 20, 21, 22, 23, 24, 25] (fun n vals st => (∃ y7, p_ref01_SameTexts_l1  a0 a1 n y7 = some o3 ∧ vals = [.b false, .i y7] ∧ st = [])) fuel 0 [] (⟨_, HL4, rfl, rfl⟩) (Nat.zero_le _) rfl (by kernel_rfl) (by kernel_rfl) rfl trivial ?_
  rintro (_ | n6) _ _ (⟨y7, H, rfl, rfl⟩)
  · rw [p_ref01_SameTexts_l1] at H; cases H
  rw [p_ref01_SameTexts_l1] at H
  conv => whnf
  refine LenQ.M ?_; conv => whnf
  refine tst_d H (fun b8 H => ?_) (fun b8 H => ?_)
  · conv => whnf
    obtain rfl := Option.some.inj H
    have H := HQ5
    try dsimp only at H
    exact fin0_c (enc := V.b) H (.inr rfl) (.cons (.tmp rfl) (.nil)) rfl rfl
  conv => whnf
  refine ixs_c (f := V.s) H (fun _ => rfl) (fun x9 H => ?_); conv => whnf
  refine ixs_c (f := V.s) H (fun _ => rfl) (fun x10 H => ?_); conv => whnf
  refine FootQ.mk ⟨rfl, ?_⟩; conv => whnf
  refine Tst.not ?_
  refine tst_d H (fun b11 H => ?_) (fun b11 H => ?_)
  · conv => whnf
    obtain rfl := Option.some.inj H
    have H := HQ5
    try dsimp only at H
    exact fin0_c (enc := V.b) H (.inr rfl) (.cons (.tmp rfl) (.nil)) rfl rfl
  conv => whnf
  refine Ari.w ?_; conv => whnf
  exact again_c [11, 12, 13, 14, 15, 16, 17, 18, 19, 20, 21, 22, 23, 24, 25] n6 0 [] (⟨_, H, rfl, rfl⟩) (Nat.lt_succ_self _) (Nat.zero_le _) rfl (by kernel_rfl) (by kernel_rfl) rfl trivial
def gc72 : BCode := (.seq (.reg 0 [⟨(some 4), .mv (.const (.bool false)), none, 0⟩] none 0 []) (.seq (.seq (.reg 0 [⟨(some 6), .mv (.tmp 0), none, 0⟩, ⟨(some 7), .lens (.tmp 6), none, 0⟩, ⟨(some 8), .mv (.tmp 1), none, 0⟩, ⟨(some 9), .lens (.tmp 8), none, 0⟩, ⟨(some 10), .bin .neq (.tmp 7) (.tmp 9), none, 0⟩] none 0 []) (.cond (.tmp 10) (.seq (.reg 0 [⟨(some 4), .mv (.const (.bool false)), none, 0⟩] none 0 []) .ret) .skip)) (.seq (.seq (.reg 0 [⟨(some 11), .mv (.tmp 0), none, 0⟩, ⟨(some 12), .lens (.tmp 11), none, 0⟩, ⟨(some 13), .mv (.const (.int .i64 0)), none, 0⟩] none 0 []) (.block 0 (.loop (.seq (.reg 0 [⟨(some 14), .bin .lss (.tmp 13) (.tmp 12), none, 0⟩] none 0 []) (.seq (.cond (.tmp 14) .skip (.exit 0)) (.seq (.block 1 (.seq (.reg 0 [⟨(some 15), .mv (.tmp 13), none, 0⟩, ⟨(some 5), .mv (.tmp 15), none, 0⟩] none 0 []) (.seq (.reg 0 [⟨(some 16), .mv (.tmp 0), none, 0⟩, ⟨(some 17), .mv (.tmp 5), none, 0⟩, ⟨(some 18), .ixs 2 (.tmp 16) (.tmp 17), none, 0⟩, ⟨(some 19), .ld 2 true (.tmp 18), none, 0⟩, ⟨(some 20), .mv (.tmp 1), none, 0⟩, ⟨(some 21), .mv (.tmp 5), none, 0⟩, ⟨(some 22), .ixs 2 (.tmp 20) (.tmp 21), none, 0⟩, ⟨(some 23), .ld 2 true (.tmp 22), none, 0⟩, ⟨(some 24), .eqa true [2, 2] (.tmp 19) (.tmp 23), none, 0⟩] (some [[], [], [1, 0], [0, 1, 2], [], [], [5, 4], [4, 5, 6], [6, 5, 4, 7, 2, 1, 0, 3]]) 0 []) (.cond (.tmp 24) (.seq (.reg 0 [⟨(some 4), .mv (.const (.bool false)), none, 0⟩] none 0 []) .ret) .skip)))) (.reg 0 [⟨(some 25), .bin .add (.tmp 13) (.const (.int .i64 1)), none, 0⟩, ⟨(some 13), .mv (.tmp 25), none, 0⟩] none 0 []))))))) (.seq (.reg 0 [⟨(some 4), .mv (.const (.bool true)), none, 0⟩] none 0 []) .ret))))
theorem gc72_ok : compF Try.prog Try.f72 = some (gc72.er, 26, [.tmp 4]) := by unfold gc72; kernel_rfl
set_option maxRecDepth 100000 in
set_option maxHeartbeats 4000000 in
theorem p_slices_Equal_dirs_State_dirs_Arrow__v {u1 u2 : Bool} (a0 : List Ref29Arrow) (a1 : List Ref29Arrow) : CallsO Try.prog 72 [.sl (List.map Ref29Arrow.v a0) u1, .sl (List.map Ref29Arrow.v a1) u2] V.b (p_slices_Equal_dirs_State_dirs_Arrow_ a0 a1) := by
  refine callsO_comp mix Try.func72 gc72_ok fun r H => ?_
  rw [p_slices_Equal_dirs_State_dirs_Arrow_] at H
  conv => whnf
  iterate 2 (refine LenQ.M ?_; conv => whnf)
  refine tst_c H (fun b1 H => ?_) (fun b1 H => ?_)
  · conv => whnf
    exact fin0_c (enc := V.b) H (.inr rfl) (.cons (.tmp rfl) (.nil)) rfl rfl
  conv => whnf
  refine LenQ.M ?_; conv => whnf
  obtain ⟨o3, HL4, HQ5⟩ := bind_c H
  refine loop_c [4, 13] [5, 14, 15, 16, 17, 18, 19, 20, 21, 22, 23, 24, 25] [5, 14, 15, 16, 17, 18, 19, 20, 21, 22, 23, 24, 25] (fun n vals st => (∃ y7, p_slices_Equal_dirs_State_dirs_Arrow__l1  a0 a1 (a0.length : Int) n y7 = some o3 ∧ vals = [.b false, .i y7] ∧ st = [])) fuel 0 [] (⟨_, HL4, rfl, rfl⟩) (Nat.zero_le _) rfl (by kernel_rfl) (by kernel_rfl) rfl trivial ?_
  rintro (_ | n6) _ _ (⟨y7, H, rfl, rfl⟩)
  · rw [p_slices_Equal_dirs_State_dirs_Arrow__l1] at H; cases H
  rw [p_slices_Equal_dirs_State_dirs_Arrow__l1] at H
  conv => whnf
  refine tst_d H (fun b8 H => ?_) (fun b8 H => ?_)
  · conv => whnf
    obtain rfl := Option.some.inj H
    have H := HQ5
    try dsimp only at H
    exact fin0_c (enc := V.b) H (.inr rfl) (.cons (.tmp rfl) (.nil)) rfl rfl
  conv => whnf
  refine ixs_c (f := Ref29Arrow.v) H (fun _ => rfl) (fun x9 H => ?_); conv => whnf
  refine ixs_c (f := Ref29Arrow.v) H (fun _ => rfl) (fun x10 H => ?_); conv => whnf
  refine FootQ.mk ⟨rfl, ?_⟩; conv => whnf
  refine Tst.not ?_
  refine tst_d H (fun b11 H => ?_) (fun b11 H => ?_)
  · conv => whnf
    obtain rfl := Option.some.inj H
    have H := HQ5
    try dsimp only at H
    exact fin0_c (enc := V.b) H (.inr rfl) (.cons (.tmp rfl) (.nil)) rfl rfl
  conv => whnf
  refine Ari.w ?_; conv => whnf
  exact again_c [5, 14, 15, 16, 17, 18, 19, 20, 21, 22, 23, 24, 25] n6 0 [] (⟨_, H, rfl, rfl⟩) (Nat.lt_succ_self _) (Nat.zero_le _) rfl (by kernel_rfl) (by kernel_rfl) rfl trivial
def gc38 : BCode := (.seq (.reg 0 [⟨(some 4), .mv (.const (.bool false)), none, 0⟩] none 0 []) (.seq (.reg 0 [⟨(some 5), .mv (.tmp 0), none, 0⟩, ⟨(some 6), .mv (.tmp 1), none, 0⟩, ⟨(some 7), .cl 72 [(.tmp 5), (.tmp 6)], none, 0⟩, ⟨(some 4), .mv (.tmp 7), none, 0⟩] none 0 []) .ret))
theorem gc38_ok : compF Try.prog Try.f38 = some (gc38.er, 8, [.tmp 4]) := by unfold gc38; kernel_rfl
set_option maxRecDepth 100000 in
set_option maxHeartbeats 4000000 in
theorem p_dirs_Same_v {u1 u2 : Bool} (a0 : List Ref29Arrow) (a1 : List Ref29Arrow) : CallsO Try.prog 38 [.sl (List.map Ref29Arrow.v a0) u1, .sl (List.map Ref29Arrow.v a1) u2] V.b (p_dirs_Same a0 a1) := by
  refine callsO_comp mix Try.func38 gc38_ok fun r H => ?_
  rw [p_dirs_Same] at H
  conv => whnf
  refine ask_c (p_slices_Equal_dirs_State_dirs_Arrow__v _ _) H rfl rfl (fun v1 H => ?_); conv => whnf
  exact fin0_c (enc := V.b) H (.inr rfl) (.cons (.tmp rfl) (.nil)) rfl rfl
def gc34 : BCode := (.seq (.reg 0 [⟨(some 4), .mv (.const (.slice none 0 0)), none, 0⟩] none 0 []) (.seq (.seq (.reg 0 [⟨(some 8), .mv (.tmp 0), none, 0⟩, ⟨(some 9), .cl 29 [(.tmp 8)], none, 0⟩, ⟨(some 10), .bin .neq (.tmp 9) (.const (.int .i64 0)), none, 0⟩] none 0 []) (.cond (.tmp 10) (.seq (.reg 0 [⟨(some 4), .mv (.const (.slice none 0 0)), none, 0⟩] none 0 []) .ret) .skip)) (.seq (.reg 0 [⟨(some 5), .mv (.const (.slice none 0 0)), none, 0⟩] none 0 []) (.seq (.seq (.reg 0 [⟨(some 11), .mv (.tmp 0), none, 0⟩, ⟨(some 12), .lens (.tmp 11), none, 0⟩, ⟨(some 13), .mv (.const (.int .i64 0)), none, 0⟩] none 0 []) (.block 0 (.loop (.seq (.reg 0 [⟨(some 14), .bin .lss (.tmp 13) (.tmp 12), none, 0⟩] none 0 []) (.seq (.cond (.tmp 14) .skip (.exit 0)) (.seq (.block 1 (.seq (.reg 1 [⟨(some 15), .ixs 2 (.tmp 11) (.tmp 13), none, 0⟩, ⟨(some 16), .ld 2 true (.tmp 15), none, 0⟩, ⟨(some 7), .al (.agg [(.lit (.string ⟨#[]⟩)), (.lit (.string ⟨#[]⟩))]), none, 0⟩, ⟨none, .st 2 (.tmp 7) (.tmp 16), none, 1⟩] none 0 []) (.seq (.reg 0 [⟨(some 17), .fa 1 (.tmp 7), none, 0⟩, ⟨(some 18), .ld 1 false (.tmp 17), none, 0⟩, ⟨(some 19), .mv (.tmp 1), none, 0⟩, ⟨(some 20), .bin .eql (.tmp 18) (.tmp 19), none, 0⟩] none 0 []) (.cond (.tmp 20) (.reg 2 [⟨(some 21), .mv (.tmp 5), none, 0⟩, ⟨(some 22), .fa 0 (.tmp 7), none, 0⟩, ⟨(some 23), .ld 1 false (.tmp 22), none, 0⟩, ⟨(some 24), .bs 1 1 [(.lit (.string ⟨#[]⟩))] [(0, (.tmp 23))], none, 0⟩, ⟨(some 25), .ap 1 16 (.tmp 21) (.tmp 24), none, 1⟩, ⟨(some 5), .mv (.tmp 25), none, 2⟩] none 0 []) .skip)))) (.reg 0 [⟨(some 26), .bin .add (.tmp 13) (.const (.int .i64 1)), none, 0⟩, ⟨(some 13), .mv (.tmp 26), none, 0⟩] none 0 []))))))) (.seq (.reg 0 [⟨(some 27), .mv (.tmp 5), none, 0⟩, ⟨(some 4), .mv (.tmp 27), none, 0⟩] none 0 []) .ret)))))
theorem gc34_ok : compF Try.prog Try.f34 = some (gc34.er, 28, [.tmp 4]) := by unfold gc34; kernel_rfl
set_option maxRecDepth 100000 in
set_option maxHeartbeats 4000000 in
theorem p_dirs_Keys_v {u1 : Bool} (a0 : List Ref29Arrow) (a1 : ByteArray) : CallsO Try.prog 34 [.sl (List.map Ref29Arrow.v a0) u1, .s a1] (fun l : List ByteArray => V.sl (l.map V.s) false) (p_dirs_Keys a0 a1) := by
  refine callsO_comp mix Try.func34 gc34_ok fun r H => ?_
  rw [p_dirs_Keys] at H
  conv => whnf
  refine ask_c (p_dirs_Check_v _) H rfl rfl (fun v1 H => ?_); conv => whnf
  refine tst_c H (fun b2 H => ?_) (fun b2 H => ?_)
  · conv => whnf
    refine finR_c (enc := (fun l : List ByteArray => V.sl (l.map V.s) false)) H ?_; conv => whnf
    exact ⟨_, .v (.c (.slw))⟩
  conv => whnf
  refine LenQ.M ?_; conv => whnf
  obtain ⟨o4, HL5, HQ6⟩ := bind_c H
  refine loop_c [5, 13] [7, 14, 15, 16, 17, 18, 19, 20, 21, 22, 23, 24, 25, 26] [7, 14, 15, 16, 17, 18, 19, 20, 21, 22, 23, 24, 25, 26] (fun n vals st => (∃ y8, p_dirs_Keys_l1  a1 a0 (a0.length : Int) n [] y8 = some o4 ∧ vals = [.sl (List.map V.s []) true, .i y8] ∧ st = []) ∨ (∃ y13 y14, p_dirs_Keys_l1  a1 a0 (a0.length : Int) n y13 y14 = some o4 ∧ vals = [.osl 0 0 (List.length y13) 1 false, .i y14] ∧ st = [.live (cellsM V.s y13) (cellsM V.s y13).length])) fuel 0 [] (.inl (⟨_, HL5, rfl, rfl⟩)) (Nat.zero_le _) rfl (by kernel_rfl) (by kernel_rfl) rfl trivial ?_
  rintro (_ | n7) _ _ (⟨y8, H, rfl, rfl⟩ | ⟨y13, y14, H, rfl, rfl⟩)
  · rw [p_dirs_Keys_l1] at H; cases H
  · rw [p_dirs_Keys_l1] at H; cases H
  · rw [p_dirs_Keys_l1] at H
    conv => whnf
    refine tst_d H (fun b9 H => ?_) (fun b9 H => ?_)
    · conv => whnf
      obtain rfl := Option.some.inj H
      have H := HQ6
      try dsimp only at H
      refine finR_c (enc := (fun l : List ByteArray => V.sl (l.map V.s) false)) H ?_; conv => whnf
      exact ⟨_, .v (.c (.slw))⟩
    conv => whnf
    refine ixs_c (f := Ref29Arrow.v) H (fun _ => rfl) (fun x10 H => ?_); conv => whnf
    refine ⟨Nat.le_of_ble_eq_true rfl, ?_⟩; conv => whnf
    refine tst_d H (fun b11 H => ?_) (fun b11 H => ?_)
    · conv => whnf
      refine Ari.w ?_; conv => whnf
      exact again_c [7, 14, 15, 16, 17, 18, 19, 20, 21, 22, 23, 24, 25, 26] n7 0 [] (.inl (⟨_, H, rfl, rfl⟩)) (Nat.lt_succ_self _) (Nat.zero_le _) rfl (by kernel_rfl) (by kernel_rfl) rfl trivial
    conv => whnf
    refine appN_c (f := V.s) H (fun _ => rfl) (srcM (f := V.s) (fun _ => rfl) _ _) rfl (.v (srcOwn (f := V.s) (l := [x10.From]) (fun _ => rfl) rfl rfl rfl)) (by decide) rfl (by simp) (fun l12 H => ?_); conv => whnf
    refine Ari.w ?_; conv => whnf
    exact again_c [7, 14, 15, 16, 17, 18, 19, 20, 21, 22, 23, 24, 25, 26] n7 1 [2] (.inr (⟨_, _, H, rfl, rfl⟩)) (Nat.lt_succ_self _) (Nat.zero_le _) rfl (by kernel_rfl) (by kernel_rfl) rfl (wkB_live0 rfl (cellsM_idlt (f := V.s) (fun _ => rfl) _) rfl trivial)
  rw [p_dirs_Keys_l1] at H
  conv => whnf
  refine tst_d H (fun b15 H => ?_) (fun b15 H => ?_)
  · conv => whnf
    obtain rfl := Option.some.inj H
    have H := HQ6
    try dsimp only at H
    refine finR_c (enc := (fun l : List ByteArray => V.sl (l.map V.s) false)) H ?_; conv => whnf
    exact ⟨_, .v (.c (fzown (f := V.s) (l := y13) rfl rfl (fun _ => rfl) (fun _ => rfl)))⟩
  conv => whnf
  refine ixs_c (f := Ref29Arrow.v) H (fun _ => rfl) (fun x16 H => ?_); conv => whnf
  refine ⟨Nat.le_of_ble_eq_true rfl, ?_⟩; conv => whnf
  refine tst_d H (fun b17 H => ?_) (fun b17 H => ?_)
  · conv => whnf
    refine Ari.w ?_; conv => whnf
    exact again_c [7, 14, 15, 16, 17, 18, 19, 20, 21, 22, 23, 24, 25, 26] n7 1 [] (.inr (⟨_, _, H, rfl, rfl⟩)) (Nat.lt_succ_self _) (Nat.zero_le _) rfl (by kernel_rfl) (by kernel_rfl) rfl (wkB_live0 rfl (cellsM_idlt (f := V.s) (fun _ => rfl) _) rfl trivial)
  conv => whnf
  refine appO_c (f := V.s) H (fun _ => rfl) rfl (Nat.le_refl _) (.v (srcOwn (f := V.s) (l := [x16.From]) (fun _ => rfl) rfl rfl rfl)) (by decide) rfl (by simp) (fun l18 H => ?_); conv => whnf
  refine Ari.w ?_; conv => whnf
  exact again_c [7, 14, 15, 16, 17, 18, 19, 20, 21, 22, 23, 24, 25, 26] n7 1 [3] (.inr (⟨_, _, H, rfl, rfl⟩)) (Nat.lt_succ_self _) (Nat.zero_le _) rfl (by kernel_rfl) (by kernel_rfl) rfl (wkB_live0 rfl (cellsM_idlt (f := V.s) (fun _ => rfl) _) rfl trivial)
def gc32 : BCode := (.seq (.reg 0 [⟨(some 4), .mv (.const (.slice none 0 0)), none, 0⟩] none 0 []) (.seq (.reg 0 [⟨(some 8), .mv (.tmp 0), none, 0⟩, ⟨(some 9), .mv (.tmp 1), none, 0⟩, ⟨(some 10), .cl 40 [(.tmp 8), (.tmp 9)], none, 0⟩, ⟨(some 7), .mv (.tmp 10), none, 0⟩, ⟨(some 11), .ex (.tmp 7) 0, none, 0⟩, ⟨(some 12), .ex (.tmp 7) 1, none, 0⟩, ⟨(some 5), .mv (.tmp 11), none, 0⟩, ⟨(some 6), .mv (.tmp 12), none, 0⟩] none 0 []) (.seq (.reg 0 [⟨(some 13), .mv (.tmp 6), none, 0⟩, ⟨(some 4), .mv (.tmp 13), none, 0⟩] none 0 []) .ret)))
theorem gc32_ok : compF Try.prog Try.f32 = some (gc32.er, 14, [.tmp 4]) := by unfold gc32; kernel_rfl
set_option maxRecDepth 100000 in
set_option maxHeartbeats 4000000 in
theorem p_dirs_Of_v {u1 : Bool} (a0 : List Ref29Arrow) (a1 : ByteArray) : CallsO Try.prog 32 [.sl (List.map Ref29Arrow.v a0) u1, .s a1] (fun l : List ByteArray => V.sl (l.map V.s) false) (p_dirs_Of a0 a1) := by
  refine callsO_comp mix Try.func32 gc32_ok fun r H => ?_
  rw [p_dirs_Of] at H
  conv => whnf
  refine ask_c (p_dirs_Clear_v _ _) H rfl rfl (fun v1 H => ?_); conv => whnf
  exact fin0_c (enc := (fun l : List ByteArray => V.sl (l.map V.s) false)) H (.inr rfl) (.cons (.tmp rfl) (.nil)) rfl rfl
def gc36 : BCode := (.seq (.reg 0 [⟨(some 6), .mv (.const (.bool false)), none, 0⟩] none 0 []) (.seq (.reg 0 [⟨(some 10), .mv (.tmp 0), none, 0⟩, ⟨(some 11), .mv (.tmp 1), none, 0⟩, ⟨(some 12), .mv (.tmp 2), none, 0⟩, ⟨(some 13), .cl 41 [(.tmp 10), (.tmp 11), (.tmp 12)], none, 0⟩, ⟨(some 9), .mv (.tmp 13), none, 0⟩, ⟨(some 14), .ex (.tmp 9) 0, none, 0⟩, ⟨(some 15), .ex (.tmp 9) 1, none, 0⟩, ⟨(some 7), .mv (.tmp 14), none, 0⟩, ⟨(some 8), .mv (.tmp 15), none, 0⟩] none 0 []) (.seq (.reg 0 [⟨(some 16), .mv (.tmp 8), none, 0⟩, ⟨(some 6), .mv (.tmp 16), none, 0⟩] none 0 []) .ret)))
theorem gc36_ok : compF Try.prog Try.f36 = some (gc36.er, 17, [.tmp 6]) := by unfold gc36; kernel_rfl
set_option maxRecDepth 100000 in
set_option maxHeartbeats 4000000 in
theorem p_dirs_Has_v {u1 : Bool} (a0 : List Ref29Arrow) (a1 : ByteArray) (a2 : ByteArray) : CallsO Try.prog 36 [.sl (List.map Ref29Arrow.v a0) u1, .s a1, .s a2] V.b (p_dirs_Has a0 a1 a2) := by
  refine callsO_comp mix Try.func36 gc36_ok fun r H => ?_
  rw [p_dirs_Has] at H
  conv => whnf
  refine ask_c (p_dirs_Del_v _ _ _) H rfl rfl (fun v1 H => ?_); conv => whnf
  exact fin0_c (enc := V.b) H (.inr rfl) (.cons (.tmp rfl) (.nil)) rfl rfl
end Go.Proofs.Ythmgficajgedlaa
/- Plain functions (written by a program of mine). -/
namespace Go.Proofs.Ythmgficajgedlaa
open Go.RowKit
def p_slices_IndexFunc_mail_State_mail_Entry__l1 (a1 : MailEntry → Option Bool) (z5 : List MailEntry) (z6 : Int) : Nat → Int → Option (Int ⊕ Int)
  | 0, _ => none
  | n + 1, y7 =>
    bif (decide (y7 < z6)) then
      (at? z5 y7).bind fun x9 =>
      (a1 x9).bind fun v10 =>
      bif v10 then
        some (.inl y7)
      else
      p_slices_IndexFunc_mail_State_mail_Entry__l1 a1 z5 z6 n (w64 (y7 + (1 : Int)))
    else
    some (.inr y7)
def p_slices_IndexFunc_mail_State_mail_Entry_ (a0 : List MailEntry) (a1 : MailEntry → Option Bool) : Option (Int) :=
  (p_slices_IndexFunc_mail_State_mail_Entry__l1 a1 a0 (a0.length : Int) fuel (0 : Int)).bind fun o12 => match o12 with
  | .inl q13 =>
    some q13
  | .inr q14 =>
    some (-1 : Int)
end Go.Proofs.Ythmgficajgedlaa
/- That the program's functions yield what the plain ones tell (written by a program of mine). -/
namespace Go.Proofs.Ythmgficajgedlaa
open Go.RowKit
def gc164 : BCode := (.seq (.reg 0 [⟨(some 4), .mv (.const (.int .i64 0)), none, 0⟩] none 0 []) (.seq (.seq (.reg 0 [⟨(some 6), .mv (.tmp 0), none, 0⟩, ⟨(some 7), .lens (.tmp 6), none, 0⟩, ⟨(some 8), .mv (.const (.int .i64 0)), none, 0⟩] none 0 []) (.block 0 (.loop (.seq (.reg 0 [⟨(some 9), .bin .lss (.tmp 8) (.tmp 7), none, 0⟩] none 0 []) (.seq (.cond (.tmp 9) .skip (.exit 0)) (.seq (.block 1 (.seq (.reg 0 [⟨(some 10), .mv (.tmp 8), none, 0⟩, ⟨(some 5), .mv (.tmp 10), none, 0⟩] none 0 []) (.seq (.reg 0 [⟨(some 11), .mv (.tmp 1), none, 0⟩, ⟨(some 12), .mv (.tmp 0), none, 0⟩, ⟨(some 13), .mv (.tmp 5), none, 0⟩, ⟨(some 14), .ixs 5 (.tmp 12) (.tmp 13), none, 0⟩, ⟨(some 15), .ld 5 true (.tmp 14), none, 0⟩, ⟨(some 16), .cv (.tmp 11) [(.tmp 15)], none, 0⟩] none 0 []) (.cond (.tmp 16) (.seq (.reg 0 [⟨(some 17), .mv (.tmp 5), none, 0⟩, ⟨(some 4), .mv (.tmp 17), none, 0⟩] none 0 []) .ret) .skip)))) (.reg 0 [⟨(some 18), .bin .add (.tmp 8) (.const (.int .i64 1)), none, 0⟩, ⟨(some 8), .mv (.tmp 18), none, 0⟩] none 0 []))))))) (.seq (.reg 0 [⟨(some 4), .mv (.const (.int .i64 (-1))), none, 0⟩] none 0 []) .ret)))
theorem gc164_ok : compF Try.prog Try.f164 = some (gc164.er, 19, [.tmp 4]) := by unfold gc164; kernel_rfl
set_option maxRecDepth 100000 in
set_option maxHeartbeats 4000000 in
theorem p_slices_IndexFunc_mail_State_mail_Entry__v {u1 : Bool} (a0 : List MailEntry) (a1 : MailEntry → Option Bool) {a1_g : Nat} {a1_k : List V} (a1_h : Clo1 Try.prog a1_g a1_k MailEntry.v V.b a1) : CallsO Try.prog 164 [.sl (List.map MailEntry.v a0) u1, .clo (.func a1_g) a1_k] V.i (p_slices_IndexFunc_mail_State_mail_Entry_ a0 a1) := by
  refine callsO_comp mix Try.func164 gc164_ok fun r H => ?_
  rw [p_slices_IndexFunc_mail_State_mail_Entry_] at H
  conv => whnf
  refine LenQ.M ?_; conv => whnf
  obtain ⟨o2, HL3, HQ4⟩ := bind_c H
  refine loop_c [4, 8] [5, 9, 10, 11, 12, 13, 14, 15, 16, 17, 18] [5, 9, 10, 11, 12, 13, 14, 15, 16, 17, 18] (fun n vals st => (∃ y6, p_slices_IndexFunc_mail_State_mail_Entry__l1  a1 a0 (a0.length : Int) n y6 = some o2 ∧ vals = [.i (0 : Int), .i y6] ∧ st = [])) fuel 0 [] (⟨_, HL3, rfl, rfl⟩) (Nat.zero_le _) rfl (by simp only [maskF, setF, List.set_cons_zero, List.set_cons_succ, V.ren.renL, V.ren, renL_id _ a1_h.own] <;> rfl) (by simp only [maskF, setF, List.set_cons_zero, List.set_cons_succ, V.idlt.belowL, V.idlt, fun n => idltL_up (n := n) _ a1_h.own] <;> rfl) rfl trivial ?_
  rintro (_ | n5) _ _ (⟨y6, H, rfl, rfl⟩)
  · rw [p_slices_IndexFunc_mail_State_mail_Entry__l1] at H; cases H
  rw [p_slices_IndexFunc_mail_State_mail_Entry__l1] at H
  conv => whnf
  refine tst_d H (fun b7 H => ?_) (fun b7 H => ?_)
  · conv => whnf
    obtain rfl := Option.some.inj H
    have H := HQ4
    try dsimp only at H
    exact fin0_c (enc := V.i) H (.inr rfl) (.cons (.tmp rfl) (.nil)) rfl rfl
  conv => whnf
  refine ixs_c (f := MailEntry.v) H (fun _ => rfl) (fun x8 H => ?_); conv => whnf
  refine askC_c a1_h H (.cons (fzagg (.cons (.id rfl) (.cons (.id rfl) (.cons (.id rfl) (.cons (.id rfl) (.cons (.id rfl) (.nil)))))) rfl) (.nil)) (fun v9 H => ?_); conv => whnf
  refine tst_c H (fun b10 H => ?_) (fun b10 H => ?_)
  · conv => whnf
    obtain rfl := Option.some.inj H
    have H := HQ4
    try dsimp only at H
    exact fin0_c (enc := V.i) H (.inr rfl) (.cons (.tmp rfl) (.nil)) rfl rfl
  conv => whnf
  refine Ari.w ?_; conv => whnf
  exact again_c [5, 9, 10, 11, 12, 13, 14, 15, 16, 17, 18] n5 0 [] (⟨_, H, rfl, rfl⟩) (Nat.lt_succ_self _) (Nat.zero_le _) rfl (by simp only [maskF, setF, List.set_cons_zero, List.set_cons_succ, V.ren.renL, V.ren, renL_id _ a1_h.own] <;> rfl) (by simp only [maskF, setF, List.set_cons_zero, List.set_cons_succ, V.idlt.belowL, V.idlt, fun n => idltL_up (n := n) _ a1_h.own] <;> rfl) rfl trivial
end Go.Proofs.Ythmgficajgedlaa
/- Plain laws of no program: what loops and questions come to. -/
namespace Go.Proofs.Ythmgficajgedlaa
open Go.RowKit
theorem at_nat {α : Type} (l : List α) (k : Nat) : at? l (k : Int) = l[k]? := by
  unfold at?; rw [if_pos (Int.natCast_nonneg k)]; rfl
theorem at_lt {α : Type} {l : List α} {k : Nat} (h : k < l.length) : at? l (k : Int) = some l[k] := by rw [at_nat, List.getElem?_eq_getElem h]
theorem w64_id {r : Int} (h : -9223372036854775808 ≤ r ∧ r ≤ 9223372036854775807) : w64 r = r := wrap_ok h
theorem w64_succ {k : Nat} (h : k ≤ 1000000) : w64 ((k : Int) + 1) = ((k + 1 : Nat) : Int) := by rw [w64_id (by omega)]; rfl
theorem lt_tt {a b : Nat} (h : a < b) : decide ((a : Int) < (b : Int)) = true := by simpa using h
theorem lt_ff {a b : Nat} (h : b ≤ a) : decide ((a : Int) < (b : Int)) = false := by simpa using h
theorem drop_at {α : Type} {l : List α} {k : Nat} (h : k < l.length) : l.drop k = l[k] :: l.drop (k + 1) := List.drop_eq_getElem_cons h
theorem fuel_pos : (1000000 : Nat) < fuel := by decide
theorem cutTo {α : Type} {l : List α} {k : Nat} (h : k ≤ l.length) : cut? l none (some (k : Int)) = some (l.take k) := by
  unfold cut?
  simp only [Option.getD_none, Option.getD_some]
  rw [if_pos (by omega)]
  simp
theorem cutFrom {α : Type} {l : List α} {k : Nat} (h : k ≤ l.length) : cut? l (some (k : Int)) none = some (l.drop k) := by
  unfold cut?
  simp only [Option.getD_none, Option.getD_some]
  rw [if_pos (by omega)]
  rw [List.take_of_length_le (by simp)]; rfl
theorem u64_id {r : Int} (hr : 0 ≤ r ∧ r ≤ 9223372036854775807) : IntKind.u64.wrap r = r := by
  simp only [IntKind.wrap, IntKind.signed, IntKind.bits]
  first | omega | (simp; omega)
theorem fdivN (m p : Nat) : (m : Int).fdiv (2 ^ p) = ((m / 2 ^ p : Nat) : Int) := by
  rw [show ((2 : Int) ^ p) = ((2 ^ p : Nat) : Int) by simp, Int.fdiv_eq_ediv_of_nonneg _ (Int.natCast_nonneg _)]; rfl
theorem half_p {i j : Nat} (h : i + j ≤ 100000) : w64 (shrI .u64 (IntKind.wrap .u64 (w64 ((i : Int) + (j : Int)))) (1 : Int)) = (((i + j) / 2 : Nat) : Int) := by
  have e1 : w64 ((i : Int) + (j : Int)) = ((i + j : Nat) : Int) := by rw [w64_id (by omega)]; omega
  have e2 : IntKind.wrap .u64 ((i + j : Nat) : Int) = ((i + j : Nat) : Int) := u64_id (by omega)
  have e : (min (1 : Int).toNat IntKind.u64.bits) = 1 := rfl
  have e3 : shrI .u64 ((i + j : Nat) : Int) 1 = (((i + j) / 2 : Nat) : Int) := by
    unfold shrI
    rw [e, fdivN]
  rw [e1, e2, e3]
  exact w64_id (by omega)
theorem app_ok {α : Type} {a b : List α} (h : a.length + b.length ≤ 1000000) : app? a b = some (a ++ b) := if_pos h
theorem at_cons {α : Type} {l : List α} {k : Nat} (h : k < l.length) : at? l (k : Int) = some l[k] := at_lt h
theorem byte_at {s : ByteArray} {k : Nat} (h : k < s.size) : byte? s (k : Int) = some (s[k].toNat : Int) := by
  unfold byte?
  rw [dif_pos ⟨Int.natCast_nonneg k, h⟩]; rfl
theorem len0 {α : Type} {l : List α} {n : Nat} (h : n = l.length) : l.drop n = [] := List.drop_of_length_le (by omega)
theorem byte_ne (a b : UInt8) : ((a.toNat : Int) != (b.toNat : Int)) = !(a == b) := by
  by_cases h : a = b
  · subst h; simp
  · have h1 : (a == b) = false := by simpa using h
    have h2 : ¬ ((a.toNat : Int) = (b.toNat : Int)) := fun e => h (UInt8.toNat_inj.1 (Int.natCast_inj.1 e))
    rw [h1]; simpa using h2
theorem tl_data (s : ByteArray) : s.toList = s.data.toList := by rw [ByteArray.toList_eq]
/-- texts, compared as the code does. -/
def eqT (a b : ByteArray) : Bool := a.toList == b.toList
theorem eqT_refl (a : ByteArray) : (a.toList == a.toList) = true := by simp
theorem eqT_iff {a b : ByteArray} : (a.toList == b.toList) = true ↔ a = b := by
  rw [beq_iff_eq, tl_data, tl_data]
  exact ⟨fun h => by cases a; cases b; congr 1; exact Array.ext' h, fun h => by rw [h]⟩
theorem cmp_less : ∀ (a b : List UInt8), Op.bytesLess a b = decide (Lib.compareBytes a b < 0)
  | [], [] => by simp [Op.bytesLess, Lib.compareBytes]
  | [], _ :: _ => by simp [Op.bytesLess, Lib.compareBytes]
  | _ :: _, [] => by simp [Op.bytesLess, Lib.compareBytes]
  | a :: xs, b :: ys => by
    unfold Op.bytesLess Lib.compareBytes
    rw [cmp_less xs ys]
    by_cases h : a < b
    · simp [h]
    · by_cases h2 : b < a
      · have hne : a ≠ b := fun e => by subst e; exact UInt8.lt_irrefl _ h2
        simp [h, h2, hne]
      · have e : a = b := by
          apply UInt8.toNat_inj.1
          rw [UInt8.lt_iff_toNat_lt] at h h2; omega
        subst e; simp [h]
theorem cmp_refl : ∀ a : List UInt8, Lib.compareBytes a a = 0
  | [] => by simp [Lib.compareBytes]
  | a :: xs => by unfold Lib.compareBytes; rw [if_neg (UInt8.lt_irrefl _), if_neg (UInt8.lt_irrefl _)]; exact cmp_refl xs
theorem cmp_eq0 : ∀ {a b : List UInt8}, Lib.compareBytes a b = 0 → a = b
  | [], [], _ => rfl
  | [], _ :: _, h => by simp [Lib.compareBytes] at h
  | _ :: _, [], h => by simp [Lib.compareBytes] at h
  | a :: xs, b :: ys, h => by
    unfold Lib.compareBytes at h
    split at h
    · omega
    · split at h
      · omega
      · rename_i h1 h2
        have e : a = b := by
          apply UInt8.toNat_inj.1
          rw [UInt8.lt_iff_toNat_lt] at h1 h2; omega
        rw [e, cmp_eq0 h]
theorem cmp_anti : ∀ (a b : List UInt8), Lib.compareBytes b a = - Lib.compareBytes a b
  | [], [] => by simp [Lib.compareBytes]
  | [], _ :: _ => by simp [Lib.compareBytes]
  | _ :: _, [] => by simp [Lib.compareBytes]
  | a :: xs, b :: ys => by
    unfold Lib.compareBytes
    rw [cmp_anti xs ys]
    by_cases h : a < b
    · have h2 : ¬ b < a := by rw [UInt8.lt_iff_toNat_lt] at h ⊢; omega
      simp [h, h2]
    · by_cases h2 : b < a
      · simp [h, h2]
      · simp [h, h2]
theorem cmp_trans : ∀ {a b c : List UInt8}, Lib.compareBytes a b < 0 → Lib.compareBytes b c < 0 → Lib.compareBytes a c < 0
  | [], [], _, h, _ => by simp [Lib.compareBytes] at h
  | _ :: _, [], _, h, _ => by simp [Lib.compareBytes] at h
  | _, _ :: _, [], _, h => by simp [Lib.compareBytes] at h
  | [], _ :: _, _ :: _, _, _ => by simp [Lib.compareBytes]
  | a :: xs, b :: ys, c :: cs, h1, h2 => by
    unfold Lib.compareBytes at h1 h2 ⊢
    by_cases x : a < b
    · by_cases y : b < c
      · rw [if_pos (UInt8.lt_trans x y)]; omega
      · rw [if_neg y] at h2
        by_cases z : c < b
        · rw [if_pos z] at h2; omega
        · have e : b = c := by
            apply UInt8.toNat_inj.1
            rw [UInt8.lt_iff_toNat_lt] at y z; omega
          subst e
          rw [if_pos x]; omega
    · rw [if_neg x] at h1
      by_cases x2 : b < a
      · rw [if_pos x2] at h1; omega
      · rw [if_neg x2] at h1
        have e : a = b := by
          apply UInt8.toNat_inj.1
          rw [UInt8.lt_iff_toNat_lt] at x x2; omega
        subst e
        by_cases y : a < c
        · rw [if_pos y]; omega
        · rw [if_neg y] at h2 ⊢
          by_cases z : c < a
          · rw [if_pos z] at h2; omega
          · rw [if_neg z] at h2 ⊢
            exact cmp_trans h1 h2
end Go.Proofs.Ythmgficajgedlaa
/- slices.DeleteFunc at function 127. -/
namespace Go.Proofs.Ythmgficajgedlaa
open Go.RowKit
def dc127 : BCode := (.seq (.reg 0 [⟨(some 4), .mv (.const (.slice none 0 0)), none, 0⟩] none 0 []) (.seq (.reg 0 [⟨(some 8), .mv (.tmp 0), none, 0⟩, ⟨(some 9), .mv (.tmp 1), none, 0⟩, ⟨(some 10), .cl 164 [(.tmp 8), (.tmp 9)], none, 0⟩, ⟨(some 5), .mv (.tmp 10), none, 0⟩] none 0 []) (.seq (.seq (.reg 0 [⟨(some 11), .mv (.tmp 5), none, 0⟩, ⟨(some 12), .bin .eql (.tmp 11) (.const (.int .i64 (-1))), none, 0⟩] none 0 []) (.cond (.tmp 12) (.seq (.reg 0 [⟨(some 13), .mv (.tmp 0), none, 0⟩, ⟨(some 4), .mv (.tmp 13), none, 0⟩] none 0 []) .ret) .skip)) (.seq (.seq (.reg 0 [⟨(some 14), .mv (.tmp 5), none, 0⟩, ⟨(some 15), .bin .add (.tmp 14) (.const (.int .i64 1)), none, 0⟩, ⟨(some 6), .mv (.tmp 15), none, 0⟩] none 0 []) (.block 0 (.loop (.seq (.seq (.reg 0 [⟨(some 16), .mv (.tmp 6), none, 0⟩, ⟨(some 17), .mv (.tmp 0), none, 0⟩, ⟨(some 18), .lens (.tmp 17), none, 0⟩, ⟨(some 19), .bin .lss (.tmp 16) (.tmp 18), none, 0⟩] none 0 []) (.cond (.tmp 19) .skip (.exit 0))) (.seq (.block 1 (.seq (.reg 1 [⟨(some 22), .mv (.tmp 0), none, 0⟩, ⟨(some 23), .mv (.tmp 6), none, 0⟩, ⟨(some 24), .ixs 5 (.tmp 22) (.tmp 23), none, 0⟩, ⟨(some 25), .ld 5 true (.tmp 24), none, 0⟩, ⟨(some 7), .al (.agg [(.lit (.string ⟨#[]⟩)), (.lit (.bool false)), (.lit (.int .i64 0)), (.lit (.int .i64 0)), (.lit (.int .i64 0))]), none, 0⟩, ⟨none, .st 5 (.tmp 7) (.tmp 25), none, 1⟩] none 0 []) (.seq (.reg 0 [⟨(some 26), .mv (.tmp 1), none, 0⟩, ⟨(some 27), .ld 5 true (.tmp 7), none, 0⟩, ⟨(some 28), .cv (.tmp 26) [(.tmp 27)], none, 0⟩, ⟨(some 29), .un .not (.tmp 28), none, 0⟩] none 0 []) (.cond (.tmp 29) (.seq (.reg 0 [⟨(some 30), .mv (.tmp 0), none, 0⟩, ⟨(some 31), .mv (.tmp 5), none, 0⟩, ⟨(some 32), .ld 5 true (.tmp 7), none, 0⟩, ⟨(some 33), .ixs 5 (.tmp 30) (.tmp 31), none, 0⟩, ⟨none, .st 5 (.tmp 33) (.tmp 32), none, 0⟩] none 0 []) (.reg 0 [⟨(some 34), .mv (.tmp 5), none, 0⟩, ⟨(some 35), .bin .add (.tmp 34) (.const (.int .i64 1)), none, 0⟩, ⟨(some 5), .mv (.tmp 35), none, 0⟩] none 0 [])) .skip)))) (.reg 0 [⟨(some 20), .mv (.tmp 6), none, 0⟩, ⟨(some 21), .bin .add (.tmp 20) (.const (.int .i64 1)), none, 0⟩, ⟨(some 6), .mv (.tmp 21), none, 0⟩] none 0 [])))))) (.seq (.reg 0 [⟨(some 36), .mv (.tmp 0), none, 0⟩, ⟨(some 37), .mv (.tmp 5), none, 0⟩, ⟨(some 38), .sls 5 (.tmp 36) (some (.tmp 37)) none none, none, 0⟩, ⟨none, .clr 5 (.tmp 38), none, 0⟩] none 0 []) (.seq (.reg 0 [⟨(some 39), .mv (.tmp 0), none, 0⟩, ⟨(some 40), .mv (.tmp 5), none, 0⟩, ⟨(some 41), .sls 5 (.tmp 39) none (some (.tmp 40)) none, none, 0⟩, ⟨(some 4), .mv (.tmp 41), none, 0⟩] none 0 []) .ret))))))
theorem dc127_ok : compF Try.prog Try.f127 = some (dc127.er, 42, [.tmp 4]) := by unfold dc127; kernel_rfl
theorem dfi127 (fn : MailEntry → Option Bool) (p : MailEntry → Bool) (rows : List MailEntry) (hn : rows.length ≤ 1000000) (hf : ∀ x ∈ rows, fn x = some (p x)) : ∀ (n k F : Nat), k + n = rows.length → n < F →
    p_slices_IndexFunc_mail_State_mail_Entry__l1 fn rows rows.length F k = some (if (rows.drop k).any p = true then .inl ((k + (rows.drop k).findIdx p : Nat) : Int) else .inr (rows.length : Int))
  | 0, k, F + 1, hk, hF => by
    have e : rows.drop k = [] := List.drop_of_length_le (by omega)
    have : k = rows.length := by omega
    rw [p_slices_IndexFunc_mail_State_mail_Entry__l1, lt_ff (by omega), e, this]; rfl
  | n + 1, k, F + 1, hk, hF => by
    have hlt : k < rows.length := by omega
    rw [p_slices_IndexFunc_mail_State_mail_Entry__l1, lt_tt hlt, at_lt hlt, drop_at hlt]
    simp only [cond_true, Option.bind_some, hf _ (List.getElem_mem hlt)]
    cases hp : p rows[k] with
    | true => rw [List.any_cons, hp, List.findIdx_cons, hp]; rfl
    | false =>
      simp only [cond_false]
      rw [w64_succ (by omega), dfi127 fn p rows hn hf n (k + 1) F (by omega) (by omega)]
      simp only [List.any_cons, hp, Bool.false_or, List.findIdx_cons, cond_false]
      split
      · congr 3; omega
      · rfl
theorem dfx127 {fn : MailEntry → Option Bool} (p : MailEntry → Bool) {rows : List MailEntry} (hn : rows.length ≤ 1000000) (hf : ∀ x ∈ rows, fn x = some (p x)) : p_slices_IndexFunc_mail_State_mail_Entry_ rows fn = some (if rows.any p = true then (rows.findIdx p : Int) else -1) := by
  unfold p_slices_IndexFunc_mail_State_mail_Entry_
  have := dfi127 fn p rows hn hf rows.length 0 fuel (by omega) (by have := fuel_pos; omega)
  rw [show ((0 : Int)) = ((0 : Nat) : Int) from rfl, this, List.drop_zero]
  cases rows.any p <;> simp
set_option maxRecDepth 100000 in
set_option maxHeartbeats 4000000 in
theorem dfS127 (l : List MailEntry) {g : Nat} {caps : List V} {fn : MailEntry → Option Bool} (hc : Clo1 Try.prog g caps MailEntry.v V.b fn) (p : MailEntry → Bool) (hn : l.length ≤ 1000000) (hf : ∀ x ∈ l, fn x = some (p x)) :
    CallsS Try.prog 127 [.osl 0 0 l.length 5 false, .clo (.func g) caps] [.live (cellsM MailEntry.v l) 0] (.osl 0 0 (l.filter fun x => !p x).length 5 false) [.live (cellsM MailEntry.v (l.filter fun x => !p x)) 0] := by
  refine callsR_c (n0 := 1) mix Try.func127 dc127_ok rfl ?_
  conv => whnf
  refine askT_c (X := some) (r := if l.any p = true then (l.findIdx p : Int) else -1) [0] (p_slices_IndexFunc_mail_State_mail_Entry__v l fn hc) (by rw [dfx127 p hn hf]; rfl) (.cons (.c (fzown (f := MailEntry.v) (l := l) rfl rfl (fun _ => rfl) (fun _ => rfl))) (.cons (.c (.id (by exact hc.own))) .nil)) (fun _ => rfl) (fun x H => ?_)
  obtain rfl := Option.some.inj H
  conv => whnf
  by_cases hany : l.any p = true
  · rw [if_pos hany]
    have hk0 : l.findIdx p < l.length := List.findIdx_lt_length_of_exists (by simpa using hany)
    refine Tst.isF (beq_eq_false_iff_ne.2 (by omega)) ?_; conv => whnf
    refine Ari.w ?_; conv => whnf
    have hw : IntKind.i64.wrap ((l.findIdx p : Int) + 1) = ((l.findIdx p + 1 : Nat) : Int) := w64_succ (by omega)
    rw [hw]
    refine loop_c [5, 6] [7, 16, 17, 18, 19, 20, 21, 22, 23, 24, 25, 26, 27, 28, 29, 30, 31, 32, 33, 34, 35] [7, 16, 17, 18, 19, 20, 21, 22, 23, 24, 25, 26, 27, 28, 29, 30, 31, 32, 33, 34, 35] (fun n vals st => ∃ (i j : Nat) (y : List MailEntry), vals = [.i i, .i j] ∧ st = [.live (cellsM MailEntry.v y) 0] ∧ y.length = l.length ∧ i < j ∧ j ≤ l.length ∧ y.drop j = l.drop j ∧ y.take i = (l.take j).filter (fun x => !p x) ∧ i ≤ l.length ∧ n = l.length - j) (l.length - (l.findIdx p + 1)) 1 [] ⟨l.findIdx p, l.findIdx p + 1, l, rfl, rfl, rfl, by omega, by omega, rfl, df_start hk0, by omega, rfl⟩ (Nat.le_refl _) rfl
      (by simp only [maskF, setF, List.set_cons_zero, List.set_cons_succ, V.ren.renL, V.ren, renL_id _ hc.own] <;> rfl) (by simp only [maskF, setF, List.set_cons_zero, List.set_cons_succ, V.idlt.belowL, V.idlt, fun n => idltL_up (n := n) _ hc.own] <;> rfl) rfl (wkB_live0 rfl (cellsM_idlt (f := MailEntry.v) (fun _ => rfl) _) rfl trivial) ?_
    rintro n _ _ ⟨i, j, y, rfl, rfl, hyl, hij, hjl, hyd, hyt, hil, rfl⟩
    conv => whnf
    by_cases hj : j < l.length
    · refine Tst.isT (lt_tt hj) ?_; conv => whnf
      have hmem : l[j] ∈ l := List.getElem_mem hj
      have hx : y[(j : Int).toNat]? = some l[j] := by
        rw [Int.toNat_natCast]
        have h1 : (y.drop j)[0]? = (l.drop j)[0]? := by rw [hyd]
        rw [List.getElem?_drop, List.getElem?_drop, Nat.add_zero] at h1
        rw [h1, List.getElem?_eq_getElem hj]
      refine ⟨rfl, ⟨Int.natCast_nonneg _, by rw [Int.toNat_natCast]; exact hj, ?_⟩⟩; conv => whnf
      refine ldo_c (f := MailEntry.v) (es := 5) hx (fun _ => rfl) 0 (by omega) (by decide) ?_; conv => whnf
      refine ⟨Nat.le_of_ble_eq_true rfl, ?_⟩; conv => whnf
      refine askC_c (X := some) (r := p l[j]) (a := l[j]) hc (by rw [hf _ hmem]; rfl) (fza_ids rfl) (fun v H => ?_)
      obtain rfl := Option.some.inj H
      conv => whnf
      have hw1 : IntKind.i64.wrap ((j : Int) + 1) = ((j + 1 : Nat) : Int) := w64_succ (by omega)
      have hw2 : IntKind.i64.wrap ((i : Int) + 1) = ((i + 1 : Nat) : Int) := w64_succ (by omega)
      cases hp : p l[j] with
      | false =>
        refine Tst.isT rfl ?_; conv => whnf
        refine ⟨rfl, ⟨Int.natCast_nonneg _, by rw [Int.toNat_natCast]; omega, ?_⟩⟩; conv => whnf
        refine ⟨Nat.zero_le _, sto_c (f := MailEntry.v) (l := y) (n := i) (es := 5) (x := y[i]'(by omega)) (List.getElem?_eq_getElem (by omega)) (x' := l[j]) (fun _ => rfl) 0 (by rw [Int.toNat_natCast]; omega) (Nat.le_of_ble_eq_true rfl) (by rfl) ?_⟩; conv => whnf
        refine Ari.w ?_; conv => whnf
        refine Ari.w ?_; conv => whnf
        rw [hw1, hw2]
        have hd := df_keep hyl hij hj hyd hyt hp
        exact again_c [7, 16, 17, 18, 19, 20, 21, 22, 23, 24, 25, 26, 27, 28, 29, 30, 31, 32, 33, 34, 35] (l.length - (j + 1)) 1 [] ⟨i + 1, j + 1, y.set i l[j], rfl, rfl, by rw [List.length_set]; exact hyl, by omega, by omega, hd.1, hd.2, by omega, rfl⟩ (by omega) (Nat.le_refl _) rfl
          (by simp only [maskF, setF, List.set_cons_zero, List.set_cons_succ, V.ren.renL, V.ren, renL_id _ hc.own] <;> rfl) (by simp only [maskF, setF, List.set_cons_zero, List.set_cons_succ, V.idlt.belowL, V.idlt, fun n => idltL_up (n := n) _ hc.own] <;> rfl) rfl (wkB_live0 rfl (cellsM_idlt (f := MailEntry.v) (fun _ => rfl) _) rfl trivial)
      | true =>
        refine Tst.isF rfl ?_; conv => whnf
        refine Ari.w ?_; conv => whnf
        rw [hw1]
        have hd := df_skip hj hyd hyt hp
        exact again_c [7, 16, 17, 18, 19, 20, 21, 22, 23, 24, 25, 26, 27, 28, 29, 30, 31, 32, 33, 34, 35] (l.length - (j + 1)) 1 [] ⟨i, j + 1, y, rfl, rfl, hyl, by omega, by omega, hd.1, hd.2, hil, rfl⟩ (by omega) (Nat.le_refl _) rfl
          (by simp only [maskF, setF, List.set_cons_zero, List.set_cons_succ, V.ren.renL, V.ren, renL_id _ hc.own] <;> rfl) (by simp only [maskF, setF, List.set_cons_zero, List.set_cons_succ, V.idlt.belowL, V.idlt, fun n => idltL_up (n := n) _ hc.own] <;> rfl) rfl (wkB_live0 rfl (cellsM_idlt (f := MailEntry.v) (fun _ => rfl) _) rfl trivial)
    · refine Tst.isF (lt_ff (by omega)) ?_; conv => whnf
      have hjl' : j = l.length := by omega
      subst hjl'
      rw [List.take_length] at hyt
      have hfl : (l.filter fun x => !p x).length = i := by rw [← hyt, List.length_take]; omega
      refine ⟨rfl, sloT_c i rfl (by omega) ?_⟩; conv => whnf
      refine ⟨rfl, clr_c (cs' := cellsM MailEntry.v (l.filter fun x => !p x)) (Nat.zero_le _) (by rw [cellsM_len (f := MailEntry.v) (es := 5) (fun _ => rfl), hyl]; exact (Nat.zero_add _).symm ▸ Nat.mul_le_mul_right _ (by omega)) (by omega) (by rw [Nat.zero_add, ← hyt]; exact (cellsM_take (f := MailEntry.v) (es := 5) (fun _ => rfl) y i (by omega)).1.symm) ?_⟩; conv => whnf
      refine ⟨rfl, sloP_c i rfl (by omega) ?_⟩; conv => whnf
      rw [hfl]
      exact ⟨f_R0 (.inr rfl) (.cons (.tmp rfl) .nil) rfl rfl rfl rfl ⟨idltL_up _ (cellsM_idlt (f := MailEntry.v) (fun _ => rfl) _), trivial⟩⟩
  · rw [if_neg hany]
    refine Tst.isT rfl ?_; conv => whnf
    have hfe : (l.filter fun x => !p x) = l := List.filter_eq_self.2 fun x hx => by
      have := fun h => hany (List.any_eq_true.2 ⟨x, hx, h⟩)
      simpa using this
    rw [hfe]
    exact ⟨f_R0 (.inr rfl) (.cons (.tmp rfl) .nil) rfl rfl rfl rfl ⟨idltL_up _ (cellsM_idlt (f := MailEntry.v) (fun _ => rfl) _), trivial⟩⟩
theorem delF127_v : DelFSaid Try.prog 127 MailEntry.v 5 := fun l _ _ _ hc p hn hf => dfS127 l hc p hn hf
theorem delF127_n : DelFNil Try.prog 127 MailEntry.v := fun {g} {caps} {fn} hc => by
  refine callsO_comp mix Try.func127 dc127_ok (fun r H0 => ?_)
  conv => whnf
  refine askF_c (X := some) (r := (-1 : Int)) (p_slices_IndexFunc_mail_State_mail_Entry__v [] fn hc) (by rfl) (.cons (.c .slw) (.cons (.c (.id (by exact hc.own))) .nil)) (fun x H => ?_)
  obtain rfl := Option.some.inj H
  conv => whnf
  refine Tst.isT rfl ?_; conv => whnf
  exact fin0_c (enc := fun _ : Unit => V.sl [] true) H0 (.inr rfl) (.cons (.tmp rfl) .nil) rfl rfl
end Go.Proofs.Ythmgficajgedlaa
/- That the program's functions yield what the plain ones tell (written by a program of mine). -/
namespace Go.Proofs.Ythmgficajgedlaa
open Go.RowKit
def gc83 : BCode := (.seq (.reg 1 [⟨(some 3), .bx (.tmp 1), none, 0⟩, ⟨(some 4), .mv (.const (.slice none 0 0)), none, 1⟩, ⟨(some 5), .mv (.const (.int .i64 0)), none, 1⟩] none 0 []) (.seq (.reg 0 [⟨(some 7), .mv (.tmp 0), none, 0⟩, ⟨(some 8), .cl 87 [(.tmp 7)], none, 0⟩, ⟨(some 6), .mv (.tmp 8), none, 0⟩] none 1 []) (.seq (.seq (.reg 0 [⟨(some 9), .mv (.tmp 0), none, 0⟩, ⟨(some 10), .cl 49 [(.tmp 9)], none, 0⟩, ⟨(some 11), .bin .neq (.tmp 10) (.const (.int .i64 0)), none, 0⟩] none 0 []) (.cond (.tmp 11) (.seq (.reg 0 [⟨(some 12), .mv (.tmp 6), none, 0⟩, ⟨(some 4), .mv (.tmp 12), none, 0⟩, ⟨(some 5), .mv (.const (.int .i64 0)), none, 0⟩] none 0 []) .ret) .skip)) (.seq (.reg 0 [⟨(some 13), .mv (.tmp 6), none, 0⟩, ⟨(some 14), .mf (.func 128) [(.tmp 3)], none, 0⟩, ⟨(some 15), .cl 127 [(.tmp 13), (.tmp 14)], none, 0⟩, ⟨(some 6), .mv (.tmp 15), none, 0⟩] none 0 [3]) (.seq (.reg 0 [⟨(some 16), .mv (.tmp 6), none, 0⟩, ⟨(some 17), .mv (.tmp 0), none, 0⟩, ⟨(some 18), .lens (.tmp 17), none, 0⟩, ⟨(some 19), .mv (.tmp 6), none, 0⟩, ⟨(some 20), .lens (.tmp 19), none, 0⟩, ⟨(some 21), .bin .sub (.tmp 18) (.tmp 20), none, 0⟩, ⟨(some 4), .mv (.tmp 16), none, 0⟩, ⟨(some 5), .mv (.tmp 21), none, 0⟩] none 0 []) .ret)))))
theorem gc83_ok : compF Try.prog Try.f83 = some (gc83.er, 22, [.tmp 4, .tmp 5]) := by unfold gc83; kernel_rfl
set_option maxRecDepth 100000 in
set_option maxHeartbeats 4000000 in
theorem p_mail_Drop_v {u1 : Bool} (a0 : List MailEntry) (a1 : ByteArray) : CallsO Try.prog 83 [.sl (List.map MailEntry.v a0) u1, .s a1] (fun r : (List MailEntry) × Int => .tup [(fun l : List MailEntry => V.sl (l.map MailEntry.v) false) r.1, V.i r.2]) (p_mail_Drop a0 a1) := by
  refine callsO_comp mix Try.func83 gc83_ok fun r H => ?_
  rw [p_mail_Drop] at H
  conv => whnf
  refine clone_c (f := MailEntry.v) (id := 1) cloR87_v H (fun _ => rfl) (fun _ => rfl) rfl (fun H => ?_) (fun l1 H => ?_)
  · conv => whnf
    refine ask_c (p_mail_Check_v _) H rfl rfl (fun v5 H => ?_); conv => whnf
    refine tst_c H (fun b6 H => ?_) (fun b6 H => ?_)
    · conv => whnf
      refine finR_c (enc := (fun r : (List MailEntry) × Int => .tup [(fun l : List MailEntry => V.sl (l.map MailEntry.v) false) r.1, V.i r.2])) H ?_; conv => whnf
      exact ⟨_, .tup (.cons (.c (.slw)) (.cons (.c (.id rfl)) (.nil)))⟩
    conv => whnf
    refine ⟨Nat.zero_le _, ?_⟩; conv => whnf
    refine dfN_c (f := MailEntry.v) delF127_n H (⟨⟨_, Try.func128, by kernel_rfl, by kernel_rfl⟩, rfl, fun x0 => p_mail_Drop_1_v _ _⟩) (.clo (.cons (.ptr rfl (Nat.le_of_ble_eq_true rfl) (.cons (.id rfl) (.nil))) (.nil))) (fun H => ?_); conv => whnf
    refine LenQ.M ?_; conv => whnf
    refine LenQ.ok ?_; conv => whnf
    refine Ari.w ?_; conv => whnf
    refine finR_c (enc := (fun r : (List MailEntry) × Int => .tup [(fun l : List MailEntry => V.sl (l.map MailEntry.v) false) r.1, V.i r.2])) H ?_; conv => whnf
    exact ⟨_, .tup (.cons (.c (.slw)) (.cons (.c (.id rfl)) (.nil)))⟩
  conv => whnf
  refine ask_c (p_mail_Check_v _) H rfl rfl (fun v2 H => ?_); conv => whnf
  refine tst_c H (fun b3 H => ?_) (fun b3 H => ?_)
  · conv => whnf
    refine finRz_c (enc := (fun r : (List MailEntry) × Int => .tup [(fun l : List MailEntry => V.sl (l.map MailEntry.v) false) r.1, V.i r.2])) [1] H ?_; conv => whnf
    refine ⟨Nat.zero_le _, ?_⟩; conv => whnf
    exact ⟨_, .tup (.cons (.c (fzown (f := MailEntry.v) (l := l1) rfl rfl (fun _ => rfl) (fun _ => rfl))) (.cons (.c (.id rfl)) (.nil)))⟩
  conv => whnf
  refine ⟨Nat.zero_le _, ?_⟩; conv => whnf
  refine dfO_c (f := MailEntry.v) delF127_v H (⟨⟨_, Try.func128, by kernel_rfl, by kernel_rfl⟩, rfl, fun x0 => p_mail_Drop_1_v _ _⟩) (.clo (.cons (.ptr rfl (Nat.le_of_ble_eq_true rfl) (.cons (.id rfl) (.nil))) (.nil))) (fun _ => rfl) (fun _ => rfl) rfl rfl (fun v4 H => ?_); conv => whnf
  refine LenQ.M ?_; conv => whnf
  refine Ari.w ?_; conv => whnf
  refine finRz_c (enc := (fun r : (List MailEntry) × Int => .tup [(fun l : List MailEntry => V.sl (l.map MailEntry.v) false) r.1, V.i r.2])) [1] H ?_; conv => whnf
  refine ⟨Nat.zero_le _, ?_⟩; conv => whnf
  exact ⟨_, .tup (.cons (.c (fzown (f := MailEntry.v) (l := v4) rfl rfl (fun _ => rfl) (fun _ => rfl))) (.cons (.c (.id rfl)) (.nil)))⟩
def gc84 : BCode := (.seq (.reg 0 [⟨(some 2), .mv (.const (.slice none 0 0)), none, 0⟩] none 0 []) (.seq (.reg 0 [⟨(some 3), .mv (.const (.slice none 0 0)), none, 0⟩] none 0 []) (.seq (.seq (.reg 0 [⟨(some 6), .mv (.tmp 0), none, 0⟩, ⟨(some 7), .lens (.tmp 6), none, 0⟩, ⟨(some 8), .mv (.const (.int .i64 0)), none, 0⟩] none 0 []) (.block 0 (.loop (.seq (.reg 0 [⟨(some 9), .bin .lss (.tmp 8) (.tmp 7), none, 0⟩] none 0 []) (.seq (.cond (.tmp 9) .skip (.exit 0)) (.seq (.block 1 (.seq (.reg 1 [⟨(some 10), .ixs 5 (.tmp 6) (.tmp 8), none, 0⟩, ⟨(some 11), .ld 5 true (.tmp 10), none, 0⟩, ⟨(some 5), .al (.agg [(.lit (.string ⟨#[]⟩)), (.lit (.bool false)), (.lit (.int .i64 0)), (.lit (.int .i64 0)), (.lit (.int .i64 0))]), none, 0⟩, ⟨none, .st 5 (.tmp 5) (.tmp 11), none, 1⟩] none 0 []) (.reg 2 [⟨(some 12), .mv (.tmp 3), none, 0⟩, ⟨(some 13), .fa 0 (.tmp 5), none, 0⟩, ⟨(some 14), .ld 1 false (.tmp 13), none, 0⟩, ⟨(some 15), .bs 1 1 [(.lit (.string ⟨#[]⟩))] [(0, (.tmp 14))], none, 0⟩, ⟨(some 16), .ap 1 16 (.tmp 12) (.tmp 15), none, 1⟩, ⟨(some 3), .mv (.tmp 16), none, 2⟩] none 0 []))) (.reg 0 [⟨(some 17), .bin .add (.tmp 8) (.const (.int .i64 1)), none, 0⟩, ⟨(some 8), .mv (.tmp 17), none, 0⟩] none 0 []))))))) (.seq (.reg 0 [⟨(some 18), .mv (.tmp 3), none, 0⟩, ⟨(some 2), .mv (.tmp 18), none, 0⟩] none 0 []) .ret))))
theorem gc84_ok : compF Try.prog Try.f84 = some (gc84.er, 19, [.tmp 2]) := by unfold gc84; kernel_rfl
set_option maxRecDepth 100000 in
set_option maxHeartbeats 4000000 in
theorem p_mail_Keys_v {u1 : Bool} (a0 : List MailEntry) : CallsO Try.prog 84 [.sl (List.map MailEntry.v a0) u1] (fun l : List ByteArray => V.sl (l.map V.s) false) (p_mail_Keys a0) := by
  refine callsO_comp mix Try.func84 gc84_ok fun r H => ?_
  rw [p_mail_Keys] at H
  conv => whnf
  refine LenQ.M ?_; conv => whnf
  obtain ⟨o2, HL3, HQ4⟩ := bind_c H
  refine loop_c [3, 8] [5, 9, 10, 11, 12, 13, 14, 15, 16, 17] [5, 9, 10, 11, 12, 13, 14, 15, 16, 17] (fun n vals st => (∃ y6, p_mail_Keys_l1  a0 (a0.length : Int) n [] y6 = some o2 ∧ vals = [.sl (List.map V.s []) true, .i y6] ∧ st = []) ∨ (∃ y10 y11, p_mail_Keys_l1  a0 (a0.length : Int) n y10 y11 = some o2 ∧ vals = [.osl 0 0 (List.length y10) 1 false, .i y11] ∧ st = [.live (cellsM V.s y10) (cellsM V.s y10).length])) fuel 0 [] (.inl (⟨_, HL3, rfl, rfl⟩)) (Nat.zero_le _) rfl (by kernel_rfl) (by kernel_rfl) rfl trivial ?_
  rintro (_ | n5) _ _ (⟨y6, H, rfl, rfl⟩ | ⟨y10, y11, H, rfl, rfl⟩)
  · rw [p_mail_Keys_l1] at H; cases H
  · rw [p_mail_Keys_l1] at H; cases H
  · rw [p_mail_Keys_l1] at H
    conv => whnf
    refine tst_d H (fun b7 H => ?_) (fun b7 H => ?_)
    · conv => whnf
      obtain rfl := Option.some.inj H
      have H := HQ4
      try dsimp only at H
      refine finR_c (enc := (fun l : List ByteArray => V.sl (l.map V.s) false)) H ?_; conv => whnf
      exact ⟨_, .v (.c (.slw))⟩
    conv => whnf
    refine ixs_c (f := MailEntry.v) H (fun _ => rfl) (fun x8 H => ?_); conv => whnf
    refine ⟨Nat.le_of_ble_eq_true rfl, ?_⟩; conv => whnf
    refine appN_c (f := V.s) H (fun _ => rfl) (srcM (f := V.s) (fun _ => rfl) _ _) rfl (.v (srcOwn (f := V.s) (l := [x8.Key]) (fun _ => rfl) rfl rfl rfl)) (by decide) rfl (by simp) (fun l9 H => ?_); conv => whnf
    refine Ari.w ?_; conv => whnf
    exact again_c [5, 9, 10, 11, 12, 13, 14, 15, 16, 17] n5 1 [2] (.inr (⟨_, _, H, rfl, rfl⟩)) (Nat.lt_succ_self _) (Nat.zero_le _) rfl (by kernel_rfl) (by kernel_rfl) rfl (wkB_live0 rfl (cellsM_idlt (f := V.s) (fun _ => rfl) _) rfl trivial)
  rw [p_mail_Keys_l1] at H
  conv => whnf
  refine tst_d H (fun b12 H => ?_) (fun b12 H => ?_)
  · conv => whnf
    obtain rfl := Option.some.inj H
    have H := HQ4
    try dsimp only at H
    refine finR_c (enc := (fun l : List ByteArray => V.sl (l.map V.s) false)) H ?_; conv => whnf
    exact ⟨_, .v (.c (fzown (f := V.s) (l := y10) rfl rfl (fun _ => rfl) (fun _ => rfl)))⟩
  conv => whnf
  refine ixs_c (f := MailEntry.v) H (fun _ => rfl) (fun x13 H => ?_); conv => whnf
  refine ⟨Nat.le_of_ble_eq_true rfl, ?_⟩; conv => whnf
  refine appO_c (f := V.s) H (fun _ => rfl) rfl (Nat.le_refl _) (.v (srcOwn (f := V.s) (l := [x13.Key]) (fun _ => rfl) rfl rfl rfl)) (by decide) rfl (by simp) (fun l14 H => ?_); conv => whnf
  refine Ari.w ?_; conv => whnf
  exact again_c [5, 9, 10, 11, 12, 13, 14, 15, 16, 17] n5 1 [3] (.inr (⟨_, _, H, rfl, rfl⟩)) (Nat.lt_succ_self _) (Nat.zero_le _) rfl (by kernel_rfl) (by kernel_rfl) rfl (wkB_live0 rfl (cellsM_idlt (f := V.s) (fun _ => rfl) _) rfl trivial)
def gc130 : BCode := (.seq (.reg 0 [⟨(some 4), .mv (.const (.bool false)), none, 0⟩] none 0 []) (.seq (.seq (.reg 0 [⟨(some 6), .mv (.tmp 0), none, 0⟩, ⟨(some 7), .lens (.tmp 6), none, 0⟩, ⟨(some 8), .mv (.tmp 1), none, 0⟩, ⟨(some 9), .lens (.tmp 8), none, 0⟩, ⟨(some 10), .bin .neq (.tmp 7) (.tmp 9), none, 0⟩] none 0 []) (.cond (.tmp 10) (.seq (.reg 0 [⟨(some 4), .mv (.const (.bool false)), none, 0⟩] none 0 []) .ret) .skip)) (.seq (.seq (.reg 0 [⟨(some 11), .mv (.tmp 0), none, 0⟩, ⟨(some 12), .lens (.tmp 11), none, 0⟩, ⟨(some 13), .mv (.const (.int .i64 0)), none, 0⟩] none 0 []) (.block 0 (.loop (.seq (.reg 0 [⟨(some 14), .bin .lss (.tmp 13) (.tmp 12), none, 0⟩] none 0 []) (.seq (.cond (.tmp 14) .skip (.exit 0)) (.seq (.block 1 (.seq (.reg 0 [⟨(some 15), .mv (.tmp 13), none, 0⟩, ⟨(some 5), .mv (.tmp 15), none, 0⟩] none 0 []) (.seq (.reg 0 [⟨(some 16), .mv (.tmp 0), none, 0⟩, ⟨(some 17), .mv (.tmp 5), none, 0⟩, ⟨(some 18), .ixs 5 (.tmp 16) (.tmp 17), none, 0⟩, ⟨(some 19), .ld 5 true (.tmp 18), none, 0⟩, ⟨(some 20), .mv (.tmp 1), none, 0⟩, ⟨(some 21), .mv (.tmp 5), none, 0⟩, ⟨(some 22), .ixs 5 (.tmp 20) (.tmp 21), none, 0⟩, ⟨(some 23), .ld 5 true (.tmp 22), none, 0⟩, ⟨(some 24), .eqa true [2, 0, 1, 1, 1] (.tmp 19) (.tmp 23), none, 0⟩] (some [[], [], [1, 0], [0, 1, 2], [], [], [5, 4], [4, 5, 6], [6, 5, 4, 7, 2, 1, 0, 3]]) 0 []) (.cond (.tmp 24) (.seq (.reg 0 [⟨(some 4), .mv (.const (.bool false)), none, 0⟩] none 0 []) .ret) .skip)))) (.reg 0 [⟨(some 25), .bin .add (.tmp 13) (.const (.int .i64 1)), none, 0⟩, ⟨(some 13), .mv (.tmp 25), none, 0⟩] none 0 []))))))) (.seq (.reg 0 [⟨(some 4), .mv (.const (.bool true)), none, 0⟩] none 0 []) .ret))))
theorem gc130_ok : compF Try.prog Try.f130 = some (gc130.er, 26, [.tmp 4]) := by unfold gc130; kernel_rfl
set_option maxRecDepth 100000 in
set_option maxHeartbeats 4000000 in
theorem p_slices_Equal_mail_State_mail_Entry__v {u1 u2 : Bool} (a0 : List MailEntry) (a1 : List MailEntry) : CallsO Try.prog 130 [.sl (List.map MailEntry.v a0) u1, .sl (List.map MailEntry.v a1) u2] V.b (p_slices_Equal_mail_State_mail_Entry_ a0 a1) := by
  refine callsO_comp mix Try.func130 gc130_ok fun r H => ?_
  rw [p_slices_Equal_mail_State_mail_Entry_] at H
  conv => whnf
  iterate 2 (refine LenQ.M ?_; conv => whnf)
  refine tst_c H (fun b1 H => ?_) (fun b1 H => ?_)
  · conv => whnf
    exact fin0_c (enc := V.b) H (.inr rfl) (.cons (.tmp rfl) (.nil)) rfl rfl
  conv => whnf
  refine LenQ.M ?_; conv => whnf
  obtain ⟨o3, HL4, HQ5⟩ := bind_c H
  refine loop_c [4, 13] [5, 14, 15, 16, 17, 18, 19, 20, 21, 22, 23, 24, 25] [5, 14, 15, 16, 17, 18, 19, 20, 21, 22, 23, 24, 25] (fun n vals st => (∃ y7, p_slices_Equal_mail_State_mail_Entry__l1  a0 a1 (a0.length : Int) n y7 = some o3 ∧ vals = [.b false, .i y7] ∧ st = [])) fuel 0 [] (⟨_, HL4, rfl, rfl⟩) (Nat.zero_le _) rfl (by kernel_rfl) (by kernel_rfl) rfl trivial ?_
  rintro (_ | n6) _ _ (⟨y7, H, rfl, rfl⟩)
  · rw [p_slices_Equal_mail_State_mail_Entry__l1] at H; cases H
  rw [p_slices_Equal_mail_State_mail_Entry__l1] at H
  conv => whnf
  refine tst_d H (fun b8 H => ?_) (fun b8 H => ?_)
  · conv => whnf
    obtain rfl := Option.some.inj H
    have H := HQ5
    try dsimp only at H
    exact fin0_c (enc := V.b) H (.inr rfl) (.cons (.tmp rfl) (.nil)) rfl rfl
  conv => whnf
  refine ixs_c (f := MailEntry.v) H (fun _ => rfl) (fun x9 H => ?_); conv => whnf
  refine ixs_c (f := MailEntry.v) H (fun _ => rfl) (fun x10 H => ?_); conv => whnf
  refine FootQ.mk ⟨rfl, ?_⟩; conv => whnf
  refine Tst.not ?_
  refine tst_d H (fun b11 H => ?_) (fun b11 H => ?_)
  · conv => whnf
    obtain rfl := Option.some.inj H
    have H := HQ5
    try dsimp only at H
    exact fin0_c (enc := V.b) H (.inr rfl) (.cons (.tmp rfl) (.nil)) rfl rfl
  conv => whnf
  refine Ari.w ?_; conv => whnf
  exact again_c [5, 14, 15, 16, 17, 18, 19, 20, 21, 22, 23, 24, 25] n6 0 [] (⟨_, H, rfl, rfl⟩) (Nat.lt_succ_self _) (Nat.zero_le _) rfl (by kernel_rfl) (by kernel_rfl) rfl trivial
def gc86 : BCode := (.seq (.reg 0 [⟨(some 4), .mv (.const (.bool false)), none, 0⟩] none 0 []) (.seq (.reg 0 [⟨(some 5), .mv (.tmp 0), none, 0⟩, ⟨(some 6), .mv (.tmp 1), none, 0⟩, ⟨(some 7), .cl 130 [(.tmp 5), (.tmp 6)], none, 0⟩, ⟨(some 4), .mv (.tmp 7), none, 0⟩] none 0 []) .ret))
theorem gc86_ok : compF Try.prog Try.f86 = some (gc86.er, 8, [.tmp 4]) := by unfold gc86; kernel_rfl
set_option maxRecDepth 100000 in
set_option maxHeartbeats 4000000 in
theorem p_mail_Same_v {u1 u2 : Bool} (a0 : List MailEntry) (a1 : List MailEntry) : CallsO Try.prog 86 [.sl (List.map MailEntry.v a0) u1, .sl (List.map MailEntry.v a1) u2] V.b (p_mail_Same a0 a1) := by
  refine callsO_comp mix Try.func86 gc86_ok fun r H => ?_
  rw [p_mail_Same] at H
  conv => whnf
  refine ask_c (p_slices_Equal_mail_State_mail_Entry__v _ _) H rfl rfl (fun v1 H => ?_); conv => whnf
  exact fin0_c (enc := V.b) H (.inr rfl) (.cons (.tmp rfl) (.nil)) rfl rfl
end Go.Proofs.Ythmgficajgedlaa
/- That the program's functions yield what the plain ones tell (written by a program of mine). -/
namespace Go.Proofs.Ythmgficajgedlaa
open Go.RowKit
def gc44 : BCode := (.seq (.reg 0 [⟨(some 0), .mv (.const (.bool false)), none, 0⟩] none 0 []) (.seq (.reg 1 [⟨(some 15), .bd [(.lit (.bool false)), (.lit (.int .i64 0)), (.lit (.int .i64 0)), (.lit (.int .i64 0))] [(0, 1, (.const (.bool true))), (3, 1, (.const (.int .i64 1)))], none, 0⟩, ⟨(some 1), .al (.agg [(.lit (.bool false)), (.lit (.int .i64 0)), (.lit (.int .i64 0)), (.lit (.int .i64 0))]), none, 0⟩, ⟨none, .st 4 (.tmp 1) (.tmp 15), none, 1⟩] none 0 []) (.seq (.reg 1 [⟨(some 17), .ld 4 true (.tmp 1), none, 0⟩, ⟨(some 18), .bd [(.lit (.string ⟨#[]⟩)), (.lit (.bool false)), (.lit (.int .i64 0)), (.lit (.int .i64 0)), (.lit (.int .i64 0))] [(0, 1, (.const (.string ⟨#[97, 64, 98, 32, 120]⟩))), (1, 4, (.tmp 17))], none, 0⟩, ⟨(some 19), .bd [(.lit (.bool false)), (.lit (.int .i64 0)), (.lit (.int .i64 0)), (.lit (.int .i64 0))] [(3, 1, (.const (.int .i64 2)))], none, 0⟩, ⟨(some 20), .bd [(.lit (.string ⟨#[]⟩)), (.lit (.bool false)), (.lit (.int .i64 0)), (.lit (.int .i64 0)), (.lit (.int .i64 0))] [(0, 1, (.const (.string ⟨#[98, 64, 98, 32]⟩))), (1, 4, (.tmp 19))], none, 0⟩, ⟨(some 21), .bd [(.lit (.bool false)), (.lit (.int .i64 0)), (.lit (.int .i64 0)), (.lit (.int .i64 0))] [(0, 1, (.const (.bool true))), (3, 1, (.const (.int .i64 3)))], none, 0⟩, ⟨(some 22), .bd [(.lit (.string ⟨#[]⟩)), (.lit (.bool false)), (.lit (.int .i64 0)), (.lit (.int .i64 0)), (.lit (.int .i64 0))] [(0, 1, (.const (.string ⟨#[97, 64, 98, 32, 120]⟩))), (1, 4, (.tmp 21))], none, 0⟩, ⟨(some 23), .ld 4 true (.tmp 1), none, 0⟩, ⟨(some 24), .bd [(.lit (.string ⟨#[]⟩)), (.lit (.bool false)), (.lit (.int .i64 0)), (.lit (.int .i64 0)), (.lit (.int .i64 0))] [(0, 1, (.const (.string ⟨#[97]⟩))), (1, 4, (.tmp 23))], none, 0⟩, ⟨(some 25), .bs 5 4 [(.lit (.string ⟨#[]⟩)), (.lit (.bool false)), (.lit (.int .i64 0)), (.lit (.int .i64 0)), (.lit (.int .i64 0)), (.lit (.string ⟨#[]⟩)), (.lit (.bool false)), (.lit (.int .i64 0)), (.lit (.int .i64 0)), (.lit (.int .i64 0)), (.lit (.string ⟨#[]⟩)), (.lit (.bool false)), (.lit (.int .i64 0)), (.lit (.int .i64 0)), (.lit (.int .i64 0)), (.lit (.string ⟨#[]⟩)), (.lit (.bool false)), (.lit (.int .i64 0)), (.lit (.int .i64 0)), (.lit (.int .i64 0))] [(0, (.tmp 18)), (1, (.tmp 20)), (2, (.tmp 22)), (3, (.tmp 24))], none, 0⟩, ⟨(some 26), .cl 82 [(.const (.slice none 0 0)), (.tmp 25)], none, 1⟩, ⟨(some 16), .mv (.tmp 26), none, 1⟩, ⟨(some 27), .ex (.tmp 16) 0, none, 1⟩, ⟨(some 28), .ex (.tmp 16) 1, none, 1⟩, ⟨(some 2), .mv (.tmp 27), none, 1⟩, ⟨(some 3), .mv (.tmp 28), none, 1⟩] none 0 []) (.seq (.reg 1 [⟨(some 30), .mv (.tmp 2), none, 0⟩, ⟨(some 31), .cl 47 [(.tmp 30)], none, 0⟩, ⟨(some 29), .mv (.tmp 31), none, 0⟩, ⟨(some 32), .ex (.tmp 29) 0, none, 0⟩, ⟨(some 33), .ex (.tmp 29) 1, none, 0⟩, ⟨(some 34), .ex (.tmp 29) 2, none, 0⟩, ⟨(some 5), .al (.agg [(.lit (.string ⟨#[]⟩)), (.lit (.bool false)), (.lit (.int .i64 0)), (.lit (.int .i64 0)), (.lit (.int .i64 0))]), none, 0⟩, ⟨(some 4), .mv (.tmp 32), none, 1⟩, ⟨none, .st 5 (.tmp 5) (.tmp 33), none, 1⟩, ⟨(some 6), .mv (.tmp 34), none, 1⟩] none 0 []) (.seq (.reg 1 [⟨(some 36), .mv (.tmp 4), none, 0⟩, ⟨(some 37), .cl 47 [(.tmp 36)], none, 0⟩, ⟨(some 35), .mv (.tmp 37), none, 0⟩, ⟨(some 38), .ex (.tmp 35) 0, none, 0⟩, ⟨(some 39), .ex (.tmp 35) 1, none, 0⟩, ⟨(some 40), .ex (.tmp 35) 2, none, 0⟩, ⟨(some 8), .al (.agg [(.lit (.string ⟨#[]⟩)), (.lit (.bool false)), (.lit (.int .i64 0)), (.lit (.int .i64 0)), (.lit (.int .i64 0))]), none, 0⟩, ⟨(some 7), .mv (.tmp 38), none, 1⟩, ⟨none, .st 5 (.tmp 8) (.tmp 39), none, 1⟩, ⟨(some 9), .mv (.tmp 40), none, 1⟩] none 0 []) (.seq (.reg 1 [⟨(some 42), .mv (.tmp 7), none, 0⟩, ⟨(some 43), .cl 47 [(.tmp 42)], none, 0⟩, ⟨(some 41), .mv (.tmp 43), none, 0⟩, ⟨(some 44), .ex (.tmp 41) 0, none, 0⟩, ⟨(some 45), .ex (.tmp 41) 1, none, 0⟩, ⟨(some 46), .ex (.tmp 41) 2, none, 0⟩, ⟨(some 11), .al (.agg [(.lit (.string ⟨#[]⟩)), (.lit (.bool false)), (.lit (.int .i64 0)), (.lit (.int .i64 0)), (.lit (.int .i64 0))]), none, 0⟩, ⟨(some 10), .mv (.tmp 44), none, 1⟩, ⟨none, .st 5 (.tmp 11) (.tmp 45), none, 1⟩, ⟨(some 12), .mv (.tmp 46), none, 1⟩] none 0 []) (.seq (.reg 0 [⟨(some 48), .mv (.tmp 2), none, 0⟩, ⟨(some 49), .cl 83 [(.tmp 48), (.const (.string ⟨#[98, 64, 98]⟩))], none, 0⟩, ⟨(some 47), .mv (.tmp 49), none, 0⟩, ⟨(some 50), .ex (.tmp 47) 0, none, 0⟩, ⟨(some 51), .ex (.tmp 47) 1, none, 0⟩, ⟨(some 13), .mv (.tmp 50), none, 0⟩, ⟨(some 14), .mv (.tmp 51), none, 0⟩] none 0 []) (.seq (.reg 2 [⟨(some 52), .mv (.tmp 3), none, 0⟩, ⟨(some 53), .bin .eql (.tmp 52) (.const (.int .i64 1)), none, 0⟩, ⟨(some 54), .mv (.tmp 53), none, 0⟩, ⟨(some 55), .mv (.tmp 2), (some (54, true)), 0⟩, ⟨(some 56), .cl 84 [(.tmp 55)], (some (54, true)), 0⟩, ⟨(some 57), .bs 1 2 [(.lit (.string ⟨#[]⟩)), (.lit (.string ⟨#[]⟩))] [(0, (.const (.string ⟨#[98, 64, 98, 32]⟩))), (1, (.const (.string ⟨#[97, 64, 98, 32, 120]⟩)))], (some (54, true)), 0⟩, ⟨(some 58), .cl 31 [(.tmp 56), (.tmp 57)], (some (54, true)), 1⟩, ⟨(some 59), .pick (.tmp 54) (.tmp 58) (.const (.bool false)), none, 1⟩, ⟨(some 60), .mv (.tmp 59), none, 1⟩, ⟨(some 61), .fa 0 (.tmp 5), (some (60, true)), 1⟩, ⟨(some 62), .ld 1 false (.tmp 61), (some (60, true)), 1⟩, ⟨(some 63), .bin .eql (.tmp 62) (.const (.string ⟨#[98, 64, 98, 32]⟩)), (some (60, true)), 1⟩, ⟨(some 64), .pick (.tmp 60) (.tmp 63) (.const (.bool false)), none, 1⟩, ⟨(some 65), .mv (.tmp 64), none, 1⟩, ⟨(some 66), .mv (.tmp 6), (some (65, true)), 1⟩, ⟨(some 67), .pick (.tmp 65) (.tmp 66) (.const (.bool false)), none, 1⟩, ⟨(some 68), .mv (.tmp 67), none, 1⟩, ⟨(some 69), .fa 1 (.tmp 8), (some (68, true)), 1⟩, ⟨(some 70), .fa 3 (.tmp 69), (some (68, true)), 1⟩, ⟨(some 71), .ld 1 false (.tmp 70), (some (68, true)), 1⟩, ⟨(some 72), .bin .eql (.tmp 71) (.const (.int .i64 3)), (some (68, true)), 1⟩, ⟨(some 73), .pick (.tmp 68) (.tmp 72) (.const (.bool false)), none, 1⟩, ⟨(some 74), .mv (.tmp 73), none, 1⟩, ⟨(some 75), .mv (.tmp 9), (some (74, true)), 1⟩, ⟨(some 76), .pick (.tmp 74) (.tmp 75) (.const (.bool false)), none, 1⟩, ⟨(some 77), .mv (.tmp 76), none, 1⟩, ⟨(some 78), .mv (.tmp 12), (some (77, true)), 1⟩, ⟨(some 79), .un .not (.tmp 78), (some (77, true)), 1⟩, ⟨(some 80), .pick (.tmp 77) (.tmp 79) (.const (.bool false)), none, 1⟩, ⟨(some 81), .mv (.tmp 80), none, 1⟩, ⟨(some 82), .mv (.tmp 14), (some (81, true)), 1⟩, ⟨(some 83), .bin .eql (.tmp 82) (.const (.int .i64 1)), (some (81, true)), 1⟩, ⟨(some 84), .pick (.tmp 81) (.tmp 83) (.const (.bool false)), none, 1⟩, ⟨(some 85), .mv (.tmp 84), none, 1⟩, ⟨(some 86), .mv (.tmp 13), (some (85, true)), 1⟩, ⟨(some 87), .lens (.tmp 86), (some (85, true)), 1⟩, ⟨(some 88), .bin .eql (.tmp 87) (.const (.int .i64 1)), (some (85, true)), 1⟩, ⟨(some 89), .pick (.tmp 85) (.tmp 88) (.const (.bool false)), none, 1⟩, ⟨(some 90), .mv (.tmp 89), none, 1⟩, ⟨(some 91), .mv (.tmp 2), (some (90, true)), 1⟩, ⟨(some 92), .cl 48 [(.tmp 91)], (some (90, true)), 1⟩, ⟨(some 93), .bin .eql (.tmp 92) (.const (.int .i64 1)), (some (90, true)), 1⟩, ⟨(some 94), .pick (.tmp 90) (.tmp 93) (.const (.bool false)), none, 1⟩, ⟨(some 95), .mv (.tmp 94), none, 1⟩, ⟨(some 96), .mv (.tmp 2), (some (95, true)), 1⟩, ⟨(some 97), .cl 85 [(.tmp 96), (.const (.string ⟨#[97, 64, 98, 32, 120]⟩))], (some (95, true)), 1⟩, ⟨(some 98), .bin .eql (.tmp 97) (.const (.int .i64 1)), (some (95, true)), 1⟩, ⟨(some 99), .pick (.tmp 95) (.tmp 98) (.const (.bool false)), none, 1⟩, ⟨(some 100), .mv (.tmp 99), none, 1⟩, ⟨(some 101), .mv (.tmp 2), (some (100, true)), 1⟩, ⟨(some 102), .cl 85 [(.tmp 101), (.const (.string ⟨#[99]⟩))], (some (100, true)), 1⟩, ⟨(some 103), .bin .eql (.tmp 102) (.const (.int .i64 (-1))), (some (100, true)), 1⟩, ⟨(some 104), .pick (.tmp 100) (.tmp 103) (.const (.bool false)), none, 1⟩, ⟨(some 105), .mv (.tmp 104), none, 1⟩, ⟨(some 106), .mv (.tmp 2), (some (105, true)), 1⟩, ⟨(some 107), .cl 49 [(.tmp 106)], (some (105, true)), 1⟩, ⟨(some 108), .bin .eql (.tmp 107) (.const (.int .i64 0)), (some (105, true)), 1⟩, ⟨(some 109), .pick (.tmp 105) (.tmp 108) (.const (.bool false)), none, 1⟩, ⟨(some 110), .mv (.tmp 109), none, 1⟩, ⟨(some 111), .bd [(.lit (.string ⟨#[]⟩)), (.lit (.bool false)), (.lit (.int .i64 0)), (.lit (.int .i64 0)), (.lit (.int .i64 0))] [], (some (110, true)), 1⟩, ⟨(some 112), .bs 5 1 [(.lit (.string ⟨#[]⟩)), (.lit (.bool false)), (.lit (.int .i64 0)), (.lit (.int .i64 0)), (.lit (.int .i64 0))] [(0, (.tmp 111))], (some (110, true)), 1⟩, ⟨(some 113), .cl 49 [(.tmp 112)], (some (110, true)), 2⟩, ⟨(some 114), .bin .eql (.tmp 113) (.const (.int .i64 11)), (some (110, true)), 2⟩, ⟨(some 115), .pick (.tmp 110) (.tmp 114) (.const (.bool false)), none, 2⟩, ⟨(some 116), .mv (.tmp 115), none, 2⟩, ⟨(some 117), .mv (.tmp 4), (some (116, true)), 2⟩, ⟨(some 118), .mv (.tmp 2), (some (116, true)), 2⟩, ⟨(some 119), .cl 86 [(.tmp 117), (.tmp 118)], (some (116, true)), 2⟩, ⟨(some 120), .un .not (.tmp 119), (some (116, true)), 2⟩, ⟨(some 121), .pick (.tmp 116) (.tmp 120) (.const (.bool false)), none, 2⟩, ⟨(some 122), .mv (.tmp 121), none, 2⟩, ⟨(some 123), .mv (.tmp 2), (some (122, true)), 2⟩, ⟨(some 124), .mv (.tmp 2), (some (122, true)), 2⟩, ⟨(some 125), .cl 86 [(.tmp 123), (.tmp 124)], (some (122, true)), 2⟩, ⟨(some 126), .pick (.tmp 122) (.tmp 125) (.const (.bool false)), none, 2⟩, ⟨(some 127), .mv (.tmp 126), none, 2⟩, ⟨(some 128), .pick (.tmp 127) (.const (.bool true)) (.const (.bool false)), none, 2⟩, ⟨(some 129), .mv (.tmp 128), none, 2⟩, ⟨(some 130), .pick (.tmp 129) (.const (.bool true)) (.const (.bool false)), none, 2⟩, ⟨(some 131), .mv (.tmp 130), none, 2⟩, ⟨(some 132), .pick (.tmp 131) (.const (.bool true)) (.const (.bool false)), none, 2⟩, ⟨(some 0), .mv (.tmp 132), none, 2⟩] none 0 []) .ret))))))))
set_option maxRecDepth 1000000 in
theorem gc44_ok : compF Try.prog Try.f44 = some (gc44.er, 133, [.tmp 0]) := by unfold gc44; kernel_rfl
set_option maxRecDepth 100000 in
set_option maxHeartbeats 4000000 in
theorem p_law25_awake_v : CallsO Try.prog 44 [] V.b (p_law25_awake) := by
  refine callsO_comp mix Try.func44 gc44_ok fun r H => ?_
  rw [p_law25_awake] at H
  conv => whnf
  refine ⟨Nat.le_of_ble_eq_true rfl, ?_⟩; conv => whnf
  refine askF_c (p_mail_Run_v _ _) H (.cons (.c (.slw)) (.cons (.c (fzown (f := MailEntry.v) (l := [(MailEntry.mk (⟨#[97, 64, 98, 32, 120]⟩ : ByteArray) (PresPres.mk true (0 : Int) (0 : Int) (1 : Int))), (MailEntry.mk (⟨#[98, 64, 98, 32]⟩ : ByteArray) (PresPres.mk false (0 : Int) (0 : Int) (2 : Int))), (MailEntry.mk (⟨#[97, 64, 98, 32, 120]⟩ : ByteArray) (PresPres.mk true (0 : Int) (0 : Int) (3 : Int))), (MailEntry.mk (⟨#[97]⟩ : ByteArray) (PresPres.mk true (0 : Int) (0 : Int) (1 : Int)))]) rfl rfl (fun _ => rfl) (fun _ => rfl))) (.nil))) (fun v1 H => ?_); conv => whnf
  refine ask_c (p_mail_Take_v _) H rfl rfl (fun v2 H => ?_); conv => whnf
  refine ⟨Nat.le_of_ble_eq_true rfl, ?_⟩; conv => whnf
  refine ask_c (p_mail_Take_v _) H rfl rfl (fun v3 H => ?_); conv => whnf
  refine ⟨Nat.le_of_ble_eq_true rfl, ?_⟩; conv => whnf
  refine ask_c (p_mail_Take_v _) H rfl rfl (fun v4 H => ?_); conv => whnf
  refine ⟨Nat.le_of_ble_eq_true rfl, ?_⟩; conv => whnf
  refine ask_c (p_mail_Drop_v _ _) H rfl rfl (fun v5 H => ?_); conv => whnf
  refine tst_d H (fun b6 H => ?_) (fun b6 H => ?_)
  · conv => whnf
    iterate 60 (refine Tst.F ?_; conv => whnf)
    exact fin0_c (enc := V.b) H (.inr rfl) (.cons (.tmp rfl) (.nil)) rfl rfl
  conv => whnf
  refine Tst.T ?_; conv => whnf
  refine ask_c (p_mail_Keys_v _) H rfl rfl (fun v7 H => ?_); conv => whnf
  iterate 2 (refine Tst.T ?_; conv => whnf)
  refine askF_c (p_ref01_SameTexts_v _ _) H (.cons (.c (.id rfl)) (.cons (.c (fzown (f := V.s) (l := [(⟨#[98, 64, 98, 32]⟩ : ByteArray), (⟨#[97, 64, 98, 32, 120]⟩ : ByteArray)]) rfl rfl (fun _ => rfl) (fun _ => rfl))) (.nil))) (fun v8 H => ?_); conv => whnf
  refine Tst.T ?_; conv => whnf
  refine tst_d H (fun b9 H => ?_) (fun b9 H => ?_)
  · conv => whnf
    iterate 55 (refine Tst.F ?_; conv => whnf)
    exact fin0_c (enc := V.b) H (.inr rfl) (.cons (.tmp rfl) (.nil)) rfl rfl
  conv => whnf
  iterate 3 (refine Tst.T ?_; conv => whnf)
  refine tst_d H (fun b10 H => ?_) (fun b10 H => ?_)
  · conv => whnf
    iterate 51 (refine Tst.F ?_; conv => whnf)
    exact fin0_c (enc := V.b) H (.inr rfl) (.cons (.tmp rfl) (.nil)) rfl rfl
  conv => whnf
  refine Tst.T ?_; conv => whnf
  refine tst_d H (fun b11 H => ?_) (fun b11 H => ?_)
  · conv => whnf
    iterate 49 (refine Tst.F ?_; conv => whnf)
    exact fin0_c (enc := V.b) H (.inr rfl) (.cons (.tmp rfl) (.nil)) rfl rfl
  conv => whnf
  iterate 4 (refine Tst.T ?_; conv => whnf)
  refine tst_d H (fun b12 H => ?_) (fun b12 H => ?_)
  · conv => whnf
    iterate 44 (refine Tst.F ?_; conv => whnf)
    exact fin0_c (enc := V.b) H (.inr rfl) (.cons (.tmp rfl) (.nil)) rfl rfl
  conv => whnf
  refine Tst.T ?_; conv => whnf
  refine tst_d H (fun b13 H => ?_) (fun b13 H => ?_)
  · conv => whnf
    iterate 42 (refine Tst.F ?_; conv => whnf)
    exact fin0_c (enc := V.b) H (.inr rfl) (.cons (.tmp rfl) (.nil)) rfl rfl
  conv => whnf
  iterate 2 (refine Tst.T ?_; conv => whnf)
  refine Tst.not ?_
  refine tst_c H (fun b14 H => ?_) (fun b14 H => ?_)
  · conv => whnf
    iterate 39 (refine Tst.F ?_; conv => whnf)
    exact fin0_c (enc := V.b) H (.inr rfl) (.cons (.tmp rfl) (.nil)) rfl rfl
  conv => whnf
  iterate 2 (refine Tst.T ?_; conv => whnf)
  refine tst_d H (fun b15 H => ?_) (fun b15 H => ?_)
  · conv => whnf
    iterate 36 (refine Tst.F ?_; conv => whnf)
    exact fin0_c (enc := V.b) H (.inr rfl) (.cons (.tmp rfl) (.nil)) rfl rfl
  conv => whnf
  refine Tst.T ?_; conv => whnf
  refine LenQ.M ?_; conv => whnf
  iterate 2 (refine Tst.T ?_; conv => whnf)
  refine tst_d H (fun b16 H => ?_) (fun b16 H => ?_)
  · conv => whnf
    iterate 32 (refine Tst.F ?_; conv => whnf)
    exact fin0_c (enc := V.b) H (.inr rfl) (.cons (.tmp rfl) (.nil)) rfl rfl
  conv => whnf
  refine Tst.T ?_; conv => whnf
  refine ask_c (p_mail_Off_v _) H rfl rfl (fun v17 H => ?_); conv => whnf
  iterate 2 (refine Tst.T ?_; conv => whnf)
  refine tst_d H (fun b18 H => ?_) (fun b18 H => ?_)
  · conv => whnf
    iterate 28 (refine Tst.F ?_; conv => whnf)
    exact fin0_c (enc := V.b) H (.inr rfl) (.cons (.tmp rfl) (.nil)) rfl rfl
  conv => whnf
  refine Tst.T ?_; conv => whnf
  refine ask_c (p_mail_Find_v _ _) H rfl rfl (fun v19 H => ?_); conv => whnf
  iterate 2 (refine Tst.T ?_; conv => whnf)
  refine tst_d H (fun b20 H => ?_) (fun b20 H => ?_)
  · conv => whnf
    iterate 24 (refine Tst.F ?_; conv => whnf)
    exact fin0_c (enc := V.b) H (.inr rfl) (.cons (.tmp rfl) (.nil)) rfl rfl
  conv => whnf
  refine Tst.T ?_; conv => whnf
  refine ask_c (p_mail_Find_v _ _) H rfl rfl (fun v21 H => ?_); conv => whnf
  iterate 2 (refine Tst.T ?_; conv => whnf)
  refine tst_d H (fun b22 H => ?_) (fun b22 H => ?_)
  · conv => whnf
    iterate 20 (refine Tst.F ?_; conv => whnf)
    exact fin0_c (enc := V.b) H (.inr rfl) (.cons (.tmp rfl) (.nil)) rfl rfl
  conv => whnf
  refine Tst.T ?_; conv => whnf
  refine ask_c (p_mail_Check_v _) H rfl rfl (fun v23 H => ?_); conv => whnf
  iterate 2 (refine Tst.T ?_; conv => whnf)
  refine tst_d H (fun b24 H => ?_) (fun b24 H => ?_)
  · conv => whnf
    iterate 16 (refine Tst.F ?_; conv => whnf)
    exact fin0_c (enc := V.b) H (.inr rfl) (.cons (.tmp rfl) (.nil)) rfl rfl
  conv => whnf
  iterate 2 (refine Tst.T ?_; conv => whnf)
  refine askF_c (p_mail_Check_v _) H (.cons (.c (fzown (f := MailEntry.v) (l := [(MailEntry.mk (⟨#[]⟩ : ByteArray) (PresPres.mk false (0 : Int) (0 : Int) (0 : Int)))]) rfl rfl (fun _ => rfl) (fun _ => rfl))) (.nil)) (fun v25 H => ?_); conv => whnf
  iterate 2 (refine Tst.T ?_; conv => whnf)
  refine tst_d H (fun b26 H => ?_) (fun b26 H => ?_)
  · conv => whnf
    iterate 11 (refine Tst.F ?_; conv => whnf)
    exact fin0_c (enc := V.b) H (.inr rfl) (.cons (.tmp rfl) (.nil)) rfl rfl
  conv => whnf
  iterate 2 (refine Tst.T ?_; conv => whnf)
  refine ask_c (p_mail_Same_v _ _) H rfl rfl (fun v27 H => ?_); conv => whnf
  iterate 2 (refine Tst.T ?_; conv => whnf)
  refine Tst.not ?_
  refine tst_c H (fun b28 H => ?_) (fun b28 H => ?_)
  · conv => whnf
    iterate 6 (refine Tst.F ?_; conv => whnf)
    exact fin0_c (enc := V.b) H (.inr rfl) (.cons (.tmp rfl) (.nil)) rfl rfl
  conv => whnf
  iterate 2 (refine Tst.T ?_; conv => whnf)
  refine ask_c (p_mail_Same_v _ _) H rfl rfl (fun v29 H => ?_); conv => whnf
  refine Tst.T ?_; conv => whnf
  refine tst_c H (fun b30 H => ?_) (fun b30 H => ?_)
  · conv => whnf
    iterate 2 (refine Tst.T ?_; conv => whnf)
    exact fin0_c (enc := V.b) H (.inr rfl) (.cons (.tmp rfl) (.nil)) rfl rfl
  conv => whnf
  iterate 2 (refine Tst.F ?_; conv => whnf)
  exact fin0_c (enc := V.b) H (.inr rfl) (.cons (.tmp rfl) (.nil)) rfl rfl
def gc46 : BCode := (.seq (.reg 0 [⟨(some 2), .mv (.const (.string ⟨#[]⟩)), none, 0⟩] none 0 []) (.seq (.reg 1 [⟨(some 3), .mv (.tmp 0), none, 0⟩, ⟨(some 4), .bin .rem (.tmp 3) (.const (.int .u8 20)), none, 0⟩, ⟨(some 5), .bin .add (.const (.int .u8 97)) (.tmp 4), none, 0⟩, ⟨(some 6), .bs 1 1 [(.lit (.int .u8 0))] [(0, (.tmp 5))], none, 0⟩, ⟨(some 7), .b2s (.tmp 6), none, 1⟩, ⟨(some 8), .bin .add (.tmp 7) (.const (.string ⟨#[64, 120, 32, 114]⟩)), none, 1⟩, ⟨(some 2), .mv (.tmp 8), none, 1⟩] none 0 []) .ret))
theorem gc46_ok : compF Try.prog Try.f46 = some (gc46.er, 9, [.tmp 2]) := by unfold gc46; kernel_rfl
set_option maxRecDepth 100000 in
set_option maxHeartbeats 4000000 in
theorem p_law25_key_v (a0 : Int) : CallsO Try.prog 46 [.y8 a0] V.s (p_law25_key a0) := by
  refine callsO_comp mix Try.func46 gc46_ok fun r H => ?_
  rw [p_law25_key] at H
  conv => whnf
  refine ⟨by decide, ?_⟩; conv => whnf
  refine Ari.w ?_; conv => whnf
  refine b2sO_c H rfl rfl rfl (fun s1 H => ?_); conv => whnf
  refine cat_c H (fun s2 H => ?_); conv => whnf
  exact fin0_c (enc := V.s) H (.inr rfl) (.cons (.tmp rfl) (.nil)) rfl rfl
end Go.Proofs.Ythmgficajgedlaa
