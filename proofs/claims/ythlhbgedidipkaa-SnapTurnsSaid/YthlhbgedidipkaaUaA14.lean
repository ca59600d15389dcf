/- A part of the proof: 3 texts joined. -/
import Derived.Test.YthlhbgedidipkaaUaA13
import Derived.Test.YthlhbgedidipkaaUaA8
import Derived.KernelRfl
set_option linter.all false
/- That the program's functions yield what the plain ones tell (written by a program of mine). -/
namespace Go.Proofs.Ythlhbgedidipkaa
open Go.RowKit
def gc46 : BCode := (.seq (.reg 0 [⟨(some 4), .mv (.const (.bool false)), none, 0⟩] none 0 []) (.seq (.reg 0 [⟨(some 5), .mv (.tmp 1), none, 0⟩, ⟨(some 6), .cl 63 [(.tmp 5)], none, 0⟩, ⟨(some 7), .bin .eql (.tmp 6) (.const (.int .i64 0)), none, 0⟩, ⟨(some 8), .mv (.tmp 7), none, 0⟩, ⟨(some 9), .mv (.tmp 0), (some (8, true)), 0⟩, ⟨(some 10), .cl 62 [(.tmp 9)], (some (8, true)), 0⟩, ⟨(some 11), .pick (.tmp 8) (.tmp 10) (.const (.bool false)), none, 0⟩, ⟨(some 4), .mv (.tmp 11), none, 0⟩] none 0 []) .ret))
theorem gc46_ok : compF Try.prog Try.f46 = some (gc46.er, 12, [.tmp 4]) := by unfold gc46; kernel_rfl
set_option maxRecDepth 100000 in
set_option maxHeartbeats 4000000 in
theorem p_pres_named_v (a0 : ByteArray) (a1 : ByteArray) : CallsO Try.prog 46 [.s a0, .s a1] V.b (p_pres_named a0 a1) := by
  refine callsO_comp mix Try.func46 gc46_ok fun r H => ?_
  rw [p_pres_named] at H
  conv => whnf
  refine ask_c (p_addr_Resource_v _) H rfl rfl (fun v1 H => ?_); conv => whnf
  refine tst_d H (fun b2 H => ?_) (fun b2 H => ?_)
  · conv => whnf
    iterate 2 (refine Tst.F ?_; conv => whnf)
    exact fin0_c (enc := V.b) H (.inr rfl) (.cons (.tmp rfl) (.nil)) rfl rfl
  conv => whnf
  refine Tst.T ?_; conv => whnf
  refine ask_c (p_addr_IsBare_v _) H rfl rfl (fun v3 H => ?_); conv => whnf
  refine Tst.T ?_; conv => whnf
  exact fin0_c (enc := V.b) H (.inr rfl) (.cons (.tmp rfl) (.nil)) rfl rfl
def gc10 : BCode := (.seq (.reg 0 [⟨(some 4), .mv (.const (.string ⟨#[]⟩)), none, 0⟩] none 0 []) (.seq (.seq (.reg 0 [⟨(some 5), .mv (.tmp 0), none, 0⟩, ⟨(some 6), .mv (.tmp 1), none, 0⟩, ⟨(some 7), .cl 46 [(.tmp 5), (.tmp 6)], none, 0⟩, ⟨(some 8), .un .not (.tmp 7), none, 0⟩] none 0 []) (.cond (.tmp 8) (.seq (.reg 0 [⟨(some 4), .mv (.const (.string ⟨#[]⟩)), none, 0⟩] none 0 []) .ret) .skip)) (.seq (.reg 0 [⟨(some 9), .mv (.tmp 0), none, 0⟩, ⟨(some 10), .bin .add (.tmp 9) (.const (.string ⟨#[32]⟩)), none, 0⟩, ⟨(some 11), .mv (.tmp 1), none, 0⟩, ⟨(some 12), .bin .add (.tmp 10) (.tmp 11), none, 0⟩, ⟨(some 4), .mv (.tmp 12), none, 0⟩] none 0 []) .ret)))
theorem gc10_ok : compF Try.prog Try.f10 = some (gc10.er, 13, [.tmp 4]) := by unfold gc10; kernel_rfl
set_option maxRecDepth 100000 in
set_option maxHeartbeats 4000000 in
theorem p_pres_Key_v (a0 : ByteArray) (a1 : ByteArray) : CallsO Try.prog 10 [.s a0, .s a1] V.s (p_pres_Key a0 a1) := by
  refine callsO_comp mix Try.func10 gc10_ok fun r H => ?_
  rw [p_pres_Key] at H
  conv => whnf
  refine ask_c (p_pres_named_v _ _) H rfl rfl (fun v1 H => ?_); conv => whnf
  refine Tst.not ?_
  refine tst_d H (fun b2 H => ?_) (fun b2 H => ?_)
  · conv => whnf
    exact fin0_c (enc := V.s) H (.inr rfl) (.cons (.tmp rfl) (.nil)) rfl rfl
  conv => whnf
  refine cat_c H (fun s3 H => ?_); conv => whnf
  refine cat_c H (fun s4 H => ?_); conv => whnf
  exact fin0_c (enc := V.s) H (.inr rfl) (.cons (.tmp rfl) (.nil)) rfl rfl
def gc49 : BCode := (.seq (.reg 1 [⟨(some 1), .bx (.tmp 0), none, 0⟩, ⟨(some 2), .mv (.const (.string ⟨#[]⟩)), none, 1⟩] none 0 []) (.seq (.reg 0 [⟨(some 3), .fa 0 (.tmp 1), none, 0⟩, ⟨(some 4), .ld 1 false (.tmp 3), none, 0⟩, ⟨(some 5), .fa 1 (.tmp 1), none, 0⟩, ⟨(some 6), .ld 1 false (.tmp 5), none, 0⟩, ⟨(some 7), .cl 10 [(.tmp 4), (.tmp 6)], none, 0⟩, ⟨(some 2), .mv (.tmp 7), none, 0⟩] none 0 []) .ret))
theorem gc49_ok : compF Try.prog Try.f49 = some (gc49.er, 8, [.tmp 2]) := by unfold gc49; kernel_rfl
set_option maxRecDepth 100000 in
set_option maxHeartbeats 4000000 in
theorem p_book_Row_key_v (a0 : BookRow) : CallsO Try.prog 49 [.agg [.s a0.User, .s a0.Res, .b a0.P.On, .i a0.P.Show, .i a0.P.Prio, .i a0.P.Seq]] V.s (p_book_Row_key a0) := by
  refine callsO_comp mix Try.func49 gc49_ok fun r H => ?_
  rw [p_book_Row_key] at H
  conv => whnf
  refine ask_c (p_pres_Key_v _ _) H rfl rfl (fun v1 H => ?_); conv => whnf
  exact fin0_c (enc := V.s) H (.inr rfl) (.cons (.tmp rfl) (.nil)) rfl rfl
def gc82 : BCode := (.seq (.reg 1 [⟨(some 1), .bx (.tmp 0), none, 0⟩, ⟨(some 2), .mv (.const (.bool false)), none, 1⟩] none 0 []) (.seq (.reg 0 [⟨(some 3), .ld 6 true (.tmp 1), none, 0⟩, ⟨(some 4), .cl 49 [(.tmp 3)], none, 0⟩, ⟨(some 5), .bin .eql (.tmp 4) (.const (.string ⟨#[]⟩)), none, 0⟩, ⟨(some 2), .mv (.tmp 5), none, 0⟩] none 0 []) .ret))
theorem gc82_ok : compF Try.prog Try.f82 = some (gc82.er, 6, [.tmp 2]) := by unfold gc82; kernel_rfl
set_option maxRecDepth 100000 in
set_option maxHeartbeats 4000000 in
theorem p_book_Check_1_v (a0 : BookRow) : CallsO Try.prog 82 [.agg [.s a0.User, .s a0.Res, .b a0.P.On, .i a0.P.Show, .i a0.P.Prio, .i a0.P.Seq]] V.b (p_book_Check_1 a0) := by
  refine callsO_comp mix Try.func82 gc82_ok fun r H => ?_
  rw [p_book_Check_1] at H
  conv => whnf
  refine ask_c (p_book_Row_key_v _) H rfl rfl (fun v1 H => ?_); conv => whnf
  exact fin0_c (enc := V.b) H (.inr rfl) (.cons (.tmp rfl) (.nil)) rfl rfl
def gc113 : BCode := (.seq (.reg 0 [⟨(some 4), .mv (.const (.int .i64 0)), none, 0⟩] none 0 []) (.seq (.seq (.reg 0 [⟨(some 6), .mv (.tmp 0), none, 0⟩, ⟨(some 7), .lens (.tmp 6), none, 0⟩, ⟨(some 8), .mv (.const (.int .i64 0)), none, 0⟩] none 0 []) (.block 0 (.loop (.seq (.reg 0 [⟨(some 9), .bin .lss (.tmp 8) (.tmp 7), none, 0⟩] none 0 []) (.seq (.cond (.tmp 9) .skip (.exit 0)) (.seq (.block 1 (.seq (.reg 0 [⟨(some 10), .mv (.tmp 8), none, 0⟩, ⟨(some 5), .mv (.tmp 10), none, 0⟩] none 0 []) (.seq (.reg 0 [⟨(some 11), .mv (.tmp 1), none, 0⟩, ⟨(some 12), .mv (.tmp 0), none, 0⟩, ⟨(some 13), .mv (.tmp 5), none, 0⟩, ⟨(some 14), .ixs 6 (.tmp 12) (.tmp 13), none, 0⟩, ⟨(some 15), .ld 6 true (.tmp 14), none, 0⟩, ⟨(some 16), .cv (.tmp 11) [(.tmp 15)], none, 0⟩] none 0 []) (.cond (.tmp 16) (.seq (.reg 0 [⟨(some 17), .mv (.tmp 5), none, 0⟩, ⟨(some 4), .mv (.tmp 17), none, 0⟩] none 0 []) .ret) .skip)))) (.reg 0 [⟨(some 18), .bin .add (.tmp 8) (.const (.int .i64 1)), none, 0⟩, ⟨(some 8), .mv (.tmp 18), none, 0⟩] none 0 []))))))) (.seq (.reg 0 [⟨(some 4), .mv (.const (.int .i64 (-1))), none, 0⟩] none 0 []) .ret)))
theorem gc113_ok : compF Try.prog Try.f113 = some (gc113.er, 19, [.tmp 4]) := by unfold gc113; kernel_rfl
set_option maxRecDepth 100000 in
set_option maxHeartbeats 4000000 in
theorem p_slices_IndexFunc_book_Row_v {u1 : Bool} (a0 : List BookRow) (a1 : BookRow → Option Bool) {a1_g : Nat} {a1_k : List V} (a1_h : Clo1 Try.prog a1_g a1_k BookRow.v V.b a1) : CallsO Try.prog 113 [.sl (List.map BookRow.v a0) u1, .clo (.func a1_g) a1_k] V.i (p_slices_IndexFunc_book_Row a0 a1) := by
  refine callsO_comp mix Try.func113 gc113_ok fun r H => ?_
  rw [p_slices_IndexFunc_book_Row] at H
  conv => whnf
  refine LenQ.M ?_; conv => whnf
  obtain ⟨o2, HL3, HQ4⟩ := bind_c H
  refine loop_c [4, 8] [5, 9, 10, 11, 12, 13, 14, 15, 16, 17, 18] [5, 9, 10, 11, 12, 13, 14, 15, 16, 17, 18] (fun n vals st => (∃ y6, p_slices_IndexFunc_book_Row_l1  a1 a0 (a0.length : Int) n y6 = some o2 ∧ vals = [.i (0 : Int), .i y6] ∧ st = [])) fuel 0 [] (⟨_, HL3, rfl, rfl⟩) (Nat.zero_le _) rfl (by simp only [maskF, setF, List.set_cons_zero, List.set_cons_succ, V.ren.renL, V.ren, renL_id _ a1_h.own] <;> rfl) (by simp only [maskF, setF, List.set_cons_zero, List.set_cons_succ, V.idlt.belowL, V.idlt, fun n => idltL_up (n := n) _ a1_h.own] <;> rfl) rfl trivial ?_
  rintro (_ | n5) _ _ (⟨y6, H, rfl, rfl⟩)
  · rw [p_slices_IndexFunc_book_Row_l1] at H; cases H
  rw [p_slices_IndexFunc_book_Row_l1] at H
  conv => whnf
  refine tst_d H (fun b7 H => ?_) (fun b7 H => ?_)
  · conv => whnf
    obtain rfl := Option.some.inj H
    have H := HQ4
    try dsimp only at H
    exact fin0_c (enc := V.i) H (.inr rfl) (.cons (.tmp rfl) (.nil)) rfl rfl
  conv => whnf
  refine ixs_c (f := BookRow.v) H (fun _ => rfl) (fun x8 H => ?_); conv => whnf
  refine askC_c a1_h H (.cons (fzagg (.cons (.id rfl) (.cons (.id rfl) (.cons (.id rfl) (.cons (.id rfl) (.cons (.id rfl) (.cons (.id rfl) (.nil))))))) rfl) (.nil)) (fun v9 H => ?_); conv => whnf
  refine tst_c H (fun b10 H => ?_) (fun b10 H => ?_)
  · conv => whnf
    obtain rfl := Option.some.inj H
    have H := HQ4
    try dsimp only at H
    exact fin0_c (enc := V.i) H (.inr rfl) (.cons (.tmp rfl) (.nil)) rfl rfl
  conv => whnf
  refine Ari.w ?_; conv => whnf
  exact again_c [5, 9, 10, 11, 12, 13, 14, 15, 16, 17, 18] n5 0 [] (⟨_, H, rfl, rfl⟩) (Nat.lt_succ_self _) (Nat.zero_le _) rfl (by simp only [maskF, setF, List.set_cons_zero, List.set_cons_succ, V.ren.renL, V.ren, renL_id _ a1_h.own] <;> rfl) (by simp only [maskF, setF, List.set_cons_zero, List.set_cons_succ, V.idlt.belowL, V.idlt, fun n => idltL_up (n := n) _ a1_h.own] <;> rfl) rfl trivial
def gc81 : BCode := (.seq (.reg 0 [⟨(some 4), .mv (.const (.bool false)), none, 0⟩] none 0 []) (.seq (.reg 0 [⟨(some 5), .mv (.tmp 0), none, 0⟩, ⟨(some 6), .mv (.tmp 1), none, 0⟩, ⟨(some 7), .cl 113 [(.tmp 5), (.tmp 6)], none, 0⟩, ⟨(some 8), .bin .geq (.tmp 7) (.const (.int .i64 0)), none, 0⟩, ⟨(some 4), .mv (.tmp 8), none, 0⟩] none 0 []) .ret))
theorem gc81_ok : compF Try.prog Try.f81 = some (gc81.er, 9, [.tmp 4]) := by unfold gc81; kernel_rfl
set_option maxRecDepth 100000 in
set_option maxHeartbeats 4000000 in
theorem p_slices_ContainsFunc_book_Row_v {u1 : Bool} (a0 : List BookRow) (a1 : BookRow → Option Bool) {a1_g : Nat} {a1_k : List V} (a1_h : Clo1 Try.prog a1_g a1_k BookRow.v V.b a1) : CallsO Try.prog 81 [.sl (List.map BookRow.v a0) u1, .clo (.func a1_g) a1_k] V.b (p_slices_ContainsFunc_book_Row a0 a1) := by
  refine callsO_comp mix Try.func81 gc81_ok fun r H => ?_
  rw [p_slices_ContainsFunc_book_Row] at H
  conv => whnf
  refine askF_c (p_slices_IndexFunc_book_Row_v _ _ a1_h) H (.cons (.c (.slw)) (.cons (.c (.id a1_h.own)) (.nil))) (fun v1 H => ?_); conv => whnf
  exact fin0_c (enc := V.b) H (.inr rfl) (.cons (.tmp rfl) (.nil)) rfl rfl
def gc89 : BCode := (.seq (.reg 0 [⟨(some 6), .mv (.const (.bool false)), none, 0⟩] none 0 []) (.seq (.reg 0 [⟨(some 7), .mv (.tmp 1), none, 0⟩, ⟨(some 8), .mv (.tmp 0), none, 0⟩, ⟨(some 9), .bin .leq (.tmp 7) (.tmp 8), none, 0⟩, ⟨(some 10), .mv (.tmp 9), none, 0⟩, ⟨(some 11), .mv (.tmp 0), (some (10, true)), 0⟩, ⟨(some 12), .mv (.tmp 2), (some (10, true)), 0⟩, ⟨(some 13), .bin .leq (.tmp 11) (.tmp 12), (some (10, true)), 0⟩, ⟨(some 14), .pick (.tmp 10) (.tmp 13) (.const (.bool false)), none, 0⟩, ⟨(some 6), .mv (.tmp 14), none, 0⟩] none 0 []) .ret))
theorem gc89_ok : compF Try.prog Try.f89 = some (gc89.er, 15, [.tmp 6]) := by unfold gc89; kernel_rfl
set_option maxRecDepth 100000 in
set_option maxHeartbeats 4000000 in
theorem p_pres_in_v (a0 : Int) (a1 : Int) (a2 : Int) : CallsO Try.prog 89 [.i a0, .i a1, .i a2] V.b (p_pres_in a0 a1 a2) := by
  refine callsO_comp mix Try.func89 gc89_ok fun r H => ?_
  rw [p_pres_in] at H
  conv => whnf
  refine tst_c H (fun b1 H => ?_) (fun b1 H => ?_)
  · conv => whnf
    iterate 3 (refine Tst.T ?_; conv => whnf)
    exact fin0_c (enc := V.b) H (.inr rfl) (.cons (.tmp rfl) (.nil)) rfl rfl
  conv => whnf
  iterate 3 (refine Tst.F ?_; conv => whnf)
  exact fin0_c (enc := V.b) H (.inr rfl) (.cons (.tmp rfl) (.nil)) rfl rfl
def gc50 : BCode := (.seq (.reg 1 [⟨(some 1), .bx (.tmp 0), none, 0⟩, ⟨(some 2), .mv (.const (.int .i64 0)), none, 1⟩] none 0 []) (.seq (.seq (.reg 0 [⟨(some 4), .fa 1 (.tmp 1), none, 0⟩, ⟨(some 5), .ld 1 false (.tmp 4), none, 0⟩, ⟨(some 6), .cl 89 [(.tmp 5), (.const (.int .i64 0)), (.const (.int .i64 4))], none, 0⟩, ⟨(some 7), .un .not (.tmp 6), none, 0⟩, ⟨(some 8), .mv (.tmp 7), none, 0⟩, ⟨(some 9), .fa 2 (.tmp 1), (some (8, false)), 0⟩, ⟨(some 10), .ld 1 false (.tmp 9), (some (8, false)), 0⟩, ⟨(some 11), .cl 89 [(.tmp 10), (.const (.int .i64 (-128))), (.const (.int .i64 127))], (some (8, false)), 0⟩, ⟨(some 12), .un .not (.tmp 11), (some (8, false)), 0⟩, ⟨(some 13), .pick (.tmp 8) (.const (.bool true)) (.tmp 12), none, 0⟩, ⟨(some 14), .mv (.tmp 13), none, 0⟩, ⟨(some 15), .fa 3 (.tmp 1), (some (14, false)), 0⟩, ⟨(some 16), .ld 1 false (.tmp 15), (some (14, false)), 0⟩, ⟨(some 17), .cl 89 [(.tmp 16), (.const (.int .i64 0)), (.const (.int .i64 1099511627776))], (some (14, false)), 0⟩, ⟨(some 18), .un .not (.tmp 17), (some (14, false)), 0⟩, ⟨(some 19), .pick (.tmp 14) (.const (.bool true)) (.tmp 18), none, 0⟩] none 0 []) (.cond (.tmp 19) (.seq (.reg 0 [⟨(some 2), .mv (.const (.int .i64 8)), none, 0⟩] none 0 []) .ret) .skip)) (.seq (.seq (.reg 1 [⟨(some 20), .fa 3 (.tmp 1), none, 0⟩, ⟨(some 21), .ld 1 false (.tmp 20), none, 0⟩, ⟨(some 22), .bd [(.lit (.bool false)), (.lit (.int .i64 0)), (.lit (.int .i64 0)), (.lit (.int .i64 0))] [(3, 1, (.tmp 21))], none, 0⟩, ⟨(some 3), .al (.agg [(.lit (.bool false)), (.lit (.int .i64 0)), (.lit (.int .i64 0)), (.lit (.int .i64 0))]), none, 0⟩, ⟨none, .st 4 (.tmp 3) (.tmp 22), none, 1⟩] none 0 []) (.seq (.reg 0 [⟨(some 23), .fa 0 (.tmp 1), none, 0⟩, ⟨(some 24), .ld 1 false (.tmp 23), none, 0⟩, ⟨(some 25), .un .not (.tmp 24), none, 0⟩, ⟨(some 26), .mv (.tmp 25), none, 0⟩, ⟨(some 27), .ld 4 true (.tmp 1), (some (26, true)), 0⟩, ⟨(some 28), .ld 4 true (.tmp 3), (some (26, true)), 0⟩, ⟨(some 29), .eqa true [0, 1, 1, 1] (.tmp 27) (.tmp 28), (some (26, true)), 0⟩, ⟨(some 30), .pick (.tmp 26) (.tmp 29) (.const (.bool false)), none, 0⟩] none 0 []) (.cond (.tmp 30) (.seq (.reg 0 [⟨(some 2), .mv (.const (.int .i64 4)), none, 0⟩] none 0 []) .ret) .skip))) (.seq (.reg 0 [⟨(some 2), .mv (.const (.int .i64 0)), none, 0⟩] none 0 []) .ret))))
theorem gc50_ok : compF Try.prog Try.f50 = some (gc50.er, 31, [.tmp 2]) := by unfold gc50; kernel_rfl
set_option maxRecDepth 100000 in
set_option maxHeartbeats 4000000 in
theorem p_pres_Check_v (a0 : PresPres) : CallsO Try.prog 50 [.agg [.b a0.On, .i a0.Show, .i a0.Prio, .i a0.Seq]] V.i (p_pres_Check a0) := by
  refine callsO_comp mix Try.func50 gc50_ok fun r H => ?_
  rw [p_pres_Check] at H
  conv => whnf
  refine ask_c (p_pres_in_v _ _ _) H rfl rfl (fun v1 H => ?_); conv => whnf
  refine Tst.not ?_
  refine tst_d H (fun b2 H => ?_) (fun b2 H => ?_)
  · conv => whnf
    iterate 10 (refine Tst.T ?_; conv => whnf)
    exact fin0_c (enc := V.i) H (.inr rfl) (.cons (.tmp rfl) (.nil)) rfl rfl
  conv => whnf
  iterate 2 (refine Tst.F ?_; conv => whnf)
  refine ask_c (p_pres_in_v _ _ _) H rfl rfl (fun v3 H => ?_); conv => whnf
  iterate 2 (refine Tst.F ?_; conv => whnf)
  refine Tst.not ?_
  refine tst_d H (fun b4 H => ?_) (fun b4 H => ?_)
  · conv => whnf
    iterate 5 (refine Tst.T ?_; conv => whnf)
    exact fin0_c (enc := V.i) H (.inr rfl) (.cons (.tmp rfl) (.nil)) rfl rfl
  conv => whnf
  iterate 2 (refine Tst.F ?_; conv => whnf)
  refine ask_c (p_pres_in_v _ _ _) H rfl rfl (fun v5 H => ?_); conv => whnf
  iterate 2 (refine Tst.F ?_; conv => whnf)
  refine Tst.not ?_
  refine tst_d H (fun b6 H => ?_) (fun b6 H => ?_)
  · conv => whnf
    exact fin0_c (enc := V.i) H (.inr rfl) (.cons (.tmp rfl) (.nil)) rfl rfl
  conv => whnf
  refine ⟨Nat.le_of_ble_eq_true rfl, ?_⟩; conv => whnf
  refine Tst.not ?_
  refine tst_c H (fun b7 H => ?_) (fun b7 H => ?_)
  · conv => whnf
    iterate 4 (refine Tst.F ?_; conv => whnf)
    exact fin0_c (enc := V.i) H (.inr rfl) (.cons (.tmp rfl) (.nil)) rfl rfl
  conv => whnf
  iterate 3 (refine Tst.T ?_; conv => whnf)
  refine Tst.not ?_
  refine tst_c H (fun b8 H => ?_) (fun b8 H => ?_)
  · conv => whnf
    exact fin0_c (enc := V.i) H (.inr rfl) (.cons (.tmp rfl) (.nil)) rfl rfl
  conv => whnf
  exact fin0_c (enc := V.i) H (.inr rfl) (.cons (.tmp rfl) (.nil)) rfl rfl
def gc83 : BCode := (.seq (.reg 1 [⟨(some 1), .bx (.tmp 0), none, 0⟩, ⟨(some 2), .mv (.const (.int .i64 0)), none, 1⟩] none 0 []) (.seq (.seq (.reg 0 [⟨(some 6), .fa 1 (.tmp 1), none, 0⟩, ⟨(some 7), .ld 1 false (.tmp 6), none, 0⟩, ⟨(some 8), .lens (.tmp 7), none, 0⟩, ⟨(some 9), .mv (.const (.int .i64 0)), none, 0⟩] none 0 []) (.block 0 (.loop (.seq (.reg 0 [⟨(some 10), .bin .lss (.tmp 9) (.tmp 8), none, 0⟩] none 0 []) (.seq (.cond (.tmp 10) .skip (.exit 0)) (.seq (.block 1 (.seq (.reg 1 [⟨(some 11), .ixs 6 (.tmp 7) (.tmp 9), none, 0⟩, ⟨(some 12), .ld 6 true (.tmp 11), none, 0⟩, ⟨(some 4), .al (.agg [(.lit (.string ⟨#[]⟩)), (.lit (.string ⟨#[]⟩)), (.lit (.bool false)), (.lit (.int .i64 0)), (.lit (.int .i64 0)), (.lit (.int .i64 0))]), none, 0⟩, ⟨none, .st 6 (.tmp 4) (.tmp 12), none, 1⟩] none 0 []) (.seq (.seq (.reg 0 [⟨(some 13), .fa 2 (.tmp 4), none, 0⟩, ⟨(some 14), .ld 4 true (.tmp 13), none, 0⟩, ⟨(some 15), .cl 50 [(.tmp 14)], none, 0⟩, ⟨(some 5), .mv (.tmp 15), none, 0⟩] none 0 []) (.seq (.reg 0 [⟨(some 16), .mv (.tmp 5), none, 0⟩, ⟨(some 17), .bin .neq (.tmp 16) (.const (.int .i64 0)), none, 0⟩] none 0 []) (.cond (.tmp 17) (.seq (.reg 0 [⟨(some 18), .mv (.tmp 5), none, 0⟩, ⟨(some 2), .mv (.tmp 18), none, 0⟩] none 0 []) .ret) .skip))) (.seq (.reg 0 [⟨(some 19), .fa 2 (.tmp 4), none, 0⟩, ⟨(some 20), .fa 0 (.tmp 19), none, 0⟩, ⟨(some 21), .ld 1 false (.tmp 20), none, 0⟩, ⟨(some 22), .un .not (.tmp 21), none, 0⟩] none 0 []) (.cond (.tmp 22) (.seq (.reg 0 [⟨(some 2), .mv (.const (.int .i64 4)), none, 0⟩] none 0 []) .ret) .skip))))) (.reg 0 [⟨(some 23), .bin .add (.tmp 9) (.const (.int .i64 1)), none, 0⟩, ⟨(some 9), .mv (.tmp 23), none, 0⟩] none 0 []))))))) (.seq (.reg 0 [⟨(some 2), .mv (.const (.int .i64 0)), none, 0⟩] none 0 []) .ret)))
theorem gc83_ok : compF Try.prog Try.f83 = some (gc83.er, 24, [.tmp 2]) := by unfold gc83; kernel_rfl
set_option maxRecDepth 100000 in
set_option maxHeartbeats 4000000 in
theorem p_book_State_errors_v {u1 : Bool} (a0 : BookState) : CallsO Try.prog 83 [.agg [.i a0.Seq, .sl (List.map BookRow.v a0.Rows) u1]] V.i (p_book_State_errors a0) := by
  refine callsO_comp mix Try.func83 gc83_ok fun r H => ?_
  rw [p_book_State_errors] at H
  conv => whnf
  refine LenQ.M ?_; conv => whnf
  obtain ⟨o2, HL3, HQ4⟩ := bind_c H
  refine loop_c [2, 9] [4, 5, 10, 11, 12, 13, 14, 15, 16, 17, 18, 19, 20, 21, 22, 23, 1, 6] [4, 5, 10, 11, 12, 13, 14, 15, 16, 17, 18, 19, 20, 21, 22, 23, 1, 6] (fun n vals st => (∃ y6, p_book_State_errors_l1  a0.Rows (a0.Rows.length : Int) n y6 = some o2 ∧ vals = [.i (0 : Int), .i y6] ∧ st = [])) fuel 0 [] (⟨_, HL3, rfl, rfl⟩) (Nat.zero_le _) rfl (by kernel_rfl) (by kernel_rfl) rfl trivial ?_
  rintro (_ | n5) _ _ (⟨y6, H, rfl, rfl⟩)
  · rw [p_book_State_errors_l1] at H; cases H
  rw [p_book_State_errors_l1] at H
  conv => whnf
  refine tst_d H (fun b7 H => ?_) (fun b7 H => ?_)
  · conv => whnf
    obtain rfl := Option.some.inj H
    have H := HQ4
    try dsimp only at H
    exact fin0_c (enc := V.i) H (.inr rfl) (.cons (.tmp rfl) (.nil)) rfl rfl
  conv => whnf
  refine ixs_c (f := BookRow.v) H (fun _ => rfl) (fun x8 H => ?_); conv => whnf
  refine ⟨Nat.le_of_ble_eq_true rfl, ?_⟩; conv => whnf
  refine ask_c (p_pres_Check_v _) H rfl rfl (fun v9 H => ?_); conv => whnf
  refine tst_c H (fun b10 H => ?_) (fun b10 H => ?_)
  · conv => whnf
    obtain rfl := Option.some.inj H
    have H := HQ4
    try dsimp only at H
    exact fin0_c (enc := V.i) H (.inr rfl) (.cons (.tmp rfl) (.nil)) rfl rfl
  conv => whnf
  refine Tst.not ?_
  refine tst_d H (fun b11 H => ?_) (fun b11 H => ?_)
  · conv => whnf
    obtain rfl := Option.some.inj H
    have H := HQ4
    try dsimp only at H
    exact fin0_c (enc := V.i) H (.inr rfl) (.cons (.tmp rfl) (.nil)) rfl rfl
  conv => whnf
  refine Ari.w ?_; conv => whnf
  exact again_c [4, 5, 10, 11, 12, 13, 14, 15, 16, 17, 18, 19, 20, 21, 22, 23, 1, 6] n5 0 [] (⟨_, H, rfl, rfl⟩) (Nat.lt_succ_self _) (Nat.zero_le _) rfl (by kernel_rfl) (by kernel_rfl) rfl trivial
def gc114 : BCode := (.seq (.reg 1 [⟨(some 2), .bx (.tmp 0), none, 0⟩, ⟨(some 3), .mv (.const (.bool false)), none, 1⟩] none 0 []) (.seq (.reg 0 [⟨(some 4), .fa 2 (.tmp 2), none, 0⟩, ⟨(some 5), .fa 3 (.tmp 4), none, 0⟩, ⟨(some 6), .ld 1 false (.tmp 5), none, 0⟩, ⟨(some 7), .fa 2 (.tmp 1), none, 0⟩, ⟨(some 8), .fa 3 (.tmp 7), none, 0⟩, ⟨(some 9), .ld 1 false (.tmp 8), none, 0⟩, ⟨(some 10), .bin .eql (.tmp 6) (.tmp 9), none, 0⟩, ⟨(some 3), .mv (.tmp 10), none, 0⟩] none 0 []) .ret))
theorem gc114_ok : compF Try.prog Try.f114 = some (gc114.er, 11, [.tmp 3]) := by unfold gc114; kernel_rfl
set_option maxRecDepth 100000 in
set_option maxHeartbeats 4000000 in
theorem p_book_State_ordered_1_v (a0 : BookRow) (c0 : BookRow) : CallsO Try.prog 114 [.agg [.s a0.User, .s a0.Res, .b a0.P.On, .i a0.P.Show, .i a0.P.Prio, .i a0.P.Seq], .eptr [.s c0.User, .s c0.Res, .b c0.P.On, .i c0.P.Show, .i c0.P.Prio, .i c0.P.Seq]] V.b (p_book_State_ordered_1 a0 c0) := by
  refine callsO_comp mix Try.func114 gc114_ok fun r H => ?_
  rw [p_book_State_ordered_1] at H
  conv => whnf
  refine ⟨Nat.le_of_ble_eq_true rfl, ?_⟩; conv => whnf
  refine ⟨Nat.le_of_ble_eq_true rfl, ?_⟩; conv => whnf
  exact fin0_c (enc := V.b) H (.inr rfl) (.cons (.tmp rfl) (.nil)) rfl rfl
def gc84 : BCode := (.seq (.reg 1 [⟨(some 1), .bx (.tmp 0), none, 0⟩, ⟨(some 2), .mv (.const (.bool false)), none, 1⟩] none 0 []) (.seq (.seq (.reg 0 [⟨(some 5), .fa 1 (.tmp 1), none, 0⟩, ⟨(some 6), .ld 1 false (.tmp 5), none, 0⟩, ⟨(some 7), .lens (.tmp 6), none, 0⟩, ⟨(some 8), .mv (.const (.int .i64 0)), none, 0⟩] none 0 []) (.block 0 (.loop (.seq (.reg 0 [⟨(some 9), .bin .lss (.tmp 8) (.tmp 7), none, 0⟩] none 0 []) (.seq (.cond (.tmp 9) .skip (.exit 0)) (.seq (.block 1 (.seq (.reg 1 [⟨(some 10), .mv (.tmp 8), none, 0⟩, ⟨(some 11), .ixs 6 (.tmp 6) (.tmp 8), none, 0⟩, ⟨(some 12), .ld 6 true (.tmp 11), none, 0⟩, ⟨(some 4), .al (.agg [(.lit (.string ⟨#[]⟩)), (.lit (.string ⟨#[]⟩)), (.lit (.bool false)), (.lit (.int .i64 0)), (.lit (.int .i64 0)), (.lit (.int .i64 0))]), none, 0⟩, ⟨(some 3), .mv (.tmp 10), none, 1⟩, ⟨none, .st 6 (.tmp 4) (.tmp 12), none, 1⟩] none 0 []) (.seq (.seq (.reg 0 [⟨(some 13), .fa 2 (.tmp 4), none, 0⟩, ⟨(some 14), .fa 3 (.tmp 13), none, 0⟩, ⟨(some 15), .ld 1 false (.tmp 14), none, 0⟩, ⟨(some 16), .bin .lss (.tmp 15) (.const (.int .i64 1)), none, 0⟩, ⟨(some 17), .mv (.tmp 16), none, 0⟩, ⟨(some 18), .fa 2 (.tmp 4), (some (17, false)), 0⟩, ⟨(some 19), .fa 3 (.tmp 18), (some (17, false)), 0⟩, ⟨(some 20), .ld 1 false (.tmp 19), (some (17, false)), 0⟩, ⟨(some 21), .fa 0 (.tmp 1), (some (17, false)), 0⟩, ⟨(some 22), .ld 1 false (.tmp 21), (some (17, false)), 0⟩, ⟨(some 23), .bin .gtr (.tmp 20) (.tmp 22), (some (17, false)), 0⟩, ⟨(some 24), .pick (.tmp 17) (.const (.bool true)) (.tmp 23), none, 0⟩] none 0 []) (.cond (.tmp 24) (.seq (.reg 0 [⟨(some 2), .mv (.const (.bool false)), none, 0⟩] none 0 []) .ret) .skip)) (.seq (.seq (.reg 0 [⟨(some 25), .mv (.tmp 3), none, 0⟩, ⟨(some 26), .bin .gtr (.tmp 25) (.const (.int .i64 0)), none, 0⟩, ⟨(some 27), .mv (.tmp 26), none, 0⟩, ⟨(some 28), .fa 1 (.tmp 1), (some (27, true)), 0⟩, ⟨(some 29), .ld 1 false (.tmp 28), (some (27, true)), 0⟩, ⟨(some 30), .mv (.tmp 3), (some (27, true)), 0⟩, ⟨(some 31), .bin .sub (.tmp 30) (.const (.int .i64 1)), (some (27, true)), 0⟩, ⟨(some 32), .ixs 6 (.tmp 29) (.tmp 31), (some (27, true)), 0⟩, ⟨(some 33), .ld 6 true (.tmp 32), (some (27, true)), 0⟩, ⟨(some 34), .cl 49 [(.tmp 33)], (some (27, true)), 0⟩, ⟨(some 35), .ld 6 true (.tmp 4), (some (27, true)), 0⟩, ⟨(some 36), .cl 49 [(.tmp 35)], (some (27, true)), 0⟩, ⟨(some 37), .bin .geq (.tmp 34) (.tmp 36), (some (27, true)), 0⟩, ⟨(some 38), .pick (.tmp 27) (.tmp 37) (.const (.bool false)), none, 0⟩] (some [[], [0], [0, 1], [1, 0, 2], [2, 0, 1, 3], [1, 0, 2], [2, 0, 1, 5], [5, 6, 3, 1, 0, 2, 4], [4, 2, 0, 1, 3, 6, 5, 7], [7, 5, 6, 3, 1, 0, 2, 4, 8], [1, 0, 2], [8, 4, 3, 6, 5, 7, 9, 2, 0, 1, 10], [10, 11, 8, 4, 2, 0, 1, 3, 6, 5, 7, 9], [9, 7, 5, 6, 3, 4, 8, 11, 10, 12, 1, 0, 2]]) 0 []) (.cond (.tmp 38) (.seq (.reg 0 [⟨(some 2), .mv (.const (.bool false)), none, 0⟩] none 0 []) .ret) .skip)) (.seq (.reg 0 [⟨(some 39), .fa 1 (.tmp 1), none, 0⟩, ⟨(some 40), .ld 1 false (.tmp 39), none, 0⟩, ⟨(some 41), .mv (.tmp 3), none, 0⟩, ⟨(some 42), .sls 6 (.tmp 40) none (some (.tmp 41)) none, none, 0⟩, ⟨(some 43), .mf (.func 114) [(.tmp 4)], none, 0⟩, ⟨(some 44), .cl 81 [(.tmp 42), (.tmp 43)], none, 0⟩] none 0 [4]) (.cond (.tmp 44) (.seq (.reg 0 [⟨(some 2), .mv (.const (.bool false)), none, 0⟩] none 0 []) .ret) .skip)))))) (.reg 0 [⟨(some 45), .bin .add (.tmp 8) (.const (.int .i64 1)), none, 0⟩, ⟨(some 8), .mv (.tmp 45), none, 0⟩] none 0 []))))))) (.seq (.reg 0 [⟨(some 2), .mv (.const (.bool true)), none, 0⟩] none 0 []) .ret)))
theorem gc84_ok : compF Try.prog Try.f84 = some (gc84.er, 46, [.tmp 2]) := by unfold gc84; kernel_rfl
set_option maxRecDepth 100000 in
set_option maxHeartbeats 4000000 in
theorem p_book_State_ordered_v {u1 : Bool} (a0 : BookState) : CallsO Try.prog 84 [.agg [.i a0.Seq, .sl (List.map BookRow.v a0.Rows) u1]] V.b (p_book_State_ordered a0) := by
  refine callsO_comp mix Try.func84 gc84_ok fun r H => ?_
  rw [p_book_State_ordered] at H
  conv => whnf
  refine LenQ.M ?_; conv => whnf
  obtain ⟨o2, HL3, HQ4⟩ := bind_c H
  refine loop_c [2, 8] [3, 4, 9, 10, 11, 12, 13, 14, 15, 16, 17, 18, 19, 20, 21, 22, 23, 24, 25, 26, 27, 28, 29, 30, 31, 32, 33, 34, 35, 36, 37, 38, 39, 40, 41, 42, 43, 44, 45, 5] [3, 4, 9, 10, 11, 12, 13, 14, 15, 16, 17, 18, 19, 20, 21, 22, 23, 24, 25, 26, 27, 28, 29, 30, 31, 32, 33, 34, 35, 36, 37, 38, 39, 40, 41, 42, 43, 44, 45, 5] (fun n vals st => (∃ y6, p_book_State_ordered_l1  a0.Rows (a0.Rows.length : Int) a0 n y6 = some o2 ∧ vals = [.b false, .i y6] ∧ st = [.live [.i a0.Seq, .sl (List.map BookRow.v a0.Rows) u1] 0])) fuel 1 [] (⟨_, HL3, rfl, rfl⟩) (Nat.zero_le _) rfl (by kernel_rfl) (by kernel_rfl) rfl ⟨⟨rfl, rfl, rfl⟩, trivial⟩ ?_
  rintro (_ | n5) _ _ (⟨y6, H, rfl, rfl⟩)
  · rw [p_book_State_ordered_l1] at H; cases H
  rw [p_book_State_ordered_l1] at H
  conv => whnf
  refine tst_d H (fun b7 H => ?_) (fun b7 H => ?_)
  · conv => whnf
    obtain rfl := Option.some.inj H
    have H := HQ4
    try dsimp only at H
    exact fin0_c (enc := V.b) H (.inr rfl) (.cons (.tmp rfl) (.nil)) rfl rfl
  conv => whnf
  refine ixs_c (f := BookRow.v) H (fun _ => rfl) (fun x8 H => ?_); conv => whnf
  refine ⟨Nat.le_of_ble_eq_true rfl, ?_⟩; conv => whnf
  refine tst_c H (fun b9 H => ?_) (fun b9 H => ?_)
  · conv => whnf
    iterate 7 (refine Tst.T ?_; conv => whnf)
    obtain rfl := Option.some.inj H
    have H := HQ4
    try dsimp only at H
    exact fin0_c (enc := V.b) H (.inr rfl) (.cons (.tmp rfl) (.nil)) rfl rfl
  conv => whnf
  iterate 6 (refine Tst.F ?_; conv => whnf)
  refine tst_c H (fun b10 H => ?_) (fun b10 H => ?_)
  · conv => whnf
    obtain rfl := Option.some.inj H
    have H := HQ4
    try dsimp only at H
    exact fin0_c (enc := V.b) H (.inr rfl) (.cons (.tmp rfl) (.nil)) rfl rfl
  conv => whnf
  refine tst_d H (fun b11 H => ?_) (fun b11 H => ?_)
  · conv => whnf
    iterate 10 (refine Tst.F ?_; conv => whnf)
    refine FootQ.mk ⟨rfl, ?_⟩; conv => whnf
    refine Tst.F ?_; conv => whnf
    refine ⟨Nat.zero_le _, ?_⟩; conv => whnf
    refine slsH_c (f := BookRow.v) H (fun _ => rfl) (fun x19 H => ?_); conv => whnf
    refine askF_c (p_slices_ContainsFunc_book_Row_v _ _ ⟨⟨_, Try.func114, by kernel_rfl, by kernel_rfl⟩, rfl, fun x0 => p_book_State_ordered_1_v _ _⟩) H (.cons (.c (.id rfl)) (.cons (.c (.clo (.cons (.ptr rfl (Nat.le_of_ble_eq_true rfl) (.cons (.id rfl) (.cons (.id rfl) (.cons (.id rfl) (.cons (.id rfl) (.cons (.id rfl) (.cons (.id rfl) (.nil)))))))) (.nil)))) (.nil))) (fun v20 H => ?_); conv => whnf
    refine tst_c H (fun b21 H => ?_) (fun b21 H => ?_)
    · conv => whnf
      obtain rfl := Option.some.inj H
      have H := HQ4
      try dsimp only at H
      exact fin0_c (enc := V.b) H (.inr rfl) (.cons (.tmp rfl) (.nil)) rfl rfl
    conv => whnf
    refine Ari.w ?_; conv => whnf
    exact again_c [3, 4, 9, 10, 11, 12, 13, 14, 15, 16, 17, 18, 19, 20, 21, 22, 23, 24, 25, 26, 27, 28, 29, 30, 31, 32, 33, 34, 35, 36, 37, 38, 39, 40, 41, 42, 43, 44, 45, 5] n5 1 [] (⟨_, H, rfl, rfl⟩) (Nat.lt_succ_self _) (Nat.zero_le _) rfl (by kernel_rfl) (by kernel_rfl) rfl ⟨⟨rfl, rfl, rfl⟩, trivial⟩
  conv => whnf
  iterate 3 (refine Tst.T ?_; conv => whnf)
  refine Ari.w ?_; conv => whnf
  refine Tst.T ?_; conv => whnf
  refine ixs_c (f := BookRow.v) H (fun _ => rfl) (fun x12 H => ?_); conv => whnf
  iterate 2 (refine Tst.T ?_; conv => whnf)
  refine ask_c (p_book_Row_key_v _) H rfl rfl (fun v13 H => ?_); conv => whnf
  iterate 2 (refine Tst.T ?_; conv => whnf)
  refine ask_c (p_book_Row_key_v _) H rfl rfl (fun v14 H => ?_); conv => whnf
  iterate 2 (refine Tst.T ?_; conv => whnf)
  refine FootQ.mk ⟨rfl, ?_⟩; conv => whnf
  refine Tst.not ?_
  refine tst_d H (fun b15 H => ?_) (fun b15 H => ?_)
  · conv => whnf
    obtain rfl := Option.some.inj H
    have H := HQ4
    try dsimp only at H
    exact fin0_c (enc := V.b) H (.inr rfl) (.cons (.tmp rfl) (.nil)) rfl rfl
  conv => whnf
  refine ⟨Nat.zero_le _, ?_⟩; conv => whnf
  refine slsH_c (f := BookRow.v) H (fun _ => rfl) (fun x16 H => ?_); conv => whnf
  refine askF_c (p_slices_ContainsFunc_book_Row_v _ _ ⟨⟨_, Try.func114, by kernel_rfl, by kernel_rfl⟩, rfl, fun x0 => p_book_State_ordered_1_v _ _⟩) H (.cons (.c (.id rfl)) (.cons (.c (.clo (.cons (.ptr rfl (Nat.le_of_ble_eq_true rfl) (.cons (.id rfl) (.cons (.id rfl) (.cons (.id rfl) (.cons (.id rfl) (.cons (.id rfl) (.cons (.id rfl) (.nil)))))))) (.nil)))) (.nil))) (fun v17 H => ?_); conv => whnf
  refine tst_c H (fun b18 H => ?_) (fun b18 H => ?_)
  · conv => whnf
    obtain rfl := Option.some.inj H
    have H := HQ4
    try dsimp only at H
    exact fin0_c (enc := V.b) H (.inr rfl) (.cons (.tmp rfl) (.nil)) rfl rfl
  conv => whnf
  refine Ari.w ?_; conv => whnf
  exact again_c [3, 4, 9, 10, 11, 12, 13, 14, 15, 16, 17, 18, 19, 20, 21, 22, 23, 24, 25, 26, 27, 28, 29, 30, 31, 32, 33, 34, 35, 36, 37, 38, 39, 40, 41, 42, 43, 44, 45, 5] n5 1 [] (⟨_, H, rfl, rfl⟩) (Nat.lt_succ_self _) (Nat.zero_le _) rfl (by kernel_rfl) (by kernel_rfl) rfl ⟨⟨rfl, rfl, rfl⟩, trivial⟩
end Go.Proofs.Ythlhbgedidipkaa
/- That the program's functions yield what the plain ones tell (written by a program of mine). -/
namespace Go.Proofs.Ythlhbgedidipkaa
open Go.RowKit
def gc51 : BCode := (.seq (.reg 1 [⟨(some 2), .bx (.tmp 0), none, 0⟩, ⟨(some 4), .mv (.const (.int .i64 0)), none, 1⟩] none 0 []) (.seq (.reg 0 [⟨(some 5), .mv (.const (.int .i64 0)), none, 0⟩] none 0 []) (.seq (.seq (.reg 0 [⟨(some 8), .fa 1 (.tmp 2), none, 0⟩, ⟨(some 9), .ld 1 false (.tmp 8), none, 0⟩, ⟨(some 10), .lens (.tmp 9), none, 0⟩, ⟨(some 11), .mv (.const (.int .i64 0)), none, 0⟩] none 0 []) (.block 0 (.loop (.seq (.reg 0 [⟨(some 12), .bin .lss (.tmp 11) (.tmp 10), none, 0⟩] none 0 []) (.seq (.cond (.tmp 12) .skip (.exit 0)) (.seq (.block 1 (.seq (.reg 1 [⟨(some 13), .ixs 6 (.tmp 9) (.tmp 11), none, 0⟩, ⟨(some 14), .ld 6 true (.tmp 13), none, 0⟩, ⟨(some 7), .al (.agg [(.lit (.string ⟨#[]⟩)), (.lit (.string ⟨#[]⟩)), (.lit (.bool false)), (.lit (.int .i64 0)), (.lit (.int .i64 0)), (.lit (.int .i64 0))]), none, 0⟩, ⟨none, .st 6 (.tmp 7) (.tmp 14), none, 1⟩] none 0 []) (.seq (.reg 0 [⟨(some 15), .fa 0 (.tmp 7), none, 0⟩, ⟨(some 16), .ld 1 false (.tmp 15), none, 0⟩, ⟨(some 17), .mv (.tmp 1), none, 0⟩, ⟨(some 18), .bin .eql (.tmp 16) (.tmp 17), none, 0⟩] none 0 []) (.cond (.tmp 18) (.reg 0 [⟨(some 19), .mv (.tmp 5), none, 0⟩, ⟨(some 20), .bin .add (.tmp 19) (.const (.int .i64 1)), none, 0⟩, ⟨(some 5), .mv (.tmp 20), none, 0⟩] none 0 []) .skip)))) (.reg 0 [⟨(some 21), .bin .add (.tmp 11) (.const (.int .i64 1)), none, 0⟩, ⟨(some 11), .mv (.tmp 21), none, 0⟩] none 0 []))))))) (.seq (.reg 0 [⟨(some 22), .mv (.tmp 5), none, 0⟩, ⟨(some 4), .mv (.tmp 22), none, 0⟩] none 0 []) .ret))))
theorem gc51_ok : compF Try.prog Try.f51 = some (gc51.er, 23, [.tmp 4]) := by unfold gc51; kernel_rfl
set_option maxRecDepth 100000 in
set_option maxHeartbeats 4000000 in
theorem p_book_State_many_v {u1 : Bool} (a0 : BookState) (a1 : ByteArray) : CallsO Try.prog 51 [.agg [.i a0.Seq, .sl (List.map BookRow.v a0.Rows) u1], .s a1] V.i (p_book_State_many a0 a1) := by
  refine callsO_comp mix Try.func51 gc51_ok fun r H => ?_
  rw [p_book_State_many] at H
  conv => whnf
  refine LenQ.M ?_; conv => whnf
  obtain ⟨o2, HL3, HQ4⟩ := bind_c H
  refine loop_c [5, 11] [7, 12, 13, 14, 15, 16, 17, 18, 19, 20, 21, 2, 8] [7, 12, 13, 14, 15, 16, 17, 18, 19, 20, 21, 2, 8] (fun n vals st => (∃ y6 y7, p_book_State_many_l1  a1 a0.Rows (a0.Rows.length : Int) n y6 y7 = some o2 ∧ vals = [.i y6, .i y7] ∧ st = [])) fuel 0 [] (⟨_, _, HL3, rfl, rfl⟩) (Nat.zero_le _) rfl (by kernel_rfl) (by kernel_rfl) rfl trivial ?_
  rintro (_ | n5) _ _ (⟨y6, y7, H, rfl, rfl⟩)
  · rw [p_book_State_many_l1] at H; cases H
  rw [p_book_State_many_l1] at H
  conv => whnf
  refine tst_d H (fun b8 H => ?_) (fun b8 H => ?_)
  · conv => whnf
    obtain rfl := Option.some.inj H
    have H := HQ4
    try dsimp only at H
    exact fin0_c (enc := V.i) H (.inr rfl) (.cons (.tmp rfl) (.nil)) rfl rfl
  conv => whnf
  refine ixs_c (f := BookRow.v) H (fun _ => rfl) (fun x9 H => ?_); conv => whnf
  refine ⟨Nat.le_of_ble_eq_true rfl, ?_⟩; conv => whnf
  refine tst_d H (fun b10 H => ?_) (fun b10 H => ?_)
  · conv => whnf
    refine Ari.w ?_; conv => whnf
    exact again_c [7, 12, 13, 14, 15, 16, 17, 18, 19, 20, 21, 2, 8] n5 0 [] (⟨_, _, H, rfl, rfl⟩) (Nat.lt_succ_self _) (Nat.zero_le _) rfl (by kernel_rfl) (by kernel_rfl) rfl trivial
  conv => whnf
  iterate 2 (refine Ari.w ?_; conv => whnf)
  exact again_c [7, 12, 13, 14, 15, 16, 17, 18, 19, 20, 21, 2, 8] n5 0 [] (⟨_, _, H, rfl, rfl⟩) (Nat.lt_succ_self _) (Nat.zero_le _) rfl (by kernel_rfl) (by kernel_rfl) rfl trivial
def gc85 : BCode := (.seq (.reg 1 [⟨(some 2), .bx (.tmp 0), none, 0⟩, ⟨(some 3), .mv (.const (.bool false)), none, 1⟩] none 0 []) (.seq (.reg 0 [⟨(some 4), .ld 2 true (.tmp 1), none, 0⟩, ⟨(some 5), .fa 0 (.tmp 2), none, 0⟩, ⟨(some 6), .ld 1 false (.tmp 5), none, 0⟩, ⟨(some 7), .cl 51 [(.tmp 4), (.tmp 6)], none, 0⟩, ⟨(some 8), .bin .gtr (.tmp 7) (.const (.int .i64 3)), none, 0⟩, ⟨(some 3), .mv (.tmp 8), none, 0⟩] none 0 []) .ret))
theorem gc85_ok : compF Try.prog Try.f85 = some (gc85.er, 9, [.tmp 3]) := by unfold gc85; kernel_rfl
set_option maxRecDepth 100000 in
set_option maxHeartbeats 4000000 in
theorem p_book_Check_2_v {u1 : Bool} (a0 : BookRow) (c0 : BookState) : CallsO Try.prog 85 [.agg [.s a0.User, .s a0.Res, .b a0.P.On, .i a0.P.Show, .i a0.P.Prio, .i a0.P.Seq], .eptr [.i c0.Seq, .sl (List.map BookRow.v c0.Rows) u1]] V.b (p_book_Check_2 a0 c0) := by
  refine callsO_comp mix Try.func85 gc85_ok fun r H => ?_
  rw [p_book_Check_2] at H
  conv => whnf
  refine ask_c (p_book_State_many_v _ _) H rfl rfl (fun v1 H => ?_); conv => whnf
  exact fin0_c (enc := V.b) H (.inr rfl) (.cons (.tmp rfl) (.nil)) rfl rfl
def gc47 : BCode := (.seq (.reg 1 [⟨(some 1), .bx (.tmp 0), none, 0⟩, ⟨(some 2), .mv (.const (.int .i64 0)), none, 1⟩] none 0 []) (.seq (.block 0 (.seq (.reg 0 [⟨(some 5), .fa 1 (.tmp 1), none, 0⟩, ⟨(some 6), .ld 1 false (.tmp 5), none, 0⟩, ⟨(some 7), .lens (.tmp 6), none, 0⟩, ⟨(some 8), .bin .gtr (.tmp 7) (.const (.int .i64 16)), none, 0⟩, ⟨(some 4), .mv (.tmp 8), none, 0⟩] none 0 []) (.cond (.tmp 4) (.seq (.reg 0 [⟨(some 2), .mv (.const (.int .i64 5)), none, 0⟩] none 0 []) .ret) (.seq (.seq (.reg 0 [⟨(some 10), .fa 0 (.tmp 1), none, 0⟩, ⟨(some 11), .ld 1 false (.tmp 10), none, 0⟩, ⟨(some 12), .bin .lss (.tmp 11) (.const (.int .i64 0)), none, 0⟩, ⟨(some 9), .mv (.tmp 12), none, 0⟩] none 0 []) (.cond (.tmp 9) .skip (.reg 0 [⟨(some 13), .fa 0 (.tmp 1), none, 0⟩, ⟨(some 14), .ld 1 false (.tmp 13), none, 0⟩, ⟨(some 15), .bin .gtr (.tmp 14) (.const (.int .i64 1099511627776)), none, 0⟩, ⟨(some 9), .mv (.tmp 15), none, 0⟩] none 0 []))) (.cond (.tmp 9) (.seq (.reg 0 [⟨(some 2), .mv (.const (.int .i64 8)), none, 0⟩] none 0 []) .ret) (.seq (.reg 0 [⟨(some 17), .fa 1 (.tmp 1), none, 0⟩, ⟨(some 18), .ld 1 false (.tmp 17), none, 0⟩, ⟨(some 19), .cl 81 [(.tmp 18), (.func 82)], none, 0⟩, ⟨(some 16), .mv (.tmp 19), none, 0⟩] none 0 []) (.cond (.tmp 16) (.seq (.reg 0 [⟨(some 2), .mv (.const (.int .i64 11)), none, 0⟩] none 0 []) .ret) .skip))))))) (.seq (.seq (.reg 0 [⟨(some 20), .ld 2 true (.tmp 1), none, 0⟩, ⟨(some 21), .cl 83 [(.tmp 20)], none, 0⟩, ⟨(some 3), .mv (.tmp 21), none, 0⟩] none 0 []) (.seq (.reg 0 [⟨(some 22), .mv (.tmp 3), none, 0⟩, ⟨(some 23), .bin .neq (.tmp 22) (.const (.int .i64 0)), none, 0⟩] none 0 []) (.cond (.tmp 23) (.seq (.reg 0 [⟨(some 24), .mv (.tmp 3), none, 0⟩, ⟨(some 2), .mv (.tmp 24), none, 0⟩] none 0 []) .ret) .skip))) (.seq (.block 1 (.seq (.reg 0 [⟨(some 26), .ld 2 true (.tmp 1), none, 0⟩, ⟨(some 27), .cl 84 [(.tmp 26)], none, 0⟩, ⟨(some 28), .un .not (.tmp 27), none, 0⟩, ⟨(some 25), .mv (.tmp 28), none, 0⟩] none 0 []) (.cond (.tmp 25) (.seq (.reg 0 [⟨(some 2), .mv (.const (.int .i64 10)), none, 0⟩] none 0 []) .ret) (.seq (.reg 0 [⟨(some 30), .fa 1 (.tmp 1), none, 0⟩, ⟨(some 31), .ld 1 false (.tmp 30), none, 0⟩, ⟨(some 32), .mf (.func 85) [(.tmp 1)], none, 0⟩, ⟨(some 33), .cl 81 [(.tmp 31), (.tmp 32)], none, 0⟩, ⟨(some 29), .mv (.tmp 33), none, 0⟩] none 0 [1]) (.cond (.tmp 29) (.seq (.reg 0 [⟨(some 2), .mv (.const (.int .i64 7)), none, 0⟩] none 0 []) .ret) .skip))))) (.seq (.reg 0 [⟨(some 2), .mv (.const (.int .i64 0)), none, 0⟩] none 0 []) .ret)))))
theorem gc47_ok : compF Try.prog Try.f47 = some (gc47.er, 34, [.tmp 2]) := by unfold gc47; kernel_rfl
set_option maxRecDepth 100000 in
set_option maxHeartbeats 4000000 in
theorem p_book_Check_v {u1 : Bool} (a0 : BookState) : CallsO Try.prog 47 [.agg [.i a0.Seq, .sl (List.map BookRow.v a0.Rows) u1]] V.i (p_book_Check a0) := by
  refine callsO_comp mix Try.func47 gc47_ok fun r H => ?_
  rw [p_book_Check] at H
  conv => whnf
  refine LenQ.M ?_; conv => whnf
  refine tst_c H (fun b1 H => ?_) (fun b1 H => ?_)
  · conv => whnf
    exact fin0_c (enc := V.i) H (.inr rfl) (.cons (.tmp rfl) (.nil)) rfl rfl
  conv => whnf
  refine tst_c H (fun b2 H => ?_) (fun b2 H => ?_)
  · conv => whnf
    refine Tst.T ?_; conv => whnf
    exact fin0_c (enc := V.i) H (.inr rfl) (.cons (.tmp rfl) (.nil)) rfl rfl
  conv => whnf
  refine tst_c H (fun b3 H => ?_) (fun b3 H => ?_)
  · conv => whnf
    exact fin0_c (enc := V.i) H (.inr rfl) (.cons (.tmp rfl) (.nil)) rfl rfl
  conv => whnf
  refine askF_c (p_slices_ContainsFunc_book_Row_v _ _ ⟨⟨_, Try.func82, by kernel_rfl, by kernel_rfl⟩, rfl, fun x0 => p_book_Check_1_v _⟩) H (.cons (.c (.slw)) (.cons (.c (.clo (.nil))) (.nil))) (fun v4 H => ?_); conv => whnf
  refine tst_c H (fun b5 H => ?_) (fun b5 H => ?_)
  · conv => whnf
    exact fin0_c (enc := V.i) H (.inr rfl) (.cons (.tmp rfl) (.nil)) rfl rfl
  conv => whnf
  refine ask_c (p_book_State_errors_v _) H rfl rfl (fun v6 H => ?_); conv => whnf
  refine tst_c H (fun b7 H => ?_) (fun b7 H => ?_)
  · conv => whnf
    exact fin0_c (enc := V.i) H (.inr rfl) (.cons (.tmp rfl) (.nil)) rfl rfl
  conv => whnf
  refine ask_c (p_book_State_ordered_v _) H rfl rfl (fun v8 H => ?_); conv => whnf
  refine Tst.not ?_
  refine tst_d H (fun b9 H => ?_) (fun b9 H => ?_)
  · conv => whnf
    exact fin0_c (enc := V.i) H (.inr rfl) (.cons (.tmp rfl) (.nil)) rfl rfl
  conv => whnf
  refine ⟨Nat.zero_le _, ?_⟩; conv => whnf
  refine askF_c (p_slices_ContainsFunc_book_Row_v _ _ ⟨⟨_, Try.func85, by kernel_rfl, by kernel_rfl⟩, rfl, fun x0 => p_book_Check_2_v _ _⟩) H (.cons (.c (.slw)) (.cons (.c (.clo (.cons (.ptr rfl (Nat.le_of_ble_eq_true rfl) (.cons (.id rfl) (.cons (.id rfl) (.nil)))) (.nil)))) (.nil))) (fun v10 H => ?_); conv => whnf
  refine tst_c H (fun b11 H => ?_) (fun b11 H => ?_)
  · conv => whnf
    exact fin0_c (enc := V.i) H (.inr rfl) (.cons (.tmp rfl) (.nil)) rfl rfl
  conv => whnf
  exact fin0_c (enc := V.i) H (.inr rfl) (.cons (.tmp rfl) (.nil)) rfl rfl
def gc87 : BCode := (.seq (.reg 1 [⟨(some 2), .bx (.tmp 0), none, 0⟩, ⟨(some 4), .mv (.const (.int .i64 0)), none, 1⟩] none 0 []) (.seq (.reg 0 [⟨(some 5), .ld 6 true (.tmp 2), none, 0⟩, ⟨(some 6), .cl 49 [(.tmp 5)], none, 0⟩, ⟨(some 7), .mv (.tmp 1), none, 0⟩, ⟨(some 8), .cl 88 [(.tmp 6), (.tmp 7)], none, 0⟩, ⟨(some 4), .mv (.tmp 8), none, 0⟩] none 0 []) .ret))
theorem gc87_ok : compF Try.prog Try.f87 = some (gc87.er, 9, [.tmp 4]) := by unfold gc87; kernel_rfl
set_option maxRecDepth 100000 in
set_option maxHeartbeats 4000000 in
theorem p_book_State_find_1_v (a0 : BookRow) (a1 : ByteArray) : CallsO Try.prog 87 [.agg [.s a0.User, .s a0.Res, .b a0.P.On, .i a0.P.Show, .i a0.P.Prio, .i a0.P.Seq], .s a1] V.i (p_book_State_find_1 a0 a1) := by
  refine callsO_comp mix Try.func87 gc87_ok fun r H => ?_
  rw [p_book_State_find_1] at H
  conv => whnf
  refine ask_c (p_book_Row_key_v _) H rfl rfl (fun v1 H => ?_); conv => whnf
  refine ask_c (p_strings_Compare_v _ _) H rfl rfl (fun v2 H => ?_); conv => whnf
  exact fin0_c (enc := V.i) H (.inr rfl) (.cons (.tmp rfl) (.nil)) rfl rfl
def gc86 : BCode := (.seq (.reg 0 [⟨(some 6), .mv (.const (.int .i64 0)), none, 0⟩, ⟨(some 7), .mv (.const (.bool false)), none, 0⟩] none 0 []) (.seq (.reg 0 [⟨(some 12), .mv (.tmp 0), none, 0⟩, ⟨(some 13), .lens (.tmp 12), none, 0⟩, ⟨(some 8), .mv (.tmp 13), none, 0⟩] none 0 []) (.seq (.reg 0 [⟨(some 14), .mv (.tmp 8), none, 0⟩, ⟨(some 9), .mv (.const (.int .i64 0)), none, 0⟩, ⟨(some 10), .mv (.tmp 14), none, 0⟩] none 0 []) (.seq (.block 0 (.loop (.seq (.seq (.reg 0 [⟨(some 15), .mv (.tmp 9), none, 0⟩, ⟨(some 16), .mv (.tmp 10), none, 0⟩, ⟨(some 17), .bin .lss (.tmp 15) (.tmp 16), none, 0⟩] none 0 []) (.cond (.tmp 17) .skip (.exit 0))) (.block 1 (.seq (.reg 0 [⟨(some 18), .mv (.tmp 9), none, 0⟩, ⟨(some 19), .mv (.tmp 10), none, 0⟩, ⟨(some 20), .bin .add (.tmp 18) (.tmp 19), none, 0⟩, ⟨(some 21), .cvi .u64 (.tmp 20), none, 0⟩, ⟨(some 22), .bin .shr (.tmp 21) (.const (.int .u64 1)), none, 0⟩, ⟨(some 23), .cvi .i64 (.tmp 22), none, 0⟩, ⟨(some 11), .mv (.tmp 23), none, 0⟩] none 0 []) (.seq (.reg 0 [⟨(some 24), .mv (.tmp 2), none, 0⟩, ⟨(some 25), .mv (.tmp 0), none, 0⟩, ⟨(some 26), .mv (.tmp 11), none, 0⟩, ⟨(some 27), .ixs 6 (.tmp 25) (.tmp 26), none, 0⟩, ⟨(some 28), .ld 6 true (.tmp 27), none, 0⟩, ⟨(some 29), .mv (.tmp 1), none, 0⟩, ⟨(some 30), .cv (.tmp 24) [(.tmp 28), (.tmp 29)], none, 0⟩, ⟨(some 31), .bin .lss (.tmp 30) (.const (.int .i64 0)), none, 0⟩] none 0 []) (.cond (.tmp 31) (.reg 0 [⟨(some 32), .mv (.tmp 11), none, 0⟩, ⟨(some 33), .bin .add (.tmp 32) (.const (.int .i64 1)), none, 0⟩, ⟨(some 9), .mv (.tmp 33), none, 0⟩] none 0 []) (.reg 0 [⟨(some 34), .mv (.tmp 11), none, 0⟩, ⟨(some 10), .mv (.tmp 34), none, 0⟩] none 0 [])))))))) (.seq (.reg 0 [⟨(some 35), .mv (.tmp 9), none, 0⟩, ⟨(some 36), .mv (.tmp 9), none, 0⟩, ⟨(some 37), .mv (.tmp 8), none, 0⟩, ⟨(some 38), .bin .lss (.tmp 36) (.tmp 37), none, 0⟩, ⟨(some 39), .mv (.tmp 38), none, 0⟩, ⟨(some 40), .mv (.tmp 2), (some (39, true)), 0⟩, ⟨(some 41), .mv (.tmp 0), (some (39, true)), 0⟩, ⟨(some 42), .mv (.tmp 9), (some (39, true)), 0⟩, ⟨(some 43), .ixs 6 (.tmp 41) (.tmp 42), (some (39, true)), 0⟩, ⟨(some 44), .ld 6 true (.tmp 43), (some (39, true)), 0⟩, ⟨(some 45), .mv (.tmp 1), (some (39, true)), 0⟩, ⟨(some 46), .cv (.tmp 40) [(.tmp 44), (.tmp 45)], (some (39, true)), 0⟩, ⟨(some 47), .bin .eql (.tmp 46) (.const (.int .i64 0)), (some (39, true)), 0⟩, ⟨(some 48), .pick (.tmp 39) (.tmp 47) (.const (.bool false)), none, 0⟩, ⟨(some 6), .mv (.tmp 35), none, 0⟩, ⟨(some 7), .mv (.tmp 48), none, 0⟩] none 0 []) .ret)))))
theorem gc86_ok : compF Try.prog Try.f86 = some (gc86.er, 49, [.tmp 6, .tmp 7]) := by unfold gc86; kernel_rfl
set_option maxRecDepth 100000 in
set_option maxHeartbeats 4000000 in
theorem p_slices_BinarySearchFunc_book_Row_v {u1 : Bool} (a0 : List BookRow) (a1 : ByteArray) (a2 : BookRow → ByteArray → Option Int) {a2_g : Nat} {a2_k : List V} (a2_h : Clo2 Try.prog a2_g a2_k BookRow.v V.s V.i a2) : CallsO Try.prog 86 [.sl (List.map BookRow.v a0) u1, .s a1, .clo (.func a2_g) a2_k] (fun r : Int × Bool => .tup [V.i r.1, V.b r.2]) (p_slices_BinarySearchFunc_book_Row a0 a1 a2) := by
  refine callsO_comp mix Try.func86 gc86_ok fun r H => ?_
  rw [p_slices_BinarySearchFunc_book_Row] at H
  conv => whnf
  refine LenQ.M ?_; conv => whnf
  obtain ⟨o2, HL3, HQ4⟩ := bind_c H
  refine loop_c [9, 10] [11, 15, 16, 17, 18, 19, 20, 21, 22, 23, 24, 25, 26, 27, 28, 29, 30, 31, 32, 33, 34] [11, 15, 16, 17, 18, 19, 20, 21, 22, 23, 24, 25, 26, 27, 28, 29, 30, 31, 32, 33, 34] (fun n vals st => (∃ y6 y7, p_slices_BinarySearchFunc_book_Row_l1  a2 a0 a1 n y6 y7 = some o2 ∧ vals = [.i y6, .i y7] ∧ st = [])) fuel 0 [] (⟨_, _, HL3, rfl, rfl⟩) (Nat.zero_le _) rfl (by simp only [maskF, setF, List.set_cons_zero, List.set_cons_succ, V.ren.renL, V.ren, renL_id _ a2_h.own] <;> rfl) (by simp only [maskF, setF, List.set_cons_zero, List.set_cons_succ, V.idlt.belowL, V.idlt, fun n => idltL_up (n := n) _ a2_h.own] <;> rfl) rfl trivial ?_
  rintro (_ | n5) _ _ (⟨y6, y7, H, rfl, rfl⟩)
  · rw [p_slices_BinarySearchFunc_book_Row_l1] at H; cases H
  rw [p_slices_BinarySearchFunc_book_Row_l1] at H
  conv => whnf
  refine tst_d H (fun b8 H => ?_) (fun b8 H => ?_)
  · conv => whnf
    obtain rfl := Option.some.inj H
    have H := HQ4
    try dsimp only at H
    refine tst_d H (fun b12 H => ?_) (fun b12 H => ?_)
    · conv => whnf
      iterate 8 (refine Tst.F ?_; conv => whnf)
      exact fin0_c (enc := (fun r : Int × Bool => .tup [V.i r.1, V.b r.2])) H (.inr rfl) (.cons (.tmp rfl) (.cons (.tmp rfl) (.nil))) rfl rfl
    conv => whnf
    iterate 3 (refine Tst.T ?_; conv => whnf)
    refine ixs_c (f := BookRow.v) H (fun _ => rfl) (fun x13 H => ?_); conv => whnf
    iterate 3 (refine Tst.T ?_; conv => whnf)
    refine askC2_c a2_h H (.cons (fzagg (.cons (.id rfl) (.cons (.id rfl) (.cons (.id rfl) (.cons (.id rfl) (.cons (.id rfl) (.cons (.id rfl) (.nil))))))) rfl) (.cons (.c (.id rfl)) (.nil))) (fun v14 H => ?_); conv => whnf
    iterate 2 (refine Tst.T ?_; conv => whnf)
    exact fin0_c (enc := (fun r : Int × Bool => .tup [V.i r.1, V.b r.2])) H (.inr rfl) (.cons (.tmp rfl) (.cons (.tmp rfl) (.nil))) rfl rfl
  conv => whnf
  iterate 2 (refine Ari.w ?_; conv => whnf)
  refine Shr.ok (by decide) ?_; conv => whnf
  refine Ari.w ?_; conv => whnf
  refine ixs_c (f := BookRow.v) H (fun _ => rfl) (fun x9 H => ?_); conv => whnf
  refine askC2_c a2_h H (.cons (fzagg (.cons (.id rfl) (.cons (.id rfl) (.cons (.id rfl) (.cons (.id rfl) (.cons (.id rfl) (.cons (.id rfl) (.nil))))))) rfl) (.cons (.c (.id rfl)) (.nil))) (fun v10 H => ?_); conv => whnf
  refine tst_d H (fun b11 H => ?_) (fun b11 H => ?_)
  · conv => whnf
    exact again_c [11, 15, 16, 17, 18, 19, 20, 21, 22, 23, 24, 25, 26, 27, 28, 29, 30, 31, 32, 33, 34] n5 0 [] (⟨_, _, H, rfl, rfl⟩) (Nat.lt_succ_self _) (Nat.zero_le _) rfl (by simp only [maskF, setF, List.set_cons_zero, List.set_cons_succ, V.ren.renL, V.ren, renL_id _ a2_h.own] <;> rfl) (by simp only [maskF, setF, List.set_cons_zero, List.set_cons_succ, V.idlt.belowL, V.idlt, fun n => idltL_up (n := n) _ a2_h.own] <;> rfl) rfl trivial
  conv => whnf
  refine Ari.w ?_; conv => whnf
  exact again_c [11, 15, 16, 17, 18, 19, 20, 21, 22, 23, 24, 25, 26, 27, 28, 29, 30, 31, 32, 33, 34] n5 0 [] (⟨_, _, H, rfl, rfl⟩) (Nat.lt_succ_self _) (Nat.zero_le _) rfl (by simp only [maskF, setF, List.set_cons_zero, List.set_cons_succ, V.ren.renL, V.ren, renL_id _ a2_h.own] <;> rfl) (by simp only [maskF, setF, List.set_cons_zero, List.set_cons_succ, V.idlt.belowL, V.idlt, fun n => idltL_up (n := n) _ a2_h.own] <;> rfl) rfl trivial
def gc48 : BCode := (.seq (.reg 1 [⟨(some 2), .bx (.tmp 0), none, 0⟩, ⟨(some 4), .mv (.const (.int .i64 0)), none, 1⟩, ⟨(some 5), .mv (.const (.bool false)), none, 1⟩] none 0 []) (.seq (.reg 0 [⟨(some 6), .fa 1 (.tmp 2), none, 0⟩, ⟨(some 7), .ld 1 false (.tmp 6), none, 0⟩, ⟨(some 8), .mv (.tmp 1), none, 0⟩, ⟨(some 9), .cl 86 [(.tmp 7), (.tmp 8), (.func 87)], none, 0⟩, ⟨(some 10), .ex (.tmp 9) 0, none, 0⟩, ⟨(some 11), .ex (.tmp 9) 1, none, 0⟩, ⟨(some 4), .mv (.tmp 10), none, 0⟩, ⟨(some 5), .mv (.tmp 11), none, 0⟩] none 0 []) .ret))
theorem gc48_ok : compF Try.prog Try.f48 = some (gc48.er, 12, [.tmp 4, .tmp 5]) := by unfold gc48; kernel_rfl
set_option maxRecDepth 100000 in
set_option maxHeartbeats 4000000 in
theorem p_book_State_find_v {u1 : Bool} (a0 : BookState) (a1 : ByteArray) : CallsO Try.prog 48 [.agg [.i a0.Seq, .sl (List.map BookRow.v a0.Rows) u1], .s a1] (fun r : Int × Bool => .tup [V.i r.1, V.b r.2]) (p_book_State_find a0 a1) := by
  refine callsO_comp mix Try.func48 gc48_ok fun r H => ?_
  rw [p_book_State_find] at H
  conv => whnf
  refine askF_c (p_slices_BinarySearchFunc_book_Row_v _ _ _ ⟨⟨_, Try.func87, by kernel_rfl, by kernel_rfl⟩, rfl, fun x0 x1 => p_book_State_find_1_v _ _⟩) H (.cons (.c (.slw)) (.cons (.c (.id rfl)) (.cons (.c (.clo (.nil))) (.nil)))) (fun v1 H => ?_); conv => whnf
  exact fin0_c (enc := (fun r : Int × Bool => .tup [V.i r.1, V.b r.2])) H (.inr rfl) (.cons (.tmp rfl) (.cons (.tmp rfl) (.nil))) rfl rfl
end Go.Proofs.Ythlhbgedidipkaa
/- That the program's functions yield what the plain ones tell (written by a program of mine). -/
namespace Go.Proofs.Ythlhbgedidipkaa
open Go.RowKit
def gc13 : BCode := (.seq (.reg 3 [⟨(some 5), .bx (.tmp 0), none, 0⟩, ⟨(some 10), .al (.agg [(.lit (.int .i64 0)), (.sl [] true)]), none, 1⟩, ⟨(some 11), .al (.agg [(.lit (.bool false)), (.lit (.int .i64 0)), (.lit (.int .i64 0)), (.lit (.int .i64 0))]), none, 2⟩, ⟨(some 12), .mv (.const (.int .i64 0)), none, 3⟩] none 0 []) (.seq (.reg 1 [⟨(some 13), .al (.agg [(.lit (.bool false)), (.lit (.int .i64 0)), (.lit (.int .i64 0)), (.lit (.int .i64 0))]), none, 0⟩] none 0 []) (.seq (.seq (.reg 0 [⟨(some 20), .ld 2 true (.tmp 5), none, 0⟩, ⟨(some 21), .cl 47 [(.tmp 20)], none, 0⟩, ⟨(some 14), .mv (.tmp 21), none, 0⟩] none 0 []) (.seq (.reg 0 [⟨(some 22), .mv (.tmp 14), none, 0⟩, ⟨(some 23), .bin .neq (.tmp 22) (.const (.int .i64 0)), none, 0⟩] none 0 []) (.cond (.tmp 23) (.seq (.reg 0 [⟨(some 24), .ld 2 true (.tmp 5), none, 0⟩, ⟨(some 25), .ld 4 true (.tmp 13), none, 0⟩, ⟨(some 26), .mv (.tmp 14), none, 0⟩, ⟨none, .st 2 (.tmp 10) (.tmp 24), none, 0⟩, ⟨none, .st 4 (.tmp 11) (.tmp 25), none, 0⟩, ⟨(some 12), .mv (.tmp 26), none, 0⟩] (some [[], [], [], [0], [0, 3, 1], [1, 3, 0, 4, 2]]) 0 []) .ret) .skip))) (.seq (.reg 1 [⟨(some 27), .mv (.tmp 1), none, 0⟩, ⟨(some 28), .mv (.tmp 2), none, 0⟩, ⟨(some 29), .mv (.tmp 3), none, 0⟩, ⟨(some 30), .mv (.tmp 4), none, 0⟩, ⟨(some 31), .bd [(.lit (.bool false)), (.lit (.int .i64 0)), (.lit (.int .i64 0)), (.lit (.int .i64 0))] [(0, 1, (.const (.bool true))), (1, 1, (.tmp 29)), (2, 1, (.tmp 30))], none, 0⟩, ⟨(some 32), .bd [(.lit (.string ⟨#[]⟩)), (.lit (.string ⟨#[]⟩)), (.lit (.bool false)), (.lit (.int .i64 0)), (.lit (.int .i64 0)), (.lit (.int .i64 0))] [(0, 1, (.tmp 27)), (1, 1, (.tmp 28)), (2, 4, (.tmp 31))], none, 0⟩, ⟨(some 15), .al (.agg [(.lit (.string ⟨#[]⟩)), (.lit (.string ⟨#[]⟩)), (.lit (.bool false)), (.lit (.int .i64 0)), (.lit (.int .i64 0)), (.lit (.int .i64 0))]), none, 0⟩, ⟨none, .st 6 (.tmp 15) (.tmp 32), none, 1⟩] none 0 []) (.seq (.seq (.reg 0 [⟨(some 33), .ld 6 true (.tmp 15), none, 0⟩, ⟨(some 34), .cl 49 [(.tmp 33)], none, 0⟩, ⟨(some 35), .bin .eql (.tmp 34) (.const (.string ⟨#[]⟩)), none, 0⟩] none 0 []) (.cond (.tmp 35) (.seq (.reg 0 [⟨(some 36), .ld 2 true (.tmp 5), none, 0⟩, ⟨(some 37), .ld 4 true (.tmp 13), none, 0⟩, ⟨none, .st 2 (.tmp 10) (.tmp 36), none, 0⟩, ⟨none, .st 4 (.tmp 11) (.tmp 37), none, 0⟩, ⟨(some 12), .mv (.const (.int .i64 11)), none, 0⟩] (some [[], [], [0], [0, 2, 1], [1, 2, 0, 3]]) 0 []) .ret) .skip)) (.seq (.seq (.reg 0 [⟨(some 38), .fa 2 (.tmp 15), none, 0⟩, ⟨(some 39), .ld 4 true (.tmp 38), none, 0⟩, ⟨(some 40), .cl 50 [(.tmp 39)], none, 0⟩, ⟨(some 16), .mv (.tmp 40), none, 0⟩] none 0 []) (.seq (.reg 0 [⟨(some 41), .mv (.tmp 16), none, 0⟩, ⟨(some 42), .bin .neq (.tmp 41) (.const (.int .i64 0)), none, 0⟩] none 0 []) (.cond (.tmp 42) (.seq (.reg 0 [⟨(some 43), .ld 2 true (.tmp 5), none, 0⟩, ⟨(some 44), .ld 4 true (.tmp 13), none, 0⟩, ⟨(some 45), .mv (.tmp 16), none, 0⟩, ⟨none, .st 2 (.tmp 10) (.tmp 43), none, 0⟩, ⟨none, .st 4 (.tmp 11) (.tmp 44), none, 0⟩, ⟨(some 12), .mv (.tmp 45), none, 0⟩] (some [[], [], [], [0], [0, 3, 1], [1, 3, 0, 4, 2]]) 0 []) .ret) .skip))) (.seq (.reg 0 [⟨(some 47), .ld 2 true (.tmp 5), none, 0⟩, ⟨(some 48), .ld 6 true (.tmp 15), none, 0⟩, ⟨(some 49), .cl 49 [(.tmp 48)], none, 0⟩, ⟨(some 50), .cl 48 [(.tmp 47), (.tmp 49)], none, 0⟩, ⟨(some 46), .mv (.tmp 50), none, 0⟩, ⟨(some 51), .ex (.tmp 46) 0, none, 0⟩, ⟨(some 52), .ex (.tmp 46) 1, none, 0⟩, ⟨(some 17), .mv (.tmp 51), none, 0⟩, ⟨(some 18), .mv (.tmp 52), none, 0⟩] (some [[], [], [1], [1, 2, 0], [0, 2, 1, 3], [3, 1, 2, 0, 4], [3, 1, 2, 0, 4], [4, 0, 2, 1, 3, 5], [5, 7, 4, 0, 2, 1, 3, 6]]) 0 []) (.seq (.seq (.reg 0 [⟨(some 53), .mv (.tmp 18), none, 0⟩, ⟨(some 54), .un .not (.tmp 53), none, 0⟩, ⟨(some 55), .mv (.tmp 54), none, 0⟩, ⟨(some 56), .fa 1 (.tmp 5), (some (55, true)), 0⟩, ⟨(some 57), .ld 1 false (.tmp 56), (some (55, true)), 0⟩, ⟨(some 58), .lens (.tmp 57), (some (55, true)), 0⟩, ⟨(some 59), .bin .geq (.tmp 58) (.const (.int .i64 16)), (some (55, true)), 0⟩, ⟨(some 60), .mv (.tmp 59), (some (55, true)), 0⟩, ⟨(some 61), .ld 2 true (.tmp 5), (some (60, false)), 0⟩, ⟨(some 62), .mv (.tmp 1), (some (60, false)), 0⟩, ⟨(some 63), .cl 51 [(.tmp 61), (.tmp 62)], (some (60, false)), 0⟩, ⟨(some 64), .bin .geq (.tmp 63) (.const (.int .i64 3)), (some (60, false)), 0⟩, ⟨(some 65), .pick (.tmp 60) (.const (.bool true)) (.tmp 64), (some (55, true)), 0⟩, ⟨(some 66), .pick (.tmp 55) (.tmp 65) (.const (.bool false)), none, 0⟩] none 0 []) (.cond (.tmp 66) (.seq (.reg 0 [⟨(some 67), .ld 2 true (.tmp 5), none, 0⟩, ⟨(some 68), .ld 4 true (.tmp 13), none, 0⟩, ⟨none, .st 2 (.tmp 10) (.tmp 67), none, 0⟩, ⟨none, .st 4 (.tmp 11) (.tmp 68), none, 0⟩, ⟨(some 12), .mv (.const (.int .i64 7)), none, 0⟩] (some [[], [], [0], [0, 2, 1], [1, 2, 0, 3]]) 0 []) .ret) .skip)) (.seq (.seq (.reg 0 [⟨(some 69), .fa 0 (.tmp 5), none, 0⟩, ⟨(some 70), .ld 1 false (.tmp 69), none, 0⟩, ⟨(some 71), .bin .geq (.tmp 70) (.const (.int .i64 1099511627776)), none, 0⟩] none 0 []) (.cond (.tmp 71) (.seq (.reg 0 [⟨(some 72), .ld 2 true (.tmp 5), none, 0⟩, ⟨(some 73), .ld 4 true (.tmp 13), none, 0⟩, ⟨none, .st 2 (.tmp 10) (.tmp 72), none, 0⟩, ⟨none, .st 4 (.tmp 11) (.tmp 73), none, 0⟩, ⟨(some 12), .mv (.const (.int .i64 9)), none, 0⟩] (some [[], [], [0], [0, 2, 1], [1, 2, 0, 3]]) 0 []) .ret) .skip)) (.seq (.reg 0 [⟨(some 74), .fa 0 (.tmp 5), none, 0⟩, ⟨(some 75), .ld 1 false (.tmp 74), none, 0⟩, ⟨(some 76), .bin .add (.tmp 75) (.const (.int .i64 1)), none, 0⟩, ⟨(some 77), .fa 0 (.tmp 5), none, 0⟩, ⟨none, .st 1 (.tmp 77) (.tmp 76), none, 0⟩] none 0 []) (.seq (.reg 0 [⟨(some 78), .fa 0 (.tmp 5), none, 0⟩, ⟨(some 79), .ld 1 false (.tmp 78), none, 0⟩, ⟨(some 80), .fa 2 (.tmp 15), none, 0⟩, ⟨(some 81), .fa 3 (.tmp 80), none, 0⟩, ⟨none, .st 1 (.tmp 81) (.tmp 79), none, 0⟩] none 0 []) (.seq (.reg 0 [⟨(some 82), .fa 1 (.tmp 5), none, 0⟩, ⟨(some 83), .ld 1 false (.tmp 82), none, 0⟩, ⟨(some 84), .mv (.tmp 17), none, 0⟩, ⟨(some 85), .sls 6 (.tmp 83) (some (.tmp 84)) none none, none, 0⟩, ⟨(some 19), .mv (.tmp 85), none, 0⟩] none 0 []) (.seq (.seq (.reg 0 [⟨(some 86), .mv (.tmp 18), none, 0⟩] none 0 []) (.cond (.tmp 86) (.reg 0 [⟨(some 87), .fa 1 (.tmp 5), none, 0⟩, ⟨(some 88), .ld 1 false (.tmp 87), none, 0⟩, ⟨(some 89), .mv (.tmp 17), none, 0⟩, ⟨(some 90), .bin .add (.tmp 89) (.const (.int .i64 1)), none, 0⟩, ⟨(some 91), .sls 6 (.tmp 88) (some (.tmp 90)) none none, none, 0⟩, ⟨(some 19), .mv (.tmp 91), none, 0⟩] none 0 []) .skip)) (.seq (.reg 3 [⟨(some 92), .fa 1 (.tmp 5), none, 0⟩, ⟨(some 93), .ld 1 false (.tmp 92), none, 0⟩, ⟨(some 94), .mv (.tmp 17), none, 0⟩, ⟨(some 95), .mv (.tmp 17), none, 0⟩, ⟨(some 96), .sls 6 (.tmp 93) none (some (.tmp 94)) (some (.tmp 95)), none, 0⟩, ⟨(some 97), .ld 6 true (.tmp 15), none, 0⟩, ⟨(some 98), .bs 6 1 [(.lit (.string ⟨#[]⟩)), (.lit (.string ⟨#[]⟩)), (.lit (.bool false)), (.lit (.int .i64 0)), (.lit (.int .i64 0)), (.lit (.int .i64 0))] [(0, (.tmp 97))], none, 0⟩, ⟨(some 99), .ap 6 64 (.tmp 96) (.tmp 98), none, 1⟩, ⟨(some 100), .mv (.tmp 19), none, 2⟩, ⟨(some 101), .ap 6 64 (.tmp 99) (.tmp 100), none, 2⟩, ⟨(some 102), .fa 1 (.tmp 5), none, 3⟩, ⟨none, .st 1 (.tmp 102) (.tmp 101), none, 3⟩] (some [[], [0], [], [], [3, 2, 0, 1], [], [5], [5, 6, 1, 0, 2, 3, 4], [], [8, 4, 3, 2, 0, 1, 6, 5, 7], [9, 8, 7, 6, 5, 4, 3, 2, 1, 0], [0, 1, 2, 3, 4, 5, 6, 7, 8, 9, 10]]) 0 []) (.seq (.reg 0 [⟨(some 103), .ld 2 true (.tmp 5), none, 0⟩, ⟨(some 104), .fa 2 (.tmp 15), none, 0⟩, ⟨(some 105), .ld 4 true (.tmp 104), none, 0⟩, ⟨none, .st 2 (.tmp 10) (.tmp 103), none, 0⟩, ⟨none, .st 4 (.tmp 11) (.tmp 105), none, 0⟩, ⟨(some 12), .mv (.const (.int .i64 0)), none, 0⟩] (some [[], [], [1], [0], [0, 3, 1, 2], [2, 1, 3, 0, 4]]) 0 []) .ret)))))))))))))))
set_option maxRecDepth 1000000 in
theorem gc13_ok : compF Try.prog Try.f13 = some (gc13.er, 106, [.cell 10 2 true, .cell 11 4 true, .tmp 12]) := by unfold gc13; kernel_rfl
set_option maxRecDepth 100000 in
set_option maxHeartbeats 4000000 in
theorem p_book_Set_v {u1 : Bool} (a0 : BookState) (a1 : ByteArray) (a2 : ByteArray) (a3 : Int) (a4 : Int) : CallsO Try.prog 13 [.agg [.i a0.Seq, .sl (List.map BookRow.v a0.Rows) u1], .s a1, .s a2, .i a3, .i a4] (fun r : BookState × PresPres × Int => .tup [BookState.v r.1, PresPres.v r.2.1, V.i r.2.2]) (p_book_Set a0 a1 a2 a3 a4) := by
  refine callsO_comp mix Try.func13 gc13_ok fun r H => ?_
  rw [p_book_Set] at H
  conv => whnf
  refine ask_c (p_book_Check_v _) H rfl rfl (fun v1 H => ?_); conv => whnf
  refine tst_c H (fun b2 H => ?_) (fun b2 H => ?_)
  · conv => whnf
    refine ⟨Nat.le_of_ble_eq_true rfl, ?_⟩; conv => whnf
    refine ⟨Nat.le_of_ble_eq_true rfl, ?_⟩; conv => whnf
    refine FootQ.mk ⟨rfl, ?_⟩; conv => whnf
    refine finR_c (enc := (fun r : BookState × PresPres × Int => .tup [BookState.v r.1, PresPres.v r.2.1, V.i r.2.2])) H ?_; conv => whnf
    exact ⟨_, .tup (.cons (fzagg (.cons (.id rfl) (.cons (.slw) (.nil))) rfl) (.cons (fzagg (.cons (.id rfl) (.cons (.id rfl) (.cons (.id rfl) (.cons (.id rfl) (.nil))))) rfl) (.cons (.c (.id rfl)) (.nil))))⟩
  conv => whnf
  refine ⟨Nat.le_of_ble_eq_true rfl, ?_⟩; conv => whnf
  refine ask_c (p_book_Row_key_v _) H rfl rfl (fun v3 H => ?_); conv => whnf
  refine tst_c H (fun b4 H => ?_) (fun b4 H => ?_)
  · conv => whnf
    refine ⟨Nat.le_of_ble_eq_true rfl, ?_⟩; conv => whnf
    refine ⟨Nat.le_of_ble_eq_true rfl, ?_⟩; conv => whnf
    refine FootQ.mk ⟨rfl, ?_⟩; conv => whnf
    refine finR_c (enc := (fun r : BookState × PresPres × Int => .tup [BookState.v r.1, PresPres.v r.2.1, V.i r.2.2])) H ?_; conv => whnf
    exact ⟨_, .tup (.cons (fzagg (.cons (.id rfl) (.cons (.slw) (.nil))) rfl) (.cons (fzagg (.cons (.id rfl) (.cons (.id rfl) (.cons (.id rfl) (.cons (.id rfl) (.nil))))) rfl) (.cons (.c (.id rfl)) (.nil))))⟩
  conv => whnf
  refine ask_c (p_pres_Check_v _) H rfl rfl (fun v5 H => ?_); conv => whnf
  refine tst_c H (fun b6 H => ?_) (fun b6 H => ?_)
  · conv => whnf
    refine ⟨Nat.le_of_ble_eq_true rfl, ?_⟩; conv => whnf
    refine ⟨Nat.le_of_ble_eq_true rfl, ?_⟩; conv => whnf
    refine FootQ.mk ⟨rfl, ?_⟩; conv => whnf
    refine finR_c (enc := (fun r : BookState × PresPres × Int => .tup [BookState.v r.1, PresPres.v r.2.1, V.i r.2.2])) H ?_; conv => whnf
    exact ⟨_, .tup (.cons (fzagg (.cons (.id rfl) (.cons (.slw) (.nil))) rfl) (.cons (fzagg (.cons (.id rfl) (.cons (.id rfl) (.cons (.id rfl) (.cons (.id rfl) (.nil))))) rfl) (.cons (.c (.id rfl)) (.nil))))⟩
  conv => whnf
  refine ask_c (p_book_Row_key_v _) H rfl rfl (fun v7 H => ?_); conv => whnf
  refine ask_c (p_book_State_find_v _ _) H rfl rfl (fun v8 H => ?_); conv => whnf
  refine FootQ.mk ⟨rfl, ?_⟩; conv => whnf
  refine Tst.not ?_
  refine tst_c H (fun b9 H => ?_) (fun b9 H => ?_)
  · conv => whnf
    iterate 7 (refine Tst.F ?_; conv => whnf)
    refine tst_c H (fun b10 H => ?_) (fun b10 H => ?_)
    · conv => whnf
      refine ⟨Nat.le_of_ble_eq_true rfl, ?_⟩; conv => whnf
      refine ⟨Nat.le_of_ble_eq_true rfl, ?_⟩; conv => whnf
      refine FootQ.mk ⟨rfl, ?_⟩; conv => whnf
      refine finR_c (enc := (fun r : BookState × PresPres × Int => .tup [BookState.v r.1, PresPres.v r.2.1, V.i r.2.2])) H ?_; conv => whnf
      exact ⟨_, .tup (.cons (fzagg (.cons (.id rfl) (.cons (.slw) (.nil))) rfl) (.cons (fzagg (.cons (.id rfl) (.cons (.id rfl) (.cons (.id rfl) (.cons (.id rfl) (.nil))))) rfl) (.cons (.c (.id rfl)) (.nil))))⟩
    conv => whnf
    refine Ari.w ?_; conv => whnf
    refine ⟨Nat.le_of_ble_eq_true rfl, ?_⟩; conv => whnf
    refine ⟨Nat.le_of_ble_eq_true rfl, ?_⟩; conv => whnf
    refine slsE_c (f := BookRow.v) H (fun _ => rfl) (fun x11 H => ?_); conv => whnf
    refine Tst.isT b9 ?_; conv => whnf
    refine Ari.w ?_; conv => whnf
    refine slsE_c (f := BookRow.v) H (fun _ => rfl) (fun x12 H => ?_); conv => whnf
    refine slsC_c (f := BookRow.v) H (fun _ => rfl) (fun x13 H => ?_); conv => whnf
    refine appN_c (f := BookRow.v) H (fun _ => rfl) (srcM (f := BookRow.v) (fun _ => rfl) _ _) rfl (.v (srcOwn (f := BookRow.v) (l := [(BookRow.mk a1 a2 (PresPres.mk true a3 a4 (w64 (a0.Seq + (1 : Int)))))]) (fun _ => rfl) rfl rfl rfl)) (by decide) rfl (by simp) (fun l14 H => ?_); conv => whnf
    refine appP_c (f := BookRow.v) H (fun _ => rfl) rfl rfl (.v (srcM (f := BookRow.v) (fun _ => rfl) _ _)) (by decide) rfl (fun l15 H => ?_) (fun l15 H => ?_)
    · conv => whnf
      refine ⟨Nat.le_of_ble_eq_true rfl, ?_⟩; conv => whnf
      refine FootQ.mk ⟨rfl, ?_⟩; conv => whnf
      refine ⟨Nat.le_of_ble_eq_true rfl, ?_⟩; conv => whnf
      refine ⟨Nat.le_of_ble_eq_true rfl, ?_⟩; conv => whnf
      refine FootQ.mk ⟨rfl, ?_⟩; conv => whnf
      refine finR_c (enc := (fun r : BookState × PresPres × Int => .tup [BookState.v r.1, PresPres.v r.2.1, V.i r.2.2])) H ?_; conv => whnf
      exact ⟨_, .tup (.cons (fzagg (.cons (.id rfl) (.cons (fzown (f := BookRow.v) (l := l15) rfl rfl (fun _ => rfl) (fun _ => rfl)) (.nil))) rfl) (.cons (fzagg (.cons (.id rfl) (.cons (.id rfl) (.cons (.id rfl) (.cons (.id rfl) (.nil))))) rfl) (.cons (.c (.id rfl)) (.nil))))⟩
    conv => whnf
    refine ⟨Nat.le_of_ble_eq_true rfl, ?_⟩; conv => whnf
    refine FootQ.mk ⟨rfl, ?_⟩; conv => whnf
    refine ⟨Nat.le_of_ble_eq_true rfl, ?_⟩; conv => whnf
    refine ⟨Nat.le_of_ble_eq_true rfl, ?_⟩; conv => whnf
    refine FootQ.mk ⟨rfl, ?_⟩; conv => whnf
    refine finR_c (enc := (fun r : BookState × PresPres × Int => .tup [BookState.v r.1, PresPres.v r.2.1, V.i r.2.2])) H ?_; conv => whnf
    exact ⟨_, .tup (.cons (fzagg (.cons (.id rfl) (.cons (fzown (f := BookRow.v) (l := l15) rfl rfl (fun _ => rfl) (fun _ => rfl)) (.nil))) rfl) (.cons (fzagg (.cons (.id rfl) (.cons (.id rfl) (.cons (.id rfl) (.cons (.id rfl) (.nil))))) rfl) (.cons (.c (.id rfl)) (.nil))))⟩
  conv => whnf
  iterate 2 (refine Tst.T ?_; conv => whnf)
  refine LenQ.M ?_; conv => whnf
  iterate 2 (refine Tst.T ?_; conv => whnf)
  refine tst_c H (fun b16 H => ?_) (fun b16 H => ?_)
  · conv => whnf
    iterate 7 (refine Tst.T ?_; conv => whnf)
    refine ⟨Nat.le_of_ble_eq_true rfl, ?_⟩; conv => whnf
    refine ⟨Nat.le_of_ble_eq_true rfl, ?_⟩; conv => whnf
    refine FootQ.mk ⟨rfl, ?_⟩; conv => whnf
    refine finR_c (enc := (fun r : BookState × PresPres × Int => .tup [BookState.v r.1, PresPres.v r.2.1, V.i r.2.2])) H ?_; conv => whnf
    exact ⟨_, .tup (.cons (fzagg (.cons (.id rfl) (.cons (.slw) (.nil))) rfl) (.cons (fzagg (.cons (.id rfl) (.cons (.id rfl) (.cons (.id rfl) (.cons (.id rfl) (.nil))))) rfl) (.cons (.c (.id rfl)) (.nil))))⟩
  conv => whnf
  iterate 2 (refine Tst.F ?_; conv => whnf)
  refine ask_c (p_book_State_many_v _ _) H rfl rfl (fun v17 H => ?_); conv => whnf
  refine Tst.F ?_; conv => whnf
  refine Tst.T ?_; conv => whnf
  refine Tst.F ?_; conv => whnf
  refine Tst.T ?_; conv => whnf
  refine tst_c H (fun b18 H => ?_) (fun b18 H => ?_)
  · conv => whnf
    refine ⟨Nat.le_of_ble_eq_true rfl, ?_⟩; conv => whnf
    refine ⟨Nat.le_of_ble_eq_true rfl, ?_⟩; conv => whnf
    refine FootQ.mk ⟨rfl, ?_⟩; conv => whnf
    refine finR_c (enc := (fun r : BookState × PresPres × Int => .tup [BookState.v r.1, PresPres.v r.2.1, V.i r.2.2])) H ?_; conv => whnf
    exact ⟨_, .tup (.cons (fzagg (.cons (.id rfl) (.cons (.slw) (.nil))) rfl) (.cons (fzagg (.cons (.id rfl) (.cons (.id rfl) (.cons (.id rfl) (.cons (.id rfl) (.nil))))) rfl) (.cons (.c (.id rfl)) (.nil))))⟩
  conv => whnf
  refine tst_c H (fun b19 H => ?_) (fun b19 H => ?_)
  · conv => whnf
    refine ⟨Nat.le_of_ble_eq_true rfl, ?_⟩; conv => whnf
    refine ⟨Nat.le_of_ble_eq_true rfl, ?_⟩; conv => whnf
    refine FootQ.mk ⟨rfl, ?_⟩; conv => whnf
    refine finR_c (enc := (fun r : BookState × PresPres × Int => .tup [BookState.v r.1, PresPres.v r.2.1, V.i r.2.2])) H ?_; conv => whnf
    exact ⟨_, .tup (.cons (fzagg (.cons (.id rfl) (.cons (.slw) (.nil))) rfl) (.cons (fzagg (.cons (.id rfl) (.cons (.id rfl) (.cons (.id rfl) (.cons (.id rfl) (.nil))))) rfl) (.cons (.c (.id rfl)) (.nil))))⟩
  conv => whnf
  refine Ari.w ?_; conv => whnf
  refine ⟨Nat.le_of_ble_eq_true rfl, ?_⟩; conv => whnf
  refine ⟨Nat.le_of_ble_eq_true rfl, ?_⟩; conv => whnf
  refine slsE_c (f := BookRow.v) H (fun _ => rfl) (fun x20 H => ?_); conv => whnf
  refine Tst.isF b9 ?_; conv => whnf
  refine slsC_c (f := BookRow.v) H (fun _ => rfl) (fun x21 H => ?_); conv => whnf
  refine appN_c (f := BookRow.v) H (fun _ => rfl) (srcM (f := BookRow.v) (fun _ => rfl) _ _) rfl (.v (srcOwn (f := BookRow.v) (l := [(BookRow.mk a1 a2 (PresPres.mk true a3 a4 (w64 (a0.Seq + (1 : Int)))))]) (fun _ => rfl) rfl rfl rfl)) (by decide) rfl (by simp) (fun l22 H => ?_); conv => whnf
  refine appP_c (f := BookRow.v) H (fun _ => rfl) rfl rfl (.v (srcM (f := BookRow.v) (fun _ => rfl) _ _)) (by decide) rfl (fun l23 H => ?_) (fun l23 H => ?_)
  · conv => whnf
    refine ⟨Nat.le_of_ble_eq_true rfl, ?_⟩; conv => whnf
    refine FootQ.mk ⟨rfl, ?_⟩; conv => whnf
    refine ⟨Nat.le_of_ble_eq_true rfl, ?_⟩; conv => whnf
    refine ⟨Nat.le_of_ble_eq_true rfl, ?_⟩; conv => whnf
    refine FootQ.mk ⟨rfl, ?_⟩; conv => whnf
    refine finR_c (enc := (fun r : BookState × PresPres × Int => .tup [BookState.v r.1, PresPres.v r.2.1, V.i r.2.2])) H ?_; conv => whnf
    exact ⟨_, .tup (.cons (fzagg (.cons (.id rfl) (.cons (fzown (f := BookRow.v) (l := l23) rfl rfl (fun _ => rfl) (fun _ => rfl)) (.nil))) rfl) (.cons (fzagg (.cons (.id rfl) (.cons (.id rfl) (.cons (.id rfl) (.cons (.id rfl) (.nil))))) rfl) (.cons (.c (.id rfl)) (.nil))))⟩
  conv => whnf
  refine ⟨Nat.le_of_ble_eq_true rfl, ?_⟩; conv => whnf
  refine FootQ.mk ⟨rfl, ?_⟩; conv => whnf
  refine ⟨Nat.le_of_ble_eq_true rfl, ?_⟩; conv => whnf
  refine ⟨Nat.le_of_ble_eq_true rfl, ?_⟩; conv => whnf
  refine FootQ.mk ⟨rfl, ?_⟩; conv => whnf
  refine finR_c (enc := (fun r : BookState × PresPres × Int => .tup [BookState.v r.1, PresPres.v r.2.1, V.i r.2.2])) H ?_; conv => whnf
  exact ⟨_, .tup (.cons (fzagg (.cons (.id rfl) (.cons (fzown (f := BookRow.v) (l := l23) rfl rfl (fun _ => rfl) (fun _ => rfl)) (.nil))) rfl) (.cons (fzagg (.cons (.id rfl) (.cons (.id rfl) (.cons (.id rfl) (.cons (.id rfl) (.nil))))) rfl) (.cons (.c (.id rfl)) (.nil))))⟩
def gc12 : BCode := (.seq (.reg 3 [⟨(some 3), .bx (.tmp 0), none, 0⟩, ⟨(some 6), .al (.agg [(.lit (.int .i64 0)), (.sl [] true)]), none, 1⟩, ⟨(some 7), .al (.agg [(.lit (.bool false)), (.lit (.int .i64 0)), (.lit (.int .i64 0)), (.lit (.int .i64 0))]), none, 2⟩, ⟨(some 8), .mv (.const (.int .i64 0)), none, 3⟩] none 0 []) (.seq (.seq (.reg 0 [⟨(some 13), .ld 2 true (.tmp 3), none, 0⟩, ⟨(some 14), .cl 47 [(.tmp 13)], none, 0⟩, ⟨(some 9), .mv (.tmp 14), none, 0⟩] none 0 []) (.seq (.reg 0 [⟨(some 15), .mv (.tmp 9), none, 0⟩, ⟨(some 16), .bin .neq (.tmp 15) (.const (.int .i64 0)), none, 0⟩] none 0 []) (.cond (.tmp 16) (.seq (.reg 0 [⟨(some 17), .ld 2 true (.tmp 3), none, 0⟩, ⟨(some 18), .bd [(.lit (.bool false)), (.lit (.int .i64 0)), (.lit (.int .i64 0)), (.lit (.int .i64 0))] [], none, 0⟩, ⟨(some 19), .mv (.tmp 9), none, 0⟩, ⟨none, .st 2 (.tmp 6) (.tmp 17), none, 0⟩, ⟨none, .st 4 (.tmp 7) (.tmp 18), none, 0⟩, ⟨(some 8), .mv (.tmp 19), none, 0⟩] none 0 []) .ret) .skip))) (.seq (.reg 0 [⟨(some 20), .mv (.tmp 1), none, 0⟩, ⟨(some 21), .mv (.tmp 2), none, 0⟩, ⟨(some 22), .cl 10 [(.tmp 20), (.tmp 21)], none, 0⟩, ⟨(some 10), .mv (.tmp 22), none, 0⟩] none 0 []) (.seq (.reg 0 [⟨(some 24), .ld 2 true (.tmp 3), none, 0⟩, ⟨(some 25), .mv (.tmp 10), none, 0⟩, ⟨(some 26), .cl 48 [(.tmp 24), (.tmp 25)], none, 0⟩, ⟨(some 23), .mv (.tmp 26), none, 0⟩, ⟨(some 27), .ex (.tmp 23) 0, none, 0⟩, ⟨(some 28), .ex (.tmp 23) 1, none, 0⟩, ⟨(some 11), .mv (.tmp 27), none, 0⟩, ⟨(some 12), .mv (.tmp 28), none, 0⟩] none 0 []) (.seq (.seq (.reg 0 [⟨(some 29), .mv (.tmp 12), none, 0⟩, ⟨(some 30), .un .not (.tmp 29), none, 0⟩, ⟨(some 31), .mv (.tmp 30), none, 0⟩, ⟨(some 32), .mv (.tmp 10), (some (31, false)), 0⟩, ⟨(some 33), .bin .eql (.tmp 32) (.const (.string ⟨#[]⟩)), (some (31, false)), 0⟩, ⟨(some 34), .pick (.tmp 31) (.const (.bool true)) (.tmp 33), none, 0⟩] none 0 []) (.cond (.tmp 34) (.seq (.reg 0 [⟨(some 35), .ld 2 true (.tmp 3), none, 0⟩, ⟨(some 36), .bd [(.lit (.bool false)), (.lit (.int .i64 0)), (.lit (.int .i64 0)), (.lit (.int .i64 0))] [], none, 0⟩, ⟨none, .st 2 (.tmp 6) (.tmp 35), none, 0⟩, ⟨none, .st 4 (.tmp 7) (.tmp 36), none, 0⟩, ⟨(some 8), .mv (.const (.int .i64 6)), none, 0⟩] none 0 []) .ret) .skip)) (.seq (.seq (.reg 0 [⟨(some 37), .fa 0 (.tmp 3), none, 0⟩, ⟨(some 38), .ld 1 false (.tmp 37), none, 0⟩, ⟨(some 39), .bin .geq (.tmp 38) (.const (.int .i64 1099511627776)), none, 0⟩] none 0 []) (.cond (.tmp 39) (.seq (.reg 0 [⟨(some 40), .ld 2 true (.tmp 3), none, 0⟩, ⟨(some 41), .bd [(.lit (.bool false)), (.lit (.int .i64 0)), (.lit (.int .i64 0)), (.lit (.int .i64 0))] [], none, 0⟩, ⟨none, .st 2 (.tmp 6) (.tmp 40), none, 0⟩, ⟨none, .st 4 (.tmp 7) (.tmp 41), none, 0⟩, ⟨(some 8), .mv (.const (.int .i64 9)), none, 0⟩] none 0 []) .ret) .skip)) (.seq (.reg 0 [⟨(some 42), .fa 0 (.tmp 3), none, 0⟩, ⟨(some 43), .ld 1 false (.tmp 42), none, 0⟩, ⟨(some 44), .bin .add (.tmp 43) (.const (.int .i64 1)), none, 0⟩, ⟨(some 45), .fa 0 (.tmp 3), none, 0⟩, ⟨none, .st 1 (.tmp 45) (.tmp 44), none, 0⟩] none 0 []) (.seq (.reg 1 [⟨(some 46), .fa 1 (.tmp 3), none, 0⟩, ⟨(some 47), .ld 1 false (.tmp 46), none, 0⟩, ⟨(some 48), .mv (.tmp 11), none, 0⟩, ⟨(some 49), .mv (.tmp 11), none, 0⟩, ⟨(some 50), .sls 6 (.tmp 47) none (some (.tmp 48)) (some (.tmp 49)), none, 0⟩, ⟨(some 51), .fa 1 (.tmp 3), none, 0⟩, ⟨(some 52), .ld 1 false (.tmp 51), none, 0⟩, ⟨(some 53), .mv (.tmp 11), none, 0⟩, ⟨(some 54), .bin .add (.tmp 53) (.const (.int .i64 1)), none, 0⟩, ⟨(some 55), .sls 6 (.tmp 52) (some (.tmp 54)) none none, none, 0⟩, ⟨(some 56), .ap 6 64 (.tmp 50) (.tmp 55), none, 0⟩, ⟨(some 57), .fa 1 (.tmp 3), none, 1⟩, ⟨none, .st 1 (.tmp 57) (.tmp 56), none, 1⟩] (some [[], [0], [], [], [3, 2, 0, 1], [], [5], [], [7], [7, 8, 5, 6], [6, 5, 8, 7, 9, 1, 0, 2, 3, 4], [10, 9, 8, 7, 6, 5, 4, 3, 2, 1, 0], [0, 1, 2, 3, 4, 5, 6, 7, 8, 9, 10, 11]]) 0 []) (.seq (.reg 0 [⟨(some 58), .ld 2 true (.tmp 3), none, 0⟩, ⟨(some 59), .fa 0 (.tmp 3), none, 0⟩, ⟨(some 60), .ld 1 false (.tmp 59), none, 0⟩, ⟨(some 61), .bd [(.lit (.bool false)), (.lit (.int .i64 0)), (.lit (.int .i64 0)), (.lit (.int .i64 0))] [(3, 1, (.tmp 60))], none, 0⟩, ⟨none, .st 2 (.tmp 6) (.tmp 58), none, 0⟩, ⟨none, .st 4 (.tmp 7) (.tmp 61), none, 0⟩, ⟨(some 8), .mv (.const (.int .i64 0)), none, 0⟩] (some [[], [], [1], [1, 2], [0], [0, 4, 2, 1, 3], [3, 1, 2, 4, 0, 5]]) 0 []) .ret)))))))))
theorem gc12_ok : compF Try.prog Try.f12 = some (gc12.er, 62, [.cell 6 2 true, .cell 7 4 true, .tmp 8]) := by unfold gc12; kernel_rfl
set_option maxRecDepth 100000 in
set_option maxHeartbeats 4000000 in
theorem p_book_Off_v {u1 : Bool} (a0 : BookState) (a1 : ByteArray) (a2 : ByteArray) : CallsO Try.prog 12 [.agg [.i a0.Seq, .sl (List.map BookRow.v a0.Rows) u1], .s a1, .s a2] (fun r : BookState × PresPres × Int => .tup [BookState.v r.1, PresPres.v r.2.1, V.i r.2.2]) (p_book_Off a0 a1 a2) := by
  refine callsO_comp mix Try.func12 gc12_ok fun r H => ?_
  rw [p_book_Off] at H
  conv => whnf
  refine ask_c (p_book_Check_v _) H rfl rfl (fun v1 H => ?_); conv => whnf
  refine tst_c H (fun b2 H => ?_) (fun b2 H => ?_)
  · conv => whnf
    refine ⟨Nat.le_of_ble_eq_true rfl, ?_⟩; conv => whnf
    refine ⟨Nat.le_of_ble_eq_true rfl, ?_⟩; conv => whnf
    refine finR_c (enc := (fun r : BookState × PresPres × Int => .tup [BookState.v r.1, PresPres.v r.2.1, V.i r.2.2])) H ?_; conv => whnf
    exact ⟨_, .tup (.cons (fzagg (.cons (.id rfl) (.cons (.slw) (.nil))) rfl) (.cons (fzagg (.cons (.id rfl) (.cons (.id rfl) (.cons (.id rfl) (.cons (.id rfl) (.nil))))) rfl) (.cons (.c (.id rfl)) (.nil))))⟩
  conv => whnf
  refine ask_c (p_pres_Key_v _ _) H rfl rfl (fun v3 H => ?_); conv => whnf
  refine ask_c (p_book_State_find_v _ _) H rfl rfl (fun v4 H => ?_); conv => whnf
  refine Tst.not ?_
  refine tst_d H (fun b5 H => ?_) (fun b5 H => ?_)
  · conv => whnf
    iterate 3 (refine Tst.T ?_; conv => whnf)
    refine ⟨Nat.le_of_ble_eq_true rfl, ?_⟩; conv => whnf
    refine ⟨Nat.le_of_ble_eq_true rfl, ?_⟩; conv => whnf
    refine finR_c (enc := (fun r : BookState × PresPres × Int => .tup [BookState.v r.1, PresPres.v r.2.1, V.i r.2.2])) H ?_; conv => whnf
    exact ⟨_, .tup (.cons (fzagg (.cons (.id rfl) (.cons (.slw) (.nil))) rfl) (.cons (fzagg (.cons (.id rfl) (.cons (.id rfl) (.cons (.id rfl) (.cons (.id rfl) (.nil))))) rfl) (.cons (.c (.id rfl)) (.nil))))⟩
  conv => whnf
  iterate 2 (refine Tst.F ?_; conv => whnf)
  refine tst_c H (fun b6 H => ?_) (fun b6 H => ?_)
  · conv => whnf
    refine ⟨Nat.le_of_ble_eq_true rfl, ?_⟩; conv => whnf
    refine ⟨Nat.le_of_ble_eq_true rfl, ?_⟩; conv => whnf
    refine finR_c (enc := (fun r : BookState × PresPres × Int => .tup [BookState.v r.1, PresPres.v r.2.1, V.i r.2.2])) H ?_; conv => whnf
    exact ⟨_, .tup (.cons (fzagg (.cons (.id rfl) (.cons (.slw) (.nil))) rfl) (.cons (fzagg (.cons (.id rfl) (.cons (.id rfl) (.cons (.id rfl) (.cons (.id rfl) (.nil))))) rfl) (.cons (.c (.id rfl)) (.nil))))⟩
  conv => whnf
  refine tst_c H (fun b7 H => ?_) (fun b7 H => ?_)
  · conv => whnf
    refine ⟨Nat.le_of_ble_eq_true rfl, ?_⟩; conv => whnf
    refine ⟨Nat.le_of_ble_eq_true rfl, ?_⟩; conv => whnf
    refine finR_c (enc := (fun r : BookState × PresPres × Int => .tup [BookState.v r.1, PresPres.v r.2.1, V.i r.2.2])) H ?_; conv => whnf
    exact ⟨_, .tup (.cons (fzagg (.cons (.id rfl) (.cons (.slw) (.nil))) rfl) (.cons (fzagg (.cons (.id rfl) (.cons (.id rfl) (.cons (.id rfl) (.cons (.id rfl) (.nil))))) rfl) (.cons (.c (.id rfl)) (.nil))))⟩
  conv => whnf
  refine Ari.w ?_; conv => whnf
  refine ⟨Nat.le_of_ble_eq_true rfl, ?_⟩; conv => whnf
  refine slsC_c (f := BookRow.v) H (fun _ => rfl) (fun x8 H => ?_); conv => whnf
  refine Ari.w ?_; conv => whnf
  refine slsE_c (f := BookRow.v) H (fun _ => rfl) (fun x9 H => ?_); conv => whnf
  refine appX_c (f := BookRow.v) H (fun _ => rfl) rfl (.v (srcM (f := BookRow.v) (fun _ => rfl) _ _)) (by decide) rfl (fun l10 H => ?_) (fun l10 H => ?_)
  · conv => whnf
    refine ⟨Nat.le_of_ble_eq_true rfl, ?_⟩; conv => whnf
    refine FootQ.mk ⟨rfl, ?_⟩; conv => whnf
    refine ⟨Nat.le_of_ble_eq_true rfl, ?_⟩; conv => whnf
    refine ⟨Nat.le_of_ble_eq_true rfl, ?_⟩; conv => whnf
    refine FootQ.mk ⟨rfl, ?_⟩; conv => whnf
    refine finR_c (enc := (fun r : BookState × PresPres × Int => .tup [BookState.v r.1, PresPres.v r.2.1, V.i r.2.2])) H ?_; conv => whnf
    exact ⟨_, .tup (.cons (fzagg (.cons (.id rfl) (.cons (.slw) (.nil))) rfl) (.cons (fzagg (.cons (.id rfl) (.cons (.id rfl) (.cons (.id rfl) (.cons (.id rfl) (.nil))))) rfl) (.cons (.c (.id rfl)) (.nil))))⟩
  conv => whnf
  refine ⟨Nat.le_of_ble_eq_true rfl, ?_⟩; conv => whnf
  refine FootQ.mk ⟨rfl, ?_⟩; conv => whnf
  refine ⟨Nat.le_of_ble_eq_true rfl, ?_⟩; conv => whnf
  refine ⟨Nat.le_of_ble_eq_true rfl, ?_⟩; conv => whnf
  refine FootQ.mk ⟨rfl, ?_⟩; conv => whnf
  refine finR_c (enc := (fun r : BookState × PresPres × Int => .tup [BookState.v r.1, PresPres.v r.2.1, V.i r.2.2])) H ?_; conv => whnf
  exact ⟨_, .tup (.cons (fzagg (.cons (.id rfl) (.cons (fzown (f := BookRow.v) (l := l10) rfl rfl (fun _ => rfl) (fun _ => rfl)) (.nil))) rfl) (.cons (fzagg (.cons (.id rfl) (.cons (.id rfl) (.cons (.id rfl) (.cons (.id rfl) (.nil))))) rfl) (.cons (.c (.id rfl)) (.nil))))⟩
end Go.Proofs.Ythlhbgedidipkaa
