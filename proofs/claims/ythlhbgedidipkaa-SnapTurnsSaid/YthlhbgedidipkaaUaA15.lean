/- A part of the proof: 10 texts joined. -/
import Derived.Test.YthlhbgedidipkaaUaA13
import Derived.Test.YthlhbgedidipkaaUaA14
import Derived.Test.YthlhbgedidipkaaUaA8
import Derived.KernelRfl
import Derived.Test.YthlhbgedidipkaaUaA11
import Derived.Test.YthlhbgedidipkaaUaA12
import Derived.Test.YthlhbgedidipkaaUaA10
set_option linter.all false
/- That the program's functions yield what the plain ones tell (written by a program of mine). -/
namespace Go.Proofs.Ythlhbgedidipkaa
open Go.RowKit
def gc22 : BCode := (.seq (.reg 2 [⟨(some 3), .bx (.tmp 0), none, 0⟩, ⟨(some 6), .al (.agg [(.lit (.bool false)), (.lit (.int .i64 0)), (.lit (.int .i64 0)), (.lit (.int .i64 0))]), none, 1⟩, ⟨(some 7), .mv (.const (.bool false)), none, 2⟩] none 0 []) (.seq (.reg 0 [⟨(some 11), .mv (.tmp 1), none, 0⟩, ⟨(some 12), .mv (.tmp 2), none, 0⟩, ⟨(some 13), .cl 10 [(.tmp 11), (.tmp 12)], none, 0⟩, ⟨(some 8), .mv (.tmp 13), none, 0⟩] none 0 []) (.seq (.seq (.reg 0 [⟨(some 14), .mv (.tmp 8), none, 0⟩, ⟨(some 15), .bin .eql (.tmp 14) (.const (.string ⟨#[]⟩)), none, 0⟩, ⟨(some 16), .mv (.tmp 15), none, 0⟩, ⟨(some 17), .ld 2 true (.tmp 3), (some (16, false)), 0⟩, ⟨(some 18), .cl 47 [(.tmp 17)], (some (16, false)), 0⟩, ⟨(some 19), .bin .neq (.tmp 18) (.const (.int .i64 0)), (some (16, false)), 0⟩, ⟨(some 20), .pick (.tmp 16) (.const (.bool true)) (.tmp 19), none, 0⟩] none 0 []) (.cond (.tmp 20) (.seq (.reg 0 [⟨(some 21), .bd [(.lit (.bool false)), (.lit (.int .i64 0)), (.lit (.int .i64 0)), (.lit (.int .i64 0))] [], none, 0⟩, ⟨none, .st 4 (.tmp 6) (.tmp 21), none, 0⟩, ⟨(some 7), .mv (.const (.bool false)), none, 0⟩] none 0 []) .ret) .skip)) (.seq (.reg 0 [⟨(some 23), .ld 2 true (.tmp 3), none, 0⟩, ⟨(some 24), .mv (.tmp 8), none, 0⟩, ⟨(some 25), .cl 48 [(.tmp 23), (.tmp 24)], none, 0⟩, ⟨(some 22), .mv (.tmp 25), none, 0⟩, ⟨(some 26), .ex (.tmp 22) 0, none, 0⟩, ⟨(some 27), .ex (.tmp 22) 1, none, 0⟩, ⟨(some 9), .mv (.tmp 26), none, 0⟩, ⟨(some 10), .mv (.tmp 27), none, 0⟩] none 0 []) (.seq (.seq (.reg 0 [⟨(some 28), .mv (.tmp 10), none, 0⟩, ⟨(some 29), .un .not (.tmp 28), none, 0⟩] none 0 []) (.cond (.tmp 29) (.seq (.reg 0 [⟨(some 30), .bd [(.lit (.bool false)), (.lit (.int .i64 0)), (.lit (.int .i64 0)), (.lit (.int .i64 0))] [], none, 0⟩, ⟨none, .st 4 (.tmp 6) (.tmp 30), none, 0⟩, ⟨(some 7), .mv (.const (.bool false)), none, 0⟩] none 0 []) .ret) .skip)) (.seq (.reg 0 [⟨(some 31), .fa 1 (.tmp 3), none, 0⟩, ⟨(some 32), .ld 1 false (.tmp 31), none, 0⟩, ⟨(some 33), .mv (.tmp 9), none, 0⟩, ⟨(some 34), .ixs 6 (.tmp 32) (.tmp 33), none, 0⟩, ⟨(some 35), .fa 2 (.tmp 34), none, 0⟩, ⟨(some 36), .ld 4 true (.tmp 35), none, 0⟩, ⟨none, .st 4 (.tmp 6) (.tmp 36), none, 0⟩, ⟨(some 7), .mv (.const (.bool true)), none, 0⟩] none 0 []) .ret))))))
theorem gc22_ok : compF Try.prog Try.f22 = some (gc22.er, 37, [.cell 6 4 true, .tmp 7]) := by unfold gc22; kernel_rfl
set_option maxRecDepth 100000 in
set_option maxHeartbeats 4000000 in
theorem p_book_Get_v {u1 : Bool} (a0 : BookState) (a1 : ByteArray) (a2 : ByteArray) : CallsO Try.prog 22 [.agg [.i a0.Seq, .sl (List.map BookRow.v a0.Rows) u1], .s a1, .s a2] (fun r : PresPres × Bool => .tup [PresPres.v r.1, V.b r.2]) (p_book_Get a0 a1 a2) := by
  refine callsO_comp mix Try.func22 gc22_ok fun r H => ?_
  rw [p_book_Get] at H
  conv => whnf
  refine ask_c (p_pres_Key_v _ _) H rfl rfl (fun v1 H => ?_); conv => whnf
  refine tst_c H (fun b2 H => ?_) (fun b2 H => ?_)
  · conv => whnf
    iterate 4 (refine Tst.T ?_; conv => whnf)
    refine ⟨Nat.le_of_ble_eq_true rfl, ?_⟩; conv => whnf
    exact fin0_c (enc := (fun r : PresPres × Bool => .tup [PresPres.v r.1, V.b r.2])) H (.inr rfl) (.cons (.cell rfl rfl (Nat.le_of_ble_eq_true rfl)) (.cons (.tmp rfl) (.nil))) rfl rfl
  conv => whnf
  refine Tst.F ?_; conv => whnf
  refine ask_c (p_book_Check_v _) H rfl rfl (fun v3 H => ?_); conv => whnf
  iterate 2 (refine Tst.F ?_; conv => whnf)
  refine tst_c H (fun b4 H => ?_) (fun b4 H => ?_)
  · conv => whnf
    refine ⟨Nat.le_of_ble_eq_true rfl, ?_⟩; conv => whnf
    exact fin0_c (enc := (fun r : PresPres × Bool => .tup [PresPres.v r.1, V.b r.2])) H (.inr rfl) (.cons (.cell rfl rfl (Nat.le_of_ble_eq_true rfl)) (.cons (.tmp rfl) (.nil))) rfl rfl
  conv => whnf
  refine ask_c (p_book_State_find_v _ _) H rfl rfl (fun v5 H => ?_); conv => whnf
  refine Tst.not ?_
  refine tst_d H (fun b6 H => ?_) (fun b6 H => ?_)
  · conv => whnf
    refine ⟨Nat.le_of_ble_eq_true rfl, ?_⟩; conv => whnf
    exact fin0_c (enc := (fun r : PresPres × Bool => .tup [PresPres.v r.1, V.b r.2])) H (.inr rfl) (.cons (.cell rfl rfl (Nat.le_of_ble_eq_true rfl)) (.cons (.tmp rfl) (.nil))) rfl rfl
  conv => whnf
  refine ixs_c (f := BookRow.v) H (fun _ => rfl) (fun x7 H => ?_); conv => whnf
  refine ⟨Nat.le_of_ble_eq_true rfl, ?_⟩; conv => whnf
  refine ⟨Nat.le_of_ble_eq_true rfl, ?_⟩; conv => whnf
  exact fin0_c (enc := (fun r : PresPres × Bool => .tup [PresPres.v r.1, V.b r.2])) H (.inr rfl) (.cons (.cell rfl rfl (Nat.le_of_ble_eq_true rfl)) (.cons (.tmp rfl) (.nil))) rfl rfl
def gc91 : BCode := (.seq (.reg 2 [⟨(some 2), .bx (.tmp 0), none, 0⟩, ⟨(some 4), .al (.agg [(.lit (.string ⟨#[]⟩)), (.lit (.string ⟨#[]⟩)), (.lit (.bool false)), (.lit (.int .i64 0)), (.lit (.int .i64 0)), (.lit (.int .i64 0))]), none, 1⟩, ⟨(some 5), .mv (.const (.bool false)), none, 2⟩] none 0 []) (.seq (.seq (.reg 0 [⟨(some 8), .ld 2 true (.tmp 2), none, 0⟩, ⟨(some 9), .cl 47 [(.tmp 8)], none, 0⟩, ⟨(some 10), .bin .neq (.tmp 9) (.const (.int .i64 0)), none, 0⟩] none 0 []) (.cond (.tmp 10) (.seq (.reg 0 [⟨(some 11), .bd [(.lit (.string ⟨#[]⟩)), (.lit (.string ⟨#[]⟩)), (.lit (.bool false)), (.lit (.int .i64 0)), (.lit (.int .i64 0)), (.lit (.int .i64 0))] [], none, 0⟩, ⟨none, .st 6 (.tmp 4) (.tmp 11), none, 0⟩, ⟨(some 5), .mv (.const (.bool false)), none, 0⟩] none 0 []) .ret) .skip)) (.seq (.reg 0 [⟨(some 13), .ld 2 true (.tmp 2), none, 0⟩, ⟨(some 14), .mv (.tmp 1), none, 0⟩, ⟨(some 15), .cl 48 [(.tmp 13), (.tmp 14)], none, 0⟩, ⟨(some 12), .mv (.tmp 15), none, 0⟩, ⟨(some 16), .ex (.tmp 12) 0, none, 0⟩, ⟨(some 17), .ex (.tmp 12) 1, none, 0⟩, ⟨(some 6), .mv (.tmp 16), none, 0⟩, ⟨(some 7), .mv (.tmp 17), none, 0⟩] none 0 []) (.seq (.seq (.reg 0 [⟨(some 18), .mv (.tmp 7), none, 0⟩] none 0 []) (.cond (.tmp 18) (.reg 0 [⟨(some 19), .mv (.tmp 6), none, 0⟩, ⟨(some 20), .bin .add (.tmp 19) (.const (.int .i64 1)), none, 0⟩, ⟨(some 6), .mv (.tmp 20), none, 0⟩] none 0 []) .skip)) (.seq (.seq (.reg 0 [⟨(some 21), .mv (.tmp 6), none, 0⟩, ⟨(some 22), .fa 1 (.tmp 2), none, 0⟩, ⟨(some 23), .ld 1 false (.tmp 22), none, 0⟩, ⟨(some 24), .lens (.tmp 23), none, 0⟩, ⟨(some 25), .bin .eql (.tmp 21) (.tmp 24), none, 0⟩] none 0 []) (.cond (.tmp 25) (.seq (.reg 0 [⟨(some 26), .bd [(.lit (.string ⟨#[]⟩)), (.lit (.string ⟨#[]⟩)), (.lit (.bool false)), (.lit (.int .i64 0)), (.lit (.int .i64 0)), (.lit (.int .i64 0))] [], none, 0⟩, ⟨none, .st 6 (.tmp 4) (.tmp 26), none, 0⟩, ⟨(some 5), .mv (.const (.bool false)), none, 0⟩] none 0 []) .ret) .skip)) (.seq (.reg 0 [⟨(some 27), .fa 1 (.tmp 2), none, 0⟩, ⟨(some 28), .ld 1 false (.tmp 27), none, 0⟩, ⟨(some 29), .mv (.tmp 6), none, 0⟩, ⟨(some 30), .ixs 6 (.tmp 28) (.tmp 29), none, 0⟩, ⟨(some 31), .ld 6 true (.tmp 30), none, 0⟩, ⟨none, .st 6 (.tmp 4) (.tmp 31), none, 0⟩, ⟨(some 5), .mv (.const (.bool true)), none, 0⟩] none 0 []) .ret))))))
theorem gc91_ok : compF Try.prog Try.f91 = some (gc91.er, 32, [.cell 4 6 true, .tmp 5]) := by unfold gc91; kernel_rfl
set_option maxRecDepth 100000 in
set_option maxHeartbeats 4000000 in
theorem p_book_Next_v {u1 : Bool} (a0 : BookState) (a1 : ByteArray) : CallsO Try.prog 91 [.agg [.i a0.Seq, .sl (List.map BookRow.v a0.Rows) u1], .s a1] (fun r : BookRow × Bool => .tup [BookRow.v r.1, V.b r.2]) (p_book_Next a0 a1) := by
  refine callsO_comp mix Try.func91 gc91_ok fun r H => ?_
  rw [p_book_Next] at H
  conv => whnf
  refine ask_c (p_book_Check_v _) H rfl rfl (fun v1 H => ?_); conv => whnf
  refine tst_c H (fun b2 H => ?_) (fun b2 H => ?_)
  · conv => whnf
    refine ⟨Nat.le_of_ble_eq_true rfl, ?_⟩; conv => whnf
    exact fin0_c (enc := (fun r : BookRow × Bool => .tup [BookRow.v r.1, V.b r.2])) H (.inr rfl) (.cons (.cell rfl rfl (Nat.le_of_ble_eq_true rfl)) (.cons (.tmp rfl) (.nil))) rfl rfl
  conv => whnf
  refine ask_c (p_book_State_find_v _ _) H rfl rfl (fun v3 H => ?_); conv => whnf
  refine tst_d H (fun b4 H => ?_) (fun b4 H => ?_)
  · conv => whnf
    refine LenQ.M ?_; conv => whnf
    refine tst_c H (fun b7 H => ?_) (fun b7 H => ?_)
    · conv => whnf
      refine ⟨Nat.le_of_ble_eq_true rfl, ?_⟩; conv => whnf
      exact fin0_c (enc := (fun r : BookRow × Bool => .tup [BookRow.v r.1, V.b r.2])) H (.inr rfl) (.cons (.cell rfl rfl (Nat.le_of_ble_eq_true rfl)) (.cons (.tmp rfl) (.nil))) rfl rfl
    conv => whnf
    refine ixs_c (f := BookRow.v) H (fun _ => rfl) (fun x8 H => ?_); conv => whnf
    refine ⟨Nat.le_of_ble_eq_true rfl, ?_⟩; conv => whnf
    exact fin0_c (enc := (fun r : BookRow × Bool => .tup [BookRow.v r.1, V.b r.2])) H (.inr rfl) (.cons (.cell rfl rfl (Nat.le_of_ble_eq_true rfl)) (.cons (.tmp rfl) (.nil))) rfl rfl
  conv => whnf
  refine Ari.w ?_; conv => whnf
  refine LenQ.M ?_; conv => whnf
  refine tst_c H (fun b5 H => ?_) (fun b5 H => ?_)
  · conv => whnf
    refine ⟨Nat.le_of_ble_eq_true rfl, ?_⟩; conv => whnf
    exact fin0_c (enc := (fun r : BookRow × Bool => .tup [BookRow.v r.1, V.b r.2])) H (.inr rfl) (.cons (.cell rfl rfl (Nat.le_of_ble_eq_true rfl)) (.cons (.tmp rfl) (.nil))) rfl rfl
  conv => whnf
  refine ixs_c (f := BookRow.v) H (fun _ => rfl) (fun x6 H => ?_); conv => whnf
  refine ⟨Nat.le_of_ble_eq_true rfl, ?_⟩; conv => whnf
  exact fin0_c (enc := (fun r : BookRow × Bool => .tup [BookRow.v r.1, V.b r.2])) H (.inr rfl) (.cons (.cell rfl rfl (Nat.le_of_ble_eq_true rfl)) (.cons (.tmp rfl) (.nil))) rfl rfl
def gc16 : BCode := (.seq (.reg 2 [⟨(some 5), .bx (.tmp 2), none, 0⟩, ⟨(some 6), .al (.agg [(.lit (.int .u8 0)), (.lit (.string ⟨#[]⟩)), (.lit (.string ⟨#[]⟩)), (.lit (.string ⟨#[]⟩)), (.lit (.int .i64 0)), (.lit (.int .i64 0)), (.lit (.int .i64 0)), (.lit (.int .i64 0))]), none, 1⟩] none 0 []) (.seq (.seq (.reg 0 [⟨(some 8), .ld 4 true (.tmp 5), none, 0⟩, ⟨(some 9), .cl 50 [(.tmp 8)], none, 0⟩, ⟨(some 10), .bin .neq (.tmp 9) (.const (.int .i64 0)), none, 0⟩, ⟨(some 11), .mv (.tmp 10), none, 0⟩, ⟨(some 12), .mv (.tmp 0), (some (11, false)), 0⟩, ⟨(some 13), .mv (.tmp 1), (some (11, false)), 0⟩, ⟨(some 14), .cl 46 [(.tmp 12), (.tmp 13)], (some (11, false)), 0⟩, ⟨(some 15), .un .not (.tmp 14), (some (11, false)), 0⟩, ⟨(some 16), .pick (.tmp 11) (.const (.bool true)) (.tmp 15), none, 0⟩] none 0 []) (.cond (.tmp 16) (.seq (.reg 0 [⟨(some 17), .bd [(.lit (.int .u8 0)), (.lit (.string ⟨#[]⟩)), (.lit (.string ⟨#[]⟩)), (.lit (.string ⟨#[]⟩)), (.lit (.int .i64 0)), (.lit (.int .i64 0)), (.lit (.int .i64 0)), (.lit (.int .i64 0))] [], none, 0⟩, ⟨none, .st 8 (.tmp 6) (.tmp 17), none, 0⟩] none 0 []) .ret) .skip)) (.seq (.reg 1 [⟨(some 18), .mv (.tmp 0), none, 0⟩, ⟨(some 19), .mv (.tmp 1), none, 0⟩, ⟨(some 20), .fa 3 (.tmp 5), none, 0⟩, ⟨(some 21), .ld 1 false (.tmp 20), none, 0⟩, ⟨(some 22), .bd [(.lit (.int .u8 0)), (.lit (.string ⟨#[]⟩)), (.lit (.string ⟨#[]⟩)), (.lit (.string ⟨#[]⟩)), (.lit (.int .i64 0)), (.lit (.int .i64 0)), (.lit (.int .i64 0)), (.lit (.int .i64 0))] [(0, 1, (.const (.int .u8 35))), (1, 1, (.tmp 18)), (2, 1, (.tmp 19)), (7, 1, (.tmp 21))], none, 0⟩, ⟨(some 7), .al (.agg [(.lit (.int .u8 0)), (.lit (.string ⟨#[]⟩)), (.lit (.string ⟨#[]⟩)), (.lit (.string ⟨#[]⟩)), (.lit (.int .i64 0)), (.lit (.int .i64 0)), (.lit (.int .i64 0)), (.lit (.int .i64 0))]), none, 0⟩, ⟨none, .st 8 (.tmp 7) (.tmp 22), none, 1⟩] none 0 []) (.seq (.seq (.reg 0 [⟨(some 23), .fa 0 (.tmp 5), none, 0⟩, ⟨(some 24), .ld 1 false (.tmp 23), none, 0⟩] none 0 []) (.cond (.tmp 24) (.reg 0 [⟨(some 25), .fa 1 (.tmp 5), none, 0⟩, ⟨(some 26), .ld 1 false (.tmp 25), none, 0⟩, ⟨(some 27), .fa 2 (.tmp 5), none, 0⟩, ⟨(some 28), .ld 1 false (.tmp 27), none, 0⟩, ⟨(some 29), .fa 0 (.tmp 7), none, 0⟩, ⟨none, .st 1 (.tmp 29) (.const (.int .u8 34)), none, 0⟩, ⟨(some 30), .fa 4 (.tmp 7), none, 0⟩, ⟨none, .st 1 (.tmp 30) (.tmp 26), none, 0⟩, ⟨(some 31), .fa 5 (.tmp 7), none, 0⟩, ⟨none, .st 1 (.tmp 31) (.tmp 28), none, 0⟩] (some [[], [0], [], [2], [], [4], [5, 4, 1, 0], [0, 1, 4, 5, 6], [7, 6, 5, 4, 3, 2, 1, 0], [0, 1, 2, 3, 4, 5, 6, 7, 8]]) 0 []) .skip)) (.seq (.reg 0 [⟨(some 32), .ld 8 true (.tmp 7), none, 0⟩, ⟨none, .st 8 (.tmp 6) (.tmp 32), none, 0⟩] none 0 []) .ret)))))
theorem gc16_ok : compF Try.prog Try.f16 = some (gc16.er, 33, [.cell 6 8 true]) := by unfold gc16; kernel_rfl
set_option maxRecDepth 100000 in
set_option maxHeartbeats 4000000 in
theorem p_pres_Say_v (a0 : ByteArray) (a1 : ByteArray) (a2 : PresPres) : CallsO Try.prog 16 [.s a0, .s a1, .agg [.b a2.On, .i a2.Show, .i a2.Prio, .i a2.Seq]] StanzaStanza.v (p_pres_Say a0 a1 a2) := by
  refine callsO_comp mix Try.func16 gc16_ok fun r H => ?_
  rw [p_pres_Say] at H
  conv => whnf
  refine ask_c (p_pres_Check_v _) H rfl rfl (fun v1 H => ?_); conv => whnf
  refine tst_c H (fun b2 H => ?_) (fun b2 H => ?_)
  · conv => whnf
    iterate 5 (refine Tst.T ?_; conv => whnf)
    refine ⟨Nat.le_of_ble_eq_true rfl, ?_⟩; conv => whnf
    exact fin0_c (enc := StanzaStanza.v) H (.inr rfl) (.cons (.cell rfl rfl (Nat.le_of_ble_eq_true rfl)) (.nil)) rfl rfl
  conv => whnf
  iterate 2 (refine Tst.F ?_; conv => whnf)
  refine ask_c (p_pres_named_v _ _) H rfl rfl (fun v3 H => ?_); conv => whnf
  iterate 2 (refine Tst.F ?_; conv => whnf)
  refine Tst.not ?_
  refine tst_d H (fun b4 H => ?_) (fun b4 H => ?_)
  · conv => whnf
    refine ⟨Nat.le_of_ble_eq_true rfl, ?_⟩; conv => whnf
    exact fin0_c (enc := StanzaStanza.v) H (.inr rfl) (.cons (.cell rfl rfl (Nat.le_of_ble_eq_true rfl)) (.nil)) rfl rfl
  conv => whnf
  refine ⟨Nat.le_of_ble_eq_true rfl, ?_⟩; conv => whnf
  refine tst_d H (fun b5 H => ?_) (fun b5 H => ?_)
  · conv => whnf
    refine ⟨Nat.le_of_ble_eq_true rfl, ?_⟩; conv => whnf
    exact fin0_c (enc := StanzaStanza.v) H (.inr rfl) (.cons (.cell rfl rfl (Nat.le_of_ble_eq_true rfl)) (.nil)) rfl rfl
  conv => whnf
  refine ⟨Nat.le_of_ble_eq_true rfl, ?_⟩; conv => whnf
  refine ⟨Nat.le_of_ble_eq_true rfl, ?_⟩; conv => whnf
  refine ⟨Nat.le_of_ble_eq_true rfl, ?_⟩; conv => whnf
  refine FootQ.mk ⟨rfl, ?_⟩; conv => whnf
  refine ⟨Nat.le_of_ble_eq_true rfl, ?_⟩; conv => whnf
  exact fin0_c (enc := StanzaStanza.v) H (.inr rfl) (.cons (.cell rfl rfl (Nat.le_of_ble_eq_true rfl)) (.nil)) rfl rfl
def gc92 : BCode := (.seq (.reg 0 [⟨(some 4), .mv (.const (.int .i64 0)), none, 0⟩] none 0 []) (.seq (.seq (.reg 0 [⟨(some 6), .mv (.tmp 0), none, 0⟩, ⟨(some 7), .lens (.tmp 6), none, 0⟩, ⟨(some 8), .mv (.const (.int .i64 0)), none, 0⟩] none 0 []) (.block 0 (.loop (.seq (.reg 0 [⟨(some 9), .bin .lss (.tmp 8) (.tmp 7), none, 0⟩] none 0 []) (.seq (.cond (.tmp 9) .skip (.exit 0)) (.seq (.block 1 (.seq (.reg 0 [⟨(some 10), .mv (.tmp 8), none, 0⟩, ⟨(some 5), .mv (.tmp 10), none, 0⟩] none 0 []) (.seq (.reg 0 [⟨(some 11), .mv (.tmp 1), none, 0⟩, ⟨(some 12), .mv (.tmp 0), none, 0⟩, ⟨(some 13), .mv (.tmp 5), none, 0⟩, ⟨(some 14), .ixs 1 (.tmp 12) (.tmp 13), none, 0⟩, ⟨(some 15), .ld 1 false (.tmp 14), none, 0⟩, ⟨(some 16), .bin .eql (.tmp 11) (.tmp 15), none, 0⟩] none 0 []) (.cond (.tmp 16) (.seq (.reg 0 [⟨(some 17), .mv (.tmp 5), none, 0⟩, ⟨(some 4), .mv (.tmp 17), none, 0⟩] none 0 []) .ret) .skip)))) (.reg 0 [⟨(some 18), .bin .add (.tmp 8) (.const (.int .i64 1)), none, 0⟩, ⟨(some 8), .mv (.tmp 18), none, 0⟩] none 0 []))))))) (.seq (.reg 0 [⟨(some 4), .mv (.const (.int .i64 (-1))), none, 0⟩] none 0 []) .ret)))
theorem gc92_ok : compF Try.prog Try.f92 = some (gc92.er, 19, [.tmp 4]) := by unfold gc92; kernel_rfl
set_option maxRecDepth 100000 in
set_option maxHeartbeats 4000000 in
theorem p_slices_Index_string_v {u1 : Bool} (a0 : List ByteArray) (a1 : ByteArray) : CallsO Try.prog 92 [.sl (List.map V.s a0) u1, .s a1] V.i (p_slices_Index_string a0 a1) := by
  refine callsO_comp mix Try.func92 gc92_ok fun r H => ?_
  rw [p_slices_Index_string] at H
  conv => whnf
  refine LenQ.M ?_; conv => whnf
  obtain ⟨o2, HL3, HQ4⟩ := bind_c H
  refine loop_c [4, 8] [5, 9, 10, 11, 12, 13, 14, 15, 16, 17, 18] [5, 9, 10, 11, 12, 13, 14, 15, 16, 17, 18] (fun n vals st => (∃ y6, p_slices_Index_string_l1  a0 a1 (a0.length : Int) n y6 = some o2 ∧ vals = [.i (0 : Int), .i y6] ∧ st = [])) fuel 0 [] (⟨_, HL3, rfl, rfl⟩) (Nat.zero_le _) rfl (by kernel_rfl) (by kernel_rfl) rfl trivial ?_
  rintro (_ | n5) _ _ (⟨y6, H, rfl, rfl⟩)
  · rw [p_slices_Index_string_l1] at H; cases H
  rw [p_slices_Index_string_l1] at H
  conv => whnf
  refine tst_d H (fun b7 H => ?_) (fun b7 H => ?_)
  · conv => whnf
    obtain rfl := Option.some.inj H
    have H := HQ4
    try dsimp only at H
    exact fin0_c (enc := V.i) H (.inr rfl) (.cons (.tmp rfl) (.nil)) rfl rfl
  conv => whnf
  refine ixs_c (f := V.s) H (fun _ => rfl) (fun x8 H => ?_); conv => whnf
  refine tst_c H (fun b9 H => ?_) (fun b9 H => ?_)
  · conv => whnf
    obtain rfl := Option.some.inj H
    have H := HQ4
    try dsimp only at H
    exact fin0_c (enc := V.i) H (.inr rfl) (.cons (.tmp rfl) (.nil)) rfl rfl
  conv => whnf
  refine Ari.w ?_; conv => whnf
  exact again_c [5, 9, 10, 11, 12, 13, 14, 15, 16, 17, 18] n5 0 [] (⟨_, H, rfl, rfl⟩) (Nat.lt_succ_self _) (Nat.zero_le _) rfl (by kernel_rfl) (by kernel_rfl) rfl trivial
def gc53 : BCode := (.seq (.reg 0 [⟨(some 4), .mv (.const (.bool false)), none, 0⟩] none 0 []) (.seq (.reg 0 [⟨(some 5), .mv (.tmp 0), none, 0⟩, ⟨(some 6), .mv (.tmp 1), none, 0⟩, ⟨(some 7), .cl 92 [(.tmp 5), (.tmp 6)], none, 0⟩, ⟨(some 8), .bin .geq (.tmp 7) (.const (.int .i64 0)), none, 0⟩, ⟨(some 4), .mv (.tmp 8), none, 0⟩] none 0 []) .ret))
theorem gc53_ok : compF Try.prog Try.f53 = some (gc53.er, 9, [.tmp 4]) := by unfold gc53; kernel_rfl
set_option maxRecDepth 100000 in
set_option maxHeartbeats 4000000 in
theorem p_slices_Contains_string_v {u1 : Bool} (a0 : List ByteArray) (a1 : ByteArray) : CallsO Try.prog 53 [.sl (List.map V.s a0) u1, .s a1] V.b (p_slices_Contains_string a0 a1) := by
  refine callsO_comp mix Try.func53 gc53_ok fun r H => ?_
  rw [p_slices_Contains_string] at H
  conv => whnf
  refine ask_c (p_slices_Index_string_v _ _) H rfl rfl (fun v1 H => ?_); conv => whnf
  exact fin0_c (enc := V.b) H (.inr rfl) (.cons (.tmp rfl) (.nil)) rfl rfl
def gc17 : BCode := (.seq (.reg 2 [⟨(some 2), .bx (.tmp 0), none, 0⟩, ⟨(some 3), .bx (.tmp 1), none, 1⟩, ⟨(some 4), .mv (.const (.bool false)), none, 2⟩] none 0 []) (.seq (.reg 0 [⟨(some 5), .fa 0 (.tmp 2), none, 0⟩, ⟨(some 6), .ld 1 false (.tmp 5), none, 0⟩, ⟨(some 7), .fa 0 (.tmp 3), none, 0⟩, ⟨(some 8), .ld 1 false (.tmp 7), none, 0⟩, ⟨(some 9), .cl 53 [(.tmp 6), (.tmp 8)], none, 0⟩, ⟨(some 10), .mv (.tmp 9), none, 0⟩, ⟨(some 11), .fa 1 (.tmp 2), (some (10, false)), 0⟩, ⟨(some 12), .ld 1 false (.tmp 11), (some (10, false)), 0⟩, ⟨(some 13), .fa 0 (.tmp 3), (some (10, false)), 0⟩, ⟨(some 14), .ld 1 false (.tmp 13), (some (10, false)), 0⟩, ⟨(some 15), .fa 1 (.tmp 3), (some (10, false)), 0⟩, ⟨(some 16), .ld 1 false (.tmp 15), (some (10, false)), 0⟩, ⟨(some 17), .cl 10 [(.tmp 14), (.tmp 16)], (some (10, false)), 0⟩, ⟨(some 18), .cl 53 [(.tmp 12), (.tmp 17)], (some (10, false)), 0⟩, ⟨(some 19), .pick (.tmp 10) (.const (.bool true)) (.tmp 18), none, 0⟩, ⟨(some 4), .mv (.tmp 19), none, 0⟩] (some [[], [0], [], [2], [2, 3, 0, 1], [1, 0, 3, 2, 4], [4, 2, 3, 0, 1, 5], [5, 1, 0, 3, 2, 4, 6], [4, 2, 3, 0, 1, 5], [5, 1, 0, 3, 2, 4, 8], [4, 2, 3, 0, 1, 5], [5, 1, 0, 3, 2, 4, 10], [10, 11, 8, 4, 2, 3, 0, 1, 5, 9], [9, 8, 11, 10, 12, 6, 4, 2, 3, 0, 1, 5, 7], [7, 6, 12, 10, 11, 8, 9, 13, 4, 2, 3, 0, 1, 5], [5, 1, 0, 3, 2, 4, 13, 9, 8, 11, 10, 12, 6, 7, 14]]) 0 []) .ret))
theorem gc17_ok : compF Try.prog Try.f17 = some (gc17.er, 20, [.tmp 4]) := by unfold gc17; kernel_rfl
set_option maxRecDepth 100000 in
set_option maxHeartbeats 4000000 in
theorem p_snap_Sees_v {u1 u2 : Bool} (a0 : SnapEyes) (a1 : BookRow) : CallsO Try.prog 17 [.agg [.sl (List.map V.s a0.Users) u1, .sl (List.map V.s a0.Keys) u2], .agg [.s a1.User, .s a1.Res, .b a1.P.On, .i a1.P.Show, .i a1.P.Prio, .i a1.P.Seq]] V.b (p_snap_Sees a0 a1) := by
  refine callsO_comp mix Try.func17 gc17_ok fun r H => ?_
  rw [p_snap_Sees] at H
  conv => whnf
  refine ask_c (p_slices_Contains_string_v _ _) H rfl rfl (fun v1 H => ?_); conv => whnf
  refine tst_c H (fun b2 H => ?_) (fun b2 H => ?_)
  · conv => whnf
    iterate 8 (refine Tst.T ?_; conv => whnf)
    refine FootQ.mk ⟨rfl, ?_⟩; conv => whnf
    exact fin0_c (enc := V.b) H (.inr rfl) (.cons (.tmp rfl) (.nil)) rfl rfl
  conv => whnf
  iterate 6 (refine Tst.F ?_; conv => whnf)
  refine ask_c (p_pres_Key_v _ _) H rfl rfl (fun v3 H => ?_); conv => whnf
  refine Tst.F ?_; conv => whnf
  refine ask_c (p_slices_Contains_string_v _ _) H rfl rfl (fun v4 H => ?_); conv => whnf
  refine Tst.F ?_; conv => whnf
  refine FootQ.mk ⟨rfl, ?_⟩; conv => whnf
  exact fin0_c (enc := V.b) H (.inr rfl) (.cons (.tmp rfl) (.nil)) rfl rfl
def gc21 : BCode := (.seq (.reg 1 [⟨(some 1), .bx (.tmp 0), none, 0⟩, ⟨(some 2), .mv (.const (.int .i64 0)), none, 1⟩] none 0 []) (.seq (.reg 1 [⟨(some 4), .ld 4 true (.tmp 1), none, 0⟩, ⟨(some 3), .al (.agg [(.lit (.bool false)), (.lit (.bool false)), (.lit (.string ⟨#[]⟩)), (.lit (.int .i64 0))]), none, 0⟩, ⟨none, .st 4 (.tmp 3) (.tmp 4), none, 1⟩] none 0 []) (.seq (.seq (.reg 0 [⟨(some 5), .fa 0 (.tmp 3), none, 0⟩, ⟨(some 6), .ld 1 false (.tmp 5), none, 0⟩] none 0 []) (.cond (.tmp 6) (.reg 0 [⟨(some 7), .fa 2 (.tmp 1), none, 0⟩, ⟨(some 8), .ld 1 false (.tmp 7), none, 0⟩, ⟨(some 9), .fa 3 (.tmp 1), none, 0⟩, ⟨(some 10), .ld 1 false (.tmp 9), none, 0⟩, ⟨(some 11), .bd [(.lit (.bool false)), (.lit (.bool false)), (.lit (.string ⟨#[]⟩)), (.lit (.int .i64 0))] [(2, 1, (.tmp 8)), (3, 1, (.tmp 10))], none, 0⟩, ⟨none, .st 4 (.tmp 3) (.tmp 11), none, 0⟩] none 0 []) .skip)) (.seq (.seq (.reg 0 [⟨(some 12), .fa 1 (.tmp 1), none, 0⟩, ⟨(some 13), .ld 1 false (.tmp 12), none, 0⟩, ⟨(some 14), .mv (.tmp 13), none, 0⟩, ⟨(some 15), .fa 0 (.tmp 1), (some (14, true)), 0⟩, ⟨(some 16), .ld 1 false (.tmp 15), (some (14, true)), 0⟩, ⟨(some 17), .pick (.tmp 14) (.tmp 16) (.const (.bool false)), none, 0⟩] none 0 []) (.cond (.tmp 17) (.reg 0 [⟨(some 18), .bd [(.lit (.bool false)), (.lit (.bool false)), (.lit (.string ⟨#[]⟩)), (.lit (.int .i64 0))] [], none, 0⟩, ⟨none, .st 4 (.tmp 3) (.tmp 18), none, 0⟩] none 0 []) .skip)) (.seq (.seq (.reg 0 [⟨(some 19), .ld 4 true (.tmp 3), none, 0⟩, ⟨(some 20), .bd [(.lit (.bool false)), (.lit (.bool false)), (.lit (.string ⟨#[]⟩)), (.lit (.int .i64 0))] [], none, 0⟩, ⟨(some 21), .eqa true [0, 0, 2, 1] (.tmp 19) (.tmp 20), none, 0⟩] none 0 []) (.cond (.tmp 21) (.seq (.reg 0 [⟨(some 2), .mv (.const (.int .i64 4)), none, 0⟩] none 0 []) .ret) .skip)) (.seq (.seq (.reg 0 [⟨(some 22), .fa 3 (.tmp 1), none, 0⟩, ⟨(some 23), .ld 1 false (.tmp 22), none, 0⟩, ⟨(some 24), .bin .lss (.tmp 23) (.const (.int .i64 0)), none, 0⟩, ⟨(some 25), .mv (.tmp 24), none, 0⟩, ⟨(some 26), .fa 3 (.tmp 1), (some (25, false)), 0⟩, ⟨(some 27), .ld 1 false (.tmp 26), (some (25, false)), 0⟩, ⟨(some 28), .bin .gtr (.tmp 27) (.const (.int .i64 1099511627776)), (some (25, false)), 0⟩, ⟨(some 29), .pick (.tmp 25) (.const (.bool true)) (.tmp 28), none, 0⟩] none 0 []) (.cond (.tmp 29) (.seq (.reg 0 [⟨(some 2), .mv (.const (.int .i64 8)), none, 0⟩] none 0 []) .ret) .skip)) (.seq (.reg 0 [⟨(some 2), .mv (.const (.int .i64 0)), none, 0⟩] none 0 []) .ret)))))))
theorem gc21_ok : compF Try.prog Try.f21 = some (gc21.er, 30, [.tmp 2]) := by unfold gc21; kernel_rfl
set_option maxRecDepth 100000 in
set_option maxHeartbeats 4000000 in
theorem p_snap_Check_v (a0 : SnapState) : CallsO Try.prog 21 [.agg [.b a0.On, .b a0.Begun, .s a0.After, .i a0.Told]] V.i (p_snap_Check a0) := by
  refine callsO_comp mix Try.func21 gc21_ok fun r H => ?_
  rw [p_snap_Check] at H
  conv => whnf
  refine ⟨Nat.le_of_ble_eq_true rfl, ?_⟩; conv => whnf
  refine tst_d H (fun b1 H => ?_) (fun b1 H => ?_)
  · conv => whnf
    refine tst_d H (fun b9 H => ?_) (fun b9 H => ?_)
    · conv => whnf
      iterate 3 (refine Tst.F ?_; conv => whnf)
      refine Tst.not ?_
      refine tst_d H (fun b13 H => ?_) (fun b13 H => ?_)
      · conv => whnf
        exact fin0_c (enc := V.i) H (.inr rfl) (.cons (.tmp rfl) (.nil)) rfl rfl
      conv => whnf
      refine tst_c H (fun b14 H => ?_) (fun b14 H => ?_)
      · conv => whnf
        iterate 4 (refine Tst.T ?_; conv => whnf)
        exact fin0_c (enc := V.i) H (.inr rfl) (.cons (.tmp rfl) (.nil)) rfl rfl
      conv => whnf
      iterate 3 (refine Tst.F ?_; conv => whnf)
      refine tst_c H (fun b15 H => ?_) (fun b15 H => ?_)
      · conv => whnf
        exact fin0_c (enc := V.i) H (.inr rfl) (.cons (.tmp rfl) (.nil)) rfl rfl
      conv => whnf
      exact fin0_c (enc := V.i) H (.inr rfl) (.cons (.tmp rfl) (.nil)) rfl rfl
    conv => whnf
    iterate 2 (refine Tst.T ?_; conv => whnf)
    refine Tst.isF b1 ?_; conv => whnf
    refine Tst.not ?_
    refine tst_d H (fun b10 H => ?_) (fun b10 H => ?_)
    · conv => whnf
      exact fin0_c (enc := V.i) H (.inr rfl) (.cons (.tmp rfl) (.nil)) rfl rfl
    conv => whnf
    refine tst_c H (fun b11 H => ?_) (fun b11 H => ?_)
    · conv => whnf
      iterate 4 (refine Tst.T ?_; conv => whnf)
      exact fin0_c (enc := V.i) H (.inr rfl) (.cons (.tmp rfl) (.nil)) rfl rfl
    conv => whnf
    iterate 3 (refine Tst.F ?_; conv => whnf)
    refine tst_c H (fun b12 H => ?_) (fun b12 H => ?_)
    · conv => whnf
      exact fin0_c (enc := V.i) H (.inr rfl) (.cons (.tmp rfl) (.nil)) rfl rfl
    conv => whnf
    exact fin0_c (enc := V.i) H (.inr rfl) (.cons (.tmp rfl) (.nil)) rfl rfl
  conv => whnf
  refine ⟨Nat.le_of_ble_eq_true rfl, ?_⟩; conv => whnf
  refine tst_d H (fun b2 H => ?_) (fun b2 H => ?_)
  · conv => whnf
    iterate 3 (refine Tst.F ?_; conv => whnf)
    refine Tst.not ?_
    refine tst_d H (fun b6 H => ?_) (fun b6 H => ?_)
    · conv => whnf
      exact fin0_c (enc := V.i) H (.inr rfl) (.cons (.tmp rfl) (.nil)) rfl rfl
    conv => whnf
    refine tst_c H (fun b7 H => ?_) (fun b7 H => ?_)
    · conv => whnf
      iterate 4 (refine Tst.T ?_; conv => whnf)
      exact fin0_c (enc := V.i) H (.inr rfl) (.cons (.tmp rfl) (.nil)) rfl rfl
    conv => whnf
    iterate 3 (refine Tst.F ?_; conv => whnf)
    refine tst_c H (fun b8 H => ?_) (fun b8 H => ?_)
    · conv => whnf
      exact fin0_c (enc := V.i) H (.inr rfl) (.cons (.tmp rfl) (.nil)) rfl rfl
    conv => whnf
    exact fin0_c (enc := V.i) H (.inr rfl) (.cons (.tmp rfl) (.nil)) rfl rfl
  conv => whnf
  iterate 2 (refine Tst.T ?_; conv => whnf)
  refine Tst.isT b1 ?_; conv => whnf
  refine ⟨Nat.le_of_ble_eq_true rfl, ?_⟩; conv => whnf
  refine Tst.not ?_
  refine tst_d H (fun b3 H => ?_) (fun b3 H => ?_)
  · conv => whnf
    exact fin0_c (enc := V.i) H (.inr rfl) (.cons (.tmp rfl) (.nil)) rfl rfl
  conv => whnf
  refine tst_c H (fun b4 H => ?_) (fun b4 H => ?_)
  · conv => whnf
    iterate 4 (refine Tst.T ?_; conv => whnf)
    exact fin0_c (enc := V.i) H (.inr rfl) (.cons (.tmp rfl) (.nil)) rfl rfl
  conv => whnf
  iterate 3 (refine Tst.F ?_; conv => whnf)
  refine tst_c H (fun b5 H => ?_) (fun b5 H => ?_)
  · conv => whnf
    exact fin0_c (enc := V.i) H (.inr rfl) (.cons (.tmp rfl) (.nil)) rfl rfl
  conv => whnf
  exact fin0_c (enc := V.i) H (.inr rfl) (.cons (.tmp rfl) (.nil)) rfl rfl
def gc23 : BCode := (.seq (.reg 1 [⟨(some 2), .bx (.tmp 0), none, 0⟩, ⟨(some 4), .mv (.const (.bool false)), none, 1⟩] none 0 []) (.seq (.seq (.reg 0 [⟨(some 5), .fa 0 (.tmp 2), none, 0⟩, ⟨(some 6), .ld 1 false (.tmp 5), none, 0⟩, ⟨(some 7), .un .not (.tmp 6), none, 0⟩] none 0 []) (.cond (.tmp 7) (.seq (.reg 0 [⟨(some 4), .mv (.const (.bool false)), none, 0⟩] none 0 []) .ret) .skip)) (.seq (.reg 0 [⟨(some 8), .fa 1 (.tmp 2), none, 0⟩, ⟨(some 9), .ld 1 false (.tmp 8), none, 0⟩, ⟨(some 10), .un .not (.tmp 9), none, 0⟩, ⟨(some 11), .mv (.tmp 10), none, 0⟩, ⟨(some 12), .fa 2 (.tmp 2), (some (11, false)), 0⟩, ⟨(some 13), .ld 1 false (.tmp 12), (some (11, false)), 0⟩, ⟨(some 14), .mv (.tmp 1), (some (11, false)), 0⟩, ⟨(some 15), .bin .lss (.tmp 13) (.tmp 14), (some (11, false)), 0⟩, ⟨(some 16), .pick (.tmp 11) (.const (.bool true)) (.tmp 15), none, 0⟩, ⟨(some 4), .mv (.tmp 16), none, 0⟩] none 0 []) .ret)))
theorem gc23_ok : compF Try.prog Try.f23 = some (gc23.er, 17, [.tmp 4]) := by unfold gc23; kernel_rfl
set_option maxRecDepth 100000 in
set_option maxHeartbeats 4000000 in
theorem p_snap_Covers_v (a0 : SnapState) (a1 : ByteArray) : CallsO Try.prog 23 [.agg [.b a0.On, .b a0.Begun, .s a0.After, .i a0.Told], .s a1] V.b (p_snap_Covers a0 a1) := by
  refine callsO_comp mix Try.func23 gc23_ok fun r H => ?_
  rw [p_snap_Covers] at H
  conv => whnf
  refine Tst.not ?_
  refine tst_d H (fun b1 H => ?_) (fun b1 H => ?_)
  · conv => whnf
    exact fin0_c (enc := V.b) H (.inr rfl) (.cons (.tmp rfl) (.nil)) rfl rfl
  conv => whnf
  refine Tst.not ?_
  refine tst_c H (fun b2 H => ?_) (fun b2 H => ?_)
  · conv => whnf
    iterate 4 (refine Tst.F ?_; conv => whnf)
    exact fin0_c (enc := V.b) H (.inr rfl) (.cons (.tmp rfl) (.nil)) rfl rfl
  conv => whnf
  iterate 4 (refine Tst.T ?_; conv => whnf)
  exact fin0_c (enc := V.b) H (.inr rfl) (.cons (.tmp rfl) (.nil)) rfl rfl
def gc19 : BCode := (.seq (.reg 1 [⟨(some 0), .al (.agg [(.lit (.bool false)), (.lit (.bool false)), (.lit (.string ⟨#[]⟩)), (.lit (.int .i64 0))]), none, 0⟩] none 0 []) (.seq (.reg 0 [⟨(some 1), .bd [(.lit (.bool false)), (.lit (.bool false)), (.lit (.string ⟨#[]⟩)), (.lit (.int .i64 0))] [(0, 1, (.const (.bool true)))], none, 0⟩, ⟨none, .st 4 (.tmp 0) (.tmp 1), none, 0⟩] none 0 []) .ret))
theorem gc19_ok : compF Try.prog Try.f19 = some (gc19.er, 2, [.cell 0 4 true]) := by unfold gc19; kernel_rfl
set_option maxRecDepth 100000 in
set_option maxHeartbeats 4000000 in
theorem p_snap_Begin_v : CallsO Try.prog 19 [] SnapState.v (p_snap_Begin) := by
  refine callsO_comp mix Try.func19 gc19_ok fun r H => ?_
  rw [p_snap_Begin] at H
  conv => whnf
  refine ⟨Nat.le_of_ble_eq_true rfl, ?_⟩; conv => whnf
  exact fin0_c (enc := SnapState.v) H (.inr rfl) (.cons (.cell rfl rfl (Nat.le_of_ble_eq_true rfl)) (.nil)) rfl rfl
end Go.Proofs.Ythlhbgedidipkaa
/- snap.View, given what its iterator hands over (wants the unit Tv: rng.py N A <snap.View> Tv). -/
namespace Go.Proofs.Ythlhbgedidipkaa
open Go.RowKit
def dv15 (c : Code) : BCode := (.seq (.reg 2 [⟨(some 2), .bx (.tmp 0), none, 0⟩, ⟨(some 3), .bx (.tmp 1), none, 1⟩, ⟨(some 4), .mv (.const (.slice none 0 0)), none, 2⟩] none 0 []) (.seq (.reg 1 [⟨(some 5), .al (.sl [] true), none, 0⟩] none 0 []) (.seq (.seq (.reg 0 [⟨(some 8), .ld 2 true (.tmp 2), none, 0⟩, ⟨(some 9), .ld 2 true (.tmp 3), none, 0⟩, ⟨(some 10), .cl 52 [(.tmp 8), (.tmp 9), (.const (.string ⟨#[]⟩))], none, 0⟩] none 3 []) (.block 0 (.raw c))) (.seq (.reg 0 [⟨(some 17), .ld 1 false (.tmp 5), none, 0⟩, ⟨(some 4), .mv (.tmp 17), none, 0⟩] none 0 []) .ret))))
theorem dv15_ok : compF Try.prog Try.f15 = some ((dv15 (rangeAt Try.f15 0)).er, 18, [.tmp 4]) := by unfold dv15; kernel_rfl
def aenS (x : ItmS) : List V := [.s x.1, x.2.v]
theorem haenS (z : ItmS) (m : Mem) (bk : Bks) : RepL m bk (encS z) (aenS z) := by
  have hrow : Rep m bk (.agg #[.string z.2.User, .string z.2.Res, .bool z.2.P.On, .int .i64 z.2.P.Show, .int .i64 z.2.P.Prio, .int .i64 z.2.P.Seq]) z.2.v := by
    refine .agg rfl (fun v hv => ?_) fun i g1 g2 => ?_
    · simp at hv
      rcases hv with rfl | rfl | rfl | rfl | rfl | rfl <;> rfl
    · have hi : i = 0 ∨ i = 1 ∨ i = 2 ∨ i = 3 ∨ i = 4 ∨ i = 5 := by simp at g1; omega
      rcases hi with rfl | rfl | rfl | rfl | rfl | rfl <;> exact .lit rfl
  refine ⟨rfl, fun j h1 h2 => ?_⟩
  have hj : j = 0 ∨ j = 1 := by simp [encS] at h1; omega
  rcases hj with rfl | rfl
  · exact .lit rfl
  · exact hrow
set_option maxRecDepth 100000 in
set_option maxHeartbeats 4000000 in
theorem view_of (e : SnapEyes) (b : BookState) (xs : List ItmS) (hn : xs.length ≤ 1000000)
    (hit : ∀ st : List Slot, st[3]? = some (.live [.i b.Seq, .sl (List.map BookRow.v b.Rows) false] 2) → st[4]? = some (.live [.s ⟨#[]⟩] 0) → st[5]? = some (.live [.sl (List.map V.s e.Users) false, .sl (List.map V.s e.Keys) false] 2) → ItS Try.prog 90 [.ptr 3 0, .ptr 4 0, .ptr 5 0] st 4 encS xs) :
    CallsO Try.prog 15 [e.v, b.v] (fun l : List BookRow => V.sl (l.map BookRow.v) false) (some (xs.map (·.2))) := by
  refine callsO_comp mix Try.func15 dv15_ok fun r H => ?_
  conv => whnf
  refine Ask_S (rowsS rfl rfl rfl e b ⟨#[]⟩) rfl ?_; conv => whnf
  rw [rg15]
  refine range_c (α := ItmS) mix da15_ok db15_ok fl15.1 fl15.2 sc15.1 sc15.2 (enters_of Try.func90 (by kernel_rfl) rfl) rfl (hit _ rfl rfl rfl) haenS (fun _ => rfl)
    (fun pre st1 => ∃ s : ByteArray, (pre = [] ∧ st1 = [Slot.live [V.sl (List.map V.s e.Users) false, V.sl (List.map V.s e.Keys) false] 0, Slot.live [V.i b.Seq, V.sl (List.map BookRow.v b.Rows) false] 0, Slot.live [V.sl (List.map BookRow.v []) true] 0, Slot.live [V.i b.Seq, V.sl (List.map BookRow.v b.Rows) false] 2, Slot.live [V.s s] 0, Slot.live [V.sl (List.map V.s e.Users) false, V.sl (List.map V.s e.Keys) false] 2]) ∨
      (pre ≠ [] ∧ st1 = [Slot.live [V.sl (List.map V.s e.Users) false, V.sl (List.map V.s e.Keys) false] 0, Slot.live [V.i b.Seq, V.sl (List.map BookRow.v b.Rows) false] 0, Slot.live [V.osl 6 0 (pre.map (·.2)).length 6 false] 0, Slot.live [V.i b.Seq, V.sl (List.map BookRow.v b.Rows) false] 2, Slot.live [V.s s] 0, Slot.live [V.sl (List.map V.s e.Users) false, V.sl (List.map V.s e.Keys) false] 2, Slot.live (cellsM BookRow.v (pre.map (·.2))) (cellsM BookRow.v (pre.map (·.2))).length])) ?_ ?_ ⟨_, .inl ⟨rfl, rfl⟩⟩ ?_ ?_
  · rintro pre st1 s ⟨s0, ⟨h, rfl⟩ | ⟨h, rfl⟩⟩
    · exact ⟨s, .inl ⟨h, rfl⟩⟩
    · exact ⟨s, .inr ⟨h, rfl⟩⟩
  · rintro pre st1 ⟨s0, ⟨h, rfl⟩ | ⟨h, rfl⟩⟩ <;> exact ⟨s0, rfl⟩
  · rintro pre ⟨k, x⟩ post st1 hx ⟨s, ⟨rfl, rfl⟩ | ⟨hne, rfl⟩⟩
    · conv => whnf
      refine ⟨Nat.le_of_ble_eq_true rfl, ?_⟩; conv => whnf
      refine ⟨rfl, fun s2 => ?_⟩; conv => whnf
      refine appN_c (f := BookRow.v) (F := []) (G := [x]) (X := some) (r := [x]) rfl (fun _ => rfl) (srcM (f := BookRow.v) (fun _ => rfl) _ _) rfl (.v (srcOwn (f := BookRow.v) (l := [x]) (fun _ => rfl) rfl rfl rfl)) (by decide) rfl (by simp) (fun L H => ?_); conv => whnf
      obtain rfl := Option.some.inj H
      refine ⟨Nat.le_of_ble_eq_true rfl, ?_⟩; conv => whnf
      refine ⟨rfl, fun _ => ⟨7, [0, 1, 2, 3, 4, 5, 8], _, ?_, s2, .inr ⟨by simp, rfl⟩⟩, fun h => absurd rfl h⟩
      exact wk_mask (junk := []) (Nat.le_of_ble_eq_true rfl) rfl rfl rfl rfl ⟨⟨rfl, rfl, rfl⟩, ⟨rfl, rfl, rfl⟩, ⟨rfl, rfl, rfl⟩, ⟨rfl, rfl, rfl⟩, ⟨rfl, rfl, rfl⟩, ⟨rfl, rfl, rfl⟩, wkB_live0 rfl (cellsM_idlt (f := BookRow.v) (fun _ => rfl) _) rfl trivial⟩
    · conv => whnf
      refine ⟨Nat.le_of_ble_eq_true rfl, ?_⟩; conv => whnf
      refine ⟨rfl, fun s2 => ?_⟩; conv => whnf
      have HA : (app? (pre.map (·.2)) [x]).bind some = some (pre.map (·.2) ++ [x]) := by
        unfold app?
        rw [if_pos (by rw [hx] at hn; simp at hn ⊢; omega)]; rfl
      refine appO_c (f := BookRow.v) HA (fun _ => rfl) rfl (Nat.le_refl _) (.v (srcOwn (f := BookRow.v) (l := [x]) (fun _ => rfl) rfl rfl rfl)) (by decide) rfl (by simp) (fun L H => ?_)
      conv => whnf
      obtain rfl := Option.some.inj H
      refine ⟨Nat.le_of_ble_eq_true rfl, ?_⟩; conv => whnf
      have em : (pre ++ [(k, x)]).map (·.2) = pre.map (·.2) ++ [x] := by simp
      rw [em]
      refine ⟨rfl, fun _ => ⟨7, [0, 1, 2, 3, 4, 5, 9], _, ?_, s2, .inr ⟨by simp, rfl⟩⟩, fun h => absurd rfl h⟩
      exact wk_mask (junk := []) (Nat.le_of_ble_eq_true rfl) rfl rfl rfl rfl ⟨⟨rfl, rfl, rfl⟩, ⟨rfl, rfl, rfl⟩, ⟨rfl, rfl, rfl⟩, ⟨rfl, rfl, rfl⟩, ⟨rfl, rfl, rfl⟩, ⟨rfl, rfl, rfl⟩, wkB_live0 rfl (cellsM_idlt (f := BookRow.v) (fun _ => rfl) _) rfl trivial⟩
  · rintro st1 ⟨s, ⟨h, rfl⟩ | ⟨hne, rfl⟩⟩
    · subst h
      conv => whnf
      refine finR_c (enc := fun l : List BookRow => V.sl (l.map BookRow.v) false) H ?_; conv => whnf
      exact ⟨_, .v (.c .slw)⟩
    · conv => whnf
      refine finR_c (enc := fun l : List BookRow => V.sl (l.map BookRow.v) false) H ?_; conv => whnf
      exact ⟨_, .v (.c (fzown (f := BookRow.v) (l := xs.map (·.2)) rfl rfl (fun _ => rfl) (fun _ => rfl)))⟩
def p_snap_items (e : SnapEyes) (b : BookState) (s : ByteArray) : Option (List ItmS) := rowsI p_book_Next p_pres_Key p_snap_Sees e b fuel s
theorem items_it {e : SnapEyes} {b : BookState} {s : ByteArray} {xs : List ItmS} (hx : p_snap_items e b s = some xs) {st : List Slot} {i3 i4 i5 : Nat} (h3 : st[i3]? = some (.live [.i b.Seq, .sl (List.map BookRow.v b.Rows) false] 2)) (h4 : st[i4]? = some (.live [.s s] 0)) (h5 : st[i5]? = some (.live [.sl (List.map V.s e.Users) false, .sl (List.map V.s e.Keys) false] 2)) : ItS Try.prog 90 [.ptr i3 0, .ptr i4 0, .ptr i5 0] st i4 encS xs :=
  it_rows (fun b a => p_book_Next_v b a) (fun u r => p_pres_Key_v u r) (fun e x => p_snap_Sees_v e x) hx h3 h4 h5
def p_snap_View (e : SnapEyes) (b : BookState) : Option (List BookRow) := (p_snap_items e b ⟨#[]⟩).bind fun xs => bif decide (xs.length ≤ 1000000) then some (xs.map (·.2)) else none
theorem p_snap_View_f (e : SnapEyes) (b : BookState) : CallsO Try.prog 15 [e.v, b.v] (fun l : List BookRow => V.sl (l.map BookRow.v) false) (p_snap_View e b) := by
  intro r hr
  unfold p_snap_View at hr
  obtain ⟨xs, hx, hr⟩ := Option.bind_eq_some_iff.1 hr
  by_cases hn : xs.length ≤ 1000000
  · rw [decide_eq_true hn, cond_true] at hr
    exact view_of e b xs hn (fun st h3 h4 h5 => items_it hx h3 h4 h5) r hr
  · rw [decide_eq_false hn, cond_false] at hr; cases hr
theorem callsV_fz {P : Program} {f : FuncId} {vs vs' : List V} {v : V} {rd : List Nat} (ha : FzA [] vs vs' rd) (h : CallsV P f vs' v) : CallsV P f vs v := fun m w cargs hg hm hr => by
  have s0 : Sim 0 m m noBk w [] := ⟨Nat.zero_le _, hm, fun _ _ h => h, fun _ _ h => .inl h, fun _ _ _ h => by simp at h, fun _ _ _ _ _ _ _ _ h => by simp at h, fun _ _ => rfl⟩
  have ht := (ha.rep s0 (cs := cargs.toList) ⟨by simpa using hr.1, fun j a b => by simpa using hr.2 j (by simpa using a) b⟩).toA
  rw [Array.toArray_toList] at ht
  exact h m w cargs hg hm ht
theorem p_snap_View_v {u1 u2 u3 : Bool} (e : SnapEyes) (b : BookState) : CallsO Try.prog 15 [.agg [.sl (List.map V.s e.Users) u1, .sl (List.map V.s e.Keys) u2], .agg [.i b.Seq, .sl (List.map BookRow.v b.Rows) u3]] (fun l : List BookRow => V.sl (l.map BookRow.v) false) (p_snap_View e b) := fun r hr =>
  callsV_fz (.cons (fzagg (.cons .slw (.cons .slw .nil)) rfl) (.cons (fzagg (.cons (.id rfl) (.cons .slw .nil)) rfl) .nil)) (p_snap_View_f e b r hr)
end Go.Proofs.Ythlhbgedidipkaa
/- Plain functions (written by a program of mine). -/
namespace Go.Proofs.Ythlhbgedidipkaa
open Go.RowKit
def p_snap_Count (a0 : SnapEyes) (a1 : BookState) : Option (Int) :=
  (p_snap_View a0 a1).bind fun v1 =>
  some (v1.length : Int)
end Go.Proofs.Ythlhbgedidipkaa
/- The codes of function 20. -/
namespace Go.Proofs.Ythlhbgedidipkaa
open Go.RowKit
def dc20 (c : Code) : BCode := (.seq (.reg 6 [⟨(some 3), .bx (.tmp 0), none, 0⟩, ⟨(some 4), .bx (.tmp 1), none, 1⟩, ⟨(some 5), .bx (.tmp 2), none, 2⟩, ⟨(some 6), .al (.agg [(.lit (.bool false)), (.lit (.bool false)), (.lit (.string ⟨#[]⟩)), (.lit (.int .i64 0))]), none, 3⟩, ⟨(some 7), .al (.agg [(.lit (.int .u8 0)), (.lit (.string ⟨#[]⟩)), (.lit (.string ⟨#[]⟩)), (.lit (.string ⟨#[]⟩)), (.lit (.int .i64 0)), (.lit (.int .i64 0)), (.lit (.int .i64 0)), (.lit (.int .i64 0))]), none, 4⟩, ⟨(some 8), .al (.lit (.bool false)), none, 5⟩] none 0 []) (.seq (.seq (.reg 0 [⟨(some 11), .fa 0 (.tmp 3), none, 0⟩, ⟨(some 12), .ld 1 false (.tmp 11), none, 0⟩, ⟨(some 13), .un .not (.tmp 12), none, 0⟩, ⟨(some 14), .mv (.tmp 13), none, 0⟩, ⟨(some 15), .ld 4 true (.tmp 3), (some (14, false)), 0⟩, ⟨(some 16), .cl 21 [(.tmp 15)], (some (14, false)), 0⟩, ⟨(some 17), .bin .neq (.tmp 16) (.const (.int .i64 0)), (some (14, false)), 0⟩, ⟨(some 18), .pick (.tmp 14) (.const (.bool true)) (.tmp 17), none, 0⟩, ⟨(some 19), .mv (.tmp 18), none, 0⟩, ⟨(some 20), .ld 2 true (.tmp 5), (some (19, false)), 0⟩, ⟨(some 21), .cl 47 [(.tmp 20)], (some (19, false)), 0⟩, ⟨(some 22), .bin .neq (.tmp 21) (.const (.int .i64 0)), (some (19, false)), 0⟩, ⟨(some 23), .pick (.tmp 19) (.const (.bool true)) (.tmp 22), none, 0⟩] none 0 []) (.cond (.tmp 23) (.seq (.reg 0 [⟨(some 24), .ld 4 true (.tmp 3), none, 0⟩, ⟨(some 25), .bd [(.lit (.int .u8 0)), (.lit (.string ⟨#[]⟩)), (.lit (.string ⟨#[]⟩)), (.lit (.string ⟨#[]⟩)), (.lit (.int .i64 0)), (.lit (.int .i64 0)), (.lit (.int .i64 0)), (.lit (.int .i64 0))] [], none, 0⟩, ⟨none, .st 4 (.tmp 6) (.tmp 24), none, 0⟩, ⟨none, .st 8 (.tmp 7) (.tmp 25), none, 0⟩, ⟨none, .st 1 (.tmp 8) (.const (.bool false)), none, 0⟩] none 0 []) .ret) .skip)) (.seq (.seq (.reg 0 [⟨(some 26), .fa 1 (.tmp 3), none, 0⟩, ⟨(some 27), .ld 1 false (.tmp 26), none, 0⟩, ⟨(some 28), .un .not (.tmp 27), none, 0⟩] none 0 []) (.cond (.tmp 28) (.seq (.reg 0 [⟨(some 29), .fa 1 (.tmp 3), none, 0⟩, ⟨none, .st 1 (.tmp 29) (.const (.bool true)), none, 0⟩] none 0 []) (.seq (.reg 0 [⟨(some 30), .ld 4 true (.tmp 3), none, 0⟩, ⟨(some 31), .ld 2 true (.tmp 4), none, 0⟩, ⟨(some 32), .ld 2 true (.tmp 5), none, 0⟩, ⟨(some 33), .cl 18 [(.tmp 31), (.tmp 32)], none, 0⟩, ⟨(some 34), .bd [(.lit (.int .u8 0)), (.lit (.string ⟨#[]⟩)), (.lit (.string ⟨#[]⟩)), (.lit (.string ⟨#[]⟩)), (.lit (.int .i64 0)), (.lit (.int .i64 0)), (.lit (.int .i64 0)), (.lit (.int .i64 0))] [(0, 1, (.const (.int .u8 36))), (7, 1, (.tmp 33))], none, 0⟩, ⟨none, .st 4 (.tmp 6) (.tmp 30), none, 0⟩, ⟨none, .st 8 (.tmp 7) (.tmp 34), none, 0⟩, ⟨none, .st 1 (.tmp 8) (.const (.bool true)), none, 0⟩] (some [[], [], [], [2, 1], [1, 2, 3], [1, 2, 3, 0], [0, 5, 3, 2, 1, 4], [4, 1, 2, 3, 5, 0, 6]]) 0 []) .ret)) .skip)) (.seq (.seq (.reg 0 [⟨(some 35), .ld 2 true (.tmp 4), none, 0⟩, ⟨(some 36), .ld 2 true (.tmp 5), none, 0⟩, ⟨(some 37), .fa 2 (.tmp 3), none, 0⟩, ⟨(some 38), .ld 1 false (.tmp 37), none, 0⟩, ⟨(some 39), .cl 52 [(.tmp 35), (.tmp 36), (.tmp 38)], none, 0⟩] none 0 []) (.block 0 (.raw c))) (.seq (.reg 0 [⟨(some 57), .bd [(.lit (.bool false)), (.lit (.bool false)), (.lit (.string ⟨#[]⟩)), (.lit (.int .i64 0))] [], none, 0⟩, ⟨(some 58), .bd [(.lit (.int .u8 0)), (.lit (.string ⟨#[]⟩)), (.lit (.string ⟨#[]⟩)), (.lit (.string ⟨#[]⟩)), (.lit (.int .i64 0)), (.lit (.int .i64 0)), (.lit (.int .i64 0)), (.lit (.int .i64 0))] [(0, 1, (.const (.int .u8 37)))], none, 0⟩, ⟨none, .st 4 (.tmp 6) (.tmp 57), none, 0⟩, ⟨none, .st 8 (.tmp 7) (.tmp 58), none, 0⟩, ⟨none, .st 1 (.tmp 8) (.const (.bool true)), none, 0⟩] none 0 []) .ret)))))
def da20 : BCode := (.seq (.reg 0 [⟨(some 9), .mv (.tmp 40), none, 0⟩] none 0 []) (.reg 1 [⟨(some 10), .al (.agg [(.lit (.string ⟨#[]⟩)), (.lit (.string ⟨#[]⟩)), (.lit (.bool false)), (.lit (.int .i64 0)), (.lit (.int .i64 0)), (.lit (.int .i64 0))]), none, 0⟩, ⟨none, .st 6 (.tmp 10) (.tmp 41), none, 1⟩] none 0 []))
def db20 : BCode := (.block 1 (.seq (.reg 0 [⟨(some 42), .mv (.tmp 9), none, 0⟩, ⟨(some 43), .fa 2 (.tmp 3), none, 0⟩, ⟨none, .st 1 (.tmp 43) (.tmp 42), none, 0⟩] none 0 []) (.seq (.reg 0 [⟨(some 44), .fa 3 (.tmp 3), none, 0⟩, ⟨(some 45), .ld 1 false (.tmp 44), none, 0⟩, ⟨(some 46), .bin .add (.tmp 45) (.const (.int .i64 1)), none, 0⟩, ⟨(some 47), .mn false (.tmp 46) (.const (.int .i64 1099511627776)), none, 0⟩, ⟨(some 48), .fa 3 (.tmp 3), none, 0⟩, ⟨none, .st 1 (.tmp 48) (.tmp 47), none, 0⟩] none 0 []) (.seq (.reg 0 [⟨(some 49), .ld 4 true (.tmp 3), none, 0⟩, ⟨(some 50), .fa 0 (.tmp 10), none, 0⟩, ⟨(some 51), .ld 1 false (.tmp 50), none, 0⟩, ⟨(some 52), .fa 1 (.tmp 10), none, 0⟩, ⟨(some 53), .ld 1 false (.tmp 52), none, 0⟩, ⟨(some 54), .fa 2 (.tmp 10), none, 0⟩, ⟨(some 55), .ld 4 true (.tmp 54), none, 0⟩, ⟨(some 56), .cl 16 [(.tmp 51), (.tmp 53), (.tmp 55)], none, 0⟩, ⟨none, .st 4 (.tmp 6) (.tmp 49), none, 0⟩, ⟨none, .st 8 (.tmp 7) (.tmp 56), none, 0⟩, ⟨none, .st 1 (.tmp 8) (.const (.bool true)), none, 0⟩] (some [[], [], [1], [], [3], [], [5], [5, 6, 3, 4, 1, 2], [2, 1, 4, 3, 6, 5, 7, 0], [0, 8, 2, 1, 4, 3, 6, 5, 7], [7, 5, 6, 3, 4, 1, 2, 8, 0, 9]]) 0 []) .ret))))
theorem dc20_ok : compF Try.prog Try.f20 = some ((dc20 (rangeAt Try.f20 0)).er, 59, [.cell 6 4 true, .cell 7 8 true, .cell 8 1 false]) := by unfold dc20; kernel_rfl
theorem rg20 : rangeAt Try.f20 0 = .rangeFunc (.tmp 39) #[40, 41] (rangeAsg (rangeAt Try.f20 0)) (rangeBody (rangeAt Try.f20 0)) := by kernel_rfl
theorem da20_ok : comp Try.prog (rangeAsg (rangeAt Try.f20 0)) = some da20.er := by unfold da20; kernel_rfl
theorem db20_ok : comp Try.prog (rangeBody (rangeAt Try.f20 0)) = some db20.er := by unfold db20; kernel_rfl
theorem fl20 : da20.er.flat = true ∧ db20.er.flat = true := ⟨rfl, rfl⟩
theorem sc20 : (rangeAsg (rangeAt Try.f20 0)).scopes = false ∧ (rangeBody (rangeAt Try.f20 0)).scopes = false := ⟨by kernel_rfl, by kernel_rfl⟩
end Go.Proofs.Ythlhbgedidipkaa
/- That the program's functions yield what the plain ones tell (written by a program of mine). -/
namespace Go.Proofs.Ythlhbgedidipkaa
open Go.RowKit
def gc18 : BCode := (.seq (.reg 2 [⟨(some 2), .bx (.tmp 0), none, 0⟩, ⟨(some 3), .bx (.tmp 1), none, 1⟩, ⟨(some 4), .mv (.const (.int .i64 0)), none, 2⟩] none 0 []) (.seq (.reg 0 [⟨(some 5), .ld 2 true (.tmp 2), none, 0⟩, ⟨(some 6), .ld 2 true (.tmp 3), none, 0⟩, ⟨(some 7), .cl 15 [(.tmp 5), (.tmp 6)], none, 0⟩, ⟨(some 8), .lens (.tmp 7), none, 0⟩, ⟨(some 4), .mv (.tmp 8), none, 0⟩] none 0 []) .ret))
theorem gc18_ok : compF Try.prog Try.f18 = some (gc18.er, 9, [.tmp 4]) := by unfold gc18; kernel_rfl
set_option maxRecDepth 100000 in
set_option maxHeartbeats 4000000 in
theorem p_snap_Count_v {u1 u2 u3 : Bool} (a0 : SnapEyes) (a1 : BookState) : CallsO Try.prog 18 [.agg [.sl (List.map V.s a0.Users) u1, .sl (List.map V.s a0.Keys) u2], .agg [.i a1.Seq, .sl (List.map BookRow.v a1.Rows) u3]] V.i (p_snap_Count a0 a1) := by
  refine callsO_comp mix Try.func18 gc18_ok fun r H => ?_
  rw [p_snap_Count] at H
  conv => whnf
  refine ask_c (p_snap_View_v _ _) H rfl rfl (fun v1 H => ?_); conv => whnf
  refine LenQ.M ?_; conv => whnf
  exact fin0_c (enc := V.i) H (.inr rfl) (.cons (.tmp rfl) (.nil)) rfl rfl
end Go.Proofs.Ythlhbgedidipkaa
/- snap.Next (written by a program of mine). -/
namespace Go.Proofs.Ythlhbgedidipkaa
open Go.RowKit
def p_snap_Next (a0 : SnapState) (a1 : SnapEyes) (a2 : BookState) : Option (SnapState × StanzaStanza × Bool) :=
  bif a0.On then
    (p_snap_Check a0).bind fun v2 =>
    bif (v2 != (0 : Int)) then
      some (a0, (StanzaStanza.mk (0 : Int) (⟨#[]⟩ : ByteArray) (⟨#[]⟩ : ByteArray) (⟨#[]⟩ : ByteArray) (0 : Int) (0 : Int) (0 : Int) (0 : Int)), false)
    else
    (p_book_Check a2).bind fun v4 =>
    bif (v4 != (0 : Int)) then
      some (a0, (StanzaStanza.mk (0 : Int) (⟨#[]⟩ : ByteArray) (⟨#[]⟩ : ByteArray) (⟨#[]⟩ : ByteArray) (0 : Int) (0 : Int) (0 : Int) (0 : Int)), false)
    else
    bif a0.Begun then
      (p_snap_items a1 a2 a0.After).bind fun xs => match xs with
      | [] => some ((SnapState.mk false false (⟨#[]⟩ : ByteArray) (0 : Int)), (StanzaStanza.mk (37 : Int) (⟨#[]⟩ : ByteArray) (⟨#[]⟩ : ByteArray) (⟨#[]⟩ : ByteArray) (0 : Int) (0 : Int) (0 : Int) (0 : Int)), true)
      | x :: _ => (p_pres_Say x.2.User x.2.Res x.2.P).bind fun s => some ((SnapState.mk a0.On a0.Begun x.1 (if (1099511627776 : Int) < w64 (a0.Told + (1 : Int)) then (1099511627776 : Int) else w64 (a0.Told + (1 : Int)))), s, true)
    else
    (p_snap_Count a1 a2).bind fun v7 =>
    some ((SnapState.mk a0.On true a0.After a0.Told), (StanzaStanza.mk (36 : Int) (⟨#[]⟩ : ByteArray) (⟨#[]⟩ : ByteArray) (⟨#[]⟩ : ByteArray) (0 : Int) (0 : Int) (0 : Int) v7), true)
  else
  some (a0, (StanzaStanza.mk (0 : Int) (⟨#[]⟩ : ByteArray) (⟨#[]⟩ : ByteArray) (⟨#[]⟩ : ByteArray) (0 : Int) (0 : Int) (0 : Int) (0 : Int)), false)
def gc20 (c : Code) : BCode := (.seq (.reg 6 [⟨(some 3), .bx (.tmp 0), none, 0⟩, ⟨(some 4), .bx (.tmp 1), none, 1⟩, ⟨(some 5), .bx (.tmp 2), none, 2⟩, ⟨(some 6), .al (.agg [(.lit (.bool false)), (.lit (.bool false)), (.lit (.string ⟨#[]⟩)), (.lit (.int .i64 0))]), none, 3⟩, ⟨(some 7), .al (.agg [(.lit (.int .u8 0)), (.lit (.string ⟨#[]⟩)), (.lit (.string ⟨#[]⟩)), (.lit (.string ⟨#[]⟩)), (.lit (.int .i64 0)), (.lit (.int .i64 0)), (.lit (.int .i64 0)), (.lit (.int .i64 0))]), none, 4⟩, ⟨(some 8), .al (.lit (.bool false)), none, 5⟩] none 0 []) (.seq (.seq (.reg 0 [⟨(some 11), .fa 0 (.tmp 3), none, 0⟩, ⟨(some 12), .ld 1 false (.tmp 11), none, 0⟩, ⟨(some 13), .un .not (.tmp 12), none, 0⟩, ⟨(some 14), .mv (.tmp 13), none, 0⟩, ⟨(some 15), .ld 4 true (.tmp 3), (some (14, false)), 0⟩, ⟨(some 16), .cl 21 [(.tmp 15)], (some (14, false)), 0⟩, ⟨(some 17), .bin .neq (.tmp 16) (.const (.int .i64 0)), (some (14, false)), 0⟩, ⟨(some 18), .pick (.tmp 14) (.const (.bool true)) (.tmp 17), none, 0⟩, ⟨(some 19), .mv (.tmp 18), none, 0⟩, ⟨(some 20), .ld 2 true (.tmp 5), (some (19, false)), 0⟩, ⟨(some 21), .cl 47 [(.tmp 20)], (some (19, false)), 0⟩, ⟨(some 22), .bin .neq (.tmp 21) (.const (.int .i64 0)), (some (19, false)), 0⟩, ⟨(some 23), .pick (.tmp 19) (.const (.bool true)) (.tmp 22), none, 0⟩] none 0 []) (.cond (.tmp 23) (.seq (.reg 0 [⟨(some 24), .ld 4 true (.tmp 3), none, 0⟩, ⟨(some 25), .bd [(.lit (.int .u8 0)), (.lit (.string ⟨#[]⟩)), (.lit (.string ⟨#[]⟩)), (.lit (.string ⟨#[]⟩)), (.lit (.int .i64 0)), (.lit (.int .i64 0)), (.lit (.int .i64 0)), (.lit (.int .i64 0))] [], none, 0⟩, ⟨none, .st 4 (.tmp 6) (.tmp 24), none, 0⟩, ⟨none, .st 8 (.tmp 7) (.tmp 25), none, 0⟩, ⟨none, .st 1 (.tmp 8) (.const (.bool false)), none, 0⟩] none 0 []) .ret) .skip)) (.seq (.seq (.reg 0 [⟨(some 26), .fa 1 (.tmp 3), none, 0⟩, ⟨(some 27), .ld 1 false (.tmp 26), none, 0⟩, ⟨(some 28), .un .not (.tmp 27), none, 0⟩] none 0 []) (.cond (.tmp 28) (.seq (.reg 0 [⟨(some 29), .fa 1 (.tmp 3), none, 0⟩, ⟨none, .st 1 (.tmp 29) (.const (.bool true)), none, 0⟩] none 0 []) (.seq (.reg 0 [⟨(some 30), .ld 4 true (.tmp 3), none, 0⟩, ⟨(some 31), .ld 2 true (.tmp 4), none, 0⟩, ⟨(some 32), .ld 2 true (.tmp 5), none, 0⟩, ⟨(some 33), .cl 18 [(.tmp 31), (.tmp 32)], none, 0⟩, ⟨(some 34), .bd [(.lit (.int .u8 0)), (.lit (.string ⟨#[]⟩)), (.lit (.string ⟨#[]⟩)), (.lit (.string ⟨#[]⟩)), (.lit (.int .i64 0)), (.lit (.int .i64 0)), (.lit (.int .i64 0)), (.lit (.int .i64 0))] [(0, 1, (.const (.int .u8 36))), (7, 1, (.tmp 33))], none, 0⟩, ⟨none, .st 4 (.tmp 6) (.tmp 30), none, 0⟩, ⟨none, .st 8 (.tmp 7) (.tmp 34), none, 0⟩, ⟨none, .st 1 (.tmp 8) (.const (.bool true)), none, 0⟩] (some [[], [], [], [2, 1], [1, 2, 3], [1, 2, 3, 0], [0, 5, 3, 2, 1, 4], [4, 1, 2, 3, 5, 0, 6]]) 0 []) .ret)) .skip)) (.seq (.seq (.reg 0 [⟨(some 35), .ld 2 true (.tmp 4), none, 0⟩, ⟨(some 36), .ld 2 true (.tmp 5), none, 0⟩, ⟨(some 37), .fa 2 (.tmp 3), none, 0⟩, ⟨(some 38), .ld 1 false (.tmp 37), none, 0⟩, ⟨(some 39), .cl 52 [(.tmp 35), (.tmp 36), (.tmp 38)], none, 0⟩] none 3 []) (.block 0 (.raw c))) (.seq (.reg 0 [⟨(some 57), .bd [(.lit (.bool false)), (.lit (.bool false)), (.lit (.string ⟨#[]⟩)), (.lit (.int .i64 0))] [], none, 0⟩, ⟨(some 58), .bd [(.lit (.int .u8 0)), (.lit (.string ⟨#[]⟩)), (.lit (.string ⟨#[]⟩)), (.lit (.string ⟨#[]⟩)), (.lit (.int .i64 0)), (.lit (.int .i64 0)), (.lit (.int .i64 0)), (.lit (.int .i64 0))] [(0, 1, (.const (.int .u8 37)))], none, 0⟩, ⟨none, .st 4 (.tmp 6) (.tmp 57), none, 0⟩, ⟨none, .st 8 (.tmp 7) (.tmp 58), none, 0⟩, ⟨none, .st 1 (.tmp 8) (.const (.bool true)), none, 0⟩] none 0 []) .ret)))))
theorem gc20_ok : compF Try.prog Try.f20 = some ((gc20 (rangeAt Try.f20 0)).er, 59, [.cell 6 4 true, .cell 7 8 true, .cell 8 1 false]) := by unfold gc20; kernel_rfl
set_option maxRecDepth 100000 in
set_option maxHeartbeats 4000000 in
theorem p_snap_Next_f (a0 : SnapState) (a1 : SnapEyes) (a2 : BookState) : CallsO Try.prog 20 [.agg [.b a0.On, .b a0.Begun, .s a0.After, .i a0.Told], .agg [.sl (List.map V.s a1.Users) false, .sl (List.map V.s a1.Keys) false], .agg [.i a2.Seq, .sl (List.map BookRow.v a2.Rows) false]] (fun r : SnapState × StanzaStanza × Bool => .tup [SnapState.v r.1, StanzaStanza.v r.2.1, V.b r.2.2]) (p_snap_Next a0 a1 a2) := by
  refine callsO_comp mix Try.func20 gc20_ok fun r H => ?_
  rw [p_snap_Next] at H
  conv => whnf
  refine Tst.not ?_
  refine tst_d H (fun b1 H => ?_) (fun b1 H => ?_)
  · conv => whnf
    iterate 8 (refine Tst.T ?_; conv => whnf)
    refine ⟨Nat.le_of_ble_eq_true rfl, ?_⟩; conv => whnf
    refine ⟨Nat.le_of_ble_eq_true rfl, ?_⟩; conv => whnf
    refine ⟨Nat.le_of_ble_eq_true rfl, ?_⟩; conv => whnf
    exact fin0_c (enc := (fun r : SnapState × StanzaStanza × Bool => .tup [SnapState.v r.1, StanzaStanza.v r.2.1, V.b r.2.2])) H (.inr rfl) (.cons (.cell rfl rfl (Nat.le_of_ble_eq_true rfl)) (.cons (.cell rfl rfl (Nat.le_of_ble_eq_true rfl)) (.cons (.cell rfl rfl (Nat.le_of_ble_eq_true rfl)) (.nil)))) rfl rfl
  conv => whnf
  refine Tst.F ?_; conv => whnf
  refine ask_c (p_snap_Check_v _) H rfl rfl (fun v2 H => ?_); conv => whnf
  iterate 2 (refine Tst.F ?_; conv => whnf)
  refine tst_c H (fun b3 H => ?_) (fun b3 H => ?_)
  · conv => whnf
    iterate 4 (refine Tst.T ?_; conv => whnf)
    refine ⟨Nat.le_of_ble_eq_true rfl, ?_⟩; conv => whnf
    refine ⟨Nat.le_of_ble_eq_true rfl, ?_⟩; conv => whnf
    refine ⟨Nat.le_of_ble_eq_true rfl, ?_⟩; conv => whnf
    exact fin0_c (enc := (fun r : SnapState × StanzaStanza × Bool => .tup [SnapState.v r.1, StanzaStanza.v r.2.1, V.b r.2.2])) H (.inr rfl) (.cons (.cell rfl rfl (Nat.le_of_ble_eq_true rfl)) (.cons (.cell rfl rfl (Nat.le_of_ble_eq_true rfl)) (.cons (.cell rfl rfl (Nat.le_of_ble_eq_true rfl)) (.nil)))) rfl rfl
  conv => whnf
  refine Tst.F ?_; conv => whnf
  refine ask_c (p_book_Check_v _) H rfl rfl (fun v4 H => ?_); conv => whnf
  iterate 2 (refine Tst.F ?_; conv => whnf)
  refine tst_c H (fun b5 H => ?_) (fun b5 H => ?_)
  · conv => whnf
    refine ⟨Nat.le_of_ble_eq_true rfl, ?_⟩; conv => whnf
    refine ⟨Nat.le_of_ble_eq_true rfl, ?_⟩; conv => whnf
    refine ⟨Nat.le_of_ble_eq_true rfl, ?_⟩; conv => whnf
    exact fin0_c (enc := (fun r : SnapState × StanzaStanza × Bool => .tup [SnapState.v r.1, StanzaStanza.v r.2.1, V.b r.2.2])) H (.inr rfl) (.cons (.cell rfl rfl (Nat.le_of_ble_eq_true rfl)) (.cons (.cell rfl rfl (Nat.le_of_ble_eq_true rfl)) (.cons (.cell rfl rfl (Nat.le_of_ble_eq_true rfl)) (.nil)))) rfl rfl
  conv => whnf
  refine Tst.not ?_
  refine tst_d H (fun b6 H => ?_) (fun b6 H => ?_)
  · conv => whnf
    refine ⟨Nat.le_of_ble_eq_true rfl, ?_⟩; conv => whnf
    refine ask_c (p_snap_Count_v _ _) H rfl rfl (fun v7 H => ?_); conv => whnf
    refine ⟨Nat.le_of_ble_eq_true rfl, ?_⟩; conv => whnf
    refine ⟨Nat.le_of_ble_eq_true rfl, ?_⟩; conv => whnf
    refine ⟨Nat.le_of_ble_eq_true rfl, ?_⟩; conv => whnf
    refine FootQ.mk ⟨rfl, ?_⟩; conv => whnf
    exact fin0_c (enc := (fun r : SnapState × StanzaStanza × Bool => .tup [SnapState.v r.1, StanzaStanza.v r.2.1, V.b r.2.2])) H (.inr rfl) (.cons (.cell rfl rfl (Nat.le_of_ble_eq_true rfl)) (.cons (.cell rfl rfl (Nat.le_of_ble_eq_true rfl)) (.cons (.cell rfl rfl (Nat.le_of_ble_eq_true rfl)) (.nil)))) rfl rfl
  conv => whnf
  refine Ask_S (rowsS6 rfl rfl rfl rfl rfl rfl a1 a2 a0.After) rfl ?_; conv => whnf
  obtain ⟨xs, hxs, H⟩ := bind_c H
  rw [rg20]
  refine range_c (α := ItmS) mix da20_ok db20_ok fl20.1 fl20.2 sc20.1 sc20.2 (enters_of Try.func90 (by kernel_rfl) rfl) rfl (items_it hxs rfl rfl rfl) haenS (fun _ => rfl)
    (fun pre st1 => pre = [] ∧ ∃ s : ByteArray, st1 = [.live [.b a0.On, .b a0.Begun, .s a0.After, .i a0.Told] 0, .live [.sl (List.map V.s a1.Users) false, .sl (List.map V.s a1.Keys) false] 0, .live [.i a2.Seq, .sl (List.map BookRow.v a2.Rows) false] 0, .live [.b false, .b false, .s (⟨#[]⟩ : ByteArray), .i (0 : Int)] 0, .live [.y8 (0 : Int), .s (⟨#[]⟩ : ByteArray), .s (⟨#[]⟩ : ByteArray), .s (⟨#[]⟩ : ByteArray), .i (0 : Int), .i (0 : Int), .i (0 : Int), .i (0 : Int)] 0, .live [.b false] 0, .live [.i a2.Seq, .sl (List.map BookRow.v a2.Rows) false] 2, .live [.s s] 0, .live [.sl (List.map V.s a1.Users) false, .sl (List.map V.s a1.Keys) false] 2]) ?_ ?_ ⟨rfl, _, rfl⟩ ?_ ?_
  · rintro pre st1 s ⟨h, s0, rfl⟩; exact ⟨h, s, rfl⟩
  · rintro pre st1 ⟨h, s0, rfl⟩; exact ⟨s0, rfl⟩
  · rintro pre ⟨k, x⟩ post st1 hx ⟨rfl, s, rfl⟩
    rw [List.nil_append] at hx
    subst hx
    dsimp only at H
    conv => whnf
    refine ⟨Nat.le_of_ble_eq_true rfl, ?_⟩; conv => whnf
    refine ⟨rfl, fun s2 => ?_⟩; conv => whnf
    refine ⟨Nat.le_of_ble_eq_true rfl, ?_⟩; conv => whnf
    refine Ari.w ?_; conv => whnf
    refine ⟨Nat.le_of_ble_eq_true rfl, ?_⟩; conv => whnf
    refine ask_c (p_pres_Say_v _ _ _) H rfl rfl (fun v H => ?_); conv => whnf
    refine ⟨Nat.le_of_ble_eq_true rfl, ?_⟩; conv => whnf
    refine ⟨Nat.le_of_ble_eq_true rfl, ?_⟩; conv => whnf
    refine ⟨Nat.le_of_ble_eq_true rfl, ?_⟩; conv => whnf
    refine FootQ.mk ⟨rfl, ?_⟩; conv => whnf
    refine RoundEnd.mk ⟨rfl, fun h => (by cases h), fun _ s3 => ?_⟩; conv => whnf
    exact fin0_c (enc := (fun r : SnapState × StanzaStanza × Bool => .tup [SnapState.v r.1, StanzaStanza.v r.2.1, V.b r.2.2])) H (.inr rfl) (.cons (.cell rfl rfl (Nat.le_of_ble_eq_true rfl)) (.cons (.cell rfl rfl (Nat.le_of_ble_eq_true rfl)) (.cons (.cell rfl rfl (Nat.le_of_ble_eq_true rfl)) (.nil)))) rfl rfl
  · rintro st1 ⟨h, s, rfl⟩
    subst h
    dsimp only at H
    conv => whnf
    refine ⟨Nat.le_of_ble_eq_true rfl, ?_⟩; conv => whnf
    refine ⟨Nat.le_of_ble_eq_true rfl, ?_⟩; conv => whnf
    refine ⟨Nat.le_of_ble_eq_true rfl, ?_⟩; conv => whnf
    exact fin0_c (enc := (fun r : SnapState × StanzaStanza × Bool => .tup [SnapState.v r.1, StanzaStanza.v r.2.1, V.b r.2.2])) H (.inr rfl) (.cons (.cell rfl rfl (Nat.le_of_ble_eq_true rfl)) (.cons (.cell rfl rfl (Nat.le_of_ble_eq_true rfl)) (.cons (.cell rfl rfl (Nat.le_of_ble_eq_true rfl)) (.nil)))) rfl rfl
theorem p_snap_Next_v {u1 u2 u3 : Bool} (a0 : SnapState) (a1 : SnapEyes) (a2 : BookState) : CallsO Try.prog 20 [.agg [.b a0.On, .b a0.Begun, .s a0.After, .i a0.Told], .agg [.sl (List.map V.s a1.Users) u1, .sl (List.map V.s a1.Keys) u2], .agg [.i a2.Seq, .sl (List.map BookRow.v a2.Rows) u3]] (fun r : SnapState × StanzaStanza × Bool => .tup [SnapState.v r.1, StanzaStanza.v r.2.1, V.b r.2.2]) (p_snap_Next a0 a1 a2) := fun r hr =>
  callsV_fz (.cons (.c (.id rfl)) (.cons (fzagg (.cons .slw (.cons .slw .nil)) rfl) (.cons (fzagg (.cons (.id rfl) (.cons .slw .nil)) rfl) .nil))) (p_snap_Next_f a0 a1 a2 r hr)
end Go.Proofs.Ythlhbgedidipkaa
/- Plain functions (written by a program of mine). -/
namespace Go.Proofs.Ythlhbgedidipkaa
open Go.RowKit
def p_snap_All_l1 (z8 : SnapEyes) (z9 : BookState) : Nat → (List StanzaStanza) → SnapState → Option ((List StanzaStanza))
  | 0, _, _ => none
  | n + 1, y7, y10 =>
    (p_snap_Next y10 z8 z9).bind fun v11 =>
    bif v11.2.2 then
      (app? y7 [v11.2.1]).bind fun l13 =>
      p_snap_All_l1 z8 z9 n l13 v11.1
    else
    some y7
def p_snap_All (a0 : SnapEyes) (a1 : BookState) : Option ((List StanzaStanza)) :=
  (p_snap_Begin).bind fun v1 =>
  (p_snap_All_l1 a0 a1 fuel [] v1).bind fun q15 =>
  some q15
def p_law26_awake : Option (Bool) :=
  (p_book_Set (BookState.mk (0 : Int) []) (⟨#[97, 64, 120]⟩ : ByteArray) (⟨#[49]⟩ : ByteArray) (1 : Int) (0 : Int)).bind fun v1 =>
  (p_book_Set v1.1 (⟨#[98, 64, 120]⟩ : ByteArray) (⟨#[]⟩ : ByteArray) (0 : Int) (0 : Int)).bind fun v2 =>
  (p_book_Set v2.1 (⟨#[99, 64, 120]⟩ : ByteArray) (⟨#[50]⟩ : ByteArray) (0 : Int) (0 : Int)).bind fun v3 =>
  (p_snap_All (SnapEyes.mk [(⟨#[97, 64, 120]⟩ : ByteArray)] [(⟨#[99, 64, 120, 32, 50]⟩ : ByteArray)]) v3.1).bind fun v4 =>
  (p_snap_Begin).bind fun v5 =>
  (p_snap_Next v5 (SnapEyes.mk [(⟨#[97, 64, 120]⟩ : ByteArray)] [(⟨#[99, 64, 120, 32, 50]⟩ : ByteArray)]) v3.1).bind fun v6 =>
  (p_snap_Next v6.1 (SnapEyes.mk [(⟨#[97, 64, 120]⟩ : ByteArray)] [(⟨#[99, 64, 120, 32, 50]⟩ : ByteArray)]) v3.1).bind fun v7 =>
  (p_snap_View (SnapEyes.mk [(⟨#[97, 64, 120]⟩ : ByteArray)] [(⟨#[99, 64, 120, 32, 50]⟩ : ByteArray)]) v3.1).bind fun v8 =>
  bif ((v4.length : Int) == (4 : Int)) then
    (at? v4 (0 : Int)).bind fun x10 =>
    bif ((x10.Kind == (36 : Int)) && ((x10.User.toList == (⟨#[]⟩ : ByteArray).toList) && ((x10.Res.toList == (⟨#[]⟩ : ByteArray).toList) && ((x10.Name.toList == (⟨#[]⟩ : ByteArray).toList) && ((x10.Show == (0 : Int)) && ((x10.Prio == (0 : Int)) && ((x10.Code == (0 : Int)) && ((x10.N == (2 : Int)) && true)))))))) then
      (at? v4 (1 : Int)).bind fun x12 =>
      bif (x12.User.toList == (⟨#[97, 64, 120]⟩ : ByteArray).toList) then
        (at? v4 (2 : Int)).bind fun x14 =>
        bif (x14.User.toList == (⟨#[99, 64, 120]⟩ : ByteArray).toList) then
          (at? v4 (3 : Int)).bind fun x16 =>
          bif ((x16.Kind == (37 : Int)) && ((x16.User.toList == (⟨#[]⟩ : ByteArray).toList) && ((x16.Res.toList == (⟨#[]⟩ : ByteArray).toList) && ((x16.Name.toList == (⟨#[]⟩ : ByteArray).toList) && ((x16.Show == (0 : Int)) && ((x16.Prio == (0 : Int)) && ((x16.Code == (0 : Int)) && ((x16.N == (0 : Int)) && true)))))))) then
            (at? v4 (0 : Int)).bind fun x18 =>
            bif ((v6.2.1.Kind == x18.Kind) && ((v6.2.1.User.toList == x18.User.toList) && ((v6.2.1.Res.toList == x18.Res.toList) && ((v6.2.1.Name.toList == x18.Name.toList) && ((v6.2.1.Show == x18.Show) && ((v6.2.1.Prio == x18.Prio) && ((v6.2.1.Code == x18.Code) && ((v6.2.1.N == x18.N) && true)))))))) then
              bif v6.2.2 then
                bif v7.2.2 then
                  bif ((v7.1.On == true) && ((v7.1.Begun == true) && ((v7.1.After.toList == (⟨#[97, 64, 120, 32, 49]⟩ : ByteArray).toList) && ((v7.1.Told == (1 : Int)) && true)))) then
                    (p_snap_Covers v7.1 (⟨#[98, 64, 120, 32]⟩ : ByteArray)).bind fun v23 =>
                    bif v23 then
                      (p_snap_Covers v7.1 (⟨#[97, 64, 120, 32, 49]⟩ : ByteArray)).bind fun v25 =>
                      bif v25 then
                        some false
                      else
                      (p_snap_Covers (SnapState.mk false false (⟨#[]⟩ : ByteArray) (0 : Int)) (⟨#[122]⟩ : ByteArray)).bind fun v27 =>
                      bif v27 then
                        some false
                      else
                      bif ((v8.length : Int) == (2 : Int)) then
                        (p_snap_Count (SnapEyes.mk [(⟨#[97, 64, 120]⟩ : ByteArray)] [(⟨#[99, 64, 120, 32, 50]⟩ : ByteArray)]) v3.1).bind fun v30 =>
                        bif (v30 == (2 : Int)) then
                          (at? v8 (0 : Int)).bind fun x32 =>
                          (p_snap_Sees (SnapEyes.mk [(⟨#[97, 64, 120]⟩ : ByteArray)] [(⟨#[99, 64, 120, 32, 50]⟩ : ByteArray)]) x32).bind fun v33 =>
                          bif v33 then
                            (p_snap_Check v7.1).bind fun v35 =>
                            bif (v35 == (0 : Int)) then
                              (p_snap_Check (SnapState.mk false true (⟨#[]⟩ : ByteArray) (0 : Int))).bind fun v37 =>
                              bif (v37 == (4 : Int)) then
                                some true
                              else
                              some false
                            else
                            some false
                          else
                          some false
                        else
                        some false
                      else
                      some false
                    else
                    some false
                  else
                  some false
                else
                some false
              else
              some false
            else
            some false
          else
          some false
        else
        some false
      else
      some false
    else
    some false
  else
  some false
def p_law26_who (a0 : Int) : Option (ByteArray) :=
  (text? [IntKind.wrap .u8 ((97 : Int) + (Int.tmod a0 (8 : Int)))]).bind fun s1 =>
  (cat? s1 (⟨#[64, 120]⟩ : ByteArray)).bind fun s2 =>
  some s2
def p_law26_SnapWhole_l1 (z9 : Int) : Nat → Int → SnapEyes → Option ((Int × SnapEyes))
  | 0, _, _ => none
  | n + 1, y10, y11 =>
    bif (decide (y10 < (8 : Int))) then
      (pos? y10).bind fun x13 =>
      bif ((andI .u8 (shrI .u8 z9 y10) (1 : Int)) == (1 : Int)) then
        (p_law26_who (IntKind.wrap .u8 y10)).bind fun v15 =>
        (p_pres_Key v15 (⟨#[]⟩ : ByteArray)).bind fun v16 =>
        (app? y11.Keys [v16]).bind fun l17 =>
        p_law26_SnapWhole_l1 z9 n (w64 (y10 + (1 : Int))) (SnapEyes.mk y11.Users l17)
      else
      p_law26_SnapWhole_l1 z9 n (w64 (y10 + (1 : Int))) y11
    else
    some (y10, y11)
def p_law26_SnapWhole_l2 (z25 : List Law26Deed) : Nat → Int → BookState → Option ((Int × BookState))
  | 0, _, _ => none
  | n + 1, y26, y28 =>
    bif (decide (y26 < (z25.length : Int))) then
      (at? z25 y26).bind fun x30 =>
      bif x30.Off then
        (at? z25 y26).bind fun x32 =>
        (p_law26_who x32.Who).bind fun v33 =>
        (p_book_Off y28 v33 (⟨#[]⟩ : ByteArray)).bind fun v34 =>
        p_law26_SnapWhole_l2 z25 n (w64 (y26 + (1 : Int))) v34.1
      else
      (at? z25 y26).bind fun x35 =>
      (p_law26_who x35.Who).bind fun v36 =>
      (at? z25 y26).bind fun x37 =>
      (p_book_Set y28 v36 (⟨#[]⟩ : ByteArray) (w64 (Int.tmod x37.Show (5 : Int))) (0 : Int)).bind fun v38 =>
      p_law26_SnapWhole_l2 z25 n (w64 (y26 + (1 : Int))) v38.1
    else
    some (y26, y28)
def p_law26_SnapWhole_l3 (z57 : List StanzaStanza) (z58 : List BookRow) (z59 : Int) (z61 : SnapEyes) : Nat → Int → Option (Bool ⊕ Int)
  | 0, _ => none
  | n + 1, y60 =>
    bif (decide (y60 < z59)) then
      (at? z57 (w64 (y60 + (1 : Int)))).bind fun x64 =>
      (at? z58 y60).bind fun x65 =>
      (at? z58 y60).bind fun x66 =>
      (at? z58 y60).bind fun x67 =>
      (p_pres_Say x65.User x66.Res x67.P).bind fun v68 =>
      bif ((x64.Kind == v68.Kind) && ((x64.User.toList == v68.User.toList) && ((x64.Res.toList == v68.Res.toList) && ((x64.Name.toList == v68.Name.toList) && ((x64.Show == v68.Show) && ((x64.Prio == v68.Prio) && ((x64.Code == v68.Code) && ((x64.N == v68.N) && true)))))))) then
        (at? z58 y60).bind fun x70 =>
        (p_snap_Sees z61 x70).bind fun v71 =>
        bif v71 then
          bif (decide ((0 : Int) < y60)) then
            (at? z57 y60).bind fun x74 =>
            (at? z57 (w64 (y60 + (1 : Int)))).bind fun x75 =>
            bif (Op.bytesLess x74.User.toList x75.User.toList) then
              p_law26_SnapWhole_l3 z57 z58 z59 z61 n (w64 (y60 + (1 : Int)))
            else
            some (.inl false)
          else
          p_law26_SnapWhole_l3 z57 z58 z59 z61 n (w64 (y60 + (1 : Int)))
        else
        some (.inl false)
      else
      some (.inl false)
    else
    some (.inr y60)
def p_law26_SnapWhole (a0 : List Law26Deed) (a1 : Int) : Option (Bool) :=
  bif (decide ((40 : Int) < (a0.length : Int))) then
    (p_law26_awake).bind fun v2 =>
    some v2
  else
  (p_law26_SnapWhole_l1 a1 fuel (0 : Int) (SnapEyes.mk [] [])).bind fun q19 =>
  (p_law26_SnapWhole_l2 a0 fuel (0 : Int) (BookState.mk (0 : Int) [])).bind fun q40 =>
  (p_snap_All q19.2 q40.2).bind fun v41 =>
  (p_snap_View q19.2 q40.2).bind fun v42 =>
  bif ((v41.length : Int) != w64 ((v42.length : Int) + (2 : Int))) then
    some false
  else
  (at? v41 (0 : Int)).bind fun x44 =>
  bif (x44.Kind != (36 : Int)) then
    some false
  else
  (at? v41 (0 : Int)).bind fun x46 =>
  bif (x46.N != (v42.length : Int)) then
    some false
  else
  (at? v41 (w64 ((v42.length : Int) + (1 : Int)))).bind fun x48 =>
  bif (x48.Kind != (37 : Int)) then
    some false
  else
  (p_law26_SnapWhole_l3 v41 v42 (v42.length : Int) q19.2 fuel (0 : Int)).bind fun o77 => match o77 with
  | .inl q78 =>
    some q78
  | .inr q79 =>
    (p_snap_Count q19.2 q40.2).bind fun v80 =>
    bif ((v42.length : Int) == v80) then
      (p_law26_awake).bind fun v82 =>
      some v82
    else
    some false
end Go.Proofs.Ythlhbgedidipkaa
/- Readers of SnapWhole's parameters. -/
namespace Go.Proofs.Ythlhbgedidipkaa
open Go.ChangeShapes Go.WideShapes Go.ChangeAt Go.RowKit Go.Joins Go.Deep
structure Law26Deed.Wf (x : Law26Deed) : Prop where
  Who : (Lit.int .u8 x.Who).wf = true
  Show : (Lit.int .u8 x.Show).wf = true
set_option maxRecDepth 100000 in
theorem rd_T33 {H : Type} {enc : TypeId × Value → H} {W : World} {spare : Nat → Bool} {held : Bool} {fuel : Nat} {cs : List Value} {y : DataW H × List MemPlace} (h : DataW.trod enc Try.prog W 0 spare held fuel 33 cs = some y) : ∃ x : Law26Deed, Law26Deed.Wf x ∧ RepL (MW W) noBk cs [.y8 x.Who, .y8 x.Show, .b x.Off, .b x.Next] := by
  obtain ⟨xs, n, _, _, hl, hx, hall⟩ := DataW.trod_struct Try.underlying33 h
  have hce : Try.prog.cellsOf 33 = 4 := by kernel_rfl
  rw [hce] at hl
  match cs, hl, hall with
  | [c0, c1, c2, c3], _, hall =>
    obtain ⟨y0, hy0⟩ := get_some hx (show 0 < 4 by omega)
    have g0 : DataW.trod enc Try.prog W 0 spare held n 5 [c0] = some y0 := by
      have hz : Try.prog.cellsOf 5 = 1 := by kernel_rfl
      have g : DataW.trod enc Try.prog W 0 spare held n 5 (([c0, c1, c2, c3].drop 0).take (Try.prog.cellsOf 5)) = some y0 := (hall 0 _ rfl).trans hy0
      rw [hz] at g; exact g
    obtain ⟨x0, w0, r0⟩ := rd_int Try.underlying5 g0
    obtain ⟨y1, hy1⟩ := get_some hx (show 1 < 4 by omega)
    have g1 : DataW.trod enc Try.prog W 0 spare held n 5 [c1] = some y1 := by
      have hz : Try.prog.cellsOf 5 = 1 := by kernel_rfl
      have g : DataW.trod enc Try.prog W 0 spare held n 5 (([c0, c1, c2, c3].drop 1).take (Try.prog.cellsOf 5)) = some y1 := (hall 1 _ rfl).trans hy1
      rw [hz] at g; exact g
    obtain ⟨x1, w1, r1⟩ := rd_int Try.underlying5 g1
    obtain ⟨y2, hy2⟩ := get_some hx (show 2 < 4 by omega)
    have g2 : DataW.trod enc Try.prog W 0 spare held n 4 [c2] = some y2 := by
      have hz : Try.prog.cellsOf 4 = 1 := by kernel_rfl
      have g : DataW.trod enc Try.prog W 0 spare held n 4 (([c0, c1, c2, c3].drop 2).take (Try.prog.cellsOf 4)) = some y2 := (hall 2 _ rfl).trans hy2
      rw [hz] at g; exact g
    obtain ⟨x2, r2⟩ := rd_bool Try.underlying4 g2
    obtain ⟨y3, hy3⟩ := get_some hx (show 3 < 4 by omega)
    have g3 : DataW.trod enc Try.prog W 0 spare held n 4 [c3] = some y3 := by
      have hz : Try.prog.cellsOf 4 = 1 := by kernel_rfl
      have g : DataW.trod enc Try.prog W 0 spare held n 4 (([c0, c1, c2, c3].drop 3).take (Try.prog.cellsOf 4)) = some y3 := (hall 3 _ rfl).trans hy3
      rw [hz] at g; exact g
    obtain ⟨x3, r3⟩ := rd_bool Try.underlying4 g3
    exact ⟨⟨x0, x1, x2, x3⟩, ⟨w0, w1⟩, repL_app r0 (repL_app r1 (repL_app r2 (repL_app r3 (repL_nil))))⟩
theorem rd_T22 {H : Type} {enc : TypeId × Value → H} {W : World} {spare : Nat → Bool} {held : Bool} {fuel : Nat} {cs : List Value} {y : DataW H × List MemPlace} (h : DataW.trod enc Try.prog W 0 spare held fuel 22 cs = some y) : ∃ x : List Law26Deed, (∀ z ∈ x, Law26Deed.Wf z) ∧ RepL (MW W) noBk cs [(fun l : List Law26Deed => V.sl (l.map Law26Deed.v) false) x] :=
  rd_slice (f := Law26Deed.v) (es := 4) (wf := Law26Deed.Wf) Try.underlying22 (fun _ => rfl) (by intro a v hv; simp [V.cells] at hv; first | (subst hv; rfl) | (rcases hv with rfl | rfl | rfl | rfl <;> rfl)) (by omega) (by kernel_rfl) (fun n cs y h => rd_T33 h) h
end Go.Proofs.Ythlhbgedidipkaa
/- Presences, keys and books in plain words. -/
namespace Go.Proofs.Ythlhbgedidipkaa
open Go.RowKit
def presCheckL (p : PresPres) : Int :=
  if p.Show < 0 ∨ 4 < p.Show ∨ p.Prio < -128 ∨ 127 < p.Prio ∨ p.Seq < 0 ∨ 1099511627776 < p.Seq then 8
  else if p.On = false ∧ (p.Show ≠ 0 ∨ p.Prio ≠ 0) then 4 else 0
def newerL (a b : PresPres) : Bool := decide (b.Seq < a.Seq)
def betterL (a b : PresPres) : Bool :=
  if a.On = false then false else if b.On = false then true else if a.Prio = b.Prio then decide (b.Seq < a.Seq) else decide (b.Prio < a.Prio)
def bestTo (l : List PresPres) : Nat → Int
  | 0 => -1
  | k + 1 => let b := bestTo l k; let p := l.getD k ⟨false, 0, 0, 0⟩
    if p.On = true ∧ (b < 0 ∨ betterL p (l.getD b.toNat ⟨false, 0, 0, 0⟩) = true) then k else b
theorem bestTo_bd (l : List PresPres) (k : Nat) : -1 ≤ bestTo l k ∧ bestTo l k < k ∨ k = 0 ∧ bestTo l k = -1 := by
  induction k with
  | zero => exact .inr ⟨rfl, rfl⟩
  | succ k ih => left; simp only [bestTo]; split <;> omega
def lastTo (l : List PresPres) : Nat → PresPres
  | 0 => ⟨false, 0, 0, 0⟩
  | k + 1 => let p := l.getD k ⟨false, 0, 0, 0⟩; if k = 0 ∨ newerL p (lastTo l k) = true then p else lastTo l k
def namedL (u r : ByteArray) : Bool := decide (resL r.data.toList = 0) && isBareL u.data.toList
def keyL (u r : ByteArray) : ByteArray := if namedL u r = true then u ++ ⟨#[32]⟩ ++ r else ⟨#[]⟩
theorem keyL_ok {u r : ByteArray} (h : namedL u r = true) : keyL u r = u ++ ⟨#[32]⟩ ++ r := if_pos h
theorem keyL_no {u r : ByteArray} (h : namedL u r = false) : keyL u r = ⟨#[]⟩ := if_neg (by simp [h])
theorem namedL_1 {u r : ByteArray} (h : resL r.data.toList = 0) : namedL u r = isBareL u.data.toList := by simp [namedL, h]
theorem namedL_2 {u r : ByteArray} (h : ¬ resL r.data.toList = 0) : namedL u r = false := by simp [namedL, h]
theorem cat_sz (u r : ByteArray) (hu : u.size ≤ 100000) (hr : r.size ≤ 100000) : u.size + (⟨#[32]⟩ : ByteArray).size ≤ 4611686018427387904 ∧ (u ++ (⟨#[32]⟩ : ByteArray)).size + r.size ≤ 4611686018427387904 := by
  rw [ByteArray.size_append]
  have : (⟨#[32]⟩ : ByteArray).size = 1 := rfl
  omega
instance : Inhabited BookRow := ⟨⟨⟨#[]⟩, ⟨#[]⟩, ⟨false, 0, 0, 0⟩⟩⟩
instance : Inhabited PresPres := ⟨⟨false, 0, 0, 0⟩⟩
def keyR (r : BookRow) : ByteArray := keyL r.User r.Res
def smallR (r : BookRow) : Prop := r.User.size ≤ 100000 ∧ r.Res.size ≤ 100000
def manyL (rows : List BookRow) (u : ByteArray) : Nat := rows.countP fun r => r.User.toList == u.toList
theorem many_step (rows : List BookRow) (u : ByteArray) (k : Nat) (h : k < rows.length) : manyL (rows.take (k + 1)) u = manyL (rows.take k) u + (if (rows[k].User.toList == u.toList) = true then 1 else 0) := by
  unfold manyL; rw [List.take_succ_eq_append_getElem h, List.countP_append, List.countP_singleton]
def errL : List BookRow → Int
  | [] => 0
  | r :: l => if presCheckL r.P ≠ 0 then presCheckL r.P else if r.P.On = false then 4 else errL l
theorem err_at (rows : List BookRow) (k : Nat) (h : k < rows.length) : errL (rows.drop k) = if presCheckL rows[k].P ≠ 0 then presCheckL rows[k].P else if rows[k].P.On = false then 4 else errL (rows.drop (k + 1)) := by
  rw [List.drop_eq_getElem_cons h]; rfl
def idxL (p : BookRow → Bool) (rows : List BookRow) : Int := if rows.any p = true then (rows.findIdx p : Nat) else -1
theorem idx_hit (p : BookRow → Bool) (rows : List BookRow) (k : Nat) (h : k < rows.length) (hn : (rows.take k).any p = false) (hp : p rows[k] = true) : idxL p rows = (k : Nat) := by
  have ha : rows.any p = true := List.any_eq_true.2 ⟨_, List.getElem_mem h, hp⟩
  unfold idxL
  rw [if_pos ha]
  congr 1
  have h1 : ¬ rows.findIdx p < k := fun hlt => by
    have hx := List.findIdx_getElem (p := p) (xs := rows) (w := by omega)
    rw [List.any_eq_false] at hn
    exact hn _ (by rw [List.mem_take_iff_getElem]; exact ⟨rows.findIdx p, by omega, rfl⟩) hx
  have h2 : rows.findIdx p ≤ k := by
    rcases Nat.lt_or_ge k (rows.findIdx p) with hlt | hge
    · have := List.not_of_lt_findIdx hlt
      rw [hp] at this; simp at this
    · exact hge
  omega
theorem idx_step (p : BookRow → Bool) (rows : List BookRow) (k : Nat) (h : k < rows.length) (hn : (rows.take k).any p = false) (hp : p rows[k] = false) : (rows.take (k + 1)).any p = false := by
  rw [List.take_succ_eq_append_getElem h, List.any_append, hn]; simp [hp]
def lessR (a b : BookRow) : Bool := Op.bytesLess (keyR a).toList (keyR b).toList
def okAt (seq : Int) (rows : List BookRow) (i : Nat) : Bool :=
  match rows[i]? with
  | none => true
  | some x => decide (1 ≤ x.P.Seq) && decide (x.P.Seq ≤ seq) && (match i with | 0 => true | j + 1 => match rows[j]? with | some y => lessR y x | none => true) && !(rows.take i).any (fun o => o.P.Seq == x.P.Seq)
def ordL (seq : Int) (rows : List BookRow) : Bool := (List.range rows.length).all (okAt seq rows)
theorem okAt_0 {seq : Int} {rows : List BookRow} (h : 0 < rows.length) : okAt seq rows 0 = (decide ((1 : Int) ≤ rows[0].P.Seq) && decide (rows[0].P.Seq ≤ seq) && true && !(rows.take 0).any (fun o => o.P.Seq == rows[0].P.Seq)) := by
  simp only [okAt, List.getElem?_eq_getElem h]
theorem okAt_s {seq : Int} {rows : List BookRow} (j : Nat) (h : j + 1 < rows.length) : okAt seq rows (j + 1) = (decide (1 ≤ rows[j + 1].P.Seq) && decide (rows[j + 1].P.Seq ≤ seq) && lessR rows[j] rows[j + 1] && !(rows.take (j + 1)).any (fun o => o.P.Seq == rows[j + 1].P.Seq)) := by
  simp only [okAt, List.getElem?_eq_getElem h, List.getElem?_eq_getElem (show j < rows.length by omega)]
theorem ord_no {seq : Int} {rows : List BookRow} {k : Nat} (hk : k < rows.length) (h : okAt seq rows k = false) : ordL seq rows = false := by
  unfold ordL
  rw [List.all_eq_false]
  exact ⟨k, List.mem_range.2 hk, by rw [h]; simp⟩
theorem ord_yes {seq : Int} {rows : List BookRow} (h : ∀ i, i < rows.length → okAt seq rows i = true) : ordL seq rows = true := by
  unfold ordL
  rw [List.all_eq_true]
  exact fun i hi => h i (List.mem_range.1 hi)
def fullL (rows : List BookRow) : Bool := rows.any fun r => decide (3 < manyL rows r.User)
def emptyL (rows : List BookRow) : Bool := rows.any fun r => (keyR r).toList == (⟨#[]⟩ : ByteArray).toList
def bookCheck (seq : Int) (rows : List BookRow) : Int :=
  if 16 < rows.length then 5 else if seq < 0 ∨ 1099511627776 < seq then 8 else if emptyL rows = true then 11 else if errL rows ≠ 0 then errL rows else if ordL seq rows = false then 10 else if fullL rows = true then 7 else 0
def smallB (rows : List BookRow) : Prop := ∀ r ∈ rows, smallR r
def cmpR (r : BookRow) (k : ByteArray) : Int := Lib.compareBytes (keyR r).data.toList k.data.toList
/-- where a key stands: all rows ahead of it are less, none behind is. -/
structure StandsAt (rows : List BookRow) (k : ByteArray) (pos : Nat) : Prop where
  le : pos ≤ rows.length
  lt : ∀ i (h : i < rows.length), i < pos → cmpR rows[i] k < 0
  ge : ∀ i (h : i < rows.length), pos ≤ i → 0 ≤ cmpR rows[i] k
def foundB (rows : List BookRow) (k : ByteArray) (pos : Nat) : Bool := match rows[pos]? with
  | some r => cmpR r k == 0
  | none => false
end Go.Proofs.Ythlhbgedidipkaa
/- Plain laws of no program: what loops and questions come to. -/
namespace Go.Proofs.Ythlhbgedidipkaa
open Go.RowKit
theorem at_nat {α : Type} (l : List α) (k : Nat) : at? l (k : Int) = l[k]? := by
  unfold at?; rw [if_pos (Int.natCast_nonneg k)]; rfl
theorem at_lt {α : Type} {l : List α} {k : Nat} (h : k < l.length) : at? l (k : Int) = some l[k] := by rw [at_nat, List.getElem?_eq_getElem h]
theorem w64_id {r : Int} (h : -9223372036854775808 ≤ r ∧ r ≤ 9223372036854775807) : w64 r = r := wrap_ok h
theorem w64_succ {k : Nat} (h : k ≤ 1000000) : w64 ((k : Int) + 1) = ((k + 1 : Nat) : Int) := by rw [w64_id (by omega)]; rfl
theorem lt_tt {a b : Nat} (h : a < b) : decide ((a : Int) < (b : Int)) = true := by simpa using h
theorem lt_ff {a b : Nat} (h : b ≤ a) : decide ((a : Int) < (b : Int)) = false := by simpa using h
theorem drop_at {α : Type} {l : List α} {k : Nat} (h : k < l.length) : l.drop k = l[k] :: l.drop (k + 1) := List.drop_eq_getElem_cons h
theorem fuel_pos : (1000000 : Nat) < fuel := by decide
theorem cutTo {α : Type} {l : List α} {k : Nat} (h : k ≤ l.length) : cut? l none (some (k : Int)) = some (l.take k) := by
  unfold cut?
  simp only [Option.getD_none, Option.getD_some]
  rw [if_pos (by omega)]
  simp
theorem cutFrom {α : Type} {l : List α} {k : Nat} (h : k ≤ l.length) : cut? l (some (k : Int)) none = some (l.drop k) := by
  unfold cut?
  simp only [Option.getD_none, Option.getD_some]
  rw [if_pos (by omega)]
  rw [List.take_of_length_le (by simp)]; rfl
theorem u64_id {r : Int} (hr : 0 ≤ r ∧ r ≤ 9223372036854775807) : IntKind.u64.wrap r = r := by
  simp only [IntKind.wrap, IntKind.signed, IntKind.bits]
  first | omega | (simp; omega)
theorem fdivN (m p : Nat) : (m : Int).fdiv (2 ^ p) = ((m / 2 ^ p : Nat) : Int) := by
  rw [show ((2 : Int) ^ p) = ((2 ^ p : Nat) : Int) by simp, Int.fdiv_eq_ediv_of_nonneg _ (Int.natCast_nonneg _)]; rfl
theorem half_p {i j : Nat} (h : i + j ≤ 100000) : w64 (shrI .u64 (IntKind.wrap .u64 (w64 ((i : Int) + (j : Int)))) (1 : Int)) = (((i + j) / 2 : Nat) : Int) := by
  have e1 : w64 ((i : Int) + (j : Int)) = ((i + j : Nat) : Int) := by rw [w64_id (by omega)]; omega
  have e2 : IntKind.wrap .u64 ((i + j : Nat) : Int) = ((i + j : Nat) : Int) := u64_id (by omega)
  have e : (min (1 : Int).toNat IntKind.u64.bits) = 1 := rfl
  have e3 : shrI .u64 ((i + j : Nat) : Int) 1 = (((i + j) / 2 : Nat) : Int) := by
    unfold shrI
    rw [e, fdivN]
  rw [e1, e2, e3]
  exact w64_id (by omega)
theorem app_ok {α : Type} {a b : List α} (h : a.length + b.length ≤ 1000000) : app? a b = some (a ++ b) := if_pos h
theorem at_cons {α : Type} {l : List α} {k : Nat} (h : k < l.length) : at? l (k : Int) = some l[k] := at_lt h
theorem byte_at {s : ByteArray} {k : Nat} (h : k < s.size) : byte? s (k : Int) = some (s[k].toNat : Int) := by
  unfold byte?
  rw [dif_pos ⟨Int.natCast_nonneg k, h⟩]; rfl
theorem len0 {α : Type} {l : List α} {n : Nat} (h : n = l.length) : l.drop n = [] := List.drop_of_length_le (by omega)
theorem byte_ne (a b : UInt8) : ((a.toNat : Int) != (b.toNat : Int)) = !(a == b) := by
  by_cases h : a = b
  · subst h; simp
  · have h1 : (a == b) = false := by simpa using h
    have h2 : ¬ ((a.toNat : Int) = (b.toNat : Int)) := fun e => h (UInt8.toNat_inj.1 (Int.natCast_inj.1 e))
    rw [h1]; simpa using h2
theorem tl_data (s : ByteArray) : s.toList = s.data.toList := by rw [ByteArray.toList_eq]
/-- texts, compared as the code does. -/
def eqT (a b : ByteArray) : Bool := a.toList == b.toList
theorem eqT_refl (a : ByteArray) : (a.toList == a.toList) = true := by simp
theorem eqT_iff {a b : ByteArray} : (a.toList == b.toList) = true ↔ a = b := by
  rw [beq_iff_eq, tl_data, tl_data]
  exact ⟨fun h => by cases a; cases b; congr 1; exact Array.ext' h, fun h => by rw [h]⟩
theorem cmp_less : ∀ (a b : List UInt8), Op.bytesLess a b = decide (Lib.compareBytes a b < 0)
  | [], [] => by simp [Op.bytesLess, Lib.compareBytes]
  | [], _ :: _ => by simp [Op.bytesLess, Lib.compareBytes]
  | _ :: _, [] => by simp [Op.bytesLess, Lib.compareBytes]
  | a :: xs, b :: ys => by
    unfold Op.bytesLess Lib.compareBytes
    rw [cmp_less xs ys]
    by_cases h : a < b
    · simp [h]
    · by_cases h2 : b < a
      · have hne : a ≠ b := fun e => by subst e; exact UInt8.lt_irrefl _ h2
        simp [h, h2, hne]
      · have e : a = b := by
          apply UInt8.toNat_inj.1
          rw [UInt8.lt_iff_toNat_lt] at h h2; omega
        subst e; simp [h]
theorem cmp_refl : ∀ a : List UInt8, Lib.compareBytes a a = 0
  | [] => by simp [Lib.compareBytes]
  | a :: xs => by unfold Lib.compareBytes; rw [if_neg (UInt8.lt_irrefl _), if_neg (UInt8.lt_irrefl _)]; exact cmp_refl xs
theorem cmp_eq0 : ∀ {a b : List UInt8}, Lib.compareBytes a b = 0 → a = b
  | [], [], _ => rfl
  | [], _ :: _, h => by simp [Lib.compareBytes] at h
  | _ :: _, [], h => by simp [Lib.compareBytes] at h
  | a :: xs, b :: ys, h => by
    unfold Lib.compareBytes at h
    split at h
    · omega
    · split at h
      · omega
      · rename_i h1 h2
        have e : a = b := by
          apply UInt8.toNat_inj.1
          rw [UInt8.lt_iff_toNat_lt] at h1 h2; omega
        rw [e, cmp_eq0 h]
theorem cmp_anti : ∀ (a b : List UInt8), Lib.compareBytes b a = - Lib.compareBytes a b
  | [], [] => by simp [Lib.compareBytes]
  | [], _ :: _ => by simp [Lib.compareBytes]
  | _ :: _, [] => by simp [Lib.compareBytes]
  | a :: xs, b :: ys => by
    unfold Lib.compareBytes
    rw [cmp_anti xs ys]
    by_cases h : a < b
    · have h2 : ¬ b < a := by rw [UInt8.lt_iff_toNat_lt] at h ⊢; omega
      simp [h, h2]
    · by_cases h2 : b < a
      · simp [h, h2]
      · simp [h, h2]
theorem cmp_trans : ∀ {a b c : List UInt8}, Lib.compareBytes a b < 0 → Lib.compareBytes b c < 0 → Lib.compareBytes a c < 0
  | [], [], _, h, _ => by simp [Lib.compareBytes] at h
  | _ :: _, [], _, h, _ => by simp [Lib.compareBytes] at h
  | _, _ :: _, [], _, h => by simp [Lib.compareBytes] at h
  | [], _ :: _, _ :: _, _, _ => by simp [Lib.compareBytes]
  | a :: xs, b :: ys, c :: cs, h1, h2 => by
    unfold Lib.compareBytes at h1 h2 ⊢
    by_cases x : a < b
    · by_cases y : b < c
      · rw [if_pos (UInt8.lt_trans x y)]; omega
      · rw [if_neg y] at h2
        by_cases z : c < b
        · rw [if_pos z] at h2; omega
        · have e : b = c := by
            apply UInt8.toNat_inj.1
            rw [UInt8.lt_iff_toNat_lt] at y z; omega
          subst e
          rw [if_pos x]; omega
    · rw [if_neg x] at h1
      by_cases x2 : b < a
      · rw [if_pos x2] at h1; omega
      · rw [if_neg x2] at h1
        have e : a = b := by
          apply UInt8.toNat_inj.1
          rw [UInt8.lt_iff_toNat_lt] at x x2; omega
        subst e
        by_cases y : a < c
        · rw [if_pos y]; omega
        · rw [if_neg y] at h2 ⊢
          by_cases z : c < a
          · rw [if_pos z] at h2; omega
          · rw [if_neg z] at h2 ⊢
            exact cmp_trans h1 h2
end Go.Proofs.Ythlhbgedidipkaa
