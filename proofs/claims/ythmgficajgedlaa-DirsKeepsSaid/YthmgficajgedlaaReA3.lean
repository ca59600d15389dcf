/- A part of the proof: 1 texts joined. -/
import Derived.Test.YthmgficajgedlaaReA1
import Derived.Test.YthmgficajgedlaaReA2
import Derived.Test.YthmgficajgedlaaRcA7
import Derived.Test.YthmgficajgedlaaRcA5
import Derived.KernelRfl
set_option linter.all false
/- That the program's functions yield what the plain ones tell (written by a program of mine). -/
namespace Go.Proofs.Ythmgficajgedlaa
open Go.RowKit
def gc27 : BCode := (.seq (.reg 0 [⟨(some 0), .mv (.const (.bool false)), none, 0⟩] none 0 []) (.seq (.reg 0 [⟨(some 18), .cl 42 [(.const (.slice none 0 0)), (.const (.string ⟨#[98, 64, 120, 32, 49]⟩)), (.const (.string ⟨#[99, 64, 120]⟩))], none, 0⟩, ⟨(some 17), .mv (.tmp 18), none, 0⟩, ⟨(some 19), .ex (.tmp 17) 0, none, 0⟩, ⟨(some 20), .ex (.tmp 17) 1, none, 0⟩, ⟨(some 1), .mv (.tmp 19), none, 0⟩, ⟨(some 2), .mv (.tmp 20), none, 0⟩] none 0 []) (.seq (.reg 0 [⟨(some 22), .mv (.tmp 1), none, 0⟩, ⟨(some 23), .cl 42 [(.tmp 22), (.const (.string ⟨#[97, 64, 120, 32]⟩)), (.const (.string ⟨#[99, 64, 120]⟩))], none, 0⟩, ⟨(some 21), .mv (.tmp 23), none, 0⟩, ⟨(some 24), .ex (.tmp 21) 0, none, 0⟩, ⟨(some 25), .ex (.tmp 21) 1, none, 0⟩, ⟨(some 3), .mv (.tmp 24), none, 0⟩, ⟨(some 4), .mv (.tmp 25), none, 0⟩] none 0 []) (.seq (.reg 0 [⟨(some 27), .mv (.tmp 3), none, 0⟩, ⟨(some 28), .cl 42 [(.tmp 27), (.const (.string ⟨#[97, 64, 120, 32]⟩)), (.const (.string ⟨#[100, 64, 120]⟩))], none, 0⟩, ⟨(some 26), .mv (.tmp 28), none, 0⟩, ⟨(some 29), .ex (.tmp 26) 0, none, 0⟩, ⟨(some 30), .ex (.tmp 26) 1, none, 0⟩, ⟨(some 5), .mv (.tmp 29), none, 0⟩, ⟨(some 6), .mv (.tmp 30), none, 0⟩] none 0 []) (.seq (.reg 0 [⟨(some 32), .mv (.tmp 5), none, 0⟩, ⟨(some 33), .cl 41 [(.tmp 32), (.const (.string ⟨#[98, 64, 120, 32, 49]⟩)), (.const (.string ⟨#[99, 64, 120]⟩))], none, 0⟩, ⟨(some 31), .mv (.tmp 33), none, 0⟩, ⟨(some 34), .ex (.tmp 31) 0, none, 0⟩, ⟨(some 35), .ex (.tmp 31) 1, none, 0⟩, ⟨(some 7), .mv (.tmp 34), none, 0⟩, ⟨(some 8), .mv (.tmp 35), none, 0⟩] none 0 []) (.seq (.reg 0 [⟨(some 37), .mv (.tmp 7), none, 0⟩, ⟨(some 38), .cl 41 [(.tmp 37), (.const (.string ⟨#[98, 64, 120, 32, 49]⟩)), (.const (.string ⟨#[99, 64, 120]⟩))], none, 0⟩, ⟨(some 36), .mv (.tmp 38), none, 0⟩, ⟨(some 39), .ex (.tmp 36) 0, none, 0⟩, ⟨(some 40), .ex (.tmp 36) 1, none, 0⟩, ⟨(some 9), .mv (.tmp 39), none, 0⟩, ⟨(some 10), .mv (.tmp 40), none, 0⟩] none 0 []) (.seq (.reg 0 [⟨(some 42), .mv (.tmp 5), none, 0⟩, ⟨(some 43), .cl 40 [(.tmp 42), (.const (.string ⟨#[97, 64, 120, 32]⟩))], none, 0⟩, ⟨(some 41), .mv (.tmp 43), none, 0⟩, ⟨(some 44), .ex (.tmp 41) 0, none, 0⟩, ⟨(some 45), .ex (.tmp 41) 1, none, 0⟩, ⟨(some 11), .mv (.tmp 44), none, 0⟩, ⟨(some 12), .mv (.tmp 45), none, 0⟩] none 0 []) (.seq (.reg 0 [⟨(some 47), .mv (.tmp 5), none, 0⟩, ⟨(some 48), .cl 43 [(.tmp 47), (.const (.string ⟨#[98, 64, 120]⟩)), (.const (.string ⟨#[99, 64, 120]⟩))], none, 0⟩, ⟨(some 46), .mv (.tmp 48), none, 0⟩, ⟨(some 49), .ex (.tmp 46) 0, none, 0⟩, ⟨(some 50), .ex (.tmp 46) 1, none, 0⟩, ⟨(some 13), .mv (.tmp 49), none, 0⟩, ⟨(some 14), .mv (.tmp 50), none, 0⟩] none 0 []) (.seq (.reg 0 [⟨(some 52), .mv (.tmp 5), none, 0⟩, ⟨(some 53), .cl 42 [(.tmp 52), (.const (.string ⟨#[97]⟩)), (.const (.string ⟨#[100, 64, 120]⟩))], none, 0⟩, ⟨(some 51), .mv (.tmp 53), none, 0⟩, ⟨(some 54), .ex (.tmp 51) 0, none, 0⟩, ⟨(some 55), .ex (.tmp 51) 1, none, 0⟩, ⟨(some 15), .mv (.tmp 54), none, 0⟩, ⟨(some 16), .mv (.tmp 55), none, 0⟩] none 0 []) (.seq (.reg 4 [⟨(some 56), .mv (.tmp 2), none, 0⟩, ⟨(some 57), .bin .eql (.tmp 56) (.const (.int .i64 0)), none, 0⟩, ⟨(some 58), .mv (.tmp 57), none, 0⟩, ⟨(some 59), .mv (.tmp 4), (some (58, true)), 0⟩, ⟨(some 60), .bin .eql (.tmp 59) (.const (.int .i64 0)), (some (58, true)), 0⟩, ⟨(some 61), .pick (.tmp 58) (.tmp 60) (.const (.bool false)), none, 0⟩, ⟨(some 62), .mv (.tmp 61), none, 0⟩, ⟨(some 63), .mv (.tmp 6), (some (62, true)), 0⟩, ⟨(some 64), .bin .eql (.tmp 63) (.const (.int .i64 0)), (some (62, true)), 0⟩, ⟨(some 65), .pick (.tmp 62) (.tmp 64) (.const (.bool false)), none, 0⟩, ⟨(some 66), .mv (.tmp 65), none, 0⟩, ⟨(some 67), .mv (.tmp 8), (some (66, true)), 0⟩, ⟨(some 68), .pick (.tmp 66) (.tmp 67) (.const (.bool false)), none, 0⟩, ⟨(some 69), .mv (.tmp 68), none, 0⟩, ⟨(some 70), .mv (.tmp 10), (some (69, true)), 0⟩, ⟨(some 71), .un .not (.tmp 70), (some (69, true)), 0⟩, ⟨(some 72), .pick (.tmp 69) (.tmp 71) (.const (.bool false)), none, 0⟩, ⟨(some 73), .mv (.tmp 72), none, 0⟩, ⟨(some 74), .mv (.tmp 12), (some (73, true)), 0⟩, ⟨(some 75), .bs 1 2 [(.lit (.string ⟨#[]⟩)), (.lit (.string ⟨#[]⟩))] [(0, (.const (.string ⟨#[99, 64, 120]⟩))), (1, (.const (.string ⟨#[100, 64, 120]⟩)))], (some (73, true)), 0⟩, ⟨(some 76), .cl 31 [(.tmp 74), (.tmp 75)], (some (73, true)), 1⟩, ⟨(some 77), .pick (.tmp 73) (.tmp 76) (.const (.bool false)), none, 1⟩, ⟨(some 78), .mv (.tmp 77), none, 1⟩, ⟨(some 79), .mv (.tmp 11), (some (78, true)), 1⟩, ⟨(some 80), .lens (.tmp 79), (some (78, true)), 1⟩, ⟨(some 81), .bin .eql (.tmp 80) (.const (.int .i64 1)), (some (78, true)), 1⟩, ⟨(some 82), .pick (.tmp 78) (.tmp 81) (.const (.bool false)), none, 1⟩, ⟨(some 83), .mv (.tmp 82), none, 1⟩, ⟨(some 84), .mv (.tmp 14), (some (83, true)), 1⟩, ⟨(some 85), .bin .eql (.tmp 84) (.const (.int .i64 1)), (some (83, true)), 1⟩, ⟨(some 86), .pick (.tmp 83) (.tmp 85) (.const (.bool false)), none, 1⟩, ⟨(some 87), .mv (.tmp 86), none, 1⟩, ⟨(some 88), .mv (.tmp 13), (some (87, true)), 1⟩, ⟨(some 89), .mv (.tmp 7), (some (87, true)), 1⟩, ⟨(some 90), .cl 38 [(.tmp 88), (.tmp 89)], (some (87, true)), 1⟩, ⟨(some 91), .pick (.tmp 87) (.tmp 90) (.const (.bool false)), none, 1⟩, ⟨(some 92), .mv (.tmp 91), none, 1⟩, ⟨(some 93), .mv (.tmp 16), (some (92, true)), 1⟩, ⟨(some 94), .bin .eql (.tmp 93) (.const (.int .i64 11)), (some (92, true)), 1⟩, ⟨(some 95), .pick (.tmp 92) (.tmp 94) (.const (.bool false)), none, 1⟩, ⟨(some 96), .mv (.tmp 95), none, 1⟩, ⟨(some 97), .mv (.tmp 5), (some (96, true)), 1⟩, ⟨(some 98), .cl 34 [(.tmp 97), (.const (.string ⟨#[99, 64, 120]⟩))], (some (96, true)), 1⟩, ⟨(some 99), .bs 1 2 [(.lit (.string ⟨#[]⟩)), (.lit (.string ⟨#[]⟩))] [(0, (.const (.string ⟨#[97, 64, 120, 32]⟩))), (1, (.const (.string ⟨#[98, 64, 120, 32, 49]⟩)))], (some (96, true)), 1⟩, ⟨(some 100), .cl 31 [(.tmp 98), (.tmp 99)], (some (96, true)), 2⟩, ⟨(some 101), .pick (.tmp 96) (.tmp 100) (.const (.bool false)), none, 2⟩, ⟨(some 102), .mv (.tmp 101), none, 2⟩, ⟨(some 103), .mv (.tmp 5), (some (102, true)), 2⟩, ⟨(some 104), .cl 32 [(.tmp 103), (.const (.string ⟨#[97, 64, 120, 32]⟩))], (some (102, true)), 2⟩, ⟨(some 105), .bs 1 2 [(.lit (.string ⟨#[]⟩)), (.lit (.string ⟨#[]⟩))] [(0, (.const (.string ⟨#[99, 64, 120]⟩))), (1, (.const (.string ⟨#[100, 64, 120]⟩)))], (some (102, true)), 2⟩, ⟨(some 106), .cl 31 [(.tmp 104), (.tmp 105)], (some (102, true)), 3⟩, ⟨(some 107), .pick (.tmp 102) (.tmp 106) (.const (.bool false)), none, 3⟩, ⟨(some 108), .mv (.tmp 107), none, 3⟩, ⟨(some 109), .mv (.tmp 5), (some (108, true)), 3⟩, ⟨(some 110), .cl 36 [(.tmp 109), (.const (.string ⟨#[97, 64, 120, 32]⟩)), (.const (.string ⟨#[100, 64, 120]⟩))], (some (108, true)), 3⟩, ⟨(some 111), .pick (.tmp 108) (.tmp 110) (.const (.bool false)), none, 3⟩, ⟨(some 112), .mv (.tmp 111), none, 3⟩, ⟨(some 113), .mv (.tmp 5), (some (112, true)), 3⟩, ⟨(some 114), .cl 36 [(.tmp 113), (.const (.string ⟨#[98, 64, 120, 32, 49]⟩)), (.const (.string ⟨#[100, 64, 120]⟩))], (some (112, true)), 3⟩, ⟨(some 115), .un .not (.tmp 114), (some (112, true)), 3⟩, ⟨(some 116), .pick (.tmp 112) (.tmp 115) (.const (.bool false)), none, 3⟩, ⟨(some 117), .mv (.tmp 116), none, 3⟩, ⟨(some 118), .mv (.tmp 5), (some (117, true)), 3⟩, ⟨(some 119), .cl 29 [(.tmp 118)], (some (117, true)), 3⟩, ⟨(some 120), .bin .eql (.tmp 119) (.const (.int .i64 0)), (some (117, true)), 3⟩, ⟨(some 121), .pick (.tmp 117) (.tmp 120) (.const (.bool false)), none, 3⟩, ⟨(some 122), .mv (.tmp 121), none, 3⟩, ⟨(some 123), .bd [(.lit (.string ⟨#[]⟩)), (.lit (.string ⟨#[]⟩))] [], (some (122, true)), 3⟩, ⟨(some 124), .bs 2 1 [(.lit (.string ⟨#[]⟩)), (.lit (.string ⟨#[]⟩))] [(0, (.tmp 123))], (some (122, true)), 3⟩, ⟨(some 125), .cl 29 [(.tmp 124)], (some (122, true)), 4⟩, ⟨(some 126), .bin .eql (.tmp 125) (.const (.int .i64 11)), (some (122, true)), 4⟩, ⟨(some 127), .pick (.tmp 122) (.tmp 126) (.const (.bool false)), none, 4⟩, ⟨(some 128), .mv (.tmp 127), none, 4⟩, ⟨(some 129), .mv (.tmp 5), (some (128, true)), 4⟩, ⟨(some 130), .mv (.tmp 7), (some (128, true)), 4⟩, ⟨(some 131), .cl 38 [(.tmp 129), (.tmp 130)], (some (128, true)), 4⟩, ⟨(some 132), .un .not (.tmp 131), (some (128, true)), 4⟩, ⟨(some 133), .pick (.tmp 128) (.tmp 132) (.const (.bool false)), none, 4⟩, ⟨(some 134), .mv (.tmp 133), none, 4⟩, ⟨(some 135), .pick (.tmp 134) (.const (.bool true)) (.const (.bool false)), none, 4⟩, ⟨(some 136), .mv (.tmp 135), none, 4⟩, ⟨(some 137), .pick (.tmp 136) (.const (.bool true)) (.const (.bool false)), none, 4⟩, ⟨(some 0), .mv (.tmp 137), none, 4⟩] none 0 []) .ret))))))))))
set_option maxRecDepth 1000000 in
theorem gc27_ok : compF Try.prog Try.f27 = some (gc27.er, 138, [.tmp 0]) := by unfold gc27; kernel_rfl
set_option maxRecDepth 100000 in
set_option maxHeartbeats 4000000 in
theorem p_law29_awake_v : CallsO Try.prog 27 [] V.b (p_law29_awake) := by
  refine callsO_comp mix Try.func27 gc27_ok fun r H => ?_
  rw [p_law29_awake] at H
  conv => whnf
  refine ask_c (p_dirs_Add_v _ _ _) H rfl rfl (fun v1 H => ?_); conv => whnf
  refine ask_c (p_dirs_Add_v _ _ _) H rfl rfl (fun v2 H => ?_); conv => whnf
  refine ask_c (p_dirs_Add_v _ _ _) H rfl rfl (fun v3 H => ?_); conv => whnf
  refine ask_c (p_dirs_Del_v _ _ _) H rfl rfl (fun v4 H => ?_); conv => whnf
  refine ask_c (p_dirs_Del_v _ _ _) H rfl rfl (fun v5 H => ?_); conv => whnf
  refine ask_c (p_dirs_Clear_v _ _) H rfl rfl (fun v6 H => ?_); conv => whnf
  refine ask_c (p_dirs_Only_v _ _ _) H rfl rfl (fun v7 H => ?_); conv => whnf
  refine ask_c (p_dirs_Add_v _ _ _) H rfl rfl (fun v8 H => ?_); conv => whnf
  refine tst_d H (fun b9 H => ?_) (fun b9 H => ?_)
  · conv => whnf
    iterate 61 (refine Tst.F ?_; conv => whnf)
    exact fin0_c (enc := V.b) H (.inr rfl) (.cons (.tmp rfl) (.nil)) rfl rfl
  conv => whnf
  iterate 2 (refine Tst.T ?_; conv => whnf)
  refine tst_d H (fun b10 H => ?_) (fun b10 H => ?_)
  · conv => whnf
    iterate 58 (refine Tst.F ?_; conv => whnf)
    exact fin0_c (enc := V.b) H (.inr rfl) (.cons (.tmp rfl) (.nil)) rfl rfl
  conv => whnf
  iterate 2 (refine Tst.T ?_; conv => whnf)
  refine tst_d H (fun b11 H => ?_) (fun b11 H => ?_)
  · conv => whnf
    iterate 55 (refine Tst.F ?_; conv => whnf)
    exact fin0_c (enc := V.b) H (.inr rfl) (.cons (.tmp rfl) (.nil)) rfl rfl
  conv => whnf
  refine Tst.T ?_; conv => whnf
  refine tst_d H (fun b12 H => ?_) (fun b12 H => ?_)
  · conv => whnf
    iterate 53 (refine Tst.F ?_; conv => whnf)
    exact fin0_c (enc := V.b) H (.inr rfl) (.cons (.tmp rfl) (.nil)) rfl rfl
  conv => whnf
  iterate 2 (refine Tst.T ?_; conv => whnf)
  refine Tst.not ?_
  refine tst_c H (fun b13 H => ?_) (fun b13 H => ?_)
  · conv => whnf
    iterate 50 (refine Tst.F ?_; conv => whnf)
    exact fin0_c (enc := V.b) H (.inr rfl) (.cons (.tmp rfl) (.nil)) rfl rfl
  conv => whnf
  iterate 2 (refine Tst.T ?_; conv => whnf)
  refine askF_c (p_ref01_SameTexts_v _ _) H (.cons (.c (.id rfl)) (.cons (.c (fzown (f := V.s) (l := [(⟨#[99, 64, 120]⟩ : ByteArray), (⟨#[100, 64, 120]⟩ : ByteArray)]) rfl rfl (fun _ => rfl) (fun _ => rfl))) (.nil))) (fun v14 H => ?_); conv => whnf
  refine Tst.T ?_; conv => whnf
  refine tst_d H (fun b15 H => ?_) (fun b15 H => ?_)
  · conv => whnf
    iterate 46 (refine Tst.F ?_; conv => whnf)
    exact fin0_c (enc := V.b) H (.inr rfl) (.cons (.tmp rfl) (.nil)) rfl rfl
  conv => whnf
  refine Tst.T ?_; conv => whnf
  refine LenQ.M ?_; conv => whnf
  iterate 2 (refine Tst.T ?_; conv => whnf)
  refine tst_d H (fun b16 H => ?_) (fun b16 H => ?_)
  · conv => whnf
    iterate 42 (refine Tst.F ?_; conv => whnf)
    exact fin0_c (enc := V.b) H (.inr rfl) (.cons (.tmp rfl) (.nil)) rfl rfl
  conv => whnf
  iterate 2 (refine Tst.T ?_; conv => whnf)
  refine tst_d H (fun b17 H => ?_) (fun b17 H => ?_)
  · conv => whnf
    iterate 39 (refine Tst.F ?_; conv => whnf)
    exact fin0_c (enc := V.b) H (.inr rfl) (.cons (.tmp rfl) (.nil)) rfl rfl
  conv => whnf
  iterate 2 (refine Tst.T ?_; conv => whnf)
  refine ask_c (p_dirs_Same_v _ _) H rfl rfl (fun v18 H => ?_); conv => whnf
  refine Tst.T ?_; conv => whnf
  refine tst_d H (fun b19 H => ?_) (fun b19 H => ?_)
  · conv => whnf
    iterate 35 (refine Tst.F ?_; conv => whnf)
    exact fin0_c (enc := V.b) H (.inr rfl) (.cons (.tmp rfl) (.nil)) rfl rfl
  conv => whnf
  iterate 2 (refine Tst.T ?_; conv => whnf)
  refine tst_d H (fun b20 H => ?_) (fun b20 H => ?_)
  · conv => whnf
    iterate 32 (refine Tst.F ?_; conv => whnf)
    exact fin0_c (enc := V.b) H (.inr rfl) (.cons (.tmp rfl) (.nil)) rfl rfl
  conv => whnf
  refine Tst.T ?_; conv => whnf
  refine ask_c (p_dirs_Keys_v _ _) H rfl rfl (fun v21 H => ?_); conv => whnf
  iterate 2 (refine Tst.T ?_; conv => whnf)
  refine askF_c (p_ref01_SameTexts_v _ _) H (.cons (.c (.id rfl)) (.cons (.c (fzown (f := V.s) (l := [(⟨#[97, 64, 120, 32]⟩ : ByteArray), (⟨#[98, 64, 120, 32, 49]⟩ : ByteArray)]) rfl rfl (fun _ => rfl) (fun _ => rfl))) (.nil))) (fun v22 H => ?_); conv => whnf
  refine Tst.T ?_; conv => whnf
  refine tst_d H (fun b23 H => ?_) (fun b23 H => ?_)
  · conv => whnf
    iterate 27 (refine Tst.F ?_; conv => whnf)
    exact fin0_c (enc := V.b) H (.inr rfl) (.cons (.tmp rfl) (.nil)) rfl rfl
  conv => whnf
  refine Tst.T ?_; conv => whnf
  refine ask_c (p_dirs_Of_v _ _) H rfl rfl (fun v24 H => ?_); conv => whnf
  iterate 2 (refine Tst.T ?_; conv => whnf)
  refine askF_c (p_ref01_SameTexts_v _ _) H (.cons (.c (.id rfl)) (.cons (.c (fzown (f := V.s) (l := [(⟨#[99, 64, 120]⟩ : ByteArray), (⟨#[100, 64, 120]⟩ : ByteArray)]) rfl rfl (fun _ => rfl) (fun _ => rfl))) (.nil))) (fun v25 H => ?_); conv => whnf
  refine Tst.T ?_; conv => whnf
  refine tst_d H (fun b26 H => ?_) (fun b26 H => ?_)
  · conv => whnf
    iterate 22 (refine Tst.F ?_; conv => whnf)
    exact fin0_c (enc := V.b) H (.inr rfl) (.cons (.tmp rfl) (.nil)) rfl rfl
  conv => whnf
  refine Tst.T ?_; conv => whnf
  refine ask_c (p_dirs_Has_v _ _ _) H rfl rfl (fun v27 H => ?_); conv => whnf
  refine Tst.T ?_; conv => whnf
  refine tst_d H (fun b28 H => ?_) (fun b28 H => ?_)
  · conv => whnf
    iterate 19 (refine Tst.F ?_; conv => whnf)
    exact fin0_c (enc := V.b) H (.inr rfl) (.cons (.tmp rfl) (.nil)) rfl rfl
  conv => whnf
  refine Tst.T ?_; conv => whnf
  refine ask_c (p_dirs_Has_v _ _ _) H rfl rfl (fun v29 H => ?_); conv => whnf
  iterate 2 (refine Tst.T ?_; conv => whnf)
  refine Tst.not ?_
  refine tst_c H (fun b30 H => ?_) (fun b30 H => ?_)
  · conv => whnf
    iterate 15 (refine Tst.F ?_; conv => whnf)
    exact fin0_c (enc := V.b) H (.inr rfl) (.cons (.tmp rfl) (.nil)) rfl rfl
  conv => whnf
  refine Tst.T ?_; conv => whnf
  refine ask_c (p_dirs_Check_v _) H rfl rfl (fun v31 H => ?_); conv => whnf
  iterate 2 (refine Tst.T ?_; conv => whnf)
  refine tst_d H (fun b32 H => ?_) (fun b32 H => ?_)
  · conv => whnf
    iterate 11 (refine Tst.F ?_; conv => whnf)
    exact fin0_c (enc := V.b) H (.inr rfl) (.cons (.tmp rfl) (.nil)) rfl rfl
  conv => whnf
  iterate 2 (refine Tst.T ?_; conv => whnf)
  refine askF_c (p_dirs_Check_v _) H (.cons (.c (fzown (f := Ref29Arrow.v) (l := [(Ref29Arrow.mk (⟨#[]⟩ : ByteArray) (⟨#[]⟩ : ByteArray))]) rfl rfl (fun _ => rfl) (fun _ => rfl))) (.nil)) (fun v33 H => ?_); conv => whnf
  iterate 2 (refine Tst.T ?_; conv => whnf)
  refine tst_d H (fun b34 H => ?_) (fun b34 H => ?_)
  · conv => whnf
    iterate 6 (refine Tst.F ?_; conv => whnf)
    exact fin0_c (enc := V.b) H (.inr rfl) (.cons (.tmp rfl) (.nil)) rfl rfl
  conv => whnf
  iterate 2 (refine Tst.T ?_; conv => whnf)
  refine ask_c (p_dirs_Same_v _ _) H rfl rfl (fun v35 H => ?_); conv => whnf
  iterate 2 (refine Tst.T ?_; conv => whnf)
  refine Tst.not ?_
  refine tst_c H (fun b36 H => ?_) (fun b36 H => ?_)
  · conv => whnf
    refine Tst.F ?_; conv => whnf
    exact fin0_c (enc := V.b) H (.inr rfl) (.cons (.tmp rfl) (.nil)) rfl rfl
  conv => whnf
  refine Tst.T ?_; conv => whnf
  exact fin0_c (enc := V.b) H (.inr rfl) (.cons (.tmp rfl) (.nil)) rfl rfl
def gc28 : BCode := (.seq (.reg 0 [⟨(some 2), .mv (.const (.slice none 0 0)), none, 0⟩] none 0 []) (.seq (.reg 0 [⟨(some 3), .mv (.const (.slice none 0 0)), none, 0⟩] none 0 []) (.seq (.seq (.reg 0 [⟨(some 4), .mv (.const (.int .i64 0)), none, 0⟩] none 0 []) (.block 0 (.loop (.seq (.seq (.reg 0 [⟨(some 5), .mv (.tmp 4), none, 0⟩, ⟨(some 6), .mv (.tmp 0), none, 0⟩, ⟨(some 7), .lens (.tmp 6), none, 0⟩, ⟨(some 8), .bin .lss (.tmp 5) (.tmp 7), none, 0⟩] none 0 []) (.cond (.tmp 8) .skip (.exit 0))) (.seq (.block 1 (.reg 2 [⟨(some 11), .mv (.tmp 3), none, 0⟩, ⟨(some 12), .mv (.tmp 0), none, 0⟩, ⟨(some 13), .mv (.tmp 4), none, 0⟩, ⟨(some 14), .ixs 2 (.tmp 12) (.tmp 13), none, 0⟩, ⟨(some 15), .ld 2 true (.tmp 14), none, 0⟩, ⟨(some 16), .bs 2 1 [(.lit (.string ⟨#[]⟩)), (.lit (.string ⟨#[]⟩))] [(0, (.tmp 15))], none, 0⟩, ⟨(some 17), .ap 2 32 (.tmp 11) (.tmp 16), none, 1⟩, ⟨(some 3), .mv (.tmp 17), none, 2⟩] none 0 [])) (.reg 0 [⟨(some 9), .mv (.tmp 4), none, 0⟩, ⟨(some 10), .bin .add (.tmp 9) (.const (.int .i64 1)), none, 0⟩, ⟨(some 4), .mv (.tmp 10), none, 0⟩] none 0 [])))))) (.seq (.reg 0 [⟨(some 18), .mv (.tmp 3), none, 0⟩, ⟨(some 2), .mv (.tmp 18), none, 0⟩] none 0 []) .ret))))
theorem gc28_ok : compF Try.prog Try.f28 = some (gc28.er, 19, [.tmp 2]) := by unfold gc28; kernel_rfl
set_option maxRecDepth 100000 in
set_option maxHeartbeats 4000000 in
theorem p_law29_own_v {u1 : Bool} (a0 : List Ref29Arrow) : CallsO Try.prog 28 [.sl (List.map Ref29Arrow.v a0) u1] (fun l : List Ref29Arrow => V.sl (l.map Ref29Arrow.v) false) (p_law29_own a0) := by
  refine callsO_comp mix Try.func28 gc28_ok fun r H => ?_
  rw [p_law29_own] at H
  conv => whnf
  obtain ⟨o2, HL3, HQ4⟩ := bind_c H
  refine loop_c [3, 4] [5, 6, 7, 8, 9, 10, 11, 12, 13, 14, 15, 16, 17] [5, 6, 7, 8, 9, 10, 11, 12, 13, 14, 15, 16, 17] (fun n vals st => (∃ y6, p_law29_own_l1  a0 n [] y6 = some o2 ∧ vals = [.sl (List.map Ref29Arrow.v []) true, .i y6] ∧ st = []) ∨ (∃ y10 y11, p_law29_own_l1  a0 n y10 y11 = some o2 ∧ vals = [.osl 0 0 (List.length y10) 2 false, .i y11] ∧ st = [.live (cellsM Ref29Arrow.v y10) (cellsM Ref29Arrow.v y10).length])) fuel 0 [] (.inl (⟨_, HL3, rfl, rfl⟩)) (Nat.zero_le _) rfl (by kernel_rfl) (by kernel_rfl) rfl trivial ?_
  rintro (_ | n5) _ _ (⟨y6, H, rfl, rfl⟩ | ⟨y10, y11, H, rfl, rfl⟩)
  · rw [p_law29_own_l1] at H; cases H
  · rw [p_law29_own_l1] at H; cases H
  · rw [p_law29_own_l1] at H
    conv => whnf
    refine LenQ.M ?_; conv => whnf
    refine tst_d H (fun b7 H => ?_) (fun b7 H => ?_)
    · conv => whnf
      obtain rfl := Option.some.inj H
      have H := HQ4
      try dsimp only at H
      refine finR_c (enc := (fun l : List Ref29Arrow => V.sl (l.map Ref29Arrow.v) false)) H ?_; conv => whnf
      exact ⟨_, .v (.c (.slw))⟩
    conv => whnf
    refine ixs_c (f := Ref29Arrow.v) H (fun _ => rfl) (fun x8 H => ?_); conv => whnf
    refine appN_c (f := Ref29Arrow.v) H (fun _ => rfl) (srcM (f := Ref29Arrow.v) (fun _ => rfl) _ _) rfl (.v (srcOwn (f := Ref29Arrow.v) (l := [x8]) (fun _ => rfl) rfl rfl rfl)) (by decide) rfl (by simp) (fun l9 H => ?_); conv => whnf
    refine Ari.w ?_; conv => whnf
    exact again_c [5, 6, 7, 8, 9, 10, 11, 12, 13, 14, 15, 16, 17] n5 1 [1] (.inr (⟨_, _, H, rfl, rfl⟩)) (Nat.lt_succ_self _) (Nat.zero_le _) rfl (by kernel_rfl) (by kernel_rfl) rfl (wkB_live0 rfl (cellsM_idlt (f := Ref29Arrow.v) (fun _ => rfl) _) rfl trivial)
  rw [p_law29_own_l1] at H
  conv => whnf
  refine LenQ.M ?_; conv => whnf
  refine tst_d H (fun b12 H => ?_) (fun b12 H => ?_)
  · conv => whnf
    obtain rfl := Option.some.inj H
    have H := HQ4
    try dsimp only at H
    refine finR_c (enc := (fun l : List Ref29Arrow => V.sl (l.map Ref29Arrow.v) false)) H ?_; conv => whnf
    exact ⟨_, .v (.c (fzown (f := Ref29Arrow.v) (l := y10) rfl rfl (fun _ => rfl) (fun _ => rfl)))⟩
  conv => whnf
  refine ixs_c (f := Ref29Arrow.v) H (fun _ => rfl) (fun x13 H => ?_); conv => whnf
  refine appO_c (f := Ref29Arrow.v) H (fun _ => rfl) rfl (Nat.le_refl _) (.v (srcOwn (f := Ref29Arrow.v) (l := [x13]) (fun _ => rfl) rfl rfl rfl)) (by decide) rfl (by simp) (fun l14 H => ?_); conv => whnf
  refine Ari.w ?_; conv => whnf
  exact again_c [5, 6, 7, 8, 9, 10, 11, 12, 13, 14, 15, 16, 17] n5 1 [2] (.inr (⟨_, _, H, rfl, rfl⟩)) (Nat.lt_succ_self _) (Nat.zero_le _) rfl (by kernel_rfl) (by kernel_rfl) rfl (wkB_live0 rfl (cellsM_idlt (f := Ref29Arrow.v) (fun _ => rfl) _) rfl trivial)
def gc122 : BCode := (.seq (.reg 0 [⟨(some 2), .mv (.const (.string ⟨#[]⟩)), none, 0⟩, ⟨(some 3), .mv (.const (.string ⟨#[]⟩)), none, 0⟩, ⟨(some 4), .mv (.const (.int .i64 0)), none, 0⟩] none 0 []) (.seq (.reg 0 [⟨(some 5), .mv (.const (.int .i64 0)), none, 0⟩] none 0 []) (.seq (.block 0 (.loop (.seq (.seq (.reg 0 [⟨(some 8), .mv (.tmp 5), none, 0⟩, ⟨(some 9), .mv (.tmp 0), none, 0⟩, ⟨(some 10), .lent (.tmp 9), none, 0⟩, ⟨(some 11), .bin .lss (.tmp 8) (.tmp 10), none, 0⟩, ⟨(some 12), .mv (.tmp 11), none, 0⟩, ⟨(some 13), .mv (.tmp 0), (some (12, true)), 0⟩, ⟨(some 14), .mv (.tmp 5), (some (12, true)), 0⟩, ⟨(some 15), .ixt (.tmp 13) (.tmp 14), (some (12, true)), 0⟩, ⟨(some 16), .bin .neq (.tmp 15) (.const (.int .u8 32)), (some (12, true)), 0⟩, ⟨(some 17), .pick (.tmp 12) (.tmp 16) (.const (.bool false)), none, 0⟩] none 0 []) (.cond (.tmp 17) .skip (.exit 0))) (.block 1 (.reg 0 [⟨(some 18), .mv (.tmp 5), none, 0⟩, ⟨(some 19), .bin .add (.tmp 18) (.const (.int .i64 1)), none, 0⟩, ⟨(some 5), .mv (.tmp 19), none, 0⟩] none 0 []))))) (.seq (.seq (.reg 0 [⟨(some 20), .mv (.tmp 5), none, 0⟩, ⟨(some 21), .mv (.tmp 0), none, 0⟩, ⟨(some 22), .lent (.tmp 21), none, 0⟩, ⟨(some 23), .bin .eql (.tmp 20) (.tmp 22), none, 0⟩] none 0 []) (.cond (.tmp 23) (.seq (.reg 0 [⟨(some 2), .mv (.const (.string ⟨#[]⟩)), none, 0⟩, ⟨(some 3), .mv (.const (.string ⟨#[]⟩)), none, 0⟩, ⟨(some 4), .mv (.const (.int .i64 4)), none, 0⟩] none 0 []) .ret) .skip)) (.seq (.reg 0 [⟨(some 24), .mv (.tmp 0), none, 0⟩, ⟨(some 25), .mv (.tmp 5), none, 0⟩, ⟨(some 26), .slt (.tmp 24) none (some (.tmp 25)), none, 0⟩, ⟨(some 27), .mv (.tmp 0), none, 0⟩, ⟨(some 28), .mv (.tmp 5), none, 0⟩, ⟨(some 29), .bin .add (.tmp 28) (.const (.int .i64 1)), none, 0⟩, ⟨(some 30), .slt (.tmp 27) (some (.tmp 29)) none, none, 0⟩, ⟨(some 6), .mv (.tmp 26), none, 0⟩, ⟨(some 7), .mv (.tmp 30), none, 0⟩] (some [[], [], [1, 0], [], [], [4], [4, 5, 3], [0, 1, 2], [2, 1, 0, 7, 3, 5, 4, 6]]) 0 []) (.seq (.block 2 (.seq (.reg 0 [⟨(some 32), .mv (.tmp 6), none, 0⟩, ⟨(some 33), .cl 123 [(.tmp 32)], none, 0⟩, ⟨(some 34), .un .not (.tmp 33), none, 0⟩, ⟨(some 31), .mv (.tmp 34), none, 0⟩] none 0 []) (.cond (.tmp 31) (.seq (.reg 0 [⟨(some 2), .mv (.const (.string ⟨#[]⟩)), none, 0⟩, ⟨(some 3), .mv (.const (.string ⟨#[]⟩)), none, 0⟩, ⟨(some 4), .mv (.const (.int .i64 11)), none, 0⟩] none 0 []) .ret) (.seq (.reg 0 [⟨(some 36), .mv (.tmp 7), none, 0⟩, ⟨(some 37), .cl 160 [(.tmp 36)], none, 0⟩, ⟨(some 38), .bin .neq (.tmp 37) (.const (.int .i64 0)), none, 0⟩, ⟨(some 35), .mv (.tmp 38), none, 0⟩] none 0 []) (.cond (.tmp 35) (.seq (.reg 0 [⟨(some 39), .mv (.tmp 7), none, 0⟩, ⟨(some 40), .cl 160 [(.tmp 39)], none, 0⟩, ⟨(some 2), .mv (.const (.string ⟨#[]⟩)), none, 0⟩, ⟨(some 3), .mv (.const (.string ⟨#[]⟩)), none, 0⟩, ⟨(some 4), .mv (.tmp 40), none, 0⟩] none 0 []) .ret) .skip))))) (.seq (.reg 0 [⟨(some 41), .mv (.tmp 6), none, 0⟩, ⟨(some 42), .mv (.tmp 7), none, 0⟩, ⟨(some 2), .mv (.tmp 41), none, 0⟩, ⟨(some 3), .mv (.tmp 42), none, 0⟩, ⟨(some 4), .mv (.const (.int .i64 0)), none, 0⟩] none 0 []) .ret)))))))
theorem gc122_ok : compF Try.prog Try.f122 = some (gc122.er, 43, [.tmp 2, .tmp 3, .tmp 4]) := by unfold gc122; kernel_rfl
set_option maxRecDepth 100000 in
set_option maxHeartbeats 4000000 in
theorem p_ref23_Split_v (a0 : ByteArray) : CallsO Try.prog 122 [.s a0] (fun r : ByteArray × ByteArray × Int => .tup [V.s r.1, V.s r.2.1, V.i r.2.2]) (p_ref23_Split a0) := by
  refine callsO_comp mix Try.func122 gc122_ok fun r H => ?_
  rw [p_ref23_Split] at H
  conv => whnf
  obtain ⟨o2, HL3, HQ4⟩ := bind_c H
  refine loop_c [5] [8, 9, 10, 11, 12, 13, 14, 15, 16, 17, 18, 19] [8, 9, 10, 11, 12, 13, 14, 15, 16, 17, 18, 19] (fun n vals st => (∃ y6, p_ref23_Split_l1  a0 n y6 = some o2 ∧ vals = [.i y6] ∧ st = [])) fuel 0 [] (⟨_, HL3, rfl, rfl⟩) (Nat.zero_le _) rfl (by kernel_rfl) (by kernel_rfl) rfl trivial ?_
  rintro (_ | n5) _ _ (⟨y6, H, rfl, rfl⟩)
  · rw [p_ref23_Split_l1] at H; cases H
  rw [p_ref23_Split_l1] at H
  conv => whnf
  refine tst_d H (fun b7 H => ?_) (fun b7 H => ?_)
  · conv => whnf
    iterate 5 (refine Tst.F ?_; conv => whnf)
    obtain rfl := Option.some.inj H
    have H := HQ4
    try dsimp only at H
    refine tst_c H (fun b18 H => ?_) (fun b18 H => ?_)
    · conv => whnf
      exact fin0_c (enc := (fun r : ByteArray × ByteArray × Int => .tup [V.s r.1, V.s r.2.1, V.i r.2.2])) H (.inr rfl) (.cons (.tmp rfl) (.cons (.tmp rfl) (.cons (.tmp rfl) (.nil)))) rfl rfl
    conv => whnf
    refine slt_c H (fun s19 H => ?_); conv => whnf
    refine Ari.w ?_; conv => whnf
    refine slt_c H (fun s20 H => ?_); conv => whnf
    refine FootQ.mk ⟨rfl, ?_⟩; conv => whnf
    refine ask_c (p_ref09_IsBare_v _) H rfl rfl (fun v21 H => ?_); conv => whnf
    refine Tst.not ?_
    refine tst_d H (fun b22 H => ?_) (fun b22 H => ?_)
    · conv => whnf
      exact fin0_c (enc := (fun r : ByteArray × ByteArray × Int => .tup [V.s r.1, V.s r.2.1, V.i r.2.2])) H (.inr rfl) (.cons (.tmp rfl) (.cons (.tmp rfl) (.cons (.tmp rfl) (.nil)))) rfl rfl
    conv => whnf
    refine ask_c (p_ref09_Resource_v _) H rfl rfl (fun v23 H => ?_); conv => whnf
    refine tst_d H (fun b24 H => ?_) (fun b24 H => ?_)
    · conv => whnf
      exact fin0_c (enc := (fun r : ByteArray × ByteArray × Int => .tup [V.s r.1, V.s r.2.1, V.i r.2.2])) H (.inr rfl) (.cons (.tmp rfl) (.cons (.tmp rfl) (.cons (.tmp rfl) (.nil)))) rfl rfl
    conv => whnf
    refine ask_c (p_ref09_Resource_v _) H rfl rfl (fun v25 H => ?_); conv => whnf
    exact fin0_c (enc := (fun r : ByteArray × ByteArray × Int => .tup [V.s r.1, V.s r.2.1, V.i r.2.2])) H (.inr rfl) (.cons (.tmp rfl) (.cons (.tmp rfl) (.cons (.tmp rfl) (.nil)))) rfl rfl
  conv => whnf
  iterate 2 (refine Tst.T ?_; conv => whnf)
  refine ixt_c H (fun c8 H => ?_); conv => whnf
  iterate 2 (refine Tst.T ?_; conv => whnf)
  refine tst_c H (fun b9 H => ?_) (fun b9 H => ?_)
  · conv => whnf
    refine Ari.w ?_; conv => whnf
    exact again_c [8, 9, 10, 11, 12, 13, 14, 15, 16, 17, 18, 19] n5 0 [] (⟨_, H, rfl, rfl⟩) (Nat.lt_succ_self _) (Nat.zero_le _) rfl (by kernel_rfl) (by kernel_rfl) rfl trivial
  conv => whnf
  obtain rfl := Option.some.inj H
  have H := HQ4
  try dsimp only at H
  refine tst_c H (fun b10 H => ?_) (fun b10 H => ?_)
  · conv => whnf
    exact fin0_c (enc := (fun r : ByteArray × ByteArray × Int => .tup [V.s r.1, V.s r.2.1, V.i r.2.2])) H (.inr rfl) (.cons (.tmp rfl) (.cons (.tmp rfl) (.cons (.tmp rfl) (.nil)))) rfl rfl
  conv => whnf
  refine slt_c H (fun s11 H => ?_); conv => whnf
  refine Ari.w ?_; conv => whnf
  refine slt_c H (fun s12 H => ?_); conv => whnf
  refine FootQ.mk ⟨rfl, ?_⟩; conv => whnf
  refine ask_c (p_ref09_IsBare_v _) H rfl rfl (fun v13 H => ?_); conv => whnf
  refine Tst.not ?_
  refine tst_d H (fun b14 H => ?_) (fun b14 H => ?_)
  · conv => whnf
    exact fin0_c (enc := (fun r : ByteArray × ByteArray × Int => .tup [V.s r.1, V.s r.2.1, V.i r.2.2])) H (.inr rfl) (.cons (.tmp rfl) (.cons (.tmp rfl) (.cons (.tmp rfl) (.nil)))) rfl rfl
  conv => whnf
  refine ask_c (p_ref09_Resource_v _) H rfl rfl (fun v15 H => ?_); conv => whnf
  refine tst_d H (fun b16 H => ?_) (fun b16 H => ?_)
  · conv => whnf
    exact fin0_c (enc := (fun r : ByteArray × ByteArray × Int => .tup [V.s r.1, V.s r.2.1, V.i r.2.2])) H (.inr rfl) (.cons (.tmp rfl) (.cons (.tmp rfl) (.cons (.tmp rfl) (.nil)))) rfl rfl
  conv => whnf
  refine ask_c (p_ref09_Resource_v _) H rfl rfl (fun v17 H => ?_); conv => whnf
  exact fin0_c (enc := (fun r : ByteArray × ByteArray × Int => .tup [V.s r.1, V.s r.2.1, V.i r.2.2])) H (.inr rfl) (.cons (.tmp rfl) (.cons (.tmp rfl) (.cons (.tmp rfl) (.nil)))) rfl rfl
def gc70 : BCode := (.seq (.reg 1 [⟨(some 1), .bx (.tmp 0), none, 0⟩, ⟨(some 2), .mv (.const (.bool false)), none, 1⟩] none 0 []) (.seq (.reg 0 [⟨(some 7), .fa 0 (.tmp 1), none, 0⟩, ⟨(some 8), .ld 1 false (.tmp 7), none, 0⟩, ⟨(some 9), .cl 122 [(.tmp 8)], none, 0⟩, ⟨(some 6), .mv (.tmp 9), none, 0⟩, ⟨(some 10), .ex (.tmp 6) 0, none, 0⟩, ⟨(some 11), .ex (.tmp 6) 1, none, 0⟩, ⟨(some 12), .ex (.tmp 6) 2, none, 0⟩, ⟨(some 3), .mv (.tmp 10), none, 0⟩, ⟨(some 4), .mv (.tmp 11), none, 0⟩, ⟨(some 5), .mv (.tmp 12), none, 0⟩] none 0 []) (.seq (.reg 0 [⟨(some 13), .mv (.tmp 5), none, 0⟩, ⟨(some 14), .bin .eql (.tmp 13) (.const (.int .i64 0)), none, 0⟩, ⟨(some 15), .mv (.tmp 14), none, 0⟩, ⟨(some 16), .fa 1 (.tmp 1), (some (15, true)), 0⟩, ⟨(some 17), .ld 1 false (.tmp 16), (some (15, true)), 0⟩, ⟨(some 18), .cl 123 [(.tmp 17)], (some (15, true)), 0⟩, ⟨(some 19), .pick (.tmp 15) (.tmp 18) (.const (.bool false)), none, 0⟩, ⟨(some 2), .mv (.tmp 19), none, 0⟩] none 0 []) .ret)))
theorem gc70_ok : compF Try.prog Try.f70 = some (gc70.er, 20, [.tmp 2]) := by unfold gc70; kernel_rfl
set_option maxRecDepth 100000 in
set_option maxHeartbeats 4000000 in
theorem p_ref29_fine_v (a0 : Ref29Arrow) : CallsO Try.prog 70 [.agg [.s a0.From, .s a0.To]] V.b (p_ref29_fine a0) := by
  refine callsO_comp mix Try.func70 gc70_ok fun r H => ?_
  rw [p_ref29_fine] at H
  conv => whnf
  refine ask_c (p_ref23_Split_v _) H rfl rfl (fun v1 H => ?_); conv => whnf
  refine tst_d H (fun b2 H => ?_) (fun b2 H => ?_)
  · conv => whnf
    iterate 3 (refine Tst.F ?_; conv => whnf)
    exact fin0_c (enc := V.b) H (.inr rfl) (.cons (.tmp rfl) (.nil)) rfl rfl
  conv => whnf
  iterate 2 (refine Tst.T ?_; conv => whnf)
  refine ask_c (p_ref09_IsBare_v _) H rfl rfl (fun v3 H => ?_); conv => whnf
  refine Tst.T ?_; conv => whnf
  exact fin0_c (enc := V.b) H (.inr rfl) (.cons (.tmp rfl) (.nil)) rfl rfl
end Go.Proofs.Ythmgficajgedlaa
