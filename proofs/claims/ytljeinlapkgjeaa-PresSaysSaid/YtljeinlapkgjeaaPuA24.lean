/- A part of the proof: 6 texts joined. -/
import Derived.Test.YtljeinlapkgjeaaPuA22
import Derived.Test.YtljeinlapkgjeaaPuA23
set_option linter.all false
/- awake: what every right program says of somebody. -/
namespace Go.Proofs.Ytljeinlapkgjeaa
open Go.RowKit
def tA : ByteArray := ⟨#[97, 64, 98]⟩
def tX : ByteArray := ⟨#[120]⟩
def pA : PresD := ⟨true, 1, 5, 7⟩
theorem say1 : sayD ⟨#[97, 64, 98]⟩ ⟨#[120]⟩ ⟨true, 1, 5, 7⟩ = ⟨34, ⟨#[97, 64, 98]⟩, ⟨#[120]⟩, ⟨#[]⟩, 1, 5, 0, 7⟩ := by kernel_rfl
theorem say2 : sayD ⟨#[97]⟩ ⟨#[120]⟩ ⟨true, 1, 5, 7⟩ = ⟨0, ⟨#[]⟩, ⟨#[]⟩, ⟨#[]⟩, 0, 0, 0, 0⟩ := by kernel_rfl
theorem of1 : ofV ⟨34, ⟨#[97, 64, 98]⟩, ⟨#[120]⟩, ⟨#[]⟩, 1, 5, 0, 7⟩ = .tup [.s ⟨#[97, 64, 98]⟩, .s ⟨#[120]⟩, presD ⟨true, 1, 5, 7⟩, .i 0] := by kernel_rfl
theorem of2 : ofV ⟨2, ⟨#[]⟩, ⟨#[]⟩, ⟨#[]⟩, 0, 0, 0, 0⟩ = badV 12 := by kernel_rfl
theorem split1 : splitV ⟨#[97, 64, 98, 32, 120, 32, 121]⟩ = .tup [.s ⟨#[97, 64, 98]⟩, .s ⟨#[120, 32, 121]⟩, .i 0] := by kernel_rfl
theorem split2 : splitV ⟨#[97, 64, 98]⟩ = .tup [.s ⟨#[]⟩, .s ⟨#[]⟩, .i 4] := by kernel_rfl
theorem key1 : keyL ⟨#[97, 64, 98]⟩ ⟨#[]⟩ = ⟨#[97, 64, 98, 32]⟩ := by kernel_rfl
theorem newer1 : newerL ⟨true, 1, 5, 7⟩ ⟨false, 0, 0, 0⟩ = true := by kernel_rfl
theorem better1 : betterL ⟨true, 1, 5, 7⟩ ⟨false, 0, 0, 9⟩ = true := by kernel_rfl
theorem best1 : bestTo [⟨false, 0, 0, 0⟩, ⟨true, 1, 5, 7⟩, ⟨true, 0, 5, 8⟩] 3 = 2 := by kernel_rfl
theorem best2 : bestTo [⟨false, 0, 0, 0⟩] 1 = -1 := by kernel_rfl
theorem last1 : lastTo [⟨false, 0, 0, 0⟩, ⟨true, 1, 5, 7⟩] 2 = ⟨true, 1, 5, 7⟩ := by kernel_rfl
theorem word1 : wordL 3 = ⟨#[120, 97]⟩ := by kernel_rfl
theorem word2 : wordL 5 = ⟨#[]⟩ := by kernel_rfl
theorem check1 : presCheckL ⟨true, 1, 5, 7⟩ = 0 := by kernel_rfl
theorem check2 : presCheckL ⟨false, 1, 0, 0⟩ = 4 := by kernel_rfl
end Go.Proofs.Ytljeinlapkgjeaa
/- awake: the walk. -/
namespace Go.Proofs.Ytljeinlapkgjeaa
open Go.RowKit
attribute [local irreducible] CallsS CallsV Callable
set_option maxRecDepth 100000 in
set_option maxHeartbeats 4000000 in
theorem awake_v : CallsV Try.prog 12 [] (.b true) := by
  have h34 : ((34 : UInt8).toNat : Int) = 34 := rfl
  have c1 := say_v ⟨#[97, 64, 98]⟩ ⟨#[120]⟩ ⟨true, 1, 5, 7⟩ (by decide) (by decide)
  rw [say1] at c1
  have c2 := say_v ⟨#[97]⟩ ⟨#[120]⟩ ⟨true, 1, 5, 7⟩ (by decide) (by decide)
  rw [say2] at c2
  have c3 := of_v ⟨34, ⟨#[97, 64, 98]⟩, ⟨#[120]⟩, ⟨#[]⟩, 1, 5, 0, 7⟩ (by decide) (by decide) (by decide)
  rw [of1] at c3
  have c4 := of_v ⟨2, ⟨#[]⟩, ⟨#[]⟩, ⟨#[]⟩, 0, 0, 0, 0⟩ (by decide) (by decide) (by decide)
  rw [of2] at c4
  have c5 := split_v ⟨#[97, 64, 98, 32, 120, 32, 121]⟩ (by decide)
  rw [split1] at c5
  have c6 := split_v ⟨#[97, 64, 98]⟩ (by decide)
  rw [split2] at c6
  have c7 := key_v ⟨#[97, 64, 98]⟩ ⟨#[]⟩ (by decide) (by decide)
  rw [key1] at c7
  have c8 := newer_v ⟨true, 1, 5, 7⟩ ⟨false, 0, 0, 0⟩
  rw [newer1] at c8
  have c9 := better_v ⟨true, 1, 5, 7⟩ ⟨false, 0, 0, 9⟩
  rw [better1] at c9
  have c10 := best_v [⟨false, 0, 0, 0⟩, ⟨true, 1, 5, 7⟩, ⟨true, 0, 5, 8⟩] false (by decide)
  rw [show bestTo [⟨false, 0, 0, 0⟩, ⟨true, 1, 5, 7⟩, ⟨true, 0, 5, 8⟩] (List.length [(⟨false, 0, 0, 0⟩ : PresD), ⟨true, 1, 5, 7⟩, ⟨true, 0, 5, 8⟩]) = 2 from best1] at c10
  have c11 := best_v [⟨false, 0, 0, 0⟩] false (by decide)
  rw [show bestTo [⟨false, 0, 0, 0⟩] (List.length [(⟨false, 0, 0, 0⟩ : PresD)]) = -1 from best2] at c11
  have c12 := last_v [⟨false, 0, 0, 0⟩, ⟨true, 1, 5, 7⟩] false (by decide)
  rw [show lastTo [⟨false, 0, 0, 0⟩, ⟨true, 1, 5, 7⟩] (List.length [(⟨false, 0, 0, 0⟩ : PresD), ⟨true, 1, 5, 7⟩]) = ⟨true, 1, 5, 7⟩ from last1] at c12
  have c13 := word_v 3
  rw [word1] at c13
  have c14 := word_v 5
  rw [word2] at c14
  have c15 := presCheck_v ⟨true, 1, 5, 7⟩
  rw [check1] at c15
  have c16 := presCheck_v ⟨false, 1, 0, 0⟩
  rw [check2] at c16
  refine callsV_comp mix Try.func12 ac12_ok ?_
  unfold ac12
  simp only [List.length_cons, List.length_nil, List.replicate_succ, List.replicate_zero, List.cons_append, List.nil_append, Nat.reduceAdd, Nat.reduceSub]
  repeat' (first | (first | refine w_blk ?_ | refine w_seq ?_ | refine w_reg (by (try simp only [List.length_cons, List.length_nil, Nat.reduceAdd]); rfl) (by (try simp only [List.replicate_succ, List.replicate_zero, List.cons_append, List.nil_append, List.append_nil]); rfl) (fun K' hK' => ?_) | refine w_condT rfl ?_ | refine w_condF rfl ?_ | (refine w_cond2 rfl (fun hb => ?_) (fun hb => ?_) <;> simp only [putF, List.set_cons_zero, List.set_cons_succ, evO, List.getD_cons_zero, List.getD_cons_succ, V.ofValue, ofC, V.cells, partV, List.drop_zero, List.drop_succ_cons, List.take_succ_cons, List.take_zero, Nat.reduceAdd, Nat.reduceMul, Nat.zero_add, Nat.add_zero, if_true, if_false, Bool.false_eq_true, List.nil_append, List.cons_append, List.append_nil, List.map_cons, List.map_nil, presD, stzV, List.set, beq_self_eq_true, Bool.and_self, Bool.and_true, Bool.true_and, h34, badV]) | refine w_ret ?_ | refine w_skip ?_ | refine w_exit ?_ | refine q_seqN ?_ | refine q_seqR ?_ | refine q_seqE ?_ | refine q_blkN ?_ | refine q_blkR ?_ | refine q_blkH ?_ | refine q_blkE rfl ?_ | refine q_loopR ?_ | refine q_loopE ?_ | (refine x_end ?_; refine hK' _ _ _ ?_; clear hK' K'; first | refine q_regT ?_ | refine q_regD rfl ?_)) | ((first | refine x_mv rfl ?_ | refine x_off rfl ?_ | refine x_ldP rfl rfl rfl (Nat.le_of_ble_eq_true rfl) ?_ | refine x_faP rfl rfl ?_ | refine x_ldE rfl rfl (Nat.le_of_ble_eq_true rfl) ?_ | refine x_faE rfl rfl (Nat.le_of_ble_eq_true rfl) ?_ | refine x_add rfl rfl rfl (by omega) ?_ | refine x_sub rfl rfl rfl (by omega) ?_ | refine x_cat rfl rfl rfl (by omega) ?_ | refine x_binI rfl rfl rfl rfl ?_ | refine x_binS rfl rfl rfl rfl ?_ | refine x_pick rfl rfl ?_ | refine x_un rfl rfl rfl ?_ | refine x_bx rfl rfl rfl ?_ | refine x_al rfl rfl rfl ?_ | refine x_st rfl rfl rfl rfl rfl (Nat.le_of_ble_eq_true rfl) (Nat.le_of_ble_eq_true rfl) ?_ | refine x_eqa rfl rfl rfl rfl rfl rfl ?_ | refine x_bd rfl rfl ?_ | refine x_ex rfl rfl rfl ?_ | refine x_fd rfl rfl (Nat.le_of_ble_eq_true rfl) ?_ | refine x_lenM rfl rfl ?_ | refine x_lenS rfl rfl ?_ | refine x_lent rfl rfl ?_ | refine x_lenO rfl rfl ?_ | refine x_binb rfl rfl rfl ?_ | refine x_cvs rfl rfl ?_ | refine x_cvi0 rfl rfl (by omega) ?_ | refine x_bs rfl rfl rfl rfl ?_ | refine x_mf rfl ?_ | refine x_s2b rfl rfl rfl ?_ | refine x_eqpP rfl rfl rfl ?_ | refine x_eqpN rfl rfl rfl ?_ | refine x_ncP rfl rfl ?_ | refine x_ncE rfl rfl ?_ | refine x_ncC rfl rfl ?_); simp only [putF, List.set_cons_zero, List.set_cons_succ, evO, List.getD_cons_zero, List.getD_cons_succ, V.ofValue, ofC, V.cells, partV, List.drop_zero, List.drop_succ_cons, List.take_succ_cons, List.take_zero, Nat.reduceAdd, Nat.reduceMul, Nat.zero_add, Nat.add_zero, if_true, if_false, Bool.false_eq_true, List.nil_append, List.cons_append, List.append_nil, List.map_cons, List.map_nil, presD, stzV, List.set, beq_self_eq_true, Bool.and_self, Bool.and_true, Bool.true_and, h34, badV]) | (refine x_cl0 rfl (c1) rfl rfl ?_; simp only [putF, List.set_cons_zero, List.set_cons_succ, evO, List.getD_cons_zero, List.getD_cons_succ, V.ofValue, ofC, V.cells, partV, List.drop_zero, List.drop_succ_cons, List.take_succ_cons, List.take_zero, Nat.reduceAdd, Nat.reduceMul, Nat.zero_add, Nat.add_zero, if_true, if_false, Bool.false_eq_true, List.nil_append, List.cons_append, List.append_nil, List.map_cons, List.map_nil, presD, stzV, List.set, beq_self_eq_true, Bool.and_self, Bool.and_true, Bool.true_and, h34, badV]) | (refine x_cl0 rfl (c2) rfl rfl ?_; simp only [putF, List.set_cons_zero, List.set_cons_succ, evO, List.getD_cons_zero, List.getD_cons_succ, V.ofValue, ofC, V.cells, partV, List.drop_zero, List.drop_succ_cons, List.take_succ_cons, List.take_zero, Nat.reduceAdd, Nat.reduceMul, Nat.zero_add, Nat.add_zero, if_true, if_false, Bool.false_eq_true, List.nil_append, List.cons_append, List.append_nil, List.map_cons, List.map_nil, presD, stzV, List.set, beq_self_eq_true, Bool.and_self, Bool.and_true, Bool.true_and, h34, badV]) | (refine x_cl0 rfl (c3) rfl rfl ?_; simp only [putF, List.set_cons_zero, List.set_cons_succ, evO, List.getD_cons_zero, List.getD_cons_succ, V.ofValue, ofC, V.cells, partV, List.drop_zero, List.drop_succ_cons, List.take_succ_cons, List.take_zero, Nat.reduceAdd, Nat.reduceMul, Nat.zero_add, Nat.add_zero, if_true, if_false, Bool.false_eq_true, List.nil_append, List.cons_append, List.append_nil, List.map_cons, List.map_nil, presD, stzV, List.set, beq_self_eq_true, Bool.and_self, Bool.and_true, Bool.true_and, h34, badV]) | (refine x_cl0 rfl (c4) rfl rfl ?_; simp only [putF, List.set_cons_zero, List.set_cons_succ, evO, List.getD_cons_zero, List.getD_cons_succ, V.ofValue, ofC, V.cells, partV, List.drop_zero, List.drop_succ_cons, List.take_succ_cons, List.take_zero, Nat.reduceAdd, Nat.reduceMul, Nat.zero_add, Nat.add_zero, if_true, if_false, Bool.false_eq_true, List.nil_append, List.cons_append, List.append_nil, List.map_cons, List.map_nil, presD, stzV, List.set, beq_self_eq_true, Bool.and_self, Bool.and_true, Bool.true_and, h34, badV]) | (refine x_cl0 rfl (c5) rfl rfl ?_; simp only [putF, List.set_cons_zero, List.set_cons_succ, evO, List.getD_cons_zero, List.getD_cons_succ, V.ofValue, ofC, V.cells, partV, List.drop_zero, List.drop_succ_cons, List.take_succ_cons, List.take_zero, Nat.reduceAdd, Nat.reduceMul, Nat.zero_add, Nat.add_zero, if_true, if_false, Bool.false_eq_true, List.nil_append, List.cons_append, List.append_nil, List.map_cons, List.map_nil, presD, stzV, List.set, beq_self_eq_true, Bool.and_self, Bool.and_true, Bool.true_and, h34, badV]) | (refine x_cl0 rfl (c6) rfl rfl ?_; simp only [putF, List.set_cons_zero, List.set_cons_succ, evO, List.getD_cons_zero, List.getD_cons_succ, V.ofValue, ofC, V.cells, partV, List.drop_zero, List.drop_succ_cons, List.take_succ_cons, List.take_zero, Nat.reduceAdd, Nat.reduceMul, Nat.zero_add, Nat.add_zero, if_true, if_false, Bool.false_eq_true, List.nil_append, List.cons_append, List.append_nil, List.map_cons, List.map_nil, presD, stzV, List.set, beq_self_eq_true, Bool.and_self, Bool.and_true, Bool.true_and, h34, badV]) | (refine x_cl0 rfl (c7) rfl rfl ?_; simp only [putF, List.set_cons_zero, List.set_cons_succ, evO, List.getD_cons_zero, List.getD_cons_succ, V.ofValue, ofC, V.cells, partV, List.drop_zero, List.drop_succ_cons, List.take_succ_cons, List.take_zero, Nat.reduceAdd, Nat.reduceMul, Nat.zero_add, Nat.add_zero, if_true, if_false, Bool.false_eq_true, List.nil_append, List.cons_append, List.append_nil, List.map_cons, List.map_nil, presD, stzV, List.set, beq_self_eq_true, Bool.and_self, Bool.and_true, Bool.true_and, h34, badV]) | (refine x_cl0 rfl (c8) rfl rfl ?_; simp only [putF, List.set_cons_zero, List.set_cons_succ, evO, List.getD_cons_zero, List.getD_cons_succ, V.ofValue, ofC, V.cells, partV, List.drop_zero, List.drop_succ_cons, List.take_succ_cons, List.take_zero, Nat.reduceAdd, Nat.reduceMul, Nat.zero_add, Nat.add_zero, if_true, if_false, Bool.false_eq_true, List.nil_append, List.cons_append, List.append_nil, List.map_cons, List.map_nil, presD, stzV, List.set, beq_self_eq_true, Bool.and_self, Bool.and_true, Bool.true_and, h34, badV]) | (refine x_cl0 rfl (c9) rfl rfl ?_; simp only [putF, List.set_cons_zero, List.set_cons_succ, evO, List.getD_cons_zero, List.getD_cons_succ, V.ofValue, ofC, V.cells, partV, List.drop_zero, List.drop_succ_cons, List.take_succ_cons, List.take_zero, Nat.reduceAdd, Nat.reduceMul, Nat.zero_add, Nat.add_zero, if_true, if_false, Bool.false_eq_true, List.nil_append, List.cons_append, List.append_nil, List.map_cons, List.map_nil, presD, stzV, List.set, beq_self_eq_true, Bool.and_self, Bool.and_true, Bool.true_and, h34, badV]) | (refine x_cl0 rfl (c13) rfl rfl ?_; simp only [putF, List.set_cons_zero, List.set_cons_succ, evO, List.getD_cons_zero, List.getD_cons_succ, V.ofValue, ofC, V.cells, partV, List.drop_zero, List.drop_succ_cons, List.take_succ_cons, List.take_zero, Nat.reduceAdd, Nat.reduceMul, Nat.zero_add, Nat.add_zero, if_true, if_false, Bool.false_eq_true, List.nil_append, List.cons_append, List.append_nil, List.map_cons, List.map_nil, presD, stzV, List.set, beq_self_eq_true, Bool.and_self, Bool.and_true, Bool.true_and, h34, badV]) | (refine x_cl0 rfl (c14) rfl rfl ?_; simp only [putF, List.set_cons_zero, List.set_cons_succ, evO, List.getD_cons_zero, List.getD_cons_succ, V.ofValue, ofC, V.cells, partV, List.drop_zero, List.drop_succ_cons, List.take_succ_cons, List.take_zero, Nat.reduceAdd, Nat.reduceMul, Nat.zero_add, Nat.add_zero, if_true, if_false, Bool.false_eq_true, List.nil_append, List.cons_append, List.append_nil, List.map_cons, List.map_nil, presD, stzV, List.set, beq_self_eq_true, Bool.and_self, Bool.and_true, Bool.true_and, h34, badV]) | (refine x_cl0 rfl (c15) rfl rfl ?_; simp only [putF, List.set_cons_zero, List.set_cons_succ, evO, List.getD_cons_zero, List.getD_cons_succ, V.ofValue, ofC, V.cells, partV, List.drop_zero, List.drop_succ_cons, List.take_succ_cons, List.take_zero, Nat.reduceAdd, Nat.reduceMul, Nat.zero_add, Nat.add_zero, if_true, if_false, Bool.false_eq_true, List.nil_append, List.cons_append, List.append_nil, List.map_cons, List.map_nil, presD, stzV, List.set, beq_self_eq_true, Bool.and_self, Bool.and_true, Bool.true_and, h34, badV]) | (refine x_cl0 rfl (c16) rfl rfl ?_; simp only [putF, List.set_cons_zero, List.set_cons_succ, evO, List.getD_cons_zero, List.getD_cons_succ, V.ofValue, ofC, V.cells, partV, List.drop_zero, List.drop_succ_cons, List.take_succ_cons, List.take_zero, Nat.reduceAdd, Nat.reduceMul, Nat.zero_add, Nat.add_zero, if_true, if_false, Bool.false_eq_true, List.nil_append, List.cons_append, List.append_nil, List.map_cons, List.map_nil, presD, stzV, List.set, beq_self_eq_true, Bool.and_self, Bool.and_true, Bool.true_and, h34, badV]) | (refine x_cl rfl c10 (.cons (.c (fzc_made (f := presD) (l := [⟨false, 0, 0, 0⟩, ⟨true, 1, 5, 7⟩, ⟨true, 0, 5, 8⟩]) rfl rfl rfl rfl presD_cells presD_idlt)) .nil) ?_; simp only [putF, List.set_cons_zero, List.set_cons_succ, evO, List.getD_cons_zero, List.getD_cons_succ, V.ofValue, ofC, V.cells, partV, List.drop_zero, List.drop_succ_cons, List.take_succ_cons, List.take_zero, Nat.reduceAdd, Nat.reduceMul, Nat.zero_add, Nat.add_zero, if_true, if_false, Bool.false_eq_true, List.nil_append, List.cons_append, List.append_nil, List.map_cons, List.map_nil, presD, stzV, List.set, beq_self_eq_true, Bool.and_self, Bool.and_true, Bool.true_and, h34, badV]) | (refine x_cl rfl c11 (.cons (.c (fzc_made (f := presD) (l := [⟨false, 0, 0, 0⟩]) rfl rfl rfl rfl presD_cells presD_idlt)) .nil) ?_; simp only [putF, List.set_cons_zero, List.set_cons_succ, evO, List.getD_cons_zero, List.getD_cons_succ, V.ofValue, ofC, V.cells, partV, List.drop_zero, List.drop_succ_cons, List.take_succ_cons, List.take_zero, Nat.reduceAdd, Nat.reduceMul, Nat.zero_add, Nat.add_zero, if_true, if_false, Bool.false_eq_true, List.nil_append, List.cons_append, List.append_nil, List.map_cons, List.map_nil, presD, stzV, List.set, beq_self_eq_true, Bool.and_self, Bool.and_true, Bool.true_and, h34, badV]) | (refine x_cl rfl c12 (.cons (.c (fzc_made (f := presD) (l := [⟨false, 0, 0, 0⟩, ⟨true, 1, 5, 7⟩]) rfl rfl rfl rfl presD_cells presD_idlt)) .nil) ?_; simp only [putF, List.set_cons_zero, List.set_cons_succ, evO, List.getD_cons_zero, List.getD_cons_succ, V.ofValue, ofC, V.cells, partV, List.drop_zero, List.drop_succ_cons, List.take_succ_cons, List.take_zero, Nat.reduceAdd, Nat.reduceMul, Nat.zero_add, Nat.add_zero, if_true, if_false, Bool.false_eq_true, List.nil_append, List.cons_append, List.append_nil, List.map_cons, List.map_nil, presD, stzV, List.set, beq_self_eq_true, Bool.and_self, Bool.and_true, Bool.true_and, h34, badV]) | (refine x_case rfl (fun hb => ?_) (fun hb => ?_) <;> simp only [putF, List.set_cons_zero, List.set_cons_succ, evO, List.getD_cons_zero, List.getD_cons_succ, V.ofValue, ofC, V.cells, partV, List.drop_zero, List.drop_succ_cons, List.take_succ_cons, List.take_zero, Nat.reduceAdd, Nat.reduceMul, Nat.zero_add, Nat.add_zero, if_true, if_false, Bool.false_eq_true, List.nil_append, List.cons_append, List.append_nil, List.map_cons, List.map_nil, presD, stzV, List.set, beq_self_eq_true, Bool.and_self, Bool.and_true, Bool.true_and, h34, badV]))
  exact f_lit (by simp) rfl rfl
end Go.Proofs.Ytljeinlapkgjeaa
/- What is said of a resource is told as it was: plain laws. -/
namespace Go.Proofs.Ytljeinlapkgjeaa
theorem bare_no32 (l : List UInt8) (h : isBareL l = true) : ∀ c ∈ l, c ≠ 32 := by
  simp only [isBareL, Bool.and_eq_true, decide_eq_true_eq, beq_iff_eq] at h
  obtain ⟨h1, h2⟩ := h
  unfold bareT at h2
  rw [if_pos h1] at h2
  unfold parseL at h1 h2
  split at h1
  · simp at h1
  · rename_i hx
    rw [if_neg hx] at h2
    split at h1
    · rename_i hc
      rw [if_pos hc] at h2
      simp only [textL] at h2
      unfold checkA at hc
      split at hc
      · simp at hc
      · split at hc
        · simp at hc
        · split at hc
          · rename_i _ _ hn
            simp only [Bool.and_eq_true] at hn
            obtain ⟨⟨hn1, hn2⟩, _⟩ := hn
            have a1 : ∀ c ∈ ownL l, c ≠ 32 := by
              intro c hc e
              subst e
              simp only [nameL, Bool.and_eq_true, Bool.not_eq_true'] at hn1
              have := List.any_eq_false.1 hn1.1.2 _ hc
              revert this; decide
            have a2 : ∀ c ∈ placeL l, c ≠ 32 := by
              intro c hc e
              subst e
              simp only [hostP, Bool.and_eq_true] at hn2
              have := List.all_eq_true.1 hn2.2 _ hc
              revert this; decide
            intro c hc
            rw [← h2] at hc
            simp at hc
            rcases hc with hc | rfl | hc
            · exact a1 c hc
            · decide
            · exact a2 c hc
          · simp at hc
    · rename_i hc
      exact absurd h1 hc
theorem find_app (a r : List UInt8) (h : ∀ c ∈ a, c ≠ 32) : findL (a ++ 32 :: r) 32 = a.length := by
  unfold findL
  induction a with
  | nil => simp [List.findIdx_cons]
  | cons b a ih =>
    rw [List.cons_append, List.findIdx_cons, ih (fun c hc => h c (by simp [hc]))]
    have : (b == 32) = false := by simpa using h b (by simp)
    simp [this]
theorem key_list (u r : ByteArray) : (u ++ (⟨#[32]⟩ : ByteArray) ++ r).data.toList = u.data.toList ++ 32 :: r.data.toList := by simp
theorem ba_own (s : ByteArray) : ba s.data.toList = s := bl_inj (by rw [ba_list])
theorem named_bare {u r : ByteArray} (h : namedL u r = true) : isBareL u.data.toList = true ∧ resL r.data.toList = 0 := by
  simp only [namedL, Bool.and_eq_true, decide_eq_true_eq] at h
  exact ⟨h.2, h.1⟩
theorem named_of {u r : ByteArray} (h1 : isBareL u.data.toList = true) (h2 : resL r.data.toList = 0) : namedL u r = true := by simp [namedL, h1, h2]
/-- a key's parts are what it was made of. -/
theorem split_key {u r : ByteArray} (h : namedL u r = true) : splitV (keyL u r) = .tup [.s u, .s r, .i 0] := by
  obtain ⟨hb, hr⟩ := named_bare h
  have hk : keyL u r = u ++ (⟨#[32]⟩ : ByteArray) ++ r := if_pos h
  have hl := key_list u r
  rw [← hk] at hl
  have hf : findL (keyL u r).data.toList 32 = u.data.toList.length := by rw [hl]; exact find_app _ _ (bare_no32 _ hb)
  have eu : splitU (keyL u r) = u := by unfold splitU; rw [hf, hl, List.take_left]; exact ba_own u
  have er : splitR (keyL u r) = r := by
    unfold splitR
    rw [hf, hl]
    have : (u.data.toList ++ 32 :: r.data.toList).drop (u.data.toList.length + 1) = r.data.toList := by rw [← List.drop_drop, List.drop_left]; rfl
    rw [this]; exact ba_own r
  have := splitV_d (s := keyL u r) (d := true) (by rw [hf, hl]; simp) rfl (by rw [eu, hb]; rfl) (by rw [er, hr]; rfl)
  rw [this, eu, er]
/-- parts that a key has make it again. -/
theorem key_split {s : ByteArray} (h : splitE s = 0) : keyL (splitU s) (splitR s) = s := by
  unfold splitE at h
  split at h
  · rename_i hlt
    split at h
    · simp at h
    · rename_i hb
      have hn : namedL (splitU s) (splitR s) = true := named_of (by simpa using hb) h
      have hk : keyL (splitU s) (splitR s) = splitU s ++ (⟨#[32]⟩ : ByteArray) ++ splitR s := if_pos hn
      rw [hk]
      apply bl_inj
      rw [key_list]
      unfold splitU splitR
      rw [ba_list, ba_list]
      have he : s.data.toList[findL s.data.toList 32]'hlt = 32 := by
        have := List.findIdx_getElem (p := (· == (32 : UInt8))) (xs := s.data.toList) (w := hlt)
        exact beq_iff_eq.1 this
      have h1 : 32 :: s.data.toList.drop (findL s.data.toList 32 + 1) = s.data.toList.drop (findL s.data.toList 32) := by
        rw [List.drop_eq_getElem_cons hlt, he]
      rw [h1, List.take_append_drop]
  · simp at h
end Go.Proofs.Ytljeinlapkgjeaa
/- What is said is told, what is told is said: plain laws. -/
namespace Go.Proofs.Ytljeinlapkgjeaa
theorem check_bounds {p : PresD} (h : presCheckL p = 0) : (0 ≤ p.sh ∧ p.sh ≤ 4) ∧ (-128 ≤ p.prio ∧ p.prio ≤ 127) ∧ (0 ≤ p.seq ∧ p.seq ≤ 1099511627776) ∧ (p.on = false → p.sh = 0 ∧ p.prio = 0) := by
  obtain ⟨on, sh, prio, seq⟩ := p
  revert h
  simp only [presCheckL]
  grind
theorem checkS_zero {s : StzD} (h : checkS s = 0) : knownN s.kind.toNat = true ∧ extraL s = false ∧ rangeL s = true ∧ (hasC s.kind 117 = true → isBareL s.user.data.toList = true) ∧ resL s.res.data.toList = 0 := by
  unfold checkS at h
  repeat' split at h
  all_goals simp_all
theorem checkS_of {s : StzD} (h1 : knownN s.kind.toNat = true) (h2 : extraL s = false) (h3 : rangeL s = true) (h4 : s.name.size ≤ 24) (h5 : plainL s.name.data.toList = true) (h6 : isBareL s.user.data.toList = true) (h7 : resL s.res.data.toList = 0) : checkS s = 0 := by
  unfold checkS
  rw [if_neg (by simp [h1]), if_neg (by simp [h2]), if_neg (by simp [h3]), if_neg (by omega), if_neg (by simp [h5]), if_neg (by simp [h6]), h7]
theorem say_known {u r : ByteArray} {p : PresD} (hp : presCheckL p = 0) (hn : namedL u r = true) : checkS (sayD u r p) = 0 := by
  obtain ⟨b1, b2, b3, b4⟩ := check_bounds hp
  obtain ⟨hb, hr⟩ := named_bare hn
  have hneg : ¬ (presCheckL p ≠ 0 ∨ namedL u r = false) := by simp [hp, hn]
  have em : (⟨#[]⟩ : ByteArray).toList = [] := by simp
  have k34 : hasC 34 117 = true ∧ hasC 34 114 = true ∧ hasC 34 115 = true ∧ hasC 34 112 = true ∧ hasC 34 110 = true := by decide
  have k35 : hasC 35 117 = true ∧ hasC 35 114 = true ∧ hasC 35 110 = true := by decide
  cases ho : p.on with
  | true =>
    rw [sayD_on hneg ho]
    refine checkS_of (by show knownN 34 = true; decide) ?_ ?_ (Nat.zero_le _) (by show plainL [] = true; decide) hb hr
    · simp only [extraL, k34.1, k34.2.1, k34.2.2.1, k34.2.2.2.1, k34.2.2.2.2, em]; simp
    · simp only [rangeL]; simp; omega
  | false =>
    rw [sayD_off hneg ho]
    refine checkS_of (by show knownN 35 = true; decide) ?_ ?_ (Nat.zero_le _) (by show plainL [] = true; decide) hb hr
    · simp only [extraL, k35.1, k35.2.1, k35.2.2, em]; simp
    · simp only [rangeL]; simp; omega
theorem of_said {u r : ByteArray} {p : PresD} (hp : presCheckL p = 0) (hn : namedL u r = true) : ofV (sayD u r p) = .tup [.s u, .s r, presD p, .i 0] := by
  have hc := say_known hp hn
  obtain ⟨b1, b2, b3, b4⟩ := check_bounds hp
  have hneg : ¬ (presCheckL p ≠ 0 ∨ namedL u r = false) := by simp [hp, hn]
  cases ho : p.on with
  | true =>
    rw [sayD_on hneg ho] at hc ⊢
    have e : ofP ⟨34, u, r, ⟨#[]⟩, p.sh, p.prio, 0, p.seq⟩ = p := by
      cases p; simp only at ho; subst ho; rfl
    have := ofV_d (s := ⟨34, u, r, ⟨#[]⟩, p.sh, p.prio, 0, p.seq⟩) (.inl rfl) (by rw [hc]; rfl) (by rw [e, hp]; rfl)
    rw [this, e]
  | false =>
    rw [sayD_off hneg ho] at hc ⊢
    obtain ⟨z1, z2⟩ := b4 ho
    have e : ofP ⟨35, u, r, ⟨#[]⟩, 0, 0, 0, p.seq⟩ = p := by
      cases p; simp only at ho z1 z2; subst ho z1 z2; rfl
    have := ofV_d (s := ⟨35, u, r, ⟨#[]⟩, 0, 0, 0, p.seq⟩) (.inr rfl) (by rw [hc]; rfl) (by rw [e, hp]; rfl)
    rw [this, e]
theorem emp_of {b : ByteArray} (h : b.toList.isEmpty = true) : b = ⟨#[]⟩ := (Go.toList_nil_iff_emptyBytes b).1 (List.isEmpty_iff.1 h)
theorem said_of {s : StzD} (h : ofE s = 0) : sayD s.user s.res (ofP s) = s := by
  unfold ofE at h
  split at h
  · simp at h
  · rename_i hk
    split at h
    · rename_i hc; exact absurd h hc
    · rename_i hc
      have hc' : checkS s = 0 := by simpa using hc
      obtain ⟨_, he, _, hb, hr⟩ := checkS_zero hc'
      obtain ⟨_, _, _, b4⟩ := check_bounds h
      obtain ⟨kind, user, res, name, sh, prio, code, n⟩ := s
      have hkk : kind = 34 ∨ kind = 35 := by
        simp only [← UInt8.toNat_inj]
        have h34 : UInt8.toNat 34 = 34 := rfl
        have h35 : UInt8.toNat 35 = 35 := rfl
        rw [h34, h35]
        by_cases h1 : kind.toNat = 34
        · exact .inl h1
        · by_cases h2 : kind.toNat = 35
          · exact .inr h2
          · exact absurd ⟨h1, h2⟩ hk
      rcases hkk with rfl | rfl
      · have hn : namedL user res = true := named_of (hb (by show hasC 34 117 = true; decide)) hr
        have c1 : hasC 34 109 = false ∧ hasC 34 99 = false := by decide
        simp only [extraL, c1.1, c1.2] at he
        simp at he
        rw [sayD_on (fun g => g.elim (fun g => g h) (fun g => by rw [hn] at g; cases g)) rfl]
        have e1 : name = ⟨#[]⟩ := emp_of (by simp_all)
        simp_all [ofP]
      · have hn : namedL user res = true := named_of (hb (by show hasC 35 117 = true; decide)) hr
        have c1 : hasC 35 109 = false ∧ hasC 35 99 = false := by decide
        simp only [extraL, c1.1, c1.2] at he
        simp at he
        obtain ⟨z1, z2⟩ := b4 rfl
        rw [sayD_off (fun g => g.elim (fun g => g h) (fun g => by rw [hn] at g; cases g)) rfl]
        have e1 : name = ⟨#[]⟩ := emp_of (by simp_all)
        simp_all [ofP]
end Go.Proofs.Ytljeinlapkgjeaa
/- PresBack: inputs that are too long. -/
namespace Go.Proofs.Ytljeinlapkgjeaa
open Go.RowKit
theorem bTF : (true != false) = true := rfl
theorem bFT : (false != true) = true := rfl
attribute [local irreducible] CallsS CallsV Callable
def lightL (s : StzD) : Bool := decide (s.user.size ≤ 100) && (decide (s.res.size ≤ 100) && decide (s.name.size ≤ 100))
theorem light_v (s : StzD) : CallsV Try.prog 26 [stzV s] (.b (lightL s)) := by
  refine callsV_comp mix Try.func26 ac26_ok ?_
  unfold ac26
  simp only [List.length_cons, List.length_nil, List.replicate_succ, List.replicate_zero, List.cons_append, List.nil_append, Nat.reduceAdd, Nat.reduceSub]
  repeat' (first | (first | refine w_blk ?_ | refine w_seq ?_ | refine w_reg (by (try simp only [List.length_cons, List.length_nil, Nat.reduceAdd]); rfl) (by (try simp only [List.replicate_succ, List.replicate_zero, List.cons_append, List.nil_append, List.append_nil]); rfl) (fun K' hK' => ?_) | refine w_condT rfl ?_ | refine w_condF rfl ?_ | (refine w_cond2 rfl (fun hb => ?_) (fun hb => ?_) <;> simp only [putF, List.set_cons_zero, List.set_cons_succ, evO, List.getD_cons_zero, List.getD_cons_succ, V.ofValue, ofC, V.cells, partV, List.drop_zero, List.drop_succ_cons, List.take_succ_cons, List.take_zero, Nat.reduceAdd, Nat.reduceMul, Nat.zero_add, Nat.add_zero, if_true, if_false, Bool.false_eq_true, List.nil_append, List.cons_append, List.append_nil, List.map_cons, List.map_nil, presD, stzV, List.set, beq_self_eq_true, Bool.and_self, Bool.and_true, Bool.true_and, Bool.false_and, Bool.not_true, Bool.not_false, bne_self_eq_false, bTF, bFT]) | refine w_ret ?_ | refine w_skip ?_ | refine w_exit ?_ | refine q_seqN ?_ | refine q_seqR ?_ | refine q_seqE ?_ | refine q_blkN ?_ | refine q_blkR ?_ | refine q_blkH ?_ | refine q_blkE rfl ?_ | refine q_loopR ?_ | refine q_loopE ?_ | (refine x_end ?_; refine hK' _ _ _ ?_; clear hK' K'; first | refine q_regT ?_ | refine q_regD rfl ?_)) | ((first | refine x_mv rfl ?_ | refine x_off rfl ?_ | refine x_ldP rfl rfl rfl (Nat.le_of_ble_eq_true rfl) ?_ | refine x_faP rfl rfl ?_ | refine x_ldE rfl rfl (Nat.le_of_ble_eq_true rfl) ?_ | refine x_faE rfl rfl (Nat.le_of_ble_eq_true rfl) ?_ | refine x_add rfl rfl rfl (by omega) ?_ | refine x_sub rfl rfl rfl (by omega) ?_ | refine x_cat rfl rfl rfl (by omega) ?_ | refine x_binI rfl rfl rfl rfl ?_ | refine x_binS rfl rfl rfl rfl ?_ | refine x_pick rfl rfl ?_ | refine x_un rfl rfl rfl ?_ | refine x_bx rfl rfl rfl ?_ | refine x_al rfl rfl rfl ?_ | refine x_st rfl rfl rfl rfl rfl (Nat.le_of_ble_eq_true rfl) (Nat.le_of_ble_eq_true rfl) ?_ | refine x_eqa rfl rfl rfl rfl rfl rfl ?_ | refine x_bd rfl rfl ?_ | refine x_ex rfl rfl rfl ?_ | refine x_fd rfl rfl (Nat.le_of_ble_eq_true rfl) ?_ | refine x_lenM rfl rfl ?_ | refine x_lenS rfl rfl ?_ | refine x_lent rfl rfl ?_ | refine x_lenO rfl rfl ?_ | refine x_binb rfl rfl rfl ?_ | refine x_cvs rfl rfl ?_ | refine x_cvi0 rfl rfl (by omega) ?_ | refine x_bs rfl rfl rfl rfl ?_ | refine x_mf rfl ?_ | refine x_s2b rfl rfl rfl ?_ | refine x_eqpP rfl rfl rfl ?_ | refine x_eqpN rfl rfl rfl ?_ | refine x_ncP rfl rfl ?_ | refine x_ncE rfl rfl ?_ | refine x_ncC rfl rfl ?_); simp only [putF, List.set_cons_zero, List.set_cons_succ, evO, List.getD_cons_zero, List.getD_cons_succ, V.ofValue, ofC, V.cells, partV, List.drop_zero, List.drop_succ_cons, List.take_succ_cons, List.take_zero, Nat.reduceAdd, Nat.reduceMul, Nat.zero_add, Nat.add_zero, if_true, if_false, Bool.false_eq_true, List.nil_append, List.cons_append, List.append_nil, List.map_cons, List.map_nil, presD, stzV, List.set, beq_self_eq_true, Bool.and_self, Bool.and_true, Bool.true_and, Bool.false_and, Bool.not_true, Bool.not_false, bne_self_eq_false, bTF, bFT]) | (refine x_case rfl (fun hb => ?_) (fun hb => ?_) <;> simp only [putF, List.set_cons_zero, List.set_cons_succ, evO, List.getD_cons_zero, List.getD_cons_succ, V.ofValue, ofC, V.cells, partV, List.drop_zero, List.drop_succ_cons, List.take_succ_cons, List.take_zero, Nat.reduceAdd, Nat.reduceMul, Nat.zero_add, Nat.add_zero, if_true, if_false, Bool.false_eq_true, List.nil_append, List.cons_append, List.append_nil, List.map_cons, List.map_nil, presD, stzV, List.set, beq_self_eq_true, Bool.and_self, Bool.and_true, Bool.true_and, Bool.false_and, Bool.not_true, Bool.not_false, bne_self_eq_false, bTF, bFT]))
  all_goals refine f_lit (by simp) rfl ?_
  all_goals (congr 1; rw [Bool.eq_iff_iff]; simp only [lightL, Bool.and_eq_true, decide_eq_true_eq, decide_eq_false_iff_not] at *; first | omega | grind)
set_option maxRecDepth 100000 in
set_option maxHeartbeats 4000000 in
theorem back_long (p : PresD) (a b c : ByteArray) (s : StzD) (h : ¬ (a.size ≤ 100 ∧ b.size ≤ 100 ∧ c.size ≤ 100 ∧ lightL s = true)) : CallsV Try.prog 5 [presD p, .agg [.s a, .s b, .s c], stzV s] (.b true) := by
  refine callsV_comp mix Try.func5 ac5_ok ?_
  unfold ac5
  simp only [List.length_cons, List.length_nil, List.replicate_succ, List.replicate_zero, List.cons_append, List.nil_append, Nat.reduceAdd, Nat.reduceSub]
  repeat' (first | (first | refine w_blk ?_ | refine w_seq ?_ | refine w_reg (by (try simp only [List.length_cons, List.length_nil, Nat.reduceAdd]); rfl) (by (try simp only [List.replicate_succ, List.replicate_zero, List.cons_append, List.nil_append, List.append_nil]); rfl) (fun K' hK' => ?_) | refine w_condT rfl ?_ | refine w_condF rfl ?_ | (refine w_cond2 rfl (fun hb => ?_) (fun hb => ?_) <;> simp only [putF, List.set_cons_zero, List.set_cons_succ, evO, List.getD_cons_zero, List.getD_cons_succ, V.ofValue, ofC, V.cells, partV, List.drop_zero, List.drop_succ_cons, List.take_succ_cons, List.take_zero, Nat.reduceAdd, Nat.reduceMul, Nat.zero_add, Nat.add_zero, if_true, if_false, Bool.false_eq_true, List.nil_append, List.cons_append, List.append_nil, List.map_cons, List.map_nil, presD, stzV, List.set, beq_self_eq_true, Bool.and_self, Bool.and_true, Bool.true_and, Bool.false_and, Bool.not_true, Bool.not_false, bne_self_eq_false, bTF, bFT]) | refine w_ret ?_ | refine w_skip ?_ | refine w_exit ?_ | refine q_seqN ?_ | refine q_seqR ?_ | refine q_seqE ?_ | refine q_blkN ?_ | refine q_blkR ?_ | refine q_blkH ?_ | refine q_blkE rfl ?_ | refine q_loopR ?_ | refine q_loopE ?_ | (refine x_end ?_; refine hK' _ _ _ ?_; clear hK' K'; first | refine q_regT ?_ | refine q_regD rfl ?_)) | ((first | refine x_mv rfl ?_ | refine x_off rfl ?_ | refine x_ldP rfl rfl rfl (Nat.le_of_ble_eq_true rfl) ?_ | refine x_faP rfl rfl ?_ | refine x_ldE rfl rfl (Nat.le_of_ble_eq_true rfl) ?_ | refine x_faE rfl rfl (Nat.le_of_ble_eq_true rfl) ?_ | refine x_add rfl rfl rfl (by omega) ?_ | refine x_sub rfl rfl rfl (by omega) ?_ | refine x_cat rfl rfl rfl (by omega) ?_ | refine x_binI rfl rfl rfl rfl ?_ | refine x_binS rfl rfl rfl rfl ?_ | refine x_pick rfl rfl ?_ | refine x_un rfl rfl rfl ?_ | refine x_bx rfl rfl rfl ?_ | refine x_al rfl rfl rfl ?_ | refine x_st rfl rfl rfl rfl rfl (Nat.le_of_ble_eq_true rfl) (Nat.le_of_ble_eq_true rfl) ?_ | refine x_eqa rfl rfl rfl rfl rfl rfl ?_ | refine x_bd rfl rfl ?_ | refine x_ex rfl rfl rfl ?_ | refine x_fd rfl rfl (Nat.le_of_ble_eq_true rfl) ?_ | refine x_lenM rfl rfl ?_ | refine x_lenS rfl rfl ?_ | refine x_lent rfl rfl ?_ | refine x_lenO rfl rfl ?_ | refine x_binb rfl rfl rfl ?_ | refine x_cvs rfl rfl ?_ | refine x_cvi0 rfl rfl (by omega) ?_ | refine x_bs rfl rfl rfl rfl ?_ | refine x_mf rfl ?_ | refine x_s2b rfl rfl rfl ?_ | refine x_eqpP rfl rfl rfl ?_ | refine x_eqpN rfl rfl rfl ?_ | refine x_ncP rfl rfl ?_ | refine x_ncE rfl rfl ?_ | refine x_ncC rfl rfl ?_); simp only [putF, List.set_cons_zero, List.set_cons_succ, evO, List.getD_cons_zero, List.getD_cons_succ, V.ofValue, ofC, V.cells, partV, List.drop_zero, List.drop_succ_cons, List.take_succ_cons, List.take_zero, Nat.reduceAdd, Nat.reduceMul, Nat.zero_add, Nat.add_zero, if_true, if_false, Bool.false_eq_true, List.nil_append, List.cons_append, List.append_nil, List.map_cons, List.map_nil, presD, stzV, List.set, beq_self_eq_true, Bool.and_self, Bool.and_true, Bool.true_and, Bool.false_and, Bool.not_true, Bool.not_false, bne_self_eq_false, bTF, bFT]) | (refine x_cl0 rfl (light_v s) rfl rfl ?_; simp only [putF, List.set_cons_zero, List.set_cons_succ, evO, List.getD_cons_zero, List.getD_cons_succ, V.ofValue, ofC, V.cells, partV, List.drop_zero, List.drop_succ_cons, List.take_succ_cons, List.take_zero, Nat.reduceAdd, Nat.reduceMul, Nat.zero_add, Nat.add_zero, if_true, if_false, Bool.false_eq_true, List.nil_append, List.cons_append, List.append_nil, List.map_cons, List.map_nil, presD, stzV, List.set, beq_self_eq_true, Bool.and_self, Bool.and_true, Bool.true_and, Bool.false_and, Bool.not_true, Bool.not_false, bne_self_eq_false, bTF, bFT]) | (refine x_cl0 rfl (awake_v) rfl rfl ?_; simp only [putF, List.set_cons_zero, List.set_cons_succ, evO, List.getD_cons_zero, List.getD_cons_succ, V.ofValue, ofC, V.cells, partV, List.drop_zero, List.drop_succ_cons, List.take_succ_cons, List.take_zero, Nat.reduceAdd, Nat.reduceMul, Nat.zero_add, Nat.add_zero, if_true, if_false, Bool.false_eq_true, List.nil_append, List.cons_append, List.append_nil, List.map_cons, List.map_nil, presD, stzV, List.set, beq_self_eq_true, Bool.and_self, Bool.and_true, Bool.true_and, Bool.false_and, Bool.not_true, Bool.not_false, bne_self_eq_false, bTF, bFT]) | (refine x_ixa (n := 0) rfl rfl rfl rfl (by decide) ?_; simp only [putF, List.set_cons_zero, List.set_cons_succ, evO, List.getD_cons_zero, List.getD_cons_succ, V.ofValue, ofC, V.cells, partV, List.drop_zero, List.drop_succ_cons, List.take_succ_cons, List.take_zero, Nat.reduceAdd, Nat.reduceMul, Nat.zero_add, Nat.add_zero, if_true, if_false, Bool.false_eq_true, List.nil_append, List.cons_append, List.append_nil, List.map_cons, List.map_nil, presD, stzV, List.set, beq_self_eq_true, Bool.and_self, Bool.and_true, Bool.true_and, Bool.false_and, Bool.not_true, Bool.not_false, bne_self_eq_false, bTF, bFT]) | (refine x_ixa (n := 1) rfl rfl rfl rfl (by decide) ?_; simp only [putF, List.set_cons_zero, List.set_cons_succ, evO, List.getD_cons_zero, List.getD_cons_succ, V.ofValue, ofC, V.cells, partV, List.drop_zero, List.drop_succ_cons, List.take_succ_cons, List.take_zero, Nat.reduceAdd, Nat.reduceMul, Nat.zero_add, Nat.add_zero, if_true, if_false, Bool.false_eq_true, List.nil_append, List.cons_append, List.append_nil, List.map_cons, List.map_nil, presD, stzV, List.set, beq_self_eq_true, Bool.and_self, Bool.and_true, Bool.true_and, Bool.false_and, Bool.not_true, Bool.not_false, bne_self_eq_false, bTF, bFT]) | (refine x_ixa (n := 2) rfl rfl rfl rfl (by decide) ?_; simp only [putF, List.set_cons_zero, List.set_cons_succ, evO, List.getD_cons_zero, List.getD_cons_succ, V.ofValue, ofC, V.cells, partV, List.drop_zero, List.drop_succ_cons, List.take_succ_cons, List.take_zero, Nat.reduceAdd, Nat.reduceMul, Nat.zero_add, Nat.add_zero, if_true, if_false, Bool.false_eq_true, List.nil_append, List.cons_append, List.append_nil, List.map_cons, List.map_nil, presD, stzV, List.set, beq_self_eq_true, Bool.and_self, Bool.and_true, Bool.true_and, Bool.false_and, Bool.not_true, Bool.not_false, bne_self_eq_false, bTF, bFT]) | (refine x_case rfl (fun hb => ?_) (fun hb => ?_) <;> simp only [putF, List.set_cons_zero, List.set_cons_succ, evO, List.getD_cons_zero, List.getD_cons_succ, V.ofValue, ofC, V.cells, partV, List.drop_zero, List.drop_succ_cons, List.take_succ_cons, List.take_zero, Nat.reduceAdd, Nat.reduceMul, Nat.zero_add, Nat.add_zero, if_true, if_false, Bool.false_eq_true, List.nil_append, List.cons_append, List.append_nil, List.map_cons, List.map_nil, presD, stzV, List.set, beq_self_eq_true, Bool.and_self, Bool.and_true, Bool.true_and, Bool.false_and, Bool.not_true, Bool.not_false, bne_self_eq_false, bTF, bFT]))
  all_goals first
    | exact f_lit (by simp) rfl rfl
    | (exfalso; simp at *; omega)
    | (exfalso; simp_all; omega)
    | trace_state
end Go.Proofs.Ytljeinlapkgjeaa
/- PresBack: no name. -/
namespace Go.Proofs.Ytljeinlapkgjeaa
open Go.RowKit
attribute [local irreducible] CallsS CallsV Callable
set_option maxRecDepth 100000 in
set_option maxHeartbeats 4000000 in
theorem back_a (p : PresD) (a b c U R X Y k2 : ByteArray) (s d2 : StzD) (Q : PresD) (E F : Int) (ha : a.size ≤ 100) (hb' : b.size ≤ 100) (hc : c.size ≤ 100) (hl : CallsV Try.prog 26 [stzV s] (.b true))
    (hof : CallsV Try.prog 27 [stzV s] (.tup [.s U, .s R, presD Q, .i E])) (hsay : CallsV Try.prog 31 [.s U, .s R, presD Q] (stzV d2)) (hE : E = 0 → d2 = s)
    (hsp : CallsV Try.prog 29 [.s c] (.tup [.s X, .s Y, .i F])) (hkey2 : CallsV Try.prog 33 [.s X, .s Y] (.s k2)) (hF : F = 0 → k2 = c)
    (q1 : CallsV Try.prog 33 [.s a, .s b] (.s ⟨#[]⟩)) (q2 : CallsV Try.prog 31 [.s a, .s b, presD p] (stzV ⟨0, ⟨#[]⟩, ⟨#[]⟩, ⟨#[]⟩, 0, 0, 0, 0⟩)) (h0 : ((0 : UInt8).toNat : Int) = 0) : CallsV Try.prog 5 [presD p, .agg [.s a, .s b, .s c], stzV s] (.b true) := by
  refine callsV_comp mix Try.func5 ac5_ok ?_
  unfold ac5
  simp only [List.length_cons, List.length_nil, List.replicate_succ, List.replicate_zero, List.cons_append, List.nil_append, Nat.reduceAdd, Nat.reduceSub]
  repeat' (first | (first | refine w_blk ?_ | refine w_seq ?_ | refine w_reg (by (try simp only [List.length_cons, List.length_nil, Nat.reduceAdd]); rfl) (by (try simp only [List.replicate_succ, List.replicate_zero, List.cons_append, List.nil_append, List.append_nil]); rfl) (fun K' hK' => ?_) | refine w_condT rfl ?_ | refine w_condF rfl ?_ | (refine w_cond2 rfl (fun hb => ?_) (fun hb => ?_) <;> simp only [putF, List.set_cons_zero, List.set_cons_succ, evO, List.getD_cons_zero, List.getD_cons_succ, V.ofValue, ofC, V.cells, partV, List.drop_zero, List.drop_succ_cons, List.take_succ_cons, List.take_zero, Nat.reduceAdd, Nat.reduceMul, Nat.zero_add, Nat.add_zero, if_true, if_false, Bool.false_eq_true, List.nil_append, List.cons_append, List.append_nil, List.map_cons, List.map_nil, presD, stzV, List.set, beq_self_eq_true, Bool.and_self, Bool.and_true, Bool.true_and, Bool.false_and, Bool.not_true, Bool.not_false, bne_self_eq_false, bTF, bFT, h0]) | refine w_ret ?_ | refine w_skip ?_ | refine w_exit ?_ | refine q_seqN ?_ | refine q_seqR ?_ | refine q_seqE ?_ | refine q_blkN ?_ | refine q_blkR ?_ | refine q_blkH ?_ | refine q_blkE rfl ?_ | refine q_loopR ?_ | refine q_loopE ?_ | (refine x_end ?_; refine hK' _ _ _ ?_; clear hK' K'; first | refine q_regT ?_ | refine q_regD rfl ?_)) | ((first | refine x_mv rfl ?_ | refine x_off rfl ?_ | refine x_ldP rfl rfl rfl (Nat.le_of_ble_eq_true rfl) ?_ | refine x_faP rfl rfl ?_ | refine x_ldE rfl rfl (Nat.le_of_ble_eq_true rfl) ?_ | refine x_faE rfl rfl (Nat.le_of_ble_eq_true rfl) ?_ | refine x_add rfl rfl rfl (by omega) ?_ | refine x_sub rfl rfl rfl (by omega) ?_ | refine x_cat rfl rfl rfl (by omega) ?_ | refine x_binI rfl rfl rfl rfl ?_ | refine x_binS rfl rfl rfl rfl ?_ | refine x_pick rfl rfl ?_ | refine x_un rfl rfl rfl ?_ | refine x_bx rfl rfl rfl ?_ | refine x_al rfl rfl rfl ?_ | refine x_st rfl rfl rfl rfl rfl (Nat.le_of_ble_eq_true rfl) (Nat.le_of_ble_eq_true rfl) ?_ | refine x_eqa rfl rfl rfl rfl rfl rfl ?_ | refine x_bd rfl rfl ?_ | refine x_ex rfl rfl rfl ?_ | refine x_fd rfl rfl (Nat.le_of_ble_eq_true rfl) ?_ | refine x_lenM rfl rfl ?_ | refine x_lenS rfl rfl ?_ | refine x_lent rfl rfl ?_ | refine x_lenO rfl rfl ?_ | refine x_binb rfl rfl rfl ?_ | refine x_cvs rfl rfl ?_ | refine x_cvi0 rfl rfl (by omega) ?_ | refine x_bs rfl rfl rfl rfl ?_ | refine x_mf rfl ?_ | refine x_s2b rfl rfl rfl ?_ | refine x_eqpP rfl rfl rfl ?_ | refine x_eqpN rfl rfl rfl ?_ | refine x_ncP rfl rfl ?_ | refine x_ncE rfl rfl ?_ | refine x_ncC rfl rfl ?_); simp only [putF, List.set_cons_zero, List.set_cons_succ, evO, List.getD_cons_zero, List.getD_cons_succ, V.ofValue, ofC, V.cells, partV, List.drop_zero, List.drop_succ_cons, List.take_succ_cons, List.take_zero, Nat.reduceAdd, Nat.reduceMul, Nat.zero_add, Nat.add_zero, if_true, if_false, Bool.false_eq_true, List.nil_append, List.cons_append, List.append_nil, List.map_cons, List.map_nil, presD, stzV, List.set, beq_self_eq_true, Bool.and_self, Bool.and_true, Bool.true_and, Bool.false_and, Bool.not_true, Bool.not_false, bne_self_eq_false, bTF, bFT, h0]) | (refine x_cl0 rfl (q1) rfl rfl ?_; simp only [putF, List.set_cons_zero, List.set_cons_succ, evO, List.getD_cons_zero, List.getD_cons_succ, V.ofValue, ofC, V.cells, partV, List.drop_zero, List.drop_succ_cons, List.take_succ_cons, List.take_zero, Nat.reduceAdd, Nat.reduceMul, Nat.zero_add, Nat.add_zero, if_true, if_false, Bool.false_eq_true, List.nil_append, List.cons_append, List.append_nil, List.map_cons, List.map_nil, presD, stzV, List.set, beq_self_eq_true, Bool.and_self, Bool.and_true, Bool.true_and, Bool.false_and, Bool.not_true, Bool.not_false, bne_self_eq_false, bTF, bFT, h0]) | (refine x_cl0 rfl (q2) rfl rfl ?_; simp only [putF, List.set_cons_zero, List.set_cons_succ, evO, List.getD_cons_zero, List.getD_cons_succ, V.ofValue, ofC, V.cells, partV, List.drop_zero, List.drop_succ_cons, List.take_succ_cons, List.take_zero, Nat.reduceAdd, Nat.reduceMul, Nat.zero_add, Nat.add_zero, if_true, if_false, Bool.false_eq_true, List.nil_append, List.cons_append, List.append_nil, List.map_cons, List.map_nil, presD, stzV, List.set, beq_self_eq_true, Bool.and_self, Bool.and_true, Bool.true_and, Bool.false_and, Bool.not_true, Bool.not_false, bne_self_eq_false, bTF, bFT, h0]) | (refine x_cl0 rfl (hl) rfl rfl ?_; simp only [putF, List.set_cons_zero, List.set_cons_succ, evO, List.getD_cons_zero, List.getD_cons_succ, V.ofValue, ofC, V.cells, partV, List.drop_zero, List.drop_succ_cons, List.take_succ_cons, List.take_zero, Nat.reduceAdd, Nat.reduceMul, Nat.zero_add, Nat.add_zero, if_true, if_false, Bool.false_eq_true, List.nil_append, List.cons_append, List.append_nil, List.map_cons, List.map_nil, presD, stzV, List.set, beq_self_eq_true, Bool.and_self, Bool.and_true, Bool.true_and, Bool.false_and, Bool.not_true, Bool.not_false, bne_self_eq_false, bTF, bFT, h0]) | (refine x_cl0 rfl (hof) rfl rfl ?_; simp only [putF, List.set_cons_zero, List.set_cons_succ, evO, List.getD_cons_zero, List.getD_cons_succ, V.ofValue, ofC, V.cells, partV, List.drop_zero, List.drop_succ_cons, List.take_succ_cons, List.take_zero, Nat.reduceAdd, Nat.reduceMul, Nat.zero_add, Nat.add_zero, if_true, if_false, Bool.false_eq_true, List.nil_append, List.cons_append, List.append_nil, List.map_cons, List.map_nil, presD, stzV, List.set, beq_self_eq_true, Bool.and_self, Bool.and_true, Bool.true_and, Bool.false_and, Bool.not_true, Bool.not_false, bne_self_eq_false, bTF, bFT, h0]) | (refine x_cl0 rfl (hsay) rfl rfl ?_; simp only [putF, List.set_cons_zero, List.set_cons_succ, evO, List.getD_cons_zero, List.getD_cons_succ, V.ofValue, ofC, V.cells, partV, List.drop_zero, List.drop_succ_cons, List.take_succ_cons, List.take_zero, Nat.reduceAdd, Nat.reduceMul, Nat.zero_add, Nat.add_zero, if_true, if_false, Bool.false_eq_true, List.nil_append, List.cons_append, List.append_nil, List.map_cons, List.map_nil, presD, stzV, List.set, beq_self_eq_true, Bool.and_self, Bool.and_true, Bool.true_and, Bool.false_and, Bool.not_true, Bool.not_false, bne_self_eq_false, bTF, bFT, h0]) | (refine x_cl0 rfl (hsp) rfl rfl ?_; simp only [putF, List.set_cons_zero, List.set_cons_succ, evO, List.getD_cons_zero, List.getD_cons_succ, V.ofValue, ofC, V.cells, partV, List.drop_zero, List.drop_succ_cons, List.take_succ_cons, List.take_zero, Nat.reduceAdd, Nat.reduceMul, Nat.zero_add, Nat.add_zero, if_true, if_false, Bool.false_eq_true, List.nil_append, List.cons_append, List.append_nil, List.map_cons, List.map_nil, presD, stzV, List.set, beq_self_eq_true, Bool.and_self, Bool.and_true, Bool.true_and, Bool.false_and, Bool.not_true, Bool.not_false, bne_self_eq_false, bTF, bFT, h0]) | (refine x_cl0 rfl (hkey2) rfl rfl ?_; simp only [putF, List.set_cons_zero, List.set_cons_succ, evO, List.getD_cons_zero, List.getD_cons_succ, V.ofValue, ofC, V.cells, partV, List.drop_zero, List.drop_succ_cons, List.take_succ_cons, List.take_zero, Nat.reduceAdd, Nat.reduceMul, Nat.zero_add, Nat.add_zero, if_true, if_false, Bool.false_eq_true, List.nil_append, List.cons_append, List.append_nil, List.map_cons, List.map_nil, presD, stzV, List.set, beq_self_eq_true, Bool.and_self, Bool.and_true, Bool.true_and, Bool.false_and, Bool.not_true, Bool.not_false, bne_self_eq_false, bTF, bFT, h0]) | (refine x_cl0 rfl (awake_v) rfl rfl ?_; simp only [putF, List.set_cons_zero, List.set_cons_succ, evO, List.getD_cons_zero, List.getD_cons_succ, V.ofValue, ofC, V.cells, partV, List.drop_zero, List.drop_succ_cons, List.take_succ_cons, List.take_zero, Nat.reduceAdd, Nat.reduceMul, Nat.zero_add, Nat.add_zero, if_true, if_false, Bool.false_eq_true, List.nil_append, List.cons_append, List.append_nil, List.map_cons, List.map_nil, presD, stzV, List.set, beq_self_eq_true, Bool.and_self, Bool.and_true, Bool.true_and, Bool.false_and, Bool.not_true, Bool.not_false, bne_self_eq_false, bTF, bFT, h0]) | (refine x_ixa (n := 0) rfl rfl rfl rfl (by decide) ?_; simp only [putF, List.set_cons_zero, List.set_cons_succ, evO, List.getD_cons_zero, List.getD_cons_succ, V.ofValue, ofC, V.cells, partV, List.drop_zero, List.drop_succ_cons, List.take_succ_cons, List.take_zero, Nat.reduceAdd, Nat.reduceMul, Nat.zero_add, Nat.add_zero, if_true, if_false, Bool.false_eq_true, List.nil_append, List.cons_append, List.append_nil, List.map_cons, List.map_nil, presD, stzV, List.set, beq_self_eq_true, Bool.and_self, Bool.and_true, Bool.true_and, Bool.false_and, Bool.not_true, Bool.not_false, bne_self_eq_false, bTF, bFT, h0]) | (refine x_ixa (n := 1) rfl rfl rfl rfl (by decide) ?_; simp only [putF, List.set_cons_zero, List.set_cons_succ, evO, List.getD_cons_zero, List.getD_cons_succ, V.ofValue, ofC, V.cells, partV, List.drop_zero, List.drop_succ_cons, List.take_succ_cons, List.take_zero, Nat.reduceAdd, Nat.reduceMul, Nat.zero_add, Nat.add_zero, if_true, if_false, Bool.false_eq_true, List.nil_append, List.cons_append, List.append_nil, List.map_cons, List.map_nil, presD, stzV, List.set, beq_self_eq_true, Bool.and_self, Bool.and_true, Bool.true_and, Bool.false_and, Bool.not_true, Bool.not_false, bne_self_eq_false, bTF, bFT, h0]) | (refine x_ixa (n := 2) rfl rfl rfl rfl (by decide) ?_; simp only [putF, List.set_cons_zero, List.set_cons_succ, evO, List.getD_cons_zero, List.getD_cons_succ, V.ofValue, ofC, V.cells, partV, List.drop_zero, List.drop_succ_cons, List.take_succ_cons, List.take_zero, Nat.reduceAdd, Nat.reduceMul, Nat.zero_add, Nat.add_zero, if_true, if_false, Bool.false_eq_true, List.nil_append, List.cons_append, List.append_nil, List.map_cons, List.map_nil, presD, stzV, List.set, beq_self_eq_true, Bool.and_self, Bool.and_true, Bool.true_and, Bool.false_and, Bool.not_true, Bool.not_false, bne_self_eq_false, bTF, bFT, h0]) | (refine x_case rfl (fun hb => ?_) (fun hb => ?_) <;> simp only [putF, List.set_cons_zero, List.set_cons_succ, evO, List.getD_cons_zero, List.getD_cons_succ, V.ofValue, ofC, V.cells, partV, List.drop_zero, List.drop_succ_cons, List.take_succ_cons, List.take_zero, Nat.reduceAdd, Nat.reduceMul, Nat.zero_add, Nat.add_zero, if_true, if_false, Bool.false_eq_true, List.nil_append, List.cons_append, List.append_nil, List.map_cons, List.map_nil, presD, stzV, List.set, beq_self_eq_true, Bool.and_self, Bool.and_true, Bool.true_and, Bool.false_and, Bool.not_true, Bool.not_false, bne_self_eq_false, bTF, bFT, h0]))
  all_goals first
    | exact f_lit (by simp) rfl rfl
    | (exfalso; clear hl hof hsay hsp hkey2; simp_all; done)
    | trace_state
end Go.Proofs.Ytljeinlapkgjeaa
