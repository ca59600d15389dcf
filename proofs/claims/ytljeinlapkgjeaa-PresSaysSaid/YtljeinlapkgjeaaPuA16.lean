/- A part of the proof: 4 texts joined. -/
import Derived.Test.YtljeinlapkgjeaaPuA14
import Derived.Test.YtljeinlapkgjeaaPuA15
import Derived.HandedShaped
import Derived.Shelf.Vars
import Derived.Lib.SmallJoins
import Derived.Deep.Slices
import Derived.ProofKit
import Derived.Test.YtljeinlapkgjeaaChecked
import Derived.OpenShut
set_option linter.all false
/- Presences in the abstract: which may be, newer, better, best, last; both texts. -/
namespace Go.Proofs.Ytljeinlapkgjeaa
open Go.RowKit
def presD (p : PresD) : V := .agg [.b p.on, .i p.sh, .i p.prio, .i p.seq]
theorem presIn_v (n a b : Int) : CallsV Try.prog 57 [.i n, .i a, .i b] (.b (decide (a ≤ n ∧ n ≤ b))) := by
  refine callsV_comp mix Try.func57 ac57_ok ?_
  unfold ac57
  simp only [List.length_cons, List.length_nil, List.replicate_succ, List.replicate_zero, List.cons_append, List.nil_append, Nat.reduceAdd, Nat.reduceSub]
  repeat' (first | (first | refine w_blk ?_ | refine w_seq ?_ | refine w_reg (by (try simp only [List.length_cons, List.length_nil, Nat.reduceAdd]); rfl) (by (try simp only [List.replicate_succ, List.replicate_zero, List.cons_append, List.nil_append, List.append_nil]); rfl) (fun K' hK' => ?_) | refine w_condT rfl ?_ | refine w_condF rfl ?_ | refine w_cond rfl (fun hb => ?_) (fun hb => ?_) | refine w_ret ?_ | refine w_skip ?_ | refine w_exit ?_ | refine q_seqN ?_ | refine q_seqR ?_ | refine q_seqE ?_ | refine q_blkN ?_ | refine q_blkR ?_ | refine q_blkH ?_ | refine q_blkE rfl ?_ | refine q_loopR ?_ | refine q_loopE ?_ | (refine x_end ?_; refine hK' _ _ _ ?_; clear hK' K'; first | refine q_regT ?_ | refine q_regD rfl ?_)) | ((first | refine x_mv rfl ?_ | refine x_off rfl ?_ | refine x_ldP rfl rfl rfl (Nat.le_of_ble_eq_true rfl) ?_ | refine x_faP rfl rfl ?_ | refine x_ldE rfl rfl (Nat.le_of_ble_eq_true rfl) ?_ | refine x_faE rfl rfl (Nat.le_of_ble_eq_true rfl) ?_ | refine x_add rfl rfl rfl (by omega) ?_ | refine x_sub rfl rfl rfl (by omega) ?_ | refine x_cat rfl rfl rfl (by omega) ?_ | refine x_binI rfl rfl rfl rfl ?_ | refine x_binS rfl rfl rfl rfl ?_ | refine x_pick rfl rfl ?_ | refine x_un rfl rfl rfl ?_ | refine x_bx rfl rfl rfl ?_ | refine x_al rfl rfl rfl ?_ | refine x_st rfl rfl rfl rfl rfl (Nat.le_of_ble_eq_true rfl) (Nat.le_of_ble_eq_true rfl) ?_ | refine x_eqa rfl rfl rfl rfl rfl rfl ?_ | refine x_bd rfl rfl ?_ | refine x_ex rfl rfl rfl ?_ | refine x_fd rfl rfl (Nat.le_of_ble_eq_true rfl) ?_ | refine x_lenM rfl rfl ?_ | refine x_lenS rfl rfl ?_ | refine x_lent rfl rfl ?_ | refine x_lenO rfl rfl ?_ | refine x_binb rfl rfl rfl ?_ | refine x_cvs rfl rfl ?_ | refine x_cvi0 rfl rfl (by omega) ?_ | refine x_bs rfl rfl rfl rfl ?_ | refine x_mf rfl ?_ | refine x_s2b rfl rfl rfl ?_ | refine x_eqpP rfl rfl rfl ?_ | refine x_eqpN rfl rfl rfl ?_ | refine x_ncP rfl rfl ?_ | refine x_ncE rfl rfl ?_ | refine x_ncC rfl rfl ?_); simp only [putF, List.set_cons_zero, List.set_cons_succ, evO, List.getD_cons_zero, List.getD_cons_succ, V.ofValue, ofC, V.cells, partV, List.drop_zero, List.drop_succ_cons, List.take_succ_cons, List.take_zero, Nat.reduceAdd, Nat.reduceMul, Nat.zero_add, Nat.add_zero, if_true, if_false, Bool.false_eq_true, List.nil_append, List.cons_append, List.append_nil, List.map_cons, List.map_nil, presD]) | (refine x_case rfl (fun hb => ?_) (fun hb => ?_) <;> simp only [putF, List.set_cons_zero, List.set_cons_succ, evO, List.getD_cons_zero, List.getD_cons_succ, V.ofValue, ofC, V.cells, partV, List.drop_zero, List.drop_succ_cons, List.take_succ_cons, List.take_zero, Nat.reduceAdd, Nat.reduceMul, Nat.zero_add, Nat.add_zero, if_true, if_false, Bool.false_eq_true, List.nil_append, List.cons_append, List.append_nil, List.map_cons, List.map_nil, presD]))
  all_goals refine f_lit (by simp) rfl ?_
  all_goals (congr 1; grind)
theorem presCheck_v (p : PresD) : CallsV Try.prog 13 [presD p] (.i (presCheckL p)) := by
  obtain ⟨b, s, q, n⟩ := p
  obtain ⟨v, hv⟩ : ∃ v, presCheckL ⟨b, s, q, n⟩ = v := ⟨_, rfl⟩
  rw [hv]
  refine callsV_comp mix Try.func13 ac13_ok ?_
  unfold ac13
  simp only [List.length_cons, List.length_nil, List.replicate_succ, List.replicate_zero, List.cons_append, List.nil_append, Nat.reduceAdd, Nat.reduceSub]
  repeat' (first | (first | refine w_blk ?_ | refine w_seq ?_ | refine w_reg (by (try simp only [List.length_cons, List.length_nil, Nat.reduceAdd]); rfl) (by (try simp only [List.replicate_succ, List.replicate_zero, List.cons_append, List.nil_append, List.append_nil]); rfl) (fun K' hK' => ?_) | refine w_condT rfl ?_ | refine w_condF rfl ?_ | refine w_cond rfl (fun hb => ?_) (fun hb => ?_) | refine w_ret ?_ | refine w_skip ?_ | refine w_exit ?_ | refine q_seqN ?_ | refine q_seqR ?_ | refine q_seqE ?_ | refine q_blkN ?_ | refine q_blkR ?_ | refine q_blkH ?_ | refine q_blkE rfl ?_ | refine q_loopR ?_ | refine q_loopE ?_ | (refine x_end ?_; refine hK' _ _ _ ?_; clear hK' K'; first | refine q_regT ?_ | refine q_regD rfl ?_)) | ((first | refine x_mv rfl ?_ | refine x_off rfl ?_ | refine x_ldP rfl rfl rfl (Nat.le_of_ble_eq_true rfl) ?_ | refine x_faP rfl rfl ?_ | refine x_ldE rfl rfl (Nat.le_of_ble_eq_true rfl) ?_ | refine x_faE rfl rfl (Nat.le_of_ble_eq_true rfl) ?_ | refine x_add rfl rfl rfl (by omega) ?_ | refine x_sub rfl rfl rfl (by omega) ?_ | refine x_cat rfl rfl rfl (by omega) ?_ | refine x_binI rfl rfl rfl rfl ?_ | refine x_binS rfl rfl rfl rfl ?_ | refine x_pick rfl rfl ?_ | refine x_un rfl rfl rfl ?_ | refine x_bx rfl rfl rfl ?_ | refine x_al rfl rfl rfl ?_ | refine x_st rfl rfl rfl rfl rfl (Nat.le_of_ble_eq_true rfl) (Nat.le_of_ble_eq_true rfl) ?_ | refine x_eqa rfl rfl rfl rfl rfl rfl ?_ | refine x_bd rfl rfl ?_ | refine x_ex rfl rfl rfl ?_ | refine x_fd rfl rfl (Nat.le_of_ble_eq_true rfl) ?_ | refine x_lenM rfl rfl ?_ | refine x_lenS rfl rfl ?_ | refine x_lent rfl rfl ?_ | refine x_lenO rfl rfl ?_ | refine x_binb rfl rfl rfl ?_ | refine x_cvs rfl rfl ?_ | refine x_cvi0 rfl rfl (by omega) ?_ | refine x_bs rfl rfl rfl rfl ?_ | refine x_mf rfl ?_ | refine x_s2b rfl rfl rfl ?_ | refine x_eqpP rfl rfl rfl ?_ | refine x_eqpN rfl rfl rfl ?_ | refine x_ncP rfl rfl ?_ | refine x_ncE rfl rfl ?_ | refine x_ncC rfl rfl ?_); simp only [putF, List.set_cons_zero, List.set_cons_succ, evO, List.getD_cons_zero, List.getD_cons_succ, V.ofValue, ofC, V.cells, partV, List.drop_zero, List.drop_succ_cons, List.take_succ_cons, List.take_zero, Nat.reduceAdd, Nat.reduceMul, Nat.zero_add, Nat.add_zero, if_true, if_false, Bool.false_eq_true, List.nil_append, List.cons_append, List.append_nil, List.map_cons, List.map_nil, presD]) | (refine x_cl0 rfl (presIn_v _ _ _) rfl rfl ?_; simp only [putF, List.set_cons_zero, List.set_cons_succ, evO, List.getD_cons_zero, List.getD_cons_succ, V.ofValue, ofC, V.cells, partV, List.drop_zero, List.drop_succ_cons, List.take_succ_cons, List.take_zero, Nat.reduceAdd, Nat.reduceMul, Nat.zero_add, Nat.add_zero, if_true, if_false, Bool.false_eq_true, List.nil_append, List.cons_append, List.append_nil, List.map_cons, List.map_nil, presD]) | (refine x_case rfl (fun hb => ?_) (fun hb => ?_) <;> simp only [putF, List.set_cons_zero, List.set_cons_succ, evO, List.getD_cons_zero, List.getD_cons_succ, V.ofValue, ofC, V.cells, partV, List.drop_zero, List.drop_succ_cons, List.take_succ_cons, List.take_zero, Nat.reduceAdd, Nat.reduceMul, Nat.zero_add, Nat.add_zero, if_true, if_false, Bool.false_eq_true, List.nil_append, List.cons_append, List.append_nil, List.map_cons, List.map_nil, presD]))
  all_goals refine f_lit (by simp) rfl ?_
  all_goals (congr 1; rw [← hv]; simp [presCheckL] at *; first | done | grind)
theorem refPresCheck_v (p : PresD) : CallsV Try.prog 14 [presD p] (.i (presCheckL p)) := by
  obtain ⟨b, s, q, n⟩ := p
  obtain ⟨v, hv⟩ : ∃ v, presCheckL ⟨b, s, q, n⟩ = v := ⟨_, rfl⟩
  rw [hv]
  refine callsV_comp mix Try.func14 ac14_ok ?_
  unfold ac14
  simp only [List.length_cons, List.length_nil, List.replicate_succ, List.replicate_zero, List.cons_append, List.nil_append, Nat.reduceAdd, Nat.reduceSub]
  repeat' (first | (first | refine w_blk ?_ | refine w_seq ?_ | refine w_reg (by (try simp only [List.length_cons, List.length_nil, Nat.reduceAdd]); rfl) (by (try simp only [List.replicate_succ, List.replicate_zero, List.cons_append, List.nil_append, List.append_nil]); rfl) (fun K' hK' => ?_) | refine w_condT rfl ?_ | refine w_condF rfl ?_ | refine w_cond rfl (fun hb => ?_) (fun hb => ?_) | refine w_ret ?_ | refine w_skip ?_ | refine w_exit ?_ | refine q_seqN ?_ | refine q_seqR ?_ | refine q_seqE ?_ | refine q_blkN ?_ | refine q_blkR ?_ | refine q_blkH ?_ | refine q_blkE rfl ?_ | refine q_loopR ?_ | refine q_loopE ?_ | (refine x_end ?_; refine hK' _ _ _ ?_; clear hK' K'; first | refine q_regT ?_ | refine q_regD rfl ?_)) | ((first | refine x_mv rfl ?_ | refine x_off rfl ?_ | refine x_ldP rfl rfl rfl (Nat.le_of_ble_eq_true rfl) ?_ | refine x_faP rfl rfl ?_ | refine x_ldE rfl rfl (Nat.le_of_ble_eq_true rfl) ?_ | refine x_faE rfl rfl (Nat.le_of_ble_eq_true rfl) ?_ | refine x_add rfl rfl rfl (by omega) ?_ | refine x_sub rfl rfl rfl (by omega) ?_ | refine x_cat rfl rfl rfl (by omega) ?_ | refine x_binI rfl rfl rfl rfl ?_ | refine x_binS rfl rfl rfl rfl ?_ | refine x_pick rfl rfl ?_ | refine x_un rfl rfl rfl ?_ | refine x_bx rfl rfl rfl ?_ | refine x_al rfl rfl rfl ?_ | refine x_st rfl rfl rfl rfl rfl (Nat.le_of_ble_eq_true rfl) (Nat.le_of_ble_eq_true rfl) ?_ | refine x_eqa rfl rfl rfl rfl rfl rfl ?_ | refine x_bd rfl rfl ?_ | refine x_ex rfl rfl rfl ?_ | refine x_fd rfl rfl (Nat.le_of_ble_eq_true rfl) ?_ | refine x_lenM rfl rfl ?_ | refine x_lenS rfl rfl ?_ | refine x_lent rfl rfl ?_ | refine x_lenO rfl rfl ?_ | refine x_binb rfl rfl rfl ?_ | refine x_cvs rfl rfl ?_ | refine x_cvi0 rfl rfl (by omega) ?_ | refine x_bs rfl rfl rfl rfl ?_ | refine x_mf rfl ?_ | refine x_s2b rfl rfl rfl ?_ | refine x_eqpP rfl rfl rfl ?_ | refine x_eqpN rfl rfl rfl ?_ | refine x_ncP rfl rfl ?_ | refine x_ncE rfl rfl ?_ | refine x_ncC rfl rfl ?_); simp only [putF, List.set_cons_zero, List.set_cons_succ, evO, List.getD_cons_zero, List.getD_cons_succ, V.ofValue, ofC, V.cells, partV, List.drop_zero, List.drop_succ_cons, List.take_succ_cons, List.take_zero, Nat.reduceAdd, Nat.reduceMul, Nat.zero_add, Nat.add_zero, if_true, if_false, Bool.false_eq_true, List.nil_append, List.cons_append, List.append_nil, List.map_cons, List.map_nil, presD]) | (refine x_case rfl (fun hb => ?_) (fun hb => ?_) <;> simp only [putF, List.set_cons_zero, List.set_cons_succ, evO, List.getD_cons_zero, List.getD_cons_succ, V.ofValue, ofC, V.cells, partV, List.drop_zero, List.drop_succ_cons, List.take_succ_cons, List.take_zero, Nat.reduceAdd, Nat.reduceMul, Nat.zero_add, Nat.add_zero, if_true, if_false, Bool.false_eq_true, List.nil_append, List.cons_append, List.append_nil, List.map_cons, List.map_nil, presD]))
  all_goals refine f_lit (by simp) rfl ?_
  all_goals (congr 1; rw [← hv]; simp [presCheckL] at *; first | done | grind)
theorem newer_v (p q : PresD) : CallsV Try.prog 15 [presD p, presD q] (.b (newerL p q)) := by
  refine callsV_comp mix Try.func15 ac15_ok ?_
  unfold ac15
  simp only [List.length_cons, List.length_nil, List.replicate_succ, List.replicate_zero, List.cons_append, List.nil_append, Nat.reduceAdd, Nat.reduceSub]
  repeat' (first | (first | refine w_blk ?_ | refine w_seq ?_ | refine w_reg (by (try simp only [List.length_cons, List.length_nil, Nat.reduceAdd]); rfl) (by (try simp only [List.replicate_succ, List.replicate_zero, List.cons_append, List.nil_append, List.append_nil]); rfl) (fun K' hK' => ?_) | refine w_condT rfl ?_ | refine w_condF rfl ?_ | refine w_cond rfl (fun hb => ?_) (fun hb => ?_) | refine w_ret ?_ | refine w_skip ?_ | refine w_exit ?_ | refine q_seqN ?_ | refine q_seqR ?_ | refine q_seqE ?_ | refine q_blkN ?_ | refine q_blkR ?_ | refine q_blkH ?_ | refine q_blkE rfl ?_ | refine q_loopR ?_ | refine q_loopE ?_ | (refine x_end ?_; refine hK' _ _ _ ?_; clear hK' K'; first | refine q_regT ?_ | refine q_regD rfl ?_)) | ((first | refine x_mv rfl ?_ | refine x_off rfl ?_ | refine x_ldP rfl rfl rfl (Nat.le_of_ble_eq_true rfl) ?_ | refine x_faP rfl rfl ?_ | refine x_ldE rfl rfl (Nat.le_of_ble_eq_true rfl) ?_ | refine x_faE rfl rfl (Nat.le_of_ble_eq_true rfl) ?_ | refine x_add rfl rfl rfl (by omega) ?_ | refine x_sub rfl rfl rfl (by omega) ?_ | refine x_cat rfl rfl rfl (by omega) ?_ | refine x_binI rfl rfl rfl rfl ?_ | refine x_binS rfl rfl rfl rfl ?_ | refine x_pick rfl rfl ?_ | refine x_un rfl rfl rfl ?_ | refine x_bx rfl rfl rfl ?_ | refine x_al rfl rfl rfl ?_ | refine x_st rfl rfl rfl rfl rfl (Nat.le_of_ble_eq_true rfl) (Nat.le_of_ble_eq_true rfl) ?_ | refine x_eqa rfl rfl rfl rfl rfl rfl ?_ | refine x_bd rfl rfl ?_ | refine x_ex rfl rfl rfl ?_ | refine x_fd rfl rfl (Nat.le_of_ble_eq_true rfl) ?_ | refine x_lenM rfl rfl ?_ | refine x_lenS rfl rfl ?_ | refine x_lent rfl rfl ?_ | refine x_lenO rfl rfl ?_ | refine x_binb rfl rfl rfl ?_ | refine x_cvs rfl rfl ?_ | refine x_cvi0 rfl rfl (by omega) ?_ | refine x_bs rfl rfl rfl rfl ?_ | refine x_mf rfl ?_ | refine x_s2b rfl rfl rfl ?_ | refine x_eqpP rfl rfl rfl ?_ | refine x_eqpN rfl rfl rfl ?_ | refine x_ncP rfl rfl ?_ | refine x_ncE rfl rfl ?_ | refine x_ncC rfl rfl ?_); simp only [putF, List.set_cons_zero, List.set_cons_succ, evO, List.getD_cons_zero, List.getD_cons_succ, V.ofValue, ofC, V.cells, partV, List.drop_zero, List.drop_succ_cons, List.take_succ_cons, List.take_zero, Nat.reduceAdd, Nat.reduceMul, Nat.zero_add, Nat.add_zero, if_true, if_false, Bool.false_eq_true, List.nil_append, List.cons_append, List.append_nil, List.map_cons, List.map_nil, presD]) | (refine x_case rfl (fun hb => ?_) (fun hb => ?_) <;> simp only [putF, List.set_cons_zero, List.set_cons_succ, evO, List.getD_cons_zero, List.getD_cons_succ, V.ofValue, ofC, V.cells, partV, List.drop_zero, List.drop_succ_cons, List.take_succ_cons, List.take_zero, Nat.reduceAdd, Nat.reduceMul, Nat.zero_add, Nat.add_zero, if_true, if_false, Bool.false_eq_true, List.nil_append, List.cons_append, List.append_nil, List.map_cons, List.map_nil, presD]))
  all_goals refine f_lit (by simp) rfl ?_
  all_goals rfl
theorem refNewer_v (p q : PresD) : CallsV Try.prog 16 [presD p, presD q] (.b (newerL p q)) := by
  refine callsV_comp mix Try.func16 ac16_ok ?_
  unfold ac16
  simp only [List.length_cons, List.length_nil, List.replicate_succ, List.replicate_zero, List.cons_append, List.nil_append, Nat.reduceAdd, Nat.reduceSub]
  repeat' (first | (first | refine w_blk ?_ | refine w_seq ?_ | refine w_reg (by (try simp only [List.length_cons, List.length_nil, Nat.reduceAdd]); rfl) (by (try simp only [List.replicate_succ, List.replicate_zero, List.cons_append, List.nil_append, List.append_nil]); rfl) (fun K' hK' => ?_) | refine w_condT rfl ?_ | refine w_condF rfl ?_ | refine w_cond rfl (fun hb => ?_) (fun hb => ?_) | refine w_ret ?_ | refine w_skip ?_ | refine w_exit ?_ | refine q_seqN ?_ | refine q_seqR ?_ | refine q_seqE ?_ | refine q_blkN ?_ | refine q_blkR ?_ | refine q_blkH ?_ | refine q_blkE rfl ?_ | refine q_loopR ?_ | refine q_loopE ?_ | (refine x_end ?_; refine hK' _ _ _ ?_; clear hK' K'; first | refine q_regT ?_ | refine q_regD rfl ?_)) | ((first | refine x_mv rfl ?_ | refine x_off rfl ?_ | refine x_ldP rfl rfl rfl (Nat.le_of_ble_eq_true rfl) ?_ | refine x_faP rfl rfl ?_ | refine x_ldE rfl rfl (Nat.le_of_ble_eq_true rfl) ?_ | refine x_faE rfl rfl (Nat.le_of_ble_eq_true rfl) ?_ | refine x_add rfl rfl rfl (by omega) ?_ | refine x_sub rfl rfl rfl (by omega) ?_ | refine x_cat rfl rfl rfl (by omega) ?_ | refine x_binI rfl rfl rfl rfl ?_ | refine x_binS rfl rfl rfl rfl ?_ | refine x_pick rfl rfl ?_ | refine x_un rfl rfl rfl ?_ | refine x_bx rfl rfl rfl ?_ | refine x_al rfl rfl rfl ?_ | refine x_st rfl rfl rfl rfl rfl (Nat.le_of_ble_eq_true rfl) (Nat.le_of_ble_eq_true rfl) ?_ | refine x_eqa rfl rfl rfl rfl rfl rfl ?_ | refine x_bd rfl rfl ?_ | refine x_ex rfl rfl rfl ?_ | refine x_fd rfl rfl (Nat.le_of_ble_eq_true rfl) ?_ | refine x_lenM rfl rfl ?_ | refine x_lenS rfl rfl ?_ | refine x_lent rfl rfl ?_ | refine x_lenO rfl rfl ?_ | refine x_binb rfl rfl rfl ?_ | refine x_cvs rfl rfl ?_ | refine x_cvi0 rfl rfl (by omega) ?_ | refine x_bs rfl rfl rfl rfl ?_ | refine x_mf rfl ?_ | refine x_s2b rfl rfl rfl ?_ | refine x_eqpP rfl rfl rfl ?_ | refine x_eqpN rfl rfl rfl ?_ | refine x_ncP rfl rfl ?_ | refine x_ncE rfl rfl ?_ | refine x_ncC rfl rfl ?_); simp only [putF, List.set_cons_zero, List.set_cons_succ, evO, List.getD_cons_zero, List.getD_cons_succ, V.ofValue, ofC, V.cells, partV, List.drop_zero, List.drop_succ_cons, List.take_succ_cons, List.take_zero, Nat.reduceAdd, Nat.reduceMul, Nat.zero_add, Nat.add_zero, if_true, if_false, Bool.false_eq_true, List.nil_append, List.cons_append, List.append_nil, List.map_cons, List.map_nil, presD]) | (refine x_case rfl (fun hb => ?_) (fun hb => ?_) <;> simp only [putF, List.set_cons_zero, List.set_cons_succ, evO, List.getD_cons_zero, List.getD_cons_succ, V.ofValue, ofC, V.cells, partV, List.drop_zero, List.drop_succ_cons, List.take_succ_cons, List.take_zero, Nat.reduceAdd, Nat.reduceMul, Nat.zero_add, Nat.add_zero, if_true, if_false, Bool.false_eq_true, List.nil_append, List.cons_append, List.append_nil, List.map_cons, List.map_nil, presD]))
  all_goals refine f_lit (by simp) rfl ?_
  all_goals rfl
theorem better_v (p q : PresD) : CallsV Try.prog 17 [presD p, presD q] (.b (betterL p q)) := by
  refine callsV_comp mix Try.func17 ac17_ok ?_
  unfold ac17
  simp only [List.length_cons, List.length_nil, List.replicate_succ, List.replicate_zero, List.cons_append, List.nil_append, Nat.reduceAdd, Nat.reduceSub]
  repeat' (first | (first | refine w_blk ?_ | refine w_seq ?_ | refine w_reg (by (try simp only [List.length_cons, List.length_nil, Nat.reduceAdd]); rfl) (by (try simp only [List.replicate_succ, List.replicate_zero, List.cons_append, List.nil_append, List.append_nil]); rfl) (fun K' hK' => ?_) | refine w_condT rfl ?_ | refine w_condF rfl ?_ | refine w_cond rfl (fun hb => ?_) (fun hb => ?_) | refine w_ret ?_ | refine w_skip ?_ | refine w_exit ?_ | refine q_seqN ?_ | refine q_seqR ?_ | refine q_seqE ?_ | refine q_blkN ?_ | refine q_blkR ?_ | refine q_blkH ?_ | refine q_blkE rfl ?_ | refine q_loopR ?_ | refine q_loopE ?_ | (refine x_end ?_; refine hK' _ _ _ ?_; clear hK' K'; first | refine q_regT ?_ | refine q_regD rfl ?_)) | ((first | refine x_mv rfl ?_ | refine x_off rfl ?_ | refine x_ldP rfl rfl rfl (Nat.le_of_ble_eq_true rfl) ?_ | refine x_faP rfl rfl ?_ | refine x_ldE rfl rfl (Nat.le_of_ble_eq_true rfl) ?_ | refine x_faE rfl rfl (Nat.le_of_ble_eq_true rfl) ?_ | refine x_add rfl rfl rfl (by omega) ?_ | refine x_sub rfl rfl rfl (by omega) ?_ | refine x_cat rfl rfl rfl (by omega) ?_ | refine x_binI rfl rfl rfl rfl ?_ | refine x_binS rfl rfl rfl rfl ?_ | refine x_pick rfl rfl ?_ | refine x_un rfl rfl rfl ?_ | refine x_bx rfl rfl rfl ?_ | refine x_al rfl rfl rfl ?_ | refine x_st rfl rfl rfl rfl rfl (Nat.le_of_ble_eq_true rfl) (Nat.le_of_ble_eq_true rfl) ?_ | refine x_eqa rfl rfl rfl rfl rfl rfl ?_ | refine x_bd rfl rfl ?_ | refine x_ex rfl rfl rfl ?_ | refine x_fd rfl rfl (Nat.le_of_ble_eq_true rfl) ?_ | refine x_lenM rfl rfl ?_ | refine x_lenS rfl rfl ?_ | refine x_lent rfl rfl ?_ | refine x_lenO rfl rfl ?_ | refine x_binb rfl rfl rfl ?_ | refine x_cvs rfl rfl ?_ | refine x_cvi0 rfl rfl (by omega) ?_ | refine x_bs rfl rfl rfl rfl ?_ | refine x_mf rfl ?_ | refine x_s2b rfl rfl rfl ?_ | refine x_eqpP rfl rfl rfl ?_ | refine x_eqpN rfl rfl rfl ?_ | refine x_ncP rfl rfl ?_ | refine x_ncE rfl rfl ?_ | refine x_ncC rfl rfl ?_); simp only [putF, List.set_cons_zero, List.set_cons_succ, evO, List.getD_cons_zero, List.getD_cons_succ, V.ofValue, ofC, V.cells, partV, List.drop_zero, List.drop_succ_cons, List.take_succ_cons, List.take_zero, Nat.reduceAdd, Nat.reduceMul, Nat.zero_add, Nat.add_zero, if_true, if_false, Bool.false_eq_true, List.nil_append, List.cons_append, List.append_nil, List.map_cons, List.map_nil, presD]) | (refine x_cl0 rfl (newer_v _ _) rfl rfl ?_; simp only [putF, List.set_cons_zero, List.set_cons_succ, evO, List.getD_cons_zero, List.getD_cons_succ, V.ofValue, ofC, V.cells, partV, List.drop_zero, List.drop_succ_cons, List.take_succ_cons, List.take_zero, Nat.reduceAdd, Nat.reduceMul, Nat.zero_add, Nat.add_zero, if_true, if_false, Bool.false_eq_true, List.nil_append, List.cons_append, List.append_nil, List.map_cons, List.map_nil, presD]) | (refine x_case rfl (fun hb => ?_) (fun hb => ?_) <;> simp only [putF, List.set_cons_zero, List.set_cons_succ, evO, List.getD_cons_zero, List.getD_cons_succ, V.ofValue, ofC, V.cells, partV, List.drop_zero, List.drop_succ_cons, List.take_succ_cons, List.take_zero, Nat.reduceAdd, Nat.reduceMul, Nat.zero_add, Nat.add_zero, if_true, if_false, Bool.false_eq_true, List.nil_append, List.cons_append, List.append_nil, List.map_cons, List.map_nil, presD]))
  all_goals refine f_lit (by simp) rfl ?_
  all_goals (congr 1; simp [betterL, newerL] at *; first | done | grind)
theorem refBetter_v (p q : PresD) : CallsV Try.prog 18 [presD p, presD q] (.b (betterL p q)) := by
  refine callsV_comp mix Try.func18 ac18_ok ?_
  unfold ac18
  simp only [List.length_cons, List.length_nil, List.replicate_succ, List.replicate_zero, List.cons_append, List.nil_append, Nat.reduceAdd, Nat.reduceSub]
  repeat' (first | (first | refine w_blk ?_ | refine w_seq ?_ | refine w_reg (by (try simp only [List.length_cons, List.length_nil, Nat.reduceAdd]); rfl) (by (try simp only [List.replicate_succ, List.replicate_zero, List.cons_append, List.nil_append, List.append_nil]); rfl) (fun K' hK' => ?_) | refine w_condT rfl ?_ | refine w_condF rfl ?_ | refine w_cond rfl (fun hb => ?_) (fun hb => ?_) | refine w_ret ?_ | refine w_skip ?_ | refine w_exit ?_ | refine q_seqN ?_ | refine q_seqR ?_ | refine q_seqE ?_ | refine q_blkN ?_ | refine q_blkR ?_ | refine q_blkH ?_ | refine q_blkE rfl ?_ | refine q_loopR ?_ | refine q_loopE ?_ | (refine x_end ?_; refine hK' _ _ _ ?_; clear hK' K'; first | refine q_regT ?_ | refine q_regD rfl ?_)) | ((first | refine x_mv rfl ?_ | refine x_off rfl ?_ | refine x_ldP rfl rfl rfl (Nat.le_of_ble_eq_true rfl) ?_ | refine x_faP rfl rfl ?_ | refine x_ldE rfl rfl (Nat.le_of_ble_eq_true rfl) ?_ | refine x_faE rfl rfl (Nat.le_of_ble_eq_true rfl) ?_ | refine x_add rfl rfl rfl (by omega) ?_ | refine x_sub rfl rfl rfl (by omega) ?_ | refine x_cat rfl rfl rfl (by omega) ?_ | refine x_binI rfl rfl rfl rfl ?_ | refine x_binS rfl rfl rfl rfl ?_ | refine x_pick rfl rfl ?_ | refine x_un rfl rfl rfl ?_ | refine x_bx rfl rfl rfl ?_ | refine x_al rfl rfl rfl ?_ | refine x_st rfl rfl rfl rfl rfl (Nat.le_of_ble_eq_true rfl) (Nat.le_of_ble_eq_true rfl) ?_ | refine x_eqa rfl rfl rfl rfl rfl rfl ?_ | refine x_bd rfl rfl ?_ | refine x_ex rfl rfl rfl ?_ | refine x_fd rfl rfl (Nat.le_of_ble_eq_true rfl) ?_ | refine x_lenM rfl rfl ?_ | refine x_lenS rfl rfl ?_ | refine x_lent rfl rfl ?_ | refine x_lenO rfl rfl ?_ | refine x_binb rfl rfl rfl ?_ | refine x_cvs rfl rfl ?_ | refine x_cvi0 rfl rfl (by omega) ?_ | refine x_bs rfl rfl rfl rfl ?_ | refine x_mf rfl ?_ | refine x_s2b rfl rfl rfl ?_ | refine x_eqpP rfl rfl rfl ?_ | refine x_eqpN rfl rfl rfl ?_ | refine x_ncP rfl rfl ?_ | refine x_ncE rfl rfl ?_ | refine x_ncC rfl rfl ?_); simp only [putF, List.set_cons_zero, List.set_cons_succ, evO, List.getD_cons_zero, List.getD_cons_succ, V.ofValue, ofC, V.cells, partV, List.drop_zero, List.drop_succ_cons, List.take_succ_cons, List.take_zero, Nat.reduceAdd, Nat.reduceMul, Nat.zero_add, Nat.add_zero, if_true, if_false, Bool.false_eq_true, List.nil_append, List.cons_append, List.append_nil, List.map_cons, List.map_nil, presD]) | (refine x_cl0 rfl (refNewer_v _ _) rfl rfl ?_; simp only [putF, List.set_cons_zero, List.set_cons_succ, evO, List.getD_cons_zero, List.getD_cons_succ, V.ofValue, ofC, V.cells, partV, List.drop_zero, List.drop_succ_cons, List.take_succ_cons, List.take_zero, Nat.reduceAdd, Nat.reduceMul, Nat.zero_add, Nat.add_zero, if_true, if_false, Bool.false_eq_true, List.nil_append, List.cons_append, List.append_nil, List.map_cons, List.map_nil, presD]) | (refine x_case rfl (fun hb => ?_) (fun hb => ?_) <;> simp only [putF, List.set_cons_zero, List.set_cons_succ, evO, List.getD_cons_zero, List.getD_cons_succ, V.ofValue, ofC, V.cells, partV, List.drop_zero, List.drop_succ_cons, List.take_succ_cons, List.take_zero, Nat.reduceAdd, Nat.reduceMul, Nat.zero_add, Nat.add_zero, if_true, if_false, Bool.false_eq_true, List.nil_append, List.cons_append, List.append_nil, List.map_cons, List.map_nil, presD]))
  all_goals refine f_lit (by simp) rfl ?_
  all_goals (congr 1; simp [betterL, newerL] at *; first | done | grind)
theorem best_v (l : List PresD) (full : Bool) (hn : l.length ≤ 1000) : CallsV Try.prog 19 [.sl (l.map presD) full] (.i (bestTo l l.length)) := by
  refine callsV_comp mix Try.func19 ac19_ok ?_
  unfold ac19
  simp only [List.length_cons, List.length_nil, List.replicate_succ, List.replicate_zero, List.cons_append, List.nil_append, Nat.reduceAdd, Nat.reduceSub]
  repeat' (first | (first | refine w_blk ?_ | refine w_seq ?_ | refine w_reg (by (try simp only [List.length_cons, List.length_nil, Nat.reduceAdd]); rfl) (by (try simp only [List.replicate_succ, List.replicate_zero, List.cons_append, List.nil_append, List.append_nil]); rfl) (fun K' hK' => ?_) | refine w_condT rfl ?_ | refine w_condF rfl ?_ | refine w_cond rfl (fun hb => ?_) (fun hb => ?_) | refine w_ret ?_ | refine w_skip ?_ | refine w_exit ?_ | refine q_seqN ?_ | refine q_seqR ?_ | refine q_seqE ?_ | refine q_blkN ?_ | refine q_blkR ?_ | refine q_blkH ?_ | refine q_blkE rfl ?_ | refine q_loopR ?_ | refine q_loopE ?_ | (refine x_end ?_; refine hK' _ _ _ ?_; clear hK' K'; first | refine q_regT ?_ | refine q_regD rfl ?_)) | ((first | refine x_mv rfl ?_ | refine x_off rfl ?_ | refine x_ldP rfl rfl rfl (Nat.le_of_ble_eq_true rfl) ?_ | refine x_faP rfl rfl ?_ | refine x_ldE rfl rfl (Nat.le_of_ble_eq_true rfl) ?_ | refine x_faE rfl rfl (Nat.le_of_ble_eq_true rfl) ?_ | refine x_add rfl rfl rfl (by omega) ?_ | refine x_sub rfl rfl rfl (by omega) ?_ | refine x_cat rfl rfl rfl (by omega) ?_ | refine x_binI rfl rfl rfl rfl ?_ | refine x_binS rfl rfl rfl rfl ?_ | refine x_pick rfl rfl ?_ | refine x_un rfl rfl rfl ?_ | refine x_bx rfl rfl rfl ?_ | refine x_al rfl rfl rfl ?_ | refine x_st rfl rfl rfl rfl rfl (Nat.le_of_ble_eq_true rfl) (Nat.le_of_ble_eq_true rfl) ?_ | refine x_eqa rfl rfl rfl rfl rfl rfl ?_ | refine x_bd rfl rfl ?_ | refine x_ex rfl rfl rfl ?_ | refine x_fd rfl rfl (Nat.le_of_ble_eq_true rfl) ?_ | refine x_lenM rfl rfl ?_ | refine x_lenS rfl rfl ?_ | refine x_lent rfl rfl ?_ | refine x_lenO rfl rfl ?_ | refine x_binb rfl rfl rfl ?_ | refine x_cvs rfl rfl ?_ | refine x_cvi0 rfl rfl (by omega) ?_ | refine x_bs rfl rfl rfl rfl ?_ | refine x_mf rfl ?_ | refine x_s2b rfl rfl rfl ?_ | refine x_eqpP rfl rfl rfl ?_ | refine x_eqpN rfl rfl rfl ?_ | refine x_ncP rfl rfl ?_ | refine x_ncE rfl rfl ?_ | refine x_ncC rfl rfl ?_); simp only [putF, List.set_cons_zero, List.set_cons_succ, evO, List.getD_cons_zero, List.getD_cons_succ, V.ofValue, ofC, V.cells, partV, List.drop_zero, List.drop_succ_cons, List.take_succ_cons, List.take_zero, Nat.reduceAdd, Nat.reduceMul, Nat.zero_add, Nat.add_zero, if_true, if_false, Bool.false_eq_true, List.nil_append, List.cons_append, List.append_nil, List.map_cons, List.map_nil, presD]) | (refine x_case rfl (fun hb => ?_) (fun hb => ?_) <;> simp only [putF, List.set_cons_zero, List.set_cons_succ, evO, List.getD_cons_zero, List.getD_cons_succ, V.ofValue, ofC, V.cells, partV, List.drop_zero, List.drop_succ_cons, List.take_succ_cons, List.take_zero, Nat.reduceAdd, Nat.reduceMul, Nat.zero_add, Nat.add_zero, if_true, if_false, Bool.false_eq_true, List.nil_append, List.cons_append, List.append_nil, List.map_cons, List.map_nil, presD]))
  refine w_loop [3, 8] [4, 5, 9, 10, 11, 12, 13, 14, 15, 16, 17, 18, 19, 20, 21, 22, 23, 24, 25, 26, 27, 28] (fun n vals st => ∃ k : Nat, k + n = l.length ∧ vals = [.i (bestTo l k), .i k] ∧ st = []) l.length 0 [] [.i (-1), .i 0] (by refine wk0_intro (by omega) (by simp only [setF, maskF, List.set_cons_zero, List.set_cons_succ]; repeat' (first | exact trivial | refine ⟨?_, ?_⟩ | exact .inr (.inl ⟨rfl, rfl, rfl⟩) | exact .inr (.inr ⟨rfl, rfl⟩) | exact .inl rfl)) rfl rfl (by repeat' (first | exact trivial | refine ⟨rfl, ?_⟩ | refine wkS_live0 (by assumption) ?_))) ⟨0, by omega, rfl, rfl⟩ ?_
  rintro n vals st ⟨k, hk, rfl, rfl⟩
  simp only [setF, maskF, List.set_cons_zero, List.set_cons_succ]
  have hbd := bestTo_bd l k
  repeat' (first | (first | refine w_blk ?_ | refine w_seq ?_ | refine w_reg (by (try simp only [List.length_cons, List.length_nil, Nat.reduceAdd]); rfl) (by (try simp only [List.replicate_succ, List.replicate_zero, List.cons_append, List.nil_append, List.append_nil]); rfl) (fun K' hK' => ?_) | refine w_condT rfl ?_ | refine w_condF rfl ?_ | refine w_cond rfl (fun hb => ?_) (fun hb => ?_) | refine w_ret ?_ | refine w_skip ?_ | refine w_exit ?_ | refine q_seqN ?_ | refine q_seqR ?_ | refine q_seqE ?_ | refine q_blkN ?_ | refine q_blkR ?_ | refine q_blkH ?_ | refine q_blkE rfl ?_ | refine q_loopR ?_ | refine q_loopE ?_ | (refine x_end ?_; refine hK' _ _ _ ?_; clear hK' K'; first | refine q_regT ?_ | refine q_regD rfl ?_)) | ((first | refine x_mv rfl ?_ | refine x_off rfl ?_ | refine x_ldP rfl rfl rfl (Nat.le_of_ble_eq_true rfl) ?_ | refine x_faP rfl rfl ?_ | refine x_ldE rfl rfl (Nat.le_of_ble_eq_true rfl) ?_ | refine x_faE rfl rfl (Nat.le_of_ble_eq_true rfl) ?_ | refine x_add rfl rfl rfl (by omega) ?_ | refine x_sub rfl rfl rfl (by omega) ?_ | refine x_cat rfl rfl rfl (by omega) ?_ | refine x_binI rfl rfl rfl rfl ?_ | refine x_binS rfl rfl rfl rfl ?_ | refine x_pick rfl rfl ?_ | refine x_un rfl rfl rfl ?_ | refine x_bx rfl rfl rfl ?_ | refine x_al rfl rfl rfl ?_ | refine x_st rfl rfl rfl rfl rfl (Nat.le_of_ble_eq_true rfl) (Nat.le_of_ble_eq_true rfl) ?_ | refine x_eqa rfl rfl rfl rfl rfl rfl ?_ | refine x_bd rfl rfl ?_ | refine x_ex rfl rfl rfl ?_ | refine x_fd rfl rfl (Nat.le_of_ble_eq_true rfl) ?_ | refine x_lenM rfl rfl ?_ | refine x_lenS rfl rfl ?_ | refine x_lent rfl rfl ?_ | refine x_lenO rfl rfl ?_ | refine x_binb rfl rfl rfl ?_ | refine x_cvs rfl rfl ?_ | refine x_cvi0 rfl rfl (by omega) ?_ | refine x_bs rfl rfl rfl rfl ?_ | refine x_mf rfl ?_ | refine x_s2b rfl rfl rfl ?_ | refine x_eqpP rfl rfl rfl ?_ | refine x_eqpN rfl rfl rfl ?_ | refine x_ncP rfl rfl ?_ | refine x_ncE rfl rfl ?_ | refine x_ncC rfl rfl ?_); simp only [putF, List.set_cons_zero, List.set_cons_succ, evO, List.getD_cons_zero, List.getD_cons_succ, V.ofValue, ofC, V.cells, partV, List.drop_zero, List.drop_succ_cons, List.take_succ_cons, List.take_zero, Nat.reduceAdd, Nat.reduceMul, Nat.zero_add, Nat.add_zero, if_true, if_false, Bool.false_eq_true, List.nil_append, List.cons_append, List.append_nil, List.map_cons, List.map_nil, presD]) | (refine x_case rfl (fun hb => ?_) (fun hb => ?_) <;> simp only [putF, List.set_cons_zero, List.set_cons_succ, evO, List.getD_cons_zero, List.getD_cons_succ, V.ofValue, ofC, V.cells, partV, List.drop_zero, List.drop_succ_cons, List.take_succ_cons, List.take_zero, Nat.reduceAdd, Nat.reduceMul, Nat.zero_add, Nat.add_zero, if_true, if_false, Bool.false_eq_true, List.nil_append, List.cons_append, List.append_nil, List.map_cons, List.map_nil, presD]))
  · have hlt : k < l.length := by simpa using hb
    clear hb
    have hstep : bestTo l (k + 1) = if l[k].on = true ∧ (bestTo l k < 0 ∨ betterL l[k] (l.getD (bestTo l k).toNat ⟨false, 0, 0, 0⟩) = true) then (k : Int) else bestTo l k := by
      simp [bestTo, hlt]
    obtain ⟨m, hm, hm2⟩ : ∃ m : Nat, m < l.length ∧ (bestTo l k = -1 ∨ bestTo l k = m) := by
      by_cases hz : bestTo l k = -1
      · exact ⟨0, by omega, .inl hz⟩
      · exact ⟨(bestTo l k).toNat, by omega, .inr (by omega)⟩
    generalize bestTo l k = bt at *
    rcases hm2 with rfl | rfl
    all_goals repeat' (first | (first | refine w_blk ?_ | refine w_seq ?_ | refine w_reg (by (try simp only [List.length_cons, List.length_nil, Nat.reduceAdd]); rfl) (by (try simp only [List.replicate_succ, List.replicate_zero, List.cons_append, List.nil_append, List.append_nil]); rfl) (fun K' hK' => ?_) | refine w_condT rfl ?_ | refine w_condF rfl ?_ | refine w_cond rfl (fun hb => ?_) (fun hb => ?_) | refine w_ret ?_ | refine w_skip ?_ | refine w_exit ?_ | refine q_seqN ?_ | refine q_seqR ?_ | refine q_seqE ?_ | refine q_blkN ?_ | refine q_blkR ?_ | refine q_blkH ?_ | refine q_blkE rfl ?_ | refine q_loopR ?_ | refine q_loopE ?_ | (refine x_end ?_; refine hK' _ _ _ ?_; clear hK' K'; first | refine q_regT ?_ | refine q_regD rfl ?_)) | ((first | refine x_mv rfl ?_ | refine x_off rfl ?_ | refine x_ldP rfl rfl rfl (Nat.le_of_ble_eq_true rfl) ?_ | refine x_faP rfl rfl ?_ | refine x_ldE rfl rfl (Nat.le_of_ble_eq_true rfl) ?_ | refine x_faE rfl rfl (Nat.le_of_ble_eq_true rfl) ?_ | refine x_add rfl rfl rfl (by omega) ?_ | refine x_sub rfl rfl rfl (by omega) ?_ | refine x_cat rfl rfl rfl (by omega) ?_ | refine x_binI rfl rfl rfl rfl ?_ | refine x_binS rfl rfl rfl rfl ?_ | refine x_pick rfl rfl ?_ | refine x_un rfl rfl rfl ?_ | refine x_bx rfl rfl rfl ?_ | refine x_al rfl rfl rfl ?_ | refine x_st rfl rfl rfl rfl rfl (Nat.le_of_ble_eq_true rfl) (Nat.le_of_ble_eq_true rfl) ?_ | refine x_eqa rfl rfl rfl rfl rfl rfl ?_ | refine x_bd rfl rfl ?_ | refine x_ex rfl rfl rfl ?_ | refine x_fd rfl rfl (Nat.le_of_ble_eq_true rfl) ?_ | refine x_lenM rfl rfl ?_ | refine x_lenS rfl rfl ?_ | refine x_lent rfl rfl ?_ | refine x_lenO rfl rfl ?_ | refine x_binb rfl rfl rfl ?_ | refine x_cvs rfl rfl ?_ | refine x_cvi0 rfl rfl (by omega) ?_ | refine x_bs rfl rfl rfl rfl ?_ | refine x_mf rfl ?_ | refine x_s2b rfl rfl rfl ?_ | refine x_eqpP rfl rfl rfl ?_ | refine x_eqpN rfl rfl rfl ?_ | refine x_ncP rfl rfl ?_ | refine x_ncE rfl rfl ?_ | refine x_ncC rfl rfl ?_); simp only [putF, List.set_cons_zero, List.set_cons_succ, evO, List.getD_cons_zero, List.getD_cons_succ, V.ofValue, ofC, V.cells, partV, List.drop_zero, List.drop_succ_cons, List.take_succ_cons, List.take_zero, Nat.reduceAdd, Nat.reduceMul, Nat.zero_add, Nat.add_zero, if_true, if_false, Bool.false_eq_true, List.nil_append, List.cons_append, List.append_nil, List.map_cons, List.map_nil, presD]) | (refine x_cl0 rfl (better_v _ _) rfl rfl ?_; simp only [putF, List.set_cons_zero, List.set_cons_succ, evO, List.getD_cons_zero, List.getD_cons_succ, V.ofValue, ofC, V.cells, partV, List.drop_zero, List.drop_succ_cons, List.take_succ_cons, List.take_zero, Nat.reduceAdd, Nat.reduceMul, Nat.zero_add, Nat.add_zero, if_true, if_false, Bool.false_eq_true, List.nil_append, List.cons_append, List.append_nil, List.map_cons, List.map_nil, presD]) | (refine x_ixM rfl rfl rfl rfl (by assumption) (fun _ => rfl) ?_; simp only [putF, List.set_cons_zero, List.set_cons_succ, evO, List.getD_cons_zero, List.getD_cons_succ, V.ofValue, ofC, V.cells, partV, List.drop_zero, List.drop_succ_cons, List.take_succ_cons, List.take_zero, Nat.reduceAdd, Nat.reduceMul, Nat.zero_add, Nat.add_zero, if_true, if_false, Bool.false_eq_true, List.nil_append, List.cons_append, List.append_nil, List.map_cons, List.map_nil, presD]) | (refine x_case rfl (fun hb => ?_) (fun hb => ?_) <;> simp only [putF, List.set_cons_zero, List.set_cons_succ, evO, List.getD_cons_zero, List.getD_cons_succ, V.ofValue, ofC, V.cells, partV, List.drop_zero, List.drop_succ_cons, List.take_succ_cons, List.take_zero, Nat.reduceAdd, Nat.reduceMul, Nat.zero_add, Nat.add_zero, if_true, if_false, Bool.false_eq_true, List.nil_append, List.cons_append, List.append_nil, List.map_cons, List.map_nil, presD]))
    all_goals refine q_loop (n - 1) 0 [] [_, _] (by omega) (by refine wk0_intro (by omega) (by simp only [setF, maskF, List.set_cons_zero, List.set_cons_succ]; repeat' (first | exact trivial | refine ⟨?_, ?_⟩ | exact .inr (.inl ⟨rfl, rfl, rfl⟩) | exact .inr (.inr ⟨rfl, rfl⟩) | exact .inl rfl)) rfl rfl (by repeat' (first | exact trivial | refine ⟨rfl, ?_⟩ | refine wkS_live0 (by assumption) ?_))) ⟨k + 1, by omega, ?_, rfl⟩
    all_goals (rw [hstep]; simp at *; grind)
  · refine f_lit (by simp) rfl ?_
    have : k = l.length := by simp at hb; omega
    rw [this]
end Go.Proofs.Ytljeinlapkgjeaa
/- From the abstract contract to the statement: what is read, what it stands for, how it lasts. -/
namespace Go.Proofs.Ytljeinlapkgjeaa
open Go.ChangeShapes Go.WideShapes Go.ChangeAt Go.RowKit
theorem own0 : ownKnob Try.prog.godebug = none := by kernel_rfl
theorem laid0 : laidOutB Try.prog = true := by kernel_rfl
theorem maxLen_cell (W : World) (h : W.ShapedOpen Try.prog) : ∃ n, W.cell? ⟨0, 0, none⟩ = some (.int .i64 n) :=
  cell_of_shapedOpen_int (zero := #[.int .i64 0]) (t := 3) h (of_decide_eq_true (by kernel_rfl)) (by kernel_rfl) (by kernel_rfl) (by kernel_rfl) (by kernel_rfl) (by kernel_rfl)
theorem trodAll_below {H : Type} {enc : TypeId × Value → H} {P : Program} (hl : laidOutB P = true) {W W' : World} (hb : Below W.heap.size W W') :
    ∀ {ts : List TypeId} {vs : List Value} {ds : List (DataW H)} {ps : List MemPlace}, (∀ t ∈ ts, P.readableRec t = true ∧ t < P.types.size) → DataW.TrodAll enc P W 0 (fun _ => true) true ts vs ds ps →
      DataW.TrodAll enc P W' 0 (fun b => decide (b < W.heap.size)) true ts vs ds ps
  | [], [], [], _, _, h => h
  | t :: ts, v :: vs, d :: ds, ps, ht, h => by
    have hlt := h.lt
    obtain ⟨p, q, h1, h2, rfl⟩ := h
    exact ⟨p, q, Below.trod hl (ht t (by simp)).1 (ht t (by simp)).2 h1 hb (fun x hx => hlt x (by simp [hx])), trodAll_below hl hb (fun t' h' => ht t' (by simp [h'])) h2, rfl⟩
theorem rep_lits {m : Mem} {vs : List Value} (h : ∀ v ∈ vs, v.oneCell' = true) : Rep m noBk (.agg vs.toArray) (.agg (vs.map V.lit)) :=
  .agg (by simp) (by intro v hv; obtain ⟨a, ha, rfl⟩ := List.mem_map.1 hv; exact h a ha) fun j h1 h2 => by simp only [List.getElem_map, List.getElem_toArray]; exact .lit (h _ (List.getElem_mem _))
theorem flat_ok {α : Type} (f : α → V) (es : Nat) (hes : ∀ a, (f a).cells.length = es) : ∀ (l : List α) (Q : Nat → V → Prop), (∀ i (hi : i < l.length) j (hj : j < (f l[i]).cells.length), Q (i * es + j) (f l[i]).cells[j]) → ∀ k (hk : k < (cellsM f l).length), Q k (cellsM f l)[k]
  | [], _, _, k, hk => by simp [cellsM] at hk
  | a :: l, Q, h, k, hk => by
    have e : cellsM f (a :: l) = (f a).cells ++ cellsM f l := rfl
    have hea := hes a
    by_cases hlt : k < es
    · have h0 := h 0 (by simp) k (by simpa [hea] using hlt)
      simp only [e]
      rw [List.getElem_append_left (by omega)]
      simpa using h0
    · have h1 := flat_ok f es hes l (fun n v => Q (es + n) v) (fun i hi j hj => by
        have := h (i + 1) (by simp; omega) j (by simpa using hj)
        have e2 : (i + 1) * es + j = es + (i * es + j) := by rw [Nat.add_mul]; omega
        rw [e2] at this
        simpa using this) (k - es) (by rw [e, List.length_append] at hk; omega)
      have e3 : es + (k - es) = k := by omega
      rw [e3] at h1
      simp only [e]
      rw [List.getElem_append_right (by omega)]
      simpa [hea] using h1
/-- a slice that is read: what it stands for. -/
theorem rep_slice {α : Type} [Inhabited α] {f : α → V} {es : Nat} {W : World} {a : Addr} {len cap : Nat} (hes : ∀ a, (f a).cells.length = es) (h1 : ∀ a, ∀ v ∈ (f a).cells, v.one = true) (hp : 0 < es) (hc : len ≤ cap)
    (h : ∀ i, i < len → ∃ (x : α) (cs : List Value), W.cells? 0 (a.add (i * es)) es = some cs ∧ ∀ j (hj : j < (f x).cells.length) (hj' : j < cs.length), Rep (fun p => W.cell? p) noBk cs[j] (f x).cells[j]) :
    ∃ l : List α, l.length = len ∧ Rep (fun p => W.cell? p) noBk (.slice (some a) len cap) (.sl (l.map f) false) := by
  classical
  rcases Nat.eq_zero_or_pos len with rfl | hlen
  · exact ⟨[], rfl, .slnil (fun e => by cases e)⟩
  · have hx : ∀ i, ∃ x : α, i < len → ∃ cs : List Value, W.cells? 0 (a.add (i * es)) es = some cs ∧ ∀ j (hj : j < (f x).cells.length) (hj' : j < cs.length), Rep (fun p => W.cell? p) noBk cs[j] (f x).cells[j] := by
      intro i
      by_cases hi : i < len
      · obtain ⟨x, hx⟩ := h i hi; exact ⟨x, fun _ => hx⟩
      · exact ⟨default, fun g => absurd g hi⟩
    obtain ⟨g, hg⟩ := Classical.axiomOfChoice hx
    have cell : ∀ i (hi : i < len) j (hj : j < es), ∃ u, W.cell? ((a.add (i * es)).add j) = some u ∧ Rep (fun p => W.cell? p) noBk u ((f (g i)).cells[j]'(by rw [hes]; exact hj)) := by
      intro i hi j hj
      obtain ⟨cs, h2, h3⟩ := hg i hi
      obtain ⟨_, hl, hcell⟩ := World.cells?_some h2
      exact ⟨cs[j]'(by omega), by rw [hcell j hj]; simp [hl, hj], h3 j (by rw [hes]; exact hj) (by omega)⟩
    have hspot : a.spot = none := by
      obtain ⟨u, hu, _⟩ := cell 0 hlen 0 hp
      rw [Nat.zero_mul, show a.add 0 = a from rfl, show a.add 0 = a from rfl] at hu
      unfold World.cell? at hu
      cases hs : a.spot with
      | none => rfl
      | some s =>
        rw [hs] at hu
        split at hu <;> simp at hu
    obtain ⟨b, o, sp⟩ := a
    simp only at hspot
    subst hspot
    have add1 : ∀ i j, ((⟨b, o, none⟩ : Addr).add i).add j = ⟨b, o + (i + j), none⟩ := by
      intro i j
      unfold Addr.add
      by_cases hi : i = 0 <;> by_cases hj : j = 0 <;> simp [hi, hj, Nat.add_assoc]
    refine ⟨(List.range len).map g, by simp, ?_⟩
    have key : ∀ k (hk : k < (cellsM f ((List.range len).map g)).length), ∃ u, W.cell? ⟨b, o + k, none⟩ = some u ∧ Rep (fun p => W.cell? p) noBk u (cellsM f ((List.range len).map g))[k] :=
      flat_ok f es hes _ (fun k v => ∃ u, W.cell? ⟨b, o + k, none⟩ = some u ∧ Rep (fun p => W.cell? p) noBk u v) (fun i hi j hj => by
        have hi' : i < len := by simpa using hi
        simp only [List.getElem_map, List.getElem_range] at hj ⊢
        have := cell i hi' j (by rw [hes] at hj; exact hj)
        rw [add1] at this
        exact this)
    have hfl : (((List.range len).map g).map f).flatMap V.cells = cellsM f ((List.range len).map g) := cellsM_map f _
    refine .sl (us := fun k => (W.cell? ⟨b, o + k, none⟩).getD undef) (es := es) (by simp) hc (fun e => by cases e) ?_ ?_ ?_ ?_
    · intro x hx
      obtain ⟨y, _, rfl⟩ := List.mem_map.1 hx
      exact hes y
    · rw [hfl]
      intro u hu
      obtain ⟨y, _, hy⟩ := List.mem_flatMap.1 hu
      exact h1 y u hy
    · rw [hfl]
      intro k hk
      obtain ⟨u, hu, _⟩ := key k hk
      show W.cell? _ = _
      rw [hu]; rfl
    · intro k hk
      have hk' : k < (cellsM f ((List.range len).map g)).length := by rw [← hfl]; exact hk
      obtain ⟨u, hu, hr⟩ := key k hk'
      simp only [hu, Option.getD_some]
      have : ((((List.range len).map g).map f).flatMap V.cells)[k] = (cellsM f ((List.range len).map g))[k] := by simp only [hfl]
      rw [this]; exact hr
end Go.Proofs.Ytljeinlapkgjeaa
/- Presences that are read: what they stand for. -/
namespace Go.Proofs.Ytljeinlapkgjeaa
open Go.ChangeShapes Go.WideShapes Go.ChangeAt Go.RowKit Go.Joins Go.Deep
theorem cellsRefPres : Try.prog.cellsOf 23 = 4 := by kernel_rfl
theorem cellsBool : Try.prog.cellsOf 4 = 1 := by kernel_rfl
theorem cellsInt : Try.prog.cellsOf 3 = 1 := by kernel_rfl
set_option maxRecDepth 100000 in
theorem readPres {H : Type} {enc : TypeId × Value → H} {W : World} {base b0 : Nat} {spare : Nat → Bool} {held : Bool} {r : Reach} {v : Value} {d : DataW H} {p : List MemPlace} (m : Mem)
    (hv : Value.okWide Try.prog W r b0 23 v) (h : DataW.Trod enc Try.prog W base spare held 23 v d p) : ∃ x : PresD, Rep m noBk v (presD x) := by
  obtain ⟨c0, c1, c2, c3, y0, y1, y2, y3, n, rfl, _, _, h0, h1, h2, h3⟩ := open_agg4 Try.underlying23 (by kernel_rfl) cellsRefPres hv h
  obtain ⟨b, e0, _⟩ := DataW.trod_bool Try.underlying4 h0
  obtain ⟨n1, e1, _⟩ := DataW.trod_int Try.underlying3 h1
  obtain ⟨n2, e2, _⟩ := DataW.trod_int Try.underlying3 h2
  obtain ⟨n3, e3, _⟩ := DataW.trod_int Try.underlying3 h3
  simp at e0 e1 e2 e3
  subst e0 e1 e2 e3
  exact ⟨⟨b, n1, n2, n3⟩, rep_lits (vs := [.bool b, .int .i64 n1, .int .i64 n2, .int .i64 n3]) (by intro v hv; simp at hv; rcases hv with rfl | rfl | rfl | rfl <;> rfl)⟩
instance : Inhabited PresD := ⟨⟨false, 0, 0, 0⟩⟩
set_option maxRecDepth 100000 in
theorem readPresS {H : Type} {enc : TypeId × Value → H} {W : World} {b0 : Nat} {r : Reach} {v : Value} {d : DataW H} {p : List MemPlace}
    (hv : Value.okWide Try.prog W r b0 24 v) (h : DataW.Trod enc Try.prog W 0 (fun _ => true) true 24 v d p) : ∃ l : List PresD, Rep (fun a => W.cell? a) noBk v (.sl (l.map presD) false) := by
  obtain ⟨a0, len, cap, rfl⟩ := okWide_slice Try.underlying24 hv
  obtain ⟨fuel, hf⟩ := h
  rcases open_slice Try.underlying24 hf with ⟨hcs, _⟩ | ⟨a, len', cap', m, n, D, Pl, hcs, _, hl, _, hm, _, hel⟩
  · simp [Value.cells] at hcs
    obtain ⟨rfl, rfl, rfl⟩ := hcs
    exact ⟨[], .slnil (fun e => by cases e)⟩
  · simp [Value.cells] at hcs
    obtain ⟨rfl, rfl, rfl⟩ := hcs
    simp at hm
    subst hm
    obtain ⟨l, _, hr⟩ := rep_slice (f := presD) (es := 4) (W := W) (a := a) (fun _ => rfl) (fun a v hv => by simp [presD, V.cells] at hv; rcases hv with rfl | rfl | rfl | rfl <;> rfl) (by omega) hl (fun i hi => by
      obtain ⟨cs, hc, ht⟩ := hel i (by omega)
      rw [cellsRefPres] at hc
      obtain ⟨y0, y1, y2, y3, n', _, hlen, h0, h1, h2, h3⟩ := trod_struct4 Try.underlying23 ht
      rw [cellsRefPres] at hlen
      match cs, hlen with
      | [c0, c1, c2, c3], _ =>
        rw [cellsBool] at h0
        rw [cellsInt] at h1 h2 h3
        obtain ⟨b, e0, _⟩ := DataW.trod_bool Try.underlying4 h0
        obtain ⟨n1, e1, _⟩ := DataW.trod_int Try.underlying3 h1
        obtain ⟨n2, e2, _⟩ := DataW.trod_int Try.underlying3 h2
        obtain ⟨n3, e3, _⟩ := DataW.trod_int Try.underlying3 h3
        simp at e0 e1 e2 e3
        subst e0 e1 e2 e3
        refine ⟨⟨b, n1, n2, n3⟩, _, hc, fun j hj hj' => ?_⟩
        match j, hj with
        | 0, _ => exact .lit rfl
        | 1, _ => exact .lit rfl
        | 2, _ => exact .lit rfl
        | 3, _ => exact .lit rfl
        | j + 4, hj => simp [presD, V.cells] at hj; omega)
    exact ⟨l, hr⟩
theorem rep_one {P : Program} {f : FuncId} {vs : List V} {W : World} {args : Array Value} (hc : CallsV P f vs (.b true)) (hg : ∃ n, W.cell? ⟨0, 0, none⟩ = some (.int .i64 n)) (ha : RepA (fun a => W.cell? a) noBk args vs) :
    Calls P f args W fun e W' => e = .returned (.bool true) ∧ Below W.heap.size W W' := by
  refine (hc (fun a => W.cell? a) W args hg (fun _ _ h => h) ha).mono ?_
  rintro e W' ⟨c, m', rfl, hb, _, _, _, hr⟩
  exact ⟨by rw [hr.int], hb⟩
theorem repA3 {m : Mem} {a b c : Value} {x y z : V} (h1 : Rep m noBk a x) (h2 : Rep m noBk b y) (h3 : Rep m noBk c z) : RepA m noBk #[a, b, c] [x, y, z] :=
  ⟨rfl, fun j g1 g2 => match j, g1 with
    | 0, _ => h1
    | 1, _ => h2
    | 2, _ => h3
    | j + 3, g => absurd g (by simp)⟩
end Go.Proofs.Ytljeinlapkgjeaa
/- Stanzas and names that are read: what they stand for. -/
namespace Go.Proofs.Ytljeinlapkgjeaa
open Go.ChangeShapes Go.WideShapes Go.ChangeAt Go.RowKit Go.Joins Go.Deep
theorem cellsStr : Try.prog.cellsOf 9 = 1 := by kernel_rfl
theorem cellsU8 : Try.prog.cellsOf 5 = 1 := by kernel_rfl
theorem cellsN3 : Try.prog.cellsOf 40 = 3 := by kernel_rfl
theorem cellsStz : Try.prog.cellsOf 42 = 8 := by kernel_rfl
theorem u8_of {n : Int} (h : (Lit.int .u8 n).wf = true) : ∃ k : UInt8, n = (k.toNat : Int) := by
  have hb : 0 ≤ n ∧ n ≤ 255 := bounds_u8 h
  refine ⟨UInt8.ofNat n.toNat, ?_⟩
  have : (UInt8.ofNat n.toNat).toNat = n.toNat := by simp; omega
  rw [this]; omega
theorem okWide_arr {P : Program} {w : World} {r : Reach} {base n : Nat} {t e : TypeId} {v : Value} (ht : P.underlying t = some (.array n e)) (h : Value.okWide P w r base t v) : ∃ cs, v = .agg cs ∧ cs.size = P.cellsOf t := by
  simp only [Value.okWide, ht] at h
  obtain ⟨cs, h1, h2, _⟩ := h
  exact ⟨cs, h1, h2⟩
set_option maxRecDepth 100000 in
theorem readN3 {H : Type} {enc : TypeId × Value → H} {W : World} {base b0 : Nat} {spare : Nat → Bool} {held : Bool} {r : Reach} {v : Value} {d : DataW H} {p : List MemPlace} (m : Mem)
    (hv : Value.okWide Try.prog W r b0 40 v) (h : DataW.Trod enc Try.prog W base spare held 40 v d p) : ∃ a b c : ByteArray, Rep m noBk v (.agg [.s a, .s b, .s c]) := by
  obtain ⟨cs, rfl, hsz⟩ := okWide_arr Try.underlying40 hv
  rw [cellsN3] at hsz
  obtain ⟨fuel, hf⟩ := h
  obtain ⟨xs, n, _, _, hl, hx, hall⟩ := DataW.trod_array Try.underlying40 hf
  rw [cellsStr] at hall
  obtain ⟨l, rfl⟩ : ∃ l : List Value, cs = l.toArray := ⟨cs.toList, by simp⟩
  match xs, hx with
  | [y0, y1, y2], _ =>
    match l, hsz with
    | [c0, c1, c2], _ =>
      obtain ⟨a, e0, _⟩ := DataW.trod_string Try.underlying9 (hall 0 (by omega))
      obtain ⟨b, e1, _⟩ := DataW.trod_string Try.underlying9 (hall 1 (by omega))
      obtain ⟨c, e2, _⟩ := DataW.trod_string Try.underlying9 (hall 2 (by omega))
      simp [Value.cells] at e0 e1 e2
      subst e0 e1 e2
      exact ⟨a, b, c, rep_lits (vs := [.string a, .string b, .string c]) (by intro v hv; simp at hv; rcases hv with rfl | rfl | rfl <;> rfl)⟩
set_option maxRecDepth 100000 in
theorem readStz {H : Type} {enc : TypeId × Value → H} {W : World} {base b0 : Nat} {spare : Nat → Bool} {held : Bool} {r : Reach} {v : Value} {d : DataW H} {p : List MemPlace} (m : Mem)
    (hv : Value.okWide Try.prog W r b0 42 v) (h : DataW.Trod enc Try.prog W base spare held 42 v d p) : ∃ s : StzD, Rep m noBk v (stzV s) := by
  obtain ⟨cs, rfl, hsz⟩ := okWide_struct Try.underlying42 hv
  rw [cellsStz] at hsz
  obtain ⟨fuel, hf⟩ := h
  obtain ⟨xs, n, _, _, hl, hx, hall⟩ := DataW.trod_struct Try.underlying42 hf
  obtain ⟨l, rfl⟩ : ∃ l : List Value, cs = l.toArray := ⟨cs.toList, by simp⟩
  match xs, hx with
  | [y0, y1, y2, y3, y4, y5, y6, y7], _ =>
    match l, hsz with
    | [c0, c1, c2, c3, c4, c5, c6, c7], _ =>
      have g0 : DataW.trod enc Try.prog W base spare held n 5 (([c0, c1, c2, c3, c4, c5, c6, c7].drop 0).take (Try.prog.cellsOf 5)) = some y0 := hall 0 _ rfl
      have g1 : DataW.trod enc Try.prog W base spare held n 9 (([c0, c1, c2, c3, c4, c5, c6, c7].drop 1).take (Try.prog.cellsOf 9)) = some y1 := hall 1 _ rfl
      have g2 : DataW.trod enc Try.prog W base spare held n 9 (([c0, c1, c2, c3, c4, c5, c6, c7].drop 2).take (Try.prog.cellsOf 9)) = some y2 := hall 2 _ rfl
      have g3 : DataW.trod enc Try.prog W base spare held n 9 (([c0, c1, c2, c3, c4, c5, c6, c7].drop 3).take (Try.prog.cellsOf 9)) = some y3 := hall 3 _ rfl
      have g4 : DataW.trod enc Try.prog W base spare held n 3 (([c0, c1, c2, c3, c4, c5, c6, c7].drop 4).take (Try.prog.cellsOf 3)) = some y4 := hall 4 _ rfl
      have g5 : DataW.trod enc Try.prog W base spare held n 3 (([c0, c1, c2, c3, c4, c5, c6, c7].drop 5).take (Try.prog.cellsOf 3)) = some y5 := hall 5 _ rfl
      have g6 : DataW.trod enc Try.prog W base spare held n 3 (([c0, c1, c2, c3, c4, c5, c6, c7].drop 6).take (Try.prog.cellsOf 3)) = some y6 := hall 6 _ rfl
      have g7 : DataW.trod enc Try.prog W base spare held n 3 (([c0, c1, c2, c3, c4, c5, c6, c7].drop 7).take (Try.prog.cellsOf 3)) = some y7 := hall 7 _ rfl
      rw [cellsU8] at g0
      rw [cellsStr] at g1 g2 g3
      rw [cellsInt] at g4 g5 g6 g7
      obtain ⟨k0, e0, _, wf⟩ := DataW.trod_int Try.underlying5 g0
      obtain ⟨a, e1, _⟩ := DataW.trod_string Try.underlying9 g1
      obtain ⟨b, e2, _⟩ := DataW.trod_string Try.underlying9 g2
      obtain ⟨c, e3, _⟩ := DataW.trod_string Try.underlying9 g3
      obtain ⟨n4, e4, _⟩ := DataW.trod_int Try.underlying3 g4
      obtain ⟨n5, e5, _⟩ := DataW.trod_int Try.underlying3 g5
      obtain ⟨n6, e6, _⟩ := DataW.trod_int Try.underlying3 g6
      obtain ⟨n7, e7, _⟩ := DataW.trod_int Try.underlying3 g7
      obtain ⟨k, rfl⟩ := u8_of wf
      simp [Value.cells] at e0 e1 e2 e3 e4 e5 e6 e7
      subst e0 e1 e2 e3 e4 e5 e6 e7
      exact ⟨⟨k, a, b, c, n4, n5, n6, n7⟩, rep_lits (vs := [.int .u8 k.toNat, .string a, .string b, .string c, .int .i64 n4, .int .i64 n5, .int .i64 n6, .int .i64 n7]) (by intro v hv; simp at hv; rcases hv with rfl | rfl | rfl | rfl | rfl | rfl | rfl | rfl <;> rfl)⟩
end Go.Proofs.Ytljeinlapkgjeaa
