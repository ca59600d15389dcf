/- A part of the proof: 2 texts joined. -/
import Derived.Test.YtljeinlapkgjeaaPtA11
import Derived.Test.YtljeinlapkgjeaaPtB1
import Derived.Test.YtljeinlapkgjeaaPtB2
import Derived.Test.YtljeinlapkgjeaaPtB3
import Derived.Test.YtljeinlapkgjeaaPtB4
set_option linter.all false
/- PresOrder, where the best of the three is number -1. -/
namespace Go.Proofs.Ytljeinlapkgjeaa
open Go.RowKit
attribute [local irreducible] CallsS CallsV Callable
set_option maxRecDepth 100000 in
set_option maxHeartbeats 4000000 in
theorem order_d (a b c L : PresD) (c1 : CallsV Try.prog 19 [.sl ([a, b, c].map presD) false] (.i (-1))) (c2 : CallsV Try.prog 22 [.sl ([a, b, c].map presD) false] (presD L)) (n1 : newerL a L = false) (n2 : newerL b L = false) (n3 : newerL c L = false)
    (hL : L = a ∨ L = b ∨ L = c) (h1 : a.on = false) (h2 : b.on = false) (h3 : c.on = false) : CallsV Try.prog 6 [presD a, presD b, presD c] (.b true) := by
  have f1 := better_v a a
  rw [better_irr] at f1
  have f2 := better_v a b
  rw [better_off a b h1] at f2
  have g1 := newer_v a L
  rw [n1] at g1
  have g2 := newer_v b L
  rw [n2] at g2
  have g3 := newer_v c L
  rw [n3] at g3
  have t1 := better_trans a b c
  have t2 := better_asym a b
  clear n1 n2 n3
  refine callsV_comp mix Try.func6 ac6_ok ?_
  unfold ac6
  simp only [List.length_cons, List.length_nil, List.replicate_succ, List.replicate_zero, List.cons_append, List.nil_append, Nat.reduceAdd, Nat.reduceSub]
  repeat' (first | (first | refine w_blk ?_ | refine w_seq ?_ | refine w_reg (by (try simp only [List.length_cons, List.length_nil, Nat.reduceAdd]); rfl) (by (try simp only [List.replicate_succ, List.replicate_zero, List.cons_append, List.nil_append, List.append_nil]); rfl) (fun K' hK' => ?_) | refine w_condT rfl ?_ | refine w_condF rfl ?_ | (refine w_cond2 rfl (fun hb => ?_) (fun hb => ?_) <;> simp only [putF, List.set_cons_zero, List.set_cons_succ, evO, List.getD_cons_zero, List.getD_cons_succ, V.ofValue, ofC, V.cells, partV, List.drop_zero, List.drop_succ_cons, List.take_succ_cons, List.take_zero, Nat.reduceAdd, Nat.reduceMul, Nat.zero_add, Nat.add_zero, if_true, if_false, Bool.false_eq_true, List.nil_append, List.cons_append, List.append_nil, List.map_cons, List.map_nil, presD, List.set, beq_self_eq_true, Bool.and_self, Bool.and_true, Bool.true_and, Int.reduceAdd]) | refine w_ret ?_ | refine w_skip ?_ | refine w_exit ?_ | refine q_seqN ?_ | refine q_seqR ?_ | refine q_seqE ?_ | refine q_blkN ?_ | refine q_blkR ?_ | refine q_blkH ?_ | refine q_blkE rfl ?_ | refine q_loopR ?_ | refine q_loopE ?_ | (refine x_end ?_; refine hK' _ _ _ ?_; clear hK' K'; first | refine q_regT ?_ | refine q_regD rfl ?_)) | ((first | refine x_mv rfl ?_ | refine x_off rfl ?_ | refine x_ldP rfl rfl rfl (Nat.le_of_ble_eq_true rfl) ?_ | refine x_faP rfl rfl ?_ | refine x_ldE rfl rfl (Nat.le_of_ble_eq_true rfl) ?_ | refine x_faE rfl rfl (Nat.le_of_ble_eq_true rfl) ?_ | refine x_add rfl rfl rfl (by omega) ?_ | refine x_sub rfl rfl rfl (by omega) ?_ | refine x_cat rfl rfl rfl (by omega) ?_ | refine x_binI rfl rfl rfl rfl ?_ | refine x_binS rfl rfl rfl rfl ?_ | refine x_pick rfl rfl ?_ | refine x_un rfl rfl rfl ?_ | refine x_bx rfl rfl rfl ?_ | refine x_al rfl rfl rfl ?_ | refine x_st rfl rfl rfl rfl rfl (Nat.le_of_ble_eq_true rfl) (Nat.le_of_ble_eq_true rfl) ?_ | refine x_eqa rfl rfl rfl rfl rfl rfl ?_ | refine x_bd rfl rfl ?_ | refine x_ex rfl rfl rfl ?_ | refine x_fd rfl rfl (Nat.le_of_ble_eq_true rfl) ?_ | refine x_lenM rfl rfl ?_ | refine x_lenS rfl rfl ?_ | refine x_lent rfl rfl ?_ | refine x_lenO rfl rfl ?_ | refine x_binb rfl rfl rfl ?_ | refine x_cvs rfl rfl ?_ | refine x_cvi0 rfl rfl (by omega) ?_ | refine x_bs rfl rfl rfl rfl ?_ | refine x_mf rfl ?_ | refine x_s2b rfl rfl rfl ?_ | refine x_eqpP rfl rfl rfl ?_ | refine x_eqpN rfl rfl rfl ?_ | refine x_ncP rfl rfl ?_ | refine x_ncE rfl rfl ?_ | refine x_ncC rfl rfl ?_); simp only [putF, List.set_cons_zero, List.set_cons_succ, evO, List.getD_cons_zero, List.getD_cons_succ, V.ofValue, ofC, V.cells, partV, List.drop_zero, List.drop_succ_cons, List.take_succ_cons, List.take_zero, Nat.reduceAdd, Nat.reduceMul, Nat.zero_add, Nat.add_zero, if_true, if_false, Bool.false_eq_true, List.nil_append, List.cons_append, List.append_nil, List.map_cons, List.map_nil, presD, List.set, beq_self_eq_true, Bool.and_self, Bool.and_true, Bool.true_and, Int.reduceAdd]) | (refine x_cl0 rfl (f1) rfl rfl ?_; simp only [putF, List.set_cons_zero, List.set_cons_succ, evO, List.getD_cons_zero, List.getD_cons_succ, V.ofValue, ofC, V.cells, partV, List.drop_zero, List.drop_succ_cons, List.take_succ_cons, List.take_zero, Nat.reduceAdd, Nat.reduceMul, Nat.zero_add, Nat.add_zero, if_true, if_false, Bool.false_eq_true, List.nil_append, List.cons_append, List.append_nil, List.map_cons, List.map_nil, presD, List.set, beq_self_eq_true, Bool.and_self, Bool.and_true, Bool.true_and, Int.reduceAdd]) | (refine x_cl0 rfl (f2) rfl rfl ?_; simp only [putF, List.set_cons_zero, List.set_cons_succ, evO, List.getD_cons_zero, List.getD_cons_succ, V.ofValue, ofC, V.cells, partV, List.drop_zero, List.drop_succ_cons, List.take_succ_cons, List.take_zero, Nat.reduceAdd, Nat.reduceMul, Nat.zero_add, Nat.add_zero, if_true, if_false, Bool.false_eq_true, List.nil_append, List.cons_append, List.append_nil, List.map_cons, List.map_nil, presD, List.set, beq_self_eq_true, Bool.and_self, Bool.and_true, Bool.true_and, Int.reduceAdd]) | (refine x_cl0 rfl (g1) rfl rfl ?_; simp only [putF, List.set_cons_zero, List.set_cons_succ, evO, List.getD_cons_zero, List.getD_cons_succ, V.ofValue, ofC, V.cells, partV, List.drop_zero, List.drop_succ_cons, List.take_succ_cons, List.take_zero, Nat.reduceAdd, Nat.reduceMul, Nat.zero_add, Nat.add_zero, if_true, if_false, Bool.false_eq_true, List.nil_append, List.cons_append, List.append_nil, List.map_cons, List.map_nil, presD, List.set, beq_self_eq_true, Bool.and_self, Bool.and_true, Bool.true_and, Int.reduceAdd]) | (refine x_cl0 rfl (g2) rfl rfl ?_; simp only [putF, List.set_cons_zero, List.set_cons_succ, evO, List.getD_cons_zero, List.getD_cons_succ, V.ofValue, ofC, V.cells, partV, List.drop_zero, List.drop_succ_cons, List.take_succ_cons, List.take_zero, Nat.reduceAdd, Nat.reduceMul, Nat.zero_add, Nat.add_zero, if_true, if_false, Bool.false_eq_true, List.nil_append, List.cons_append, List.append_nil, List.map_cons, List.map_nil, presD, List.set, beq_self_eq_true, Bool.and_self, Bool.and_true, Bool.true_and, Int.reduceAdd]) | (refine x_cl0 rfl (g3) rfl rfl ?_; simp only [putF, List.set_cons_zero, List.set_cons_succ, evO, List.getD_cons_zero, List.getD_cons_succ, V.ofValue, ofC, V.cells, partV, List.drop_zero, List.drop_succ_cons, List.take_succ_cons, List.take_zero, Nat.reduceAdd, Nat.reduceMul, Nat.zero_add, Nat.add_zero, if_true, if_false, Bool.false_eq_true, List.nil_append, List.cons_append, List.append_nil, List.map_cons, List.map_nil, presD, List.set, beq_self_eq_true, Bool.and_self, Bool.and_true, Bool.true_and, Int.reduceAdd]) | (refine x_cl0 rfl (better_v _ _) rfl rfl ?_; simp only [putF, List.set_cons_zero, List.set_cons_succ, evO, List.getD_cons_zero, List.getD_cons_succ, V.ofValue, ofC, V.cells, partV, List.drop_zero, List.drop_succ_cons, List.take_succ_cons, List.take_zero, Nat.reduceAdd, Nat.reduceMul, Nat.zero_add, Nat.add_zero, if_true, if_false, Bool.false_eq_true, List.nil_append, List.cons_append, List.append_nil, List.map_cons, List.map_nil, presD, List.set, beq_self_eq_true, Bool.and_self, Bool.and_true, Bool.true_and, Int.reduceAdd]) | (refine x_cl0 rfl (awake_v) rfl rfl ?_; simp only [putF, List.set_cons_zero, List.set_cons_succ, evO, List.getD_cons_zero, List.getD_cons_succ, V.ofValue, ofC, V.cells, partV, List.drop_zero, List.drop_succ_cons, List.take_succ_cons, List.take_zero, Nat.reduceAdd, Nat.reduceMul, Nat.zero_add, Nat.add_zero, if_true, if_false, Bool.false_eq_true, List.nil_append, List.cons_append, List.append_nil, List.map_cons, List.map_nil, presD, List.set, beq_self_eq_true, Bool.and_self, Bool.and_true, Bool.true_and, Int.reduceAdd]) | (refine x_cl rfl c1 (.cons (.c (fzc_made (f := presD) (l := [a, b, c]) rfl rfl rfl rfl presD_cells presD_idlt)) .nil) ?_; simp only [putF, List.set_cons_zero, List.set_cons_succ, evO, List.getD_cons_zero, List.getD_cons_succ, V.ofValue, ofC, V.cells, partV, List.drop_zero, List.drop_succ_cons, List.take_succ_cons, List.take_zero, Nat.reduceAdd, Nat.reduceMul, Nat.zero_add, Nat.add_zero, if_true, if_false, Bool.false_eq_true, List.nil_append, List.cons_append, List.append_nil, List.map_cons, List.map_nil, presD, List.set, beq_self_eq_true, Bool.and_self, Bool.and_true, Bool.true_and, Int.reduceAdd]) | (refine x_cl rfl c2 (.cons (.c (fzc_made (f := presD) (l := [a, b, c]) rfl rfl rfl rfl presD_cells presD_idlt)) .nil) ?_; simp only [putF, List.set_cons_zero, List.set_cons_succ, evO, List.getD_cons_zero, List.getD_cons_succ, V.ofValue, ofC, V.cells, partV, List.drop_zero, List.drop_succ_cons, List.take_succ_cons, List.take_zero, Nat.reduceAdd, Nat.reduceMul, Nat.zero_add, Nat.add_zero, if_true, if_false, Bool.false_eq_true, List.nil_append, List.cons_append, List.append_nil, List.map_cons, List.map_nil, presD, List.set, beq_self_eq_true, Bool.and_self, Bool.and_true, Bool.true_and, Int.reduceAdd]) | (refine w_unr' 3 ?_) | (refine q_unrN ?_) | (refine q_unrR ?_) | (refine q_unrE ?_) | (refine x_ixo (n := 0) rfl rfl rfl rfl (by decide) ?_; simp only [putF, List.set_cons_zero, List.set_cons_succ, evO, List.getD_cons_zero, List.getD_cons_succ, V.ofValue, ofC, V.cells, partV, List.drop_zero, List.drop_succ_cons, List.take_succ_cons, List.take_zero, Nat.reduceAdd, Nat.reduceMul, Nat.zero_add, Nat.add_zero, if_true, if_false, Bool.false_eq_true, List.nil_append, List.cons_append, List.append_nil, List.map_cons, List.map_nil, presD, List.set, beq_self_eq_true, Bool.and_self, Bool.and_true, Bool.true_and, Int.reduceAdd]) | (refine x_ixo (n := 1) rfl rfl rfl rfl (by decide) ?_; simp only [putF, List.set_cons_zero, List.set_cons_succ, evO, List.getD_cons_zero, List.getD_cons_succ, V.ofValue, ofC, V.cells, partV, List.drop_zero, List.drop_succ_cons, List.take_succ_cons, List.take_zero, Nat.reduceAdd, Nat.reduceMul, Nat.zero_add, Nat.add_zero, if_true, if_false, Bool.false_eq_true, List.nil_append, List.cons_append, List.append_nil, List.map_cons, List.map_nil, presD, List.set, beq_self_eq_true, Bool.and_self, Bool.and_true, Bool.true_and, Int.reduceAdd]) | (refine x_ixo (n := 2) rfl rfl rfl rfl (by decide) ?_; simp only [putF, List.set_cons_zero, List.set_cons_succ, evO, List.getD_cons_zero, List.getD_cons_succ, V.ofValue, ofC, V.cells, partV, List.drop_zero, List.drop_succ_cons, List.take_succ_cons, List.take_zero, Nat.reduceAdd, Nat.reduceMul, Nat.zero_add, Nat.add_zero, if_true, if_false, Bool.false_eq_true, List.nil_append, List.cons_append, List.append_nil, List.map_cons, List.map_nil, presD, List.set, beq_self_eq_true, Bool.and_self, Bool.and_true, Bool.true_and, Int.reduceAdd]) | (refine x_case rfl (fun hb => ?_) (fun hb => ?_) <;> simp only [putF, List.set_cons_zero, List.set_cons_succ, evO, List.getD_cons_zero, List.getD_cons_succ, V.ofValue, ofC, V.cells, partV, List.drop_zero, List.drop_succ_cons, List.take_succ_cons, List.take_zero, Nat.reduceAdd, Nat.reduceMul, Nat.zero_add, Nat.add_zero, if_true, if_false, Bool.false_eq_true, List.nil_append, List.cons_append, List.append_nil, List.map_cons, List.map_nil, presD, List.set, beq_self_eq_true, Bool.and_self, Bool.and_true, Bool.true_and, Int.reduceAdd]))
  all_goals first
    | exact f_lit (by simp) rfl rfl
    | (exfalso; clear c1 c2 g1 g2 g3 f1 f2 ; rcases hL with rfl | rfl | rfl <;> simp_all; done)
    | trace_state
end Go.Proofs.Ytljeinlapkgjeaa
/- PresOrder, whole. -/
namespace Go.Proofs.Ytljeinlapkgjeaa
open Go.RowKit
theorem presOrder_v (a b c : PresD) : CallsV Try.prog 6 [presD a, presD b, presD c] (.b true) := by
  have c1 : CallsV Try.prog 19 [.sl ([a, b, c].map presD) false] (.i (bestTo [a, b, c] 3)) := best_v [a, b, c] false (by simp)
  have c2 : CallsV Try.prog 22 [.sl ([a, b, c].map presD) false] (presD (lastTo [a, b, c] 3)) := last_v [a, b, c] false (by simp)
  have L3 := last3 a b c
  have B3 := best3 a b c
  have i1 := newer_irr a
  have i2 := newer_irr b
  have i3 := newer_irr c
  generalize lastTo [a, b, c] 3 = L at c2 L3
  generalize bestTo [a, b, c] 3 = k at c1 B3
  have hL : L = a ∨ L = b ∨ L = c := by
    rcases L3 with ⟨h, _⟩ | ⟨h, _⟩ | ⟨h, _⟩
    · exact .inl h
    · exact .inr (.inl h)
    · exact .inr (.inr h)
  have n1 : newerL a L = false := by
    rcases L3 with ⟨rfl, h1, h2⟩ | ⟨rfl, h1, h2⟩ | ⟨rfl, h1, h2⟩ <;> assumption
  have n2 : newerL b L = false := by
    rcases L3 with ⟨rfl, h1, h2⟩ | ⟨rfl, h1, h2⟩ | ⟨rfl, h1, h2⟩ <;> assumption
  have n3 : newerL c L = false := by
    rcases L3 with ⟨rfl, h1, h2⟩ | ⟨rfl, h1, h2⟩ | ⟨rfl, h1, h2⟩ <;> assumption
  rcases B3 with ⟨rfl, h1, h2, h3⟩ | ⟨rfl, h1, h2, h3⟩ | ⟨rfl, h1, h2, h3⟩ | ⟨rfl, h1, h2, h3⟩
  · exact order_d a b c L c1 c2 n1 n2 n3 hL h1 h2 h3
  · exact order_a a b c L c1 c2 n1 n2 n3 hL h1 h2 h3
  · exact order_b a b c L c1 c2 n1 n2 n3 hL h1 h2 h3
  · exact order_c a b c L c1 c2 n1 n2 n3 hL h1 h2 h3
end Go.Proofs.Ytljeinlapkgjeaa
