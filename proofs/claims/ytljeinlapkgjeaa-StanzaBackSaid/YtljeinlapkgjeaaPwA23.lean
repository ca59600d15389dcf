/- StanzaUnlike: for every input the call returns true, and its arguments read as they did. -/
import Derived.Test.YtljeinlapkgjeaaPwA22
import Derived.Test.YtljeinlapkgjeaaPwA12
import Derived.Test.YtljeinlapkgjeaaRows
set_option linter.all false
/- StanzaBack: the walk. -/
namespace Go.Proofs.Ytljeinlapkgjeaa
open Go.RowKit
theorem SlT_less {s : ByteArray} {l : List UInt8} {K : V → Prop} (h : s = ba l) (hl : l ≠ []) (hk : K (.lit (.string (ba l.dropLast)))) : SlT s none (some ((s.size : Int) - 1)) K := by
  subst h
  have hs := ba_size l
  have hp : 0 < l.length := List.length_pos_iff.2 hl
  refine ⟨by decide, by simp; omega, by simp; omega, ?_⟩
  have e : (ba l).extract ((none : Option Int).getD 0).toNat ((some (((ba l).size : Int) - 1)).getD (ba l).size).toNat = ba l.dropLast := by
    show (ba l).extract 0 (((ba l).size : Int) - 1).toNat = _
    apply bl_inj
    rw [ext_list _ _ _ (by omega), ba_list, ba_list, List.drop_zero, List.dropLast_eq_take]
    congr 1
    omega
  rw [e]; exact hk
theorem ba_more (l : List UInt8) : (ba l ++ (⟨#[0]⟩ : ByteArray)).data.toList = l ++ [0] := by
  rw [ByteArray.data_append]; simp [ba]
theorem eq_self8 (s : StzD) : ((s.kind.toNat : Int) == (s.kind.toNat : Int) && (s.user.toList == s.user.toList && (s.res.toList == s.res.toList && (s.name.toList == s.name.toList && (s.show_ == s.show_ && (s.prio == s.prio && (s.code == s.code && (s.n == s.n && true)))))))) = true := by simp
theorem put_ok {s : StzD} (h : checkS s = 0) : putV s = .tup [.s (ba (encS s)), .i 0] := if_neg (by simpa using h)
theorem put_bad {s : StzD} (h : checkS s ≠ 0) : putV s = .tup [.s ⟨#[]⟩, .i (checkS s)] := if_pos h
theorem size_ok {s : StzD} (h : checkS s = 0) : sizeL s = (encS s).length := by
  unfold sizeL encS; rw [if_neg (by simpa using h), List.length_cons, Nat.add_comm]
theorem putZ : putV zS = .tup [.s ⟨#[]⟩, .i 12] := by kernel_rfl
theorem awake10_v : CallsV Try.prog 36 [] (.b true) := run0 tbl10_ok 100 8 (by kernel_rfl)
theorem read_sz {l : List UInt8} {z : StzD} (h : readL l = (z, 0)) : z.user.size ≤ 100000 ∧ z.res.size ≤ 100000 ∧ z.name.size ≤ 100000 ∨ 100000 < l.length := by
  cases l with
  | nil => simp [readL] at h
  | cons k rest =>
    by_cases hl : 100000 < (k :: rest).length
    · exact .inr hl
    · left
      by_cases h1 : knownN k.toNat = true
      · by_cases h2 : doneL (foldR k rest).1 = 0
        · by_cases h3 : checkS (foldR k rest).2 = 0
          · rw [readL_o h1 h2 h3] at h
            simp only [Prod.mk.injEq, and_true] at h
            rw [← h]
            exact fold_sz 100000 (hasN k.toNat) (⟨ba rest, 0, 0⟩, kS k) (by show (ba rest).size ≤ _; rw [ba_size]; simp at hl; omega) ⟨Nat.zero_le _, Nat.zero_le _, Nat.zero_le _⟩
          · rw [readL_c h1 h2 h3] at h
            simp only [Prod.mk.injEq] at h
            exact absurd h.2 h3
        · rw [readL_d h1 h2] at h
          simp only [Prod.mk.injEq] at h
          exact absurd h.2 h2
      · rw [readL_u (by simpa using h1)] at h
        simp at h
attribute [local irreducible] AW Fin FinS FinR seqQ blkQ regQ loopQ CallsV CallsS Callable
attribute [local irreducible] readL putV sizeL checkS lightL
/-- what bytes are read as. -/
theorem second (b : ByteArray) (hb : b.size ≤ 200) : ∃ (z : StzD) (f : Int) (u : ByteArray) (g : Int), CallsV Try.prog 38 [.s b] (.tup [stzV z, .i f]) ∧ CallsV Try.prog 37 [stzV z] (.tup [.s u, .i g]) ∧ (f = 0 ∧ g = 0 ∧ u = b ∨ f ≠ 0 ∧ z = zS ∧ u = ⟨#[]⟩ ∧ g = 12) := by
  have c6 := read_v b (by omega)
  obtain ⟨z, hz⟩ : ∃ z, (readL b.data.toList).1 = z := ⟨_, rfl⟩
  obtain ⟨f, hf⟩ : ∃ f, (readL b.data.toList).2 = f := ⟨_, rfl⟩
  rw [hz, hf] at c6
  by_cases h0 : f = 0
  · have hq : readL b.data.toList = (z, 0) := Prod.ext hz (hf.trans h0)
    obtain ⟨k1, k2⟩ := enc_read hq
    have hsz := (read_sz hq).resolve_right (by rw [bl_len]; omega)
    have k3 := put_v z hsz.1 hsz.2.1 hsz.2.2
    rw [put_ok k1, k2, ba_own] at k3
    exact ⟨z, f, _, 0, c6, k3, .inl ⟨h0, rfl, rfl⟩⟩
  · have hzz : z = zS := by rw [← hz]; exact read_zero (by rw [hf]; exact h0)
    have k3 := put_v zS (by decide) (by decide) (by decide)
    rw [putZ] at k3
    rw [hzz] at c6
    exact ⟨zS, f, _, 12, c6, k3, .inr ⟨h0, rfl, rfl, rfl⟩⟩
set_option maxRecDepth 100000 in
set_option maxHeartbeats 4000000 in
theorem back_w1 (s : StzD) (b : ByteArray) (z : StzD) (e : Int) (he : e ≠ 0) (hb : b.size ≤ 200) (c0 : CallsV Try.prog 26 [stzV s] (.b true)) (c1 : CallsV Try.prog 37 [stzV s] (.tup [.s ⟨#[]⟩, .i e])) (d1 : CallsV Try.prog 38 [.s b] (.tup [stzV z, .i 0])) (d2 : CallsV Try.prog 37 [stzV z] (.tup [.s b, .i 0])) (hbb : (b.toList == b.toList) = true) : CallsV Try.prog 7 [stzV s, .s b] (.b true) := by
  have hb2 : ¬ (200 : Int) < b.size := by omega
  refine callsV_comp mix Try.func7 ac7_ok ?_
  unfold ac7
  simp only [List.length_cons, List.length_nil, List.replicate_succ, List.replicate_zero, List.cons_append, List.nil_append, Nat.reduceAdd, Nat.reduceSub]
  repeat' (first | ((try simp only [Nat.reduceAdd, Nat.reduceMul, Nat.zero_add, Nat.add_zero, Int.toNat_natCast, Int.reduceToNat, stzV]); refine hK' _ _ _ ?_; clear hK' K'; first | refine q_regT ?_ | refine q_regD rfl ?_) | first | refine w_seq ?_ | refine q_seqN ?_ | (refine w_reg (by (try simp only [List.length_cons, List.length_nil, Nat.reduceAdd]); rfl) (by (try simp only [List.replicate_succ, List.replicate_zero, List.cons_append, List.nil_append, List.append_nil]); rfl) (fun K' hK' => wpOps_ok ?_); conv => whnf) | (refine w_condTst rfl ?_; (repeat refine Tst.not ?_); (first | refine Tst.T ?_ | refine Tst.F ?_ | refine Tst.decT (by assumption) ?_ | refine Tst.decF (by assumption) ?_ | refine Tst.eqT (by assumption) ?_ | refine Tst.eqF (by assumption) ?_ | refine Tst.neT (by assumption) ?_ | refine Tst.neF (by assumption) ?_ | refine Tst.isT (by assumption) ?_ | refine Tst.isF (by assumption) ?_ | refine Tst.dec (fun hb => ?_) (fun hb => ?_) | refine Tst.eqI (fun hb => ?_) (fun hb => ?_) | refine Tst.neI (fun hb => ?_) (fun hb => ?_) | refine Tst.not ?_ | refine Tst.any (fun hb => ?_) (fun hb => ?_)) <;> conv => whnf) | refine w_ret ?_ | refine w_skip ?_ | refine w_blk ?_ | refine w_exit ?_ | refine q_seqR ?_ | refine q_seqE ?_ | refine q_blkN ?_ | refine q_blkR ?_ | refine q_blkH ?_ | refine q_blkE rfl ?_ | refine q_loopR ?_ | refine q_loopE ?_ | (refine Ask_V0 (c0) rfl rfl ?_; conv => whnf) | (refine Ask_V0 (c1) rfl rfl ?_; conv => whnf) | (refine Ask_V0 (d1) rfl rfl ?_; conv => whnf) | (refine Ask_V0 (d2) rfl rfl ?_; conv => whnf) | (refine Ask_V0 (awake10_v) rfl rfl ?_; conv => whnf) | first | ((first | refine Tst.T ?_ | refine Tst.F ?_ | refine Tst.decT (by assumption) ?_ | refine Tst.decF (by assumption) ?_ | refine Tst.eqT (by assumption) ?_ | refine Tst.eqF (by assumption) ?_ | refine Tst.neT (by assumption) ?_ | refine Tst.neF (by assumption) ?_ | refine Tst.isT (by assumption) ?_ | refine Tst.isF (by assumption) ?_ | refine Tst.dec (fun hb => ?_) (fun hb => ?_) | refine Tst.eqI (fun hb => ?_) (fun hb => ?_) | refine Tst.neI (fun hb => ?_) (fun hb => ?_) | refine Tst.not ?_ | refine Tst.any (fun hb => ?_) (fun hb => ?_)) <;> conv => whnf) | (refine Ari.ok (by omega) ?_; conv => whnf) | (refine IxO.ok (by omega) (by omega) ?_; conv => whnf) | (refine IxS.M (by omega) (by omega) (fun _ => rfl) ?_; conv => whnf) | (refine ⟨Nat.le_of_ble_eq_true rfl, ?_⟩; conv => whnf) | (refine ⟨rfl, ?_⟩; conv => whnf) | (refine Cat.ok (by omega) ?_; conv => whnf))
  all_goals first | exact f_lit (by simp) rfl rfl | (exfalso; revert hb; simp [zS]; done) | (exfalso; omega) | trace_state
set_option maxRecDepth 100000 in
set_option maxHeartbeats 4000000 in
theorem back_w2 (s : StzD) (b : ByteArray) (f e : Int) (he : e ≠ 0) (hf : f ≠ 0) (hb : b.size ≤ 200) (c0 : CallsV Try.prog 26 [stzV s] (.b true)) (c1 : CallsV Try.prog 37 [stzV s] (.tup [.s ⟨#[]⟩, .i e])) (d1 : CallsV Try.prog 38 [.s b] (.tup [stzV zS, .i f])) (d2 : CallsV Try.prog 37 [stzV zS] (.tup [.s ⟨#[]⟩, .i 12])) : CallsV Try.prog 7 [stzV s, .s b] (.b true) := by
  have hb2 : ¬ (200 : Int) < b.size := by omega
  refine callsV_comp mix Try.func7 ac7_ok ?_
  unfold ac7
  simp only [List.length_cons, List.length_nil, List.replicate_succ, List.replicate_zero, List.cons_append, List.nil_append, Nat.reduceAdd, Nat.reduceSub]
  repeat' (first | ((try simp only [Nat.reduceAdd, Nat.reduceMul, Nat.zero_add, Nat.add_zero, Int.toNat_natCast, Int.reduceToNat, stzV]); refine hK' _ _ _ ?_; clear hK' K'; first | refine q_regT ?_ | refine q_regD rfl ?_) | first | refine w_seq ?_ | refine q_seqN ?_ | (refine w_reg (by (try simp only [List.length_cons, List.length_nil, Nat.reduceAdd]); rfl) (by (try simp only [List.replicate_succ, List.replicate_zero, List.cons_append, List.nil_append, List.append_nil]); rfl) (fun K' hK' => wpOps_ok ?_); conv => whnf) | (refine w_condTst rfl ?_; (repeat refine Tst.not ?_); (first | refine Tst.T ?_ | refine Tst.F ?_ | refine Tst.decT (by assumption) ?_ | refine Tst.decF (by assumption) ?_ | refine Tst.eqT (by assumption) ?_ | refine Tst.eqF (by assumption) ?_ | refine Tst.neT (by assumption) ?_ | refine Tst.neF (by assumption) ?_ | refine Tst.isT (by assumption) ?_ | refine Tst.isF (by assumption) ?_ | refine Tst.dec (fun hb => ?_) (fun hb => ?_) | refine Tst.eqI (fun hb => ?_) (fun hb => ?_) | refine Tst.neI (fun hb => ?_) (fun hb => ?_) | refine Tst.not ?_ | refine Tst.any (fun hb => ?_) (fun hb => ?_)) <;> conv => whnf) | refine w_ret ?_ | refine w_skip ?_ | refine w_blk ?_ | refine w_exit ?_ | refine q_seqR ?_ | refine q_seqE ?_ | refine q_blkN ?_ | refine q_blkR ?_ | refine q_blkH ?_ | refine q_blkE rfl ?_ | refine q_loopR ?_ | refine q_loopE ?_ | (refine Ask_V0 (c0) rfl rfl ?_; conv => whnf) | (refine Ask_V0 (c1) rfl rfl ?_; conv => whnf) | (refine Ask_V0 (d1) rfl rfl ?_; conv => whnf) | (refine Ask_V0 (d2) rfl rfl ?_; conv => whnf) | (refine Ask_V0 (awake10_v) rfl rfl ?_; conv => whnf) | first | ((first | refine Tst.T ?_ | refine Tst.F ?_ | refine Tst.decT (by assumption) ?_ | refine Tst.decF (by assumption) ?_ | refine Tst.eqT (by assumption) ?_ | refine Tst.eqF (by assumption) ?_ | refine Tst.neT (by assumption) ?_ | refine Tst.neF (by assumption) ?_ | refine Tst.isT (by assumption) ?_ | refine Tst.isF (by assumption) ?_ | refine Tst.dec (fun hb => ?_) (fun hb => ?_) | refine Tst.eqI (fun hb => ?_) (fun hb => ?_) | refine Tst.neI (fun hb => ?_) (fun hb => ?_) | refine Tst.not ?_ | refine Tst.any (fun hb => ?_) (fun hb => ?_)) <;> conv => whnf) | (refine Ari.ok (by omega) ?_; conv => whnf) | (refine IxO.ok (by omega) (by omega) ?_; conv => whnf) | (refine IxS.M (by omega) (by omega) (fun _ => rfl) ?_; conv => whnf) | (refine ⟨Nat.le_of_ble_eq_true rfl, ?_⟩; conv => whnf) | (refine ⟨rfl, ?_⟩; conv => whnf) | (refine Cat.ok (by omega) ?_; conv => whnf))
  all_goals first | exact f_lit (by simp) rfl rfl | (exfalso; revert hb; simp [zS]; done) | (exfalso; omega) | trace_state
set_option maxRecDepth 100000 in
set_option maxHeartbeats 4000000 in
theorem back_p1 (s : StzD) (b : ByteArray) (z q : StzD) (l : List UInt8) (n : Int) (hb : b.size ≤ 200) (c0 : CallsV Try.prog 26 [stzV s] (.b true)) (c1 : CallsV Try.prog 37 [stzV s] (.tup [.s (ba l), .i 0])) (c2 : CallsV Try.prog 38 [.s (ba l)] (.tup [stzV s, .i 0])) (c3 : CallsV Try.prog 38 [.s (ba l.dropLast)] (.tup [stzV q, .i n])) (hn : n ≠ 0) (c4 : CallsV Try.prog 38 [.s (ba l ++ ⟨#[0]⟩)] (.tup [stzV zS, .i 4])) (c5 : CallsV Try.prog 39 [stzV s] (.i (ba l).size)) (hl : l ≠ []) (hz : (ba l).size ≤ 128) (hemp : ((ba l).toList == (⟨#[]⟩ : ByteArray).toList) = false) (h8 : ((s.kind.toNat : Int) == (s.kind.toNat : Int) && (s.user.toList == s.user.toList && (s.res.toList == s.res.toList && (s.name.toList == s.name.toList && (s.show_ == s.show_ && (s.prio == s.prio && (s.code == s.code && (s.n == s.n && true)))))))) = true) (d1 : CallsV Try.prog 38 [.s b] (.tup [stzV z, .i 0])) (d2 : CallsV Try.prog 37 [stzV z] (.tup [.s b, .i 0])) (hbb : (b.toList == b.toList) = true) : CallsV Try.prog 7 [stzV s, .s b] (.b true) := by
  have hb2 : ¬ (200 : Int) < b.size := by omega
  have hz2 : ¬ (128 : Int) < (ba l).size := by omega
  have hz3 : (ba l).size + (⟨#[0]⟩ : ByteArray).size ≤ 4611686018427387904 := by show _ + 1 ≤ _; omega
  have hz4 : ((ba l).size : Int) = ((ba l).size : Int) := rfl
  refine callsV_comp mix Try.func7 ac7_ok ?_
  unfold ac7
  simp only [List.length_cons, List.length_nil, List.replicate_succ, List.replicate_zero, List.cons_append, List.nil_append, Nat.reduceAdd, Nat.reduceSub]
  repeat' (first | ((try simp only [Nat.reduceAdd, Nat.reduceMul, Nat.zero_add, Nat.add_zero, Int.toNat_natCast, Int.reduceToNat, stzV]); refine hK' _ _ _ ?_; clear hK' K'; first | refine q_regT ?_ | refine q_regD rfl ?_) | first | refine w_seq ?_ | refine q_seqN ?_ | (refine w_reg (by (try simp only [List.length_cons, List.length_nil, Nat.reduceAdd]); rfl) (by (try simp only [List.replicate_succ, List.replicate_zero, List.cons_append, List.nil_append, List.append_nil]); rfl) (fun K' hK' => wpOps_ok ?_); conv => whnf) | (refine w_condTst rfl ?_; (repeat refine Tst.not ?_); (first | refine Tst.T ?_ | refine Tst.F ?_ | refine Tst.decT (by assumption) ?_ | refine Tst.decF (by assumption) ?_ | refine Tst.eqT (by assumption) ?_ | refine Tst.eqF (by assumption) ?_ | refine Tst.neT (by assumption) ?_ | refine Tst.neF (by assumption) ?_ | refine Tst.isT (by assumption) ?_ | refine Tst.isF (by assumption) ?_ | refine Tst.dec (fun hb => ?_) (fun hb => ?_) | refine Tst.eqI (fun hb => ?_) (fun hb => ?_) | refine Tst.neI (fun hb => ?_) (fun hb => ?_) | refine Tst.not ?_ | refine Tst.any (fun hb => ?_) (fun hb => ?_)) <;> conv => whnf) | refine w_ret ?_ | refine w_skip ?_ | refine w_blk ?_ | refine w_exit ?_ | refine q_seqR ?_ | refine q_seqE ?_ | refine q_blkN ?_ | refine q_blkR ?_ | refine q_blkH ?_ | refine q_blkE rfl ?_ | refine q_loopR ?_ | refine q_loopE ?_ | (refine Ask_V0 (c0) rfl rfl ?_; conv => whnf) | (refine Ask_V0 (c1) rfl rfl ?_; conv => whnf) | (refine Ask_V0 (d1) rfl rfl ?_; conv => whnf) | (refine Ask_V0 (d2) rfl rfl ?_; conv => whnf) | (refine Ask_V0 (c2) rfl rfl ?_; conv => whnf) | (refine Ask_V0 (c3) rfl rfl ?_; conv => whnf) | (refine Ask_V0 (c4) rfl rfl ?_; conv => whnf) | (refine Ask_V0 (c5) rfl rfl ?_; conv => whnf) | (refine Ask_V0 (awake10_v) rfl rfl ?_; conv => whnf) | (refine SlT_less rfl hl ?_; conv => whnf) | (refine Cat.ok hz3 ?_; conv => whnf) | first | ((first | refine Tst.T ?_ | refine Tst.F ?_ | refine Tst.decT (by assumption) ?_ | refine Tst.decF (by assumption) ?_ | refine Tst.eqT (by assumption) ?_ | refine Tst.eqF (by assumption) ?_ | refine Tst.neT (by assumption) ?_ | refine Tst.neF (by assumption) ?_ | refine Tst.isT (by assumption) ?_ | refine Tst.isF (by assumption) ?_ | refine Tst.dec (fun hb => ?_) (fun hb => ?_) | refine Tst.eqI (fun hb => ?_) (fun hb => ?_) | refine Tst.neI (fun hb => ?_) (fun hb => ?_) | refine Tst.not ?_ | refine Tst.any (fun hb => ?_) (fun hb => ?_)) <;> conv => whnf) | (refine Ari.ok (by omega) ?_; conv => whnf) | (refine IxO.ok (by omega) (by omega) ?_; conv => whnf) | (refine IxS.M (by omega) (by omega) (fun _ => rfl) ?_; conv => whnf) | (refine ⟨Nat.le_of_ble_eq_true rfl, ?_⟩; conv => whnf) | (refine ⟨rfl, ?_⟩; conv => whnf) | (refine Cat.ok (by omega) ?_; conv => whnf))
  all_goals first | exact f_lit (by simp) rfl rfl | (exfalso; revert hb; simp [zS]; done) | (exfalso; omega) | trace_state
set_option maxRecDepth 100000 in
set_option maxHeartbeats 4000000 in
theorem back_p2 (s : StzD) (b : ByteArray) (f : Int) (q : StzD) (l : List UInt8) (n : Int) (hf : f ≠ 0) (hb : b.size ≤ 200) (c0 : CallsV Try.prog 26 [stzV s] (.b true)) (c1 : CallsV Try.prog 37 [stzV s] (.tup [.s (ba l), .i 0])) (c2 : CallsV Try.prog 38 [.s (ba l)] (.tup [stzV s, .i 0])) (c3 : CallsV Try.prog 38 [.s (ba l.dropLast)] (.tup [stzV q, .i n])) (hn : n ≠ 0) (c4 : CallsV Try.prog 38 [.s (ba l ++ ⟨#[0]⟩)] (.tup [stzV zS, .i 4])) (c5 : CallsV Try.prog 39 [stzV s] (.i (ba l).size)) (hl : l ≠ []) (hz : (ba l).size ≤ 128) (hemp : ((ba l).toList == (⟨#[]⟩ : ByteArray).toList) = false) (h8 : ((s.kind.toNat : Int) == (s.kind.toNat : Int) && (s.user.toList == s.user.toList && (s.res.toList == s.res.toList && (s.name.toList == s.name.toList && (s.show_ == s.show_ && (s.prio == s.prio && (s.code == s.code && (s.n == s.n && true)))))))) = true) (d1 : CallsV Try.prog 38 [.s b] (.tup [stzV zS, .i f])) (d2 : CallsV Try.prog 37 [stzV zS] (.tup [.s ⟨#[]⟩, .i 12])) : CallsV Try.prog 7 [stzV s, .s b] (.b true) := by
  have hb2 : ¬ (200 : Int) < b.size := by omega
  have hz2 : ¬ (128 : Int) < (ba l).size := by omega
  have hz3 : (ba l).size + (⟨#[0]⟩ : ByteArray).size ≤ 4611686018427387904 := by show _ + 1 ≤ _; omega
  have hz4 : ((ba l).size : Int) = ((ba l).size : Int) := rfl
  refine callsV_comp mix Try.func7 ac7_ok ?_
  unfold ac7
  simp only [List.length_cons, List.length_nil, List.replicate_succ, List.replicate_zero, List.cons_append, List.nil_append, Nat.reduceAdd, Nat.reduceSub]
  repeat' (first | ((try simp only [Nat.reduceAdd, Nat.reduceMul, Nat.zero_add, Nat.add_zero, Int.toNat_natCast, Int.reduceToNat, stzV]); refine hK' _ _ _ ?_; clear hK' K'; first | refine q_regT ?_ | refine q_regD rfl ?_) | first | refine w_seq ?_ | refine q_seqN ?_ | (refine w_reg (by (try simp only [List.length_cons, List.length_nil, Nat.reduceAdd]); rfl) (by (try simp only [List.replicate_succ, List.replicate_zero, List.cons_append, List.nil_append, List.append_nil]); rfl) (fun K' hK' => wpOps_ok ?_); conv => whnf) | (refine w_condTst rfl ?_; (repeat refine Tst.not ?_); (first | refine Tst.T ?_ | refine Tst.F ?_ | refine Tst.decT (by assumption) ?_ | refine Tst.decF (by assumption) ?_ | refine Tst.eqT (by assumption) ?_ | refine Tst.eqF (by assumption) ?_ | refine Tst.neT (by assumption) ?_ | refine Tst.neF (by assumption) ?_ | refine Tst.isT (by assumption) ?_ | refine Tst.isF (by assumption) ?_ | refine Tst.dec (fun hb => ?_) (fun hb => ?_) | refine Tst.eqI (fun hb => ?_) (fun hb => ?_) | refine Tst.neI (fun hb => ?_) (fun hb => ?_) | refine Tst.not ?_ | refine Tst.any (fun hb => ?_) (fun hb => ?_)) <;> conv => whnf) | refine w_ret ?_ | refine w_skip ?_ | refine w_blk ?_ | refine w_exit ?_ | refine q_seqR ?_ | refine q_seqE ?_ | refine q_blkN ?_ | refine q_blkR ?_ | refine q_blkH ?_ | refine q_blkE rfl ?_ | refine q_loopR ?_ | refine q_loopE ?_ | (refine Ask_V0 (c0) rfl rfl ?_; conv => whnf) | (refine Ask_V0 (c1) rfl rfl ?_; conv => whnf) | (refine Ask_V0 (d1) rfl rfl ?_; conv => whnf) | (refine Ask_V0 (d2) rfl rfl ?_; conv => whnf) | (refine Ask_V0 (c2) rfl rfl ?_; conv => whnf) | (refine Ask_V0 (c3) rfl rfl ?_; conv => whnf) | (refine Ask_V0 (c4) rfl rfl ?_; conv => whnf) | (refine Ask_V0 (c5) rfl rfl ?_; conv => whnf) | (refine Ask_V0 (awake10_v) rfl rfl ?_; conv => whnf) | (refine SlT_less rfl hl ?_; conv => whnf) | (refine Cat.ok hz3 ?_; conv => whnf) | first | ((first | refine Tst.T ?_ | refine Tst.F ?_ | refine Tst.decT (by assumption) ?_ | refine Tst.decF (by assumption) ?_ | refine Tst.eqT (by assumption) ?_ | refine Tst.eqF (by assumption) ?_ | refine Tst.neT (by assumption) ?_ | refine Tst.neF (by assumption) ?_ | refine Tst.isT (by assumption) ?_ | refine Tst.isF (by assumption) ?_ | refine Tst.dec (fun hb => ?_) (fun hb => ?_) | refine Tst.eqI (fun hb => ?_) (fun hb => ?_) | refine Tst.neI (fun hb => ?_) (fun hb => ?_) | refine Tst.not ?_ | refine Tst.any (fun hb => ?_) (fun hb => ?_)) <;> conv => whnf) | (refine Ari.ok (by omega) ?_; conv => whnf) | (refine IxO.ok (by omega) (by omega) ?_; conv => whnf) | (refine IxS.M (by omega) (by omega) (fun _ => rfl) ?_; conv => whnf) | (refine ⟨Nat.le_of_ble_eq_true rfl, ?_⟩; conv => whnf) | (refine ⟨rfl, ?_⟩; conv => whnf) | (refine Cat.ok (by omega) ?_; conv => whnf))
  all_goals first | exact f_lit (by simp) rfl rfl | (exfalso; revert hb; simp [zS]; done) | (exfalso; omega) | trace_state
theorem back_p (s : StzD) (b : ByteArray) (hl : lightL s = true) (hb : b.size ≤ 200) (h0 : checkS s = 0) (hu : s.user.size ≤ 100) (hr : s.res.size ≤ 100) (hn : s.name.size ≤ 100) : CallsV Try.prog 7 [stzV s, .s b] (.b true) := by
  have c0 := light_v s
  rw [hl] at c0
  have c1 := put_v s (by omega) (by omega) (by omega)
  have hen := enc_len h0
  have hne : encS s ≠ [] := fun e => by rw [e] at hen; simp at hen
  have hsz := ba_size (encS s)
  rw [put_ok h0] at c1
  have c2 := read_v (ba (encS s)) (by omega)
  rw [ba_list, read_enc h0] at c2
  have c3 := read_v (ba (encS s).dropLast) (by rw [ba_size, List.length_dropLast]; omega)
  rw [ba_list] at c3
  have hg := read_less h0
  have c4 := read_v (ba (encS s) ++ ⟨#[0]⟩) (by rw [ByteArray.size_append]; show _ + 1 ≤ _; omega)
  rw [ba_more, read_more h0 _ (by simp)] at c4
  have c5 := size_v s (by omega) (by omega) (by omega)
  rw [size_ok h0, ← hsz] at c5
  have hemp : ((ba (encS s)).toList == (⟨#[]⟩ : ByteArray).toList) = false := by rw [ByteArray.toList_eq, ba_list]; simpa using hne
  have h8 := eq_self8 s
  obtain ⟨z, f, u, g, d1, d2, hcase⟩ := second b hb
  have hbb : (b.toList == b.toList) = true := by simp
  rcases hcase with ⟨rfl, rfl, rfl⟩ | ⟨hf, rfl, rfl, rfl⟩
  · exact back_p1 s _ z _ _ _ hb c0 c1 c2 c3 hg c4 c5 hne (by omega) hemp h8 d1 d2 hbb
  · exact back_p2 s b f _ _ _ hf hb c0 c1 c2 c3 hg c4 c5 hne (by omega) hemp h8 d1 d2
set_option maxRecDepth 100000 in
set_option maxHeartbeats 4000000 in
theorem back_long10 (s : StzD) (b : ByteArray) (h : ¬ (lightL s = true ∧ b.size ≤ 200)) : CallsV Try.prog 7 [stzV s, .s b] (.b true) := by
  have c0 := light_v s
  generalize lightL s = t at *
  refine callsV_comp mix Try.func7 ac7_ok ?_
  unfold ac7
  simp only [List.length_cons, List.length_nil, List.replicate_succ, List.replicate_zero, List.cons_append, List.nil_append, Nat.reduceAdd, Nat.reduceSub]
  repeat' (first | ((try simp only [Nat.reduceAdd, Nat.reduceMul, Nat.zero_add, Nat.add_zero, Int.toNat_natCast, Int.reduceToNat, stzV]); refine hK' _ _ _ ?_; clear hK' K'; first | refine q_regT ?_ | refine q_regD rfl ?_) | first | refine w_seq ?_ | refine q_seqN ?_ | (refine w_reg (by (try simp only [List.length_cons, List.length_nil, Nat.reduceAdd]); rfl) (by (try simp only [List.replicate_succ, List.replicate_zero, List.cons_append, List.nil_append, List.append_nil]); rfl) (fun K' hK' => wpOps_ok ?_); conv => whnf) | (refine w_condTst rfl ?_; (repeat refine Tst.not ?_); (first | refine Tst.T ?_ | refine Tst.F ?_ | refine Tst.decT (by assumption) ?_ | refine Tst.decF (by assumption) ?_ | refine Tst.eqT (by assumption) ?_ | refine Tst.eqF (by assumption) ?_ | refine Tst.neT (by assumption) ?_ | refine Tst.neF (by assumption) ?_ | refine Tst.isT (by assumption) ?_ | refine Tst.isF (by assumption) ?_ | refine Tst.dec (fun hb => ?_) (fun hb => ?_) | refine Tst.eqI (fun hb => ?_) (fun hb => ?_) | refine Tst.neI (fun hb => ?_) (fun hb => ?_) | refine Tst.not ?_ | refine Tst.any (fun hb => ?_) (fun hb => ?_)) <;> conv => whnf) | refine w_ret ?_ | refine w_skip ?_ | refine w_blk ?_ | refine w_exit ?_ | refine q_seqR ?_ | refine q_seqE ?_ | refine q_blkN ?_ | refine q_blkR ?_ | refine q_blkH ?_ | refine q_blkE rfl ?_ | refine q_loopR ?_ | refine q_loopE ?_ | (refine Ask_V0 (c0) rfl rfl ?_; conv => whnf) | (refine Ask_V0 (awake10_v) rfl rfl ?_; conv => whnf) | first | ((first | refine Tst.T ?_ | refine Tst.F ?_ | refine Tst.decT (by assumption) ?_ | refine Tst.decF (by assumption) ?_ | refine Tst.eqT (by assumption) ?_ | refine Tst.eqF (by assumption) ?_ | refine Tst.neT (by assumption) ?_ | refine Tst.neF (by assumption) ?_ | refine Tst.isT (by assumption) ?_ | refine Tst.isF (by assumption) ?_ | refine Tst.dec (fun hb => ?_) (fun hb => ?_) | refine Tst.eqI (fun hb => ?_) (fun hb => ?_) | refine Tst.neI (fun hb => ?_) (fun hb => ?_) | refine Tst.not ?_ | refine Tst.any (fun hb => ?_) (fun hb => ?_)) <;> conv => whnf) | (refine Ari.ok (by omega) ?_; conv => whnf) | (refine IxO.ok (by omega) (by omega) ?_; conv => whnf) | (refine IxS.M (by omega) (by omega) (fun _ => rfl) ?_; conv => whnf) | (refine ⟨Nat.le_of_ble_eq_true rfl, ?_⟩; conv => whnf) | (refine ⟨rfl, ?_⟩; conv => whnf) | (refine Cat.ok (by omega) ?_; conv => whnf))
  all_goals first | exact f_lit (by simp) rfl rfl | (exfalso; exact h ⟨by assumption, by omega⟩)
theorem back_n (s : StzD) (b : ByteArray) (hl : lightL s = true) (hb : b.size ≤ 200) (h0 : checkS s ≠ 0) (hu : s.user.size ≤ 100) (hr : s.res.size ≤ 100) (hn : s.name.size ≤ 100) : CallsV Try.prog 7 [stzV s, .s b] (.b true) := by
  have c0 := light_v s
  rw [hl] at c0
  have c1 := put_v s (by omega) (by omega) (by omega)
  rw [put_bad h0] at c1
  obtain ⟨z, f, u, g, d1, d2, hcase⟩ := second b hb
  have hbb : (b.toList == b.toList) = true := by simp
  rcases hcase with ⟨rfl, rfl, rfl⟩ | ⟨hf, rfl, rfl, rfl⟩
  · exact back_w1 s _ z (checkS s) h0 hb c0 c1 d1 d2 hbb
  · exact back_w2 s b f (checkS s) h0 hf hb c0 c1 d1 d2
theorem stanzaBack_v (s : StzD) (b : ByteArray) : CallsV Try.prog 7 [stzV s, .s b] (.b true) := by
  by_cases h : lightL s = true ∧ b.size ≤ 200
  · obtain ⟨hl, hb⟩ := h
    have hl2 := hl
    unfold lightL at hl2
    simp only [Bool.and_eq_true, decide_eq_true_eq] at hl2
    by_cases h0 : checkS s = 0
    · exact back_p s b hl hb h0 hl2.1 hl2.2.1 hl2.2.2
    · exact back_n s b hl hb h0 hl2.1 hl2.2.1 hl2.2.2
  · exact back_long10 s b h
end Go.Proofs.Ytljeinlapkgjeaa
/- StanzaUnlike: the walk. -/
namespace Go.Proofs.Ytljeinlapkgjeaa
open Go.RowKit
theorem SlT_pre {s : ByteArray} {n : Nat} {K : V → Prop} (h : n ≤ s.size) (hk : K (.lit (.string (s.extract 0 n)))) : SlT s none (some (n : Int)) K :=
  ⟨by decide, by simp, by simp; omega, hk⟩
def sameE (a b : StzD) : Bool := (a.kind.toNat : Int) == (b.kind.toNat : Int) && (a.user.toList == b.user.toList && (a.res.toList == b.res.toList && (a.name.toList == b.name.toList && (a.show_ == b.show_ && (a.prio == b.prio && (a.code == b.code && (a.n == b.n && true)))))))
theorem sameE_eq {a b : StzD} (h : sameE a b = true) : a = b := by
  unfold sameE at h
  simp only [Bool.and_eq_true, beq_iff_eq, Bool.and_true, ByteArray.toList_eq] at h
  obtain ⟨h1, h2, h3, h4, h5, h6, h7, h8⟩ := h
  obtain ⟨k, u, r, n, s, p, c, m⟩ := a
  obtain ⟨k', u', r', n', s', p', c', m'⟩ := b
  simp only at h1 h2 h3 h4 h5 h6 h7 h8
  have hk : k = k' := UInt8.toNat_inj.1 (by omega)
  rw [hk, bl_inj h2, bl_inj h3, bl_inj h4, h5, h6, h7, h8]
theorem sameE_self (a : StzD) : sameE a a = true := eq_self8 a
attribute [local irreducible] AW Fin FinS FinR seqQ blkQ regQ loopQ CallsV CallsS Callable
attribute [local irreducible] readL putV sizeL checkS lightL sameE
set_option maxRecDepth 100000 in
set_option maxHeartbeats 4000000 in
theorem unl_long (a b : StzD) (h : ¬ (lightL a = true ∧ lightL b = true)) : CallsV Try.prog 8 [stzV a, stzV b] (.b true) := by
  have c0 := light_v a
  have c1 := light_v b
  generalize lightL a = t at *
  generalize lightL b = u at *
  refine callsV_comp mix Try.func8 ac8_ok ?_
  unfold ac8
  simp only [List.length_cons, List.length_nil, List.replicate_succ, List.replicate_zero, List.cons_append, List.nil_append, Nat.reduceAdd, Nat.reduceSub]
  repeat' (first | ((try simp only [Nat.reduceAdd, Nat.reduceMul, Nat.zero_add, Nat.add_zero, Int.toNat_natCast, Int.reduceToNat, stzV]); refine hK' _ _ _ ?_; clear hK' K'; first | refine q_regT ?_ | refine q_regD rfl ?_) | first | refine w_seq ?_ | refine q_seqN ?_ | (refine w_reg (by (try simp only [List.length_cons, List.length_nil, Nat.reduceAdd]); rfl) (by (try simp only [List.replicate_succ, List.replicate_zero, List.cons_append, List.nil_append, List.append_nil]); rfl) (fun K' hK' => wpOps_ok ?_); conv => whnf) | (refine w_condTst rfl ?_; (repeat refine Tst.not ?_); (first | refine Tst.T ?_ | refine Tst.F ?_ | refine Tst.decT (by assumption) ?_ | refine Tst.decF (by assumption) ?_ | refine Tst.eqT (by assumption) ?_ | refine Tst.eqF (by assumption) ?_ | refine Tst.neT (by assumption) ?_ | refine Tst.neF (by assumption) ?_ | refine Tst.isT (by assumption) ?_ | refine Tst.isF (by assumption) ?_ | refine Tst.dec (fun hb => ?_) (fun hb => ?_) | refine Tst.eqI (fun hb => ?_) (fun hb => ?_) | refine Tst.neI (fun hb => ?_) (fun hb => ?_) | refine Tst.not ?_ | refine Tst.any (fun hb => ?_) (fun hb => ?_)) <;> conv => whnf) | refine w_ret ?_ | refine w_skip ?_ | refine w_blk ?_ | refine w_exit ?_ | refine q_seqR ?_ | refine q_seqE ?_ | refine q_blkN ?_ | refine q_blkR ?_ | refine q_blkH ?_ | refine q_blkE rfl ?_ | refine q_loopR ?_ | refine q_loopE ?_ | (refine Ask_V0 (c0) rfl rfl ?_; conv => whnf) | (refine Ask_V0 (c1) rfl rfl ?_; conv => whnf) | (refine Ask_V0 (awake10_v) rfl rfl ?_; conv => whnf) | first | ((first | refine Tst.T ?_ | refine Tst.F ?_ | refine Tst.decT (by assumption) ?_ | refine Tst.decF (by assumption) ?_ | refine Tst.eqT (by assumption) ?_ | refine Tst.eqF (by assumption) ?_ | refine Tst.neT (by assumption) ?_ | refine Tst.neF (by assumption) ?_ | refine Tst.isT (by assumption) ?_ | refine Tst.isF (by assumption) ?_ | refine Tst.dec (fun hb => ?_) (fun hb => ?_) | refine Tst.eqI (fun hb => ?_) (fun hb => ?_) | refine Tst.neI (fun hb => ?_) (fun hb => ?_) | refine Tst.not ?_ | refine Tst.any (fun hb => ?_) (fun hb => ?_)) <;> conv => whnf) | (refine Ari.ok (by omega) ?_; conv => whnf) | (refine IxO.ok (by omega) (by omega) ?_; conv => whnf) | (refine IxS.M (by omega) (by omega) (fun _ => rfl) ?_; conv => whnf) | (refine ⟨Nat.le_of_ble_eq_true rfl, ?_⟩; conv => whnf) | (refine ⟨rfl, ?_⟩; conv => whnf) | (refine Cat.ok (by omega) ?_; conv => whnf))
  all_goals first | exact f_lit (by simp) rfl rfl | (exfalso; exact h ⟨by assumption, by assumption⟩)
set_option maxRecDepth 100000 in
set_option maxHeartbeats 4000000 in
theorem unl_bad (a b : StzD) (s t : ByteArray) (e f : Int) (c0 : CallsV Try.prog 26 [stzV a] (.b true)) (c1 : CallsV Try.prog 26 [stzV b] (.b true)) (c2 : CallsV Try.prog 37 [stzV a] (.tup [.s s, .i e])) (c3 : CallsV Try.prog 37 [stzV b] (.tup [.s t, .i f])) (c4 : CallsV Try.prog 35 [stzV a] (.i e)) (c5 : CallsV Try.prog 35 [stzV b] (.i f)) (h : ¬ (e = 0 ∧ f = 0)) : CallsV Try.prog 8 [stzV a, stzV b] (.b true) := by
  have he : e = e := rfl
  have hf : f = f := rfl
  refine callsV_comp mix Try.func8 ac8_ok ?_
  unfold ac8
  simp only [List.length_cons, List.length_nil, List.replicate_succ, List.replicate_zero, List.cons_append, List.nil_append, Nat.reduceAdd, Nat.reduceSub]
  repeat' (first | ((try simp only [Nat.reduceAdd, Nat.reduceMul, Nat.zero_add, Nat.add_zero, Int.toNat_natCast, Int.reduceToNat, stzV]); refine hK' _ _ _ ?_; clear hK' K'; first | refine q_regT ?_ | refine q_regD rfl ?_) | first | refine w_seq ?_ | refine q_seqN ?_ | (refine w_reg (by (try simp only [List.length_cons, List.length_nil, Nat.reduceAdd]); rfl) (by (try simp only [List.replicate_succ, List.replicate_zero, List.cons_append, List.nil_append, List.append_nil]); rfl) (fun K' hK' => wpOps_ok ?_); conv => whnf) | (refine w_condTst rfl ?_; (repeat refine Tst.not ?_); (first | refine Tst.T ?_ | refine Tst.F ?_ | refine Tst.decT (by assumption) ?_ | refine Tst.decF (by assumption) ?_ | refine Tst.eqT (by assumption) ?_ | refine Tst.eqF (by assumption) ?_ | refine Tst.neT (by assumption) ?_ | refine Tst.neF (by assumption) ?_ | refine Tst.isT (by assumption) ?_ | refine Tst.isF (by assumption) ?_ | refine Tst.dec (fun hb => ?_) (fun hb => ?_) | refine Tst.eqI (fun hb => ?_) (fun hb => ?_) | refine Tst.neI (fun hb => ?_) (fun hb => ?_) | refine Tst.not ?_ | refine Tst.any (fun hb => ?_) (fun hb => ?_)) <;> conv => whnf) | refine w_ret ?_ | refine w_skip ?_ | refine w_blk ?_ | refine w_exit ?_ | refine q_seqR ?_ | refine q_seqE ?_ | refine q_blkN ?_ | refine q_blkR ?_ | refine q_blkH ?_ | refine q_blkE rfl ?_ | refine q_loopR ?_ | refine q_loopE ?_ | (refine Ask_V0 (c0) rfl rfl ?_; conv => whnf) | (refine Ask_V0 (c1) rfl rfl ?_; conv => whnf) | (refine Ask_V0 (c2) rfl rfl ?_; conv => whnf) | (refine Ask_V0 (c3) rfl rfl ?_; conv => whnf) | (refine Ask_V0 (c4) rfl rfl ?_; conv => whnf) | (refine Ask_V0 (c5) rfl rfl ?_; conv => whnf) | (refine Ask_V0 (awake10_v) rfl rfl ?_; conv => whnf) | first | ((first | refine Tst.T ?_ | refine Tst.F ?_ | refine Tst.decT (by assumption) ?_ | refine Tst.decF (by assumption) ?_ | refine Tst.eqT (by assumption) ?_ | refine Tst.eqF (by assumption) ?_ | refine Tst.neT (by assumption) ?_ | refine Tst.neF (by assumption) ?_ | refine Tst.isT (by assumption) ?_ | refine Tst.isF (by assumption) ?_ | refine Tst.dec (fun hb => ?_) (fun hb => ?_) | refine Tst.eqI (fun hb => ?_) (fun hb => ?_) | refine Tst.neI (fun hb => ?_) (fun hb => ?_) | refine Tst.not ?_ | refine Tst.any (fun hb => ?_) (fun hb => ?_)) <;> conv => whnf) | (refine Ari.ok (by omega) ?_; conv => whnf) | (refine IxO.ok (by omega) (by omega) ?_; conv => whnf) | (refine IxS.M (by omega) (by omega) (fun _ => rfl) ?_; conv => whnf) | (refine ⟨Nat.le_of_ble_eq_true rfl, ?_⟩; conv => whnf) | (refine ⟨rfl, ?_⟩; conv => whnf) | (refine Cat.ok (by omega) ?_; conv => whnf))
  all_goals first | exact f_lit (by simp) rfl rfl | (exfalso; exact h ⟨by assumption, by assumption⟩)
set_option maxRecDepth 100000 in
set_option maxHeartbeats 4000000 in
theorem unl_ok (a b : StzD) (s t : ByteArray) (E : Bool) (c0 : CallsV Try.prog 26 [stzV a] (.b true)) (c1 : CallsV Try.prog 26 [stzV b] (.b true)) (c2 : CallsV Try.prog 37 [stzV a] (.tup [.s s, .i 0])) (c3 : CallsV Try.prog 37 [stzV b] (.tup [.s t, .i 0])) (c4 : CallsV Try.prog 40 [stzV a, stzV b] (.b E))
    (h1 : (s.size : Int) ≤ t.size → (((t.extract 0 s.size).toList == s.toList) == E) = true) (h2 : ¬ (s.size : Int) ≤ t.size → (false == E) = true) : CallsV Try.prog 8 [stzV a, stzV b] (.b true) := by
  refine callsV_comp mix Try.func8 ac8_ok ?_
  unfold ac8
  simp only [List.length_cons, List.length_nil, List.replicate_succ, List.replicate_zero, List.cons_append, List.nil_append, Nat.reduceAdd, Nat.reduceSub]
  repeat' (first | ((try simp only [Nat.reduceAdd, Nat.reduceMul, Nat.zero_add, Nat.add_zero, Int.toNat_natCast, Int.reduceToNat, stzV]); refine hK' _ _ _ ?_; clear hK' K'; first | refine q_regT ?_ | refine q_regD rfl ?_) | first | refine w_seq ?_ | refine q_seqN ?_ | (refine w_reg (by (try simp only [List.length_cons, List.length_nil, Nat.reduceAdd]); rfl) (by (try simp only [List.replicate_succ, List.replicate_zero, List.cons_append, List.nil_append, List.append_nil]); rfl) (fun K' hK' => wpOps_ok ?_); conv => whnf) | (refine w_condTst rfl ?_; (repeat refine Tst.not ?_); (first | refine Tst.T ?_ | refine Tst.F ?_ | refine Tst.decT (by assumption) ?_ | refine Tst.decF (by assumption) ?_ | refine Tst.eqT (by assumption) ?_ | refine Tst.eqF (by assumption) ?_ | refine Tst.neT (by assumption) ?_ | refine Tst.neF (by assumption) ?_ | refine Tst.isT (by assumption) ?_ | refine Tst.isF (by assumption) ?_ | refine Tst.dec (fun hb => ?_) (fun hb => ?_) | refine Tst.eqI (fun hb => ?_) (fun hb => ?_) | refine Tst.neI (fun hb => ?_) (fun hb => ?_) | refine Tst.not ?_ | refine Tst.any (fun hb => ?_) (fun hb => ?_)) <;> conv => whnf) | refine w_ret ?_ | refine w_skip ?_ | refine w_blk ?_ | refine w_exit ?_ | refine q_seqR ?_ | refine q_seqE ?_ | refine q_blkN ?_ | refine q_blkR ?_ | refine q_blkH ?_ | refine q_blkE rfl ?_ | refine q_loopR ?_ | refine q_loopE ?_ | (refine Ask_V0 (c0) rfl rfl ?_; conv => whnf) | (refine Ask_V0 (c1) rfl rfl ?_; conv => whnf) | (refine Ask_V0 (c2) rfl rfl ?_; conv => whnf) | (refine Ask_V0 (c3) rfl rfl ?_; conv => whnf) | (refine Ask_V0 (c4) rfl rfl ?_; conv => whnf) | (refine Ask_V0 (awake10_v) rfl rfl ?_; conv => whnf) | (refine SlT_pre (by omega) ?_; conv => whnf) | (refine Tst.isT (h1 (by assumption)) ?_; conv => whnf) | (refine Tst.isT (h2 (by assumption)) ?_; conv => whnf) | first | ((first | refine Tst.T ?_ | refine Tst.F ?_ | refine Tst.decT (by assumption) ?_ | refine Tst.decF (by assumption) ?_ | refine Tst.eqT (by assumption) ?_ | refine Tst.eqF (by assumption) ?_ | refine Tst.neT (by assumption) ?_ | refine Tst.neF (by assumption) ?_ | refine Tst.isT (by assumption) ?_ | refine Tst.isF (by assumption) ?_ | refine Tst.dec (fun hb => ?_) (fun hb => ?_) | refine Tst.eqI (fun hb => ?_) (fun hb => ?_) | refine Tst.neI (fun hb => ?_) (fun hb => ?_) | refine Tst.not ?_ | refine Tst.any (fun hb => ?_) (fun hb => ?_)) <;> conv => whnf) | (refine Ari.ok (by omega) ?_; conv => whnf) | (refine IxO.ok (by omega) (by omega) ?_; conv => whnf) | (refine IxS.M (by omega) (by omega) (fun _ => rfl) ?_; conv => whnf) | (refine ⟨Nat.le_of_ble_eq_true rfl, ?_⟩; conv => whnf) | (refine ⟨rfl, ?_⟩; conv => whnf) | (refine Cat.ok (by omega) ?_; conv => whnf))
  all_goals exact f_lit (by simp) rfl rfl
theorem stanzaUnlike_v (a b : StzD) : CallsV Try.prog 8 [stzV a, stzV b] (.b true) := by
  by_cases h : lightL a = true ∧ lightL b = true
  · obtain ⟨ha, hb⟩ := h
    have c0 := light_v a
    have c1 := light_v b
    rw [ha] at c0
    rw [hb] at c1
    unfold lightL at ha hb
    simp only [Bool.and_eq_true, decide_eq_true_eq] at ha hb
    have c2 := put_v a (by omega) (by omega) (by omega)
    have c3 := put_v b (by omega) (by omega) (by omega)
    have c4 := stzCheck_v a (by omega) (by omega) (by omega)
    have c5 := stzCheck_v b (by omega) (by omega) (by omega)
    have c6 : CallsV Try.prog 40 [stzV a, stzV b] (.b (sameE a b)) := by unfold sameE; exact same_v a b
    by_cases h0 : checkS a = 0
    · rw [put_ok h0] at c2
      rw [h0] at c4
      by_cases h1 : checkS b = 0
      · rw [put_ok h1] at c3
        refine unl_ok a b _ _ _ c0 c1 c2 c3 c6 (fun hs => ?_) (fun hs => ?_)
        · rw [ba_size, ba_size] at hs
          have hl : ((ba (encS b)).extract 0 (ba (encS a)).size).toList = (encS b).take (encS a).length := by
            rw [ByteArray.toList_eq, ext_list _ _ _ (by rw [ba_size, ba_size]; omega), ba_list, List.drop_zero, ba_size, Nat.sub_zero]
          rw [hl, ByteArray.toList_eq, ba_list]
          by_cases hab : a = b
          · subst hab
            rw [sameE_self, List.take_length]; simp
          · have h3 : sameE a b = false := by
              cases hE : sameE a b with
              | false => rfl
              | true => exact absurd (sameE_eq hE) hab
            rw [h3]
            have h4 : ((encS b).take (encS a).length == encS a) = false := by
              simp only [beq_eq_false_iff_ne, ne_eq]
              exact fun e => hab (enc_prefix h0 h1 e)
            rw [h4]; rfl
        · have h3 : sameE a b = false := by
            cases hE : sameE a b with
            | false => rfl
            | true => have := sameE_eq hE; subst this; exact absurd (Int.le_refl _) hs
          rw [h3]; rfl
      · rw [put_bad h1] at c3
        exact unl_bad a b _ _ _ _ c0 c1 c2 c3 c4 c5 (fun e => h1 e.2)
    · rw [put_bad h0] at c2
      by_cases h1 : checkS b = 0
      · rw [put_ok h1] at c3
        rw [h1] at c5
        exact unl_bad a b _ _ _ _ c0 c1 c2 c3 c4 c5 (fun e => h0 e.1)
      · rw [put_bad h1] at c3
        exact unl_bad a b _ _ _ _ c0 c1 c2 c3 c4 c5 (fun e => h0 e.1)
  · exact unl_long a b h
end Go.Proofs.Ytljeinlapkgjeaa
/- StanzaUnlike: for every input the call returns true, and its arguments read as they did. -/
namespace Go.Proofs.Ytljeinlapkgjeaa
open Go.ChangeShapes Go.WideShapes Go.ChangeAt Go.RowKit Go.Joins
set_option maxRecDepth 100000 in
theorem stanzaUnlike_lifted (os : Os) (started : os.Started) (H : Type) (enc : TypeId × Value → H) :
    ReturnsInHanded {} Try.checked os 8 .any (Rows.stanzaUnlikeSpec.pre6 enc Try.prog Try.f8 Rows.stanzaUnlikeRow.domain false) (Rows.stanzaUnlikeSpec.post enc Try.prog Try.f8 false true false false) := by
  refine returnsInHanded_of_change_shaped (C := Try.checked) own0 started (by kernel_rfl) Try.func8
    (ChangeSpec.witness6 (enc := enc) (C := Try.checked) false ⟨#[], #[.agg #[.int .u8 0, .string ⟨#[]⟩, .string ⟨#[]⟩, .string ⟨#[]⟩, .int .i64 0, .int .i64 0, .int .i64 0, .int .i64 0], .agg #[.int .u8 0, .string ⟨#[]⟩, .string ⟨#[]⟩, .string ⟨#[]⟩, .int .i64 0, .int .i64 0, .int .i64 0, .int .i64 0]], []⟩ 8 (by kernel_rfl) (by kernel_rfl) (by kernel_rfl) (by kernel_rfl)) ?_
  intro W base args ds gs before hval0 hW hcnd _ hsh _
  have hval : ∀ (j : Nat) t v, Try.f8.params[j]? = some t → args[j]? = some v → Value.okWide Try.prog W .any base t v := hval0
  have hW' := hW
  obtain ⟨p, q, hA0, hV, rfl, hfz, hnd⟩ := hW
  have hA : DataW.TrodAll enc Try.prog W 0 (fun _ => true) true Try.f8.params.toList args.toList ds p := hA0
  rw [Try.params8] at hA hval
  have hA2 := hA
  obtain ⟨v0, v1, d0, d1, p0, p1, rfl, rfl, hp, h0, h1⟩ := trodAll_two hA
  obtain ⟨rfl, rfl⟩ := trodVars_none hV
  obtain ⟨a, hx0⟩ := readStz (fun a => W.cell? a) (hval 0 _ v0 rfl rfl) h0
  obtain ⟨b, hx1⟩ := readStz (fun a => W.cell? a) (hval 1 _ v1 rfl rfl) h1
  refine (rep_one (stanzaUnlike_v a b) (maxLen_cell W hsh) (repA2 hx0 hx1)).mono ?_
  rintro e W' ⟨rfl, bel⟩
  refine ⟨_, rfl, _, _, _, [], p, [], hW', ?_, ?_, ?_, ?_, ?_⟩
  · exact trodAll_mk1 (shut_bool Try.underlying4 true)
  · exact trodAll_below laid0 bel (by
      intro t ht
      simp at ht
      rcases ht with rfl <;> exact ⟨by kernel_rfl, of_decide_eq_true (by kernel_rfl)⟩) hA2
  · rfl
  · exact bel.frame _
  · exact fun h => by cases h
theorem stanzaUnlike_holds : Rows.StanzaUnlikeSaid :=
  OpenClaim.holds_of_wide 8 Try.f8 rfl rfl rfl rfl rfl rfl rfl ⟨rfl, rfl, rfl, rfl, rfl⟩ rfl rfl rfl rfl rfl (by kernel_rfl) Try.func8 (by kernel_rfl)
    (of_decide_eq_true (by kernel_rfl)) (by unfold Func.isWrapper; first | (rw [if_pos (by decide +kernel)]; kernel_rfl) | (rw [if_neg (by decide +kernel)]; exact ⟨rfl, rfl⟩))
    (fun os started H enc _ => stanzaUnlike_lifted os started H enc)
#print axioms stanzaUnlike_holds
end Go.Proofs.Ytljeinlapkgjeaa
