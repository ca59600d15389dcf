/- PresBack: for every input the call returns true, and its arguments read as they did. -/
import Derived.Test.YtljeinlapkgjeaaPtA11
import Derived.Test.YtljeinlapkgjeaaPtC3
import Derived.Test.YtljeinlapkgjeaaPtC4
import Derived.Test.YtljeinlapkgjeaaPtC5
import Derived.Test.YtljeinlapkgjeaaPtC1
import Derived.Test.YtljeinlapkgjeaaRows
set_option linter.all false
/- PresBack, whole. -/
namespace Go.Proofs.Ytljeinlapkgjeaa
open Go.RowKit
theorem splitU_size (s : ByteArray) : (splitU s).size ≤ s.size := by
  have : s.data.toList.length = s.size := bl_len s
  unfold splitU; rw [ba_size]; simp; omega
theorem splitR_size (s : ByteArray) : (splitR s).size ≤ s.size := by
  have : s.data.toList.length = s.size := bl_len s
  unfold splitR; rw [ba_size]; simp
theorem of_shape (s : StzD) (h1 : s.user.size ≤ 100) (h2 : s.res.size ≤ 100) : ∃ (U R : ByteArray) (Q : PresD) (E : Int), ofV s = .tup [.s U, .s R, presD Q, .i E] ∧ U.size ≤ 100 ∧ R.size ≤ 100 ∧ (E = 0 → sayD U R Q = s) := by
  by_cases h : ofE s = 0
  · exact ⟨s.user, s.res, ofP s, 0, if_neg (by simp [h]), h1, h2, fun _ => said_of h⟩
  · exact ⟨⟨#[]⟩, ⟨#[]⟩, ⟨false, 0, 0, 0⟩, ofE s, if_pos h, Nat.zero_le _, Nat.zero_le _, fun e => absurd e h⟩
theorem split_shape (c : ByteArray) (h1 : c.size ≤ 100) : ∃ (X Y : ByteArray) (F : Int), splitV c = .tup [.s X, .s Y, .i F] ∧ X.size ≤ 100 ∧ Y.size ≤ 100 ∧ (F = 0 → keyL X Y = c) := by
  by_cases h : splitE c = 0
  · exact ⟨splitU c, splitR c, 0, if_neg (by simp [h]), Nat.le_trans (splitU_size c) h1, Nat.le_trans (splitR_size c) h1, fun _ => key_split h⟩
  · exact ⟨⟨#[]⟩, ⟨#[]⟩, splitE c, if_pos h, Nat.zero_le _, Nat.zero_le _, fun e => absurd e h⟩
theorem key_pos {a b : ByteArray} (h : namedL a b = true) : ((keyL a b).toList == (⟨#[]⟩ : ByteArray).toList) = false := by
  have hk : keyL a b = a ++ (⟨#[32]⟩ : ByteArray) ++ b := if_pos h
  have e : (⟨#[]⟩ : ByteArray).toList = [] := by simp
  rw [e, ByteArray.toList_eq, hk, key_list]
  cases a.data.toList <;> rfl
theorem presBack_v (p : PresD) (a b c : ByteArray) (s : StzD) : CallsV Try.prog 5 [presD p, .agg [.s a, .s b, .s c], stzV s] (.b true) := by
  by_cases h : a.size ≤ 100 ∧ b.size ≤ 100 ∧ c.size ≤ 100 ∧ lightL s = true
  · obtain ⟨ha, hb, hc, hl⟩ := h
    have hl1 := light_v s
    rw [hl] at hl1
    simp only [lightL, Bool.and_eq_true, decide_eq_true_eq] at hl
    obtain ⟨l1, l2, l3⟩ := hl
    have hof := of_v s (by omega) (by omega) (by omega)
    obtain ⟨U, R, Q, E, e1, u1, u2, hE⟩ := of_shape s l1 l2
    rw [e1] at hof
    have hsay := say_v U R Q (by omega) (by omega)
    have hsp := split_v c (by omega)
    obtain ⟨X, Y, F, e2, x1, x2, hF⟩ := split_shape c hc
    rw [e2] at hsp
    have hkey2 := key_v X Y (by omega) (by omega)
    have q1 := key_v a b (by omega) (by omega)
    have q2 := say_v a b p (by omega) (by omega)
    have q3 := presCheck_v p
    by_cases hn : namedL a b = true
    · by_cases hp : presCheckL p = 0
      · have q4 : CallsV Try.prog 27 [stzV (sayD a b p)] (.tup [.s a, .s b, presD p, .i 0]) := by
          have hneg : ¬ (presCheckL p ≠ 0 ∨ namedL a b = false) := by simp [hp, hn]
          have z : (sayD a b p).user.size ≤ 100000 ∧ (sayD a b p).res.size ≤ 100000 ∧ (sayD a b p).name.size ≤ 100000 := by
            cases ho : p.on with
            | true => rw [sayD_on hneg ho]; exact ⟨Nat.le_trans ha (by decide), Nat.le_trans hb (by decide), Nat.zero_le _⟩
            | false => rw [sayD_off hneg ho]; exact ⟨Nat.le_trans ha (by decide), Nat.le_trans hb (by decide), Nat.zero_le _⟩
          have := of_v (sayD a b p) z.1 z.2.1 z.2.2
          rwa [of_said hp hn] at this
        have hneg : ¬ (presCheckL p ≠ 0 ∨ namedL a b = false) := by simp [hp, hn]
        have z : (sayD a b p).user.size ≤ 100000 ∧ (sayD a b p).res.size ≤ 100000 ∧ (sayD a b p).name.size ≤ 100000 ∧ (((sayD a b p).kind.toNat : Int) == 0) = false := by
          cases ho : p.on with
          | true => rw [sayD_on hneg ho]; exact ⟨Nat.le_trans ha (by decide), Nat.le_trans hb (by decide), Nat.zero_le _, rfl⟩
          | false => rw [sayD_off hneg ho]; exact ⟨Nat.le_trans ha (by decide), Nat.le_trans hb (by decide), Nat.zero_le _, rfl⟩
        have q5 := split_v (keyL a b) (by
          have hk : keyL a b = a ++ (⟨#[32]⟩ : ByteArray) ++ b := if_pos hn
          have h1 : (⟨#[32]⟩ : ByteArray).size = 1 := rfl
          rw [hk, ByteArray.size_append, ByteArray.size_append, h1]; omega)
        rw [split_key hn] at q5
        have q6 := stzCheck_v (sayD a b p) z.1 z.2.1 z.2.2.1
        rw [say_known hp hn] at q6
        rw [hp] at q3
        exact back_c p a b c U R X Y _ s _ Q E F ha hb hc hl1 hof hsay hE hsp hkey2 hF _ _ q1 q2 q3 q4 q5 q6 (key_pos hn) z.2.2.2
      · rw [sayD_bad (.inl hp)] at q2
        exact back_b p a b c U R X Y _ s _ Q E F ha hb hc hl1 hof hsay hE hsp hkey2 hF _ _ q1 q2 q3 (key_pos hn) (by simpa using hp) rfl
    · have hn' : namedL a b = false := by simpa using hn
      have hk : keyL a b = ⟨#[]⟩ := if_neg hn
      rw [sayD_bad (.inr hn')] at q2
      rw [hk] at q1
      exact back_a p a b c U R X Y _ s _ Q E F ha hb hc hl1 hof hsay hE hsp hkey2 hF q1 q2 rfl
  · exact back_long p a b c s h
end Go.Proofs.Ytljeinlapkgjeaa
/- PresBack: for every input the call returns true, and its arguments read as they did. -/
namespace Go.Proofs.Ytljeinlapkgjeaa
open Go.ChangeShapes Go.WideShapes Go.ChangeAt Go.RowKit Go.Joins
set_option maxRecDepth 100000 in
theorem presBack_lifted (os : Os) (started : os.Started) (H : Type) (enc : TypeId × Value → H) :
    ReturnsInHanded {} Try.checked os 5 .any (Rows.presBackSpec.pre6 enc Try.prog Try.f5 Rows.presBackRow.domain false) (Rows.presBackSpec.post enc Try.prog Try.f5 false true false false) := by
  refine returnsInHanded_of_change_shaped (C := Try.checked) own0 started (by kernel_rfl) Try.func5
    (ChangeSpec.witness6 (enc := enc) (C := Try.checked) false ⟨#[], #[.agg #[.bool false, .int .i64 0, .int .i64 0, .int .i64 0], .agg #[.string ⟨#[]⟩, .string ⟨#[]⟩, .string ⟨#[]⟩], .agg #[.int .u8 0, .string ⟨#[]⟩, .string ⟨#[]⟩, .string ⟨#[]⟩, .int .i64 0, .int .i64 0, .int .i64 0, .int .i64 0]], []⟩ 8 (by kernel_rfl) (by kernel_rfl) (by kernel_rfl) (by kernel_rfl)) ?_
  intro W base args ds gs before hval0 hW hcnd _ hsh _
  have hval : ∀ (j : Nat) t v, Try.f5.params[j]? = some t → args[j]? = some v → Value.okWide Try.prog W .any base t v := hval0
  have hW' := hW
  obtain ⟨p, q, hA0, hV, rfl, hfz, hnd⟩ := hW
  have hA : DataW.TrodAll enc Try.prog W 0 (fun _ => true) true Try.f5.params.toList args.toList ds p := hA0
  rw [Try.params5] at hA hval
  have hA2 := hA
  obtain ⟨v0, v1, v2, d0, d1, d2, p0, p1, p2, rfl, rfl, hp, h0, h1, h2⟩ := trodAll_three hA
  obtain ⟨rfl, rfl⟩ := trodVars_none hV
  obtain ⟨x, hx⟩ := readPres (fun a => W.cell? a) (hval 0 _ v0 rfl rfl) h0
  obtain ⟨a, b, c, hy⟩ := readN3 (fun a => W.cell? a) (hval 1 _ v1 rfl rfl) h1
  obtain ⟨s, hl⟩ := readStz (fun a => W.cell? a) (hval 2 _ v2 rfl rfl) h2
  refine (rep_one (presBack_v x a b c s) (maxLen_cell W hsh) (repA3 hx hy hl)).mono ?_
  rintro e W' ⟨rfl, bel⟩
  refine ⟨_, rfl, _, _, _, [], p, [], hW', ?_, ?_, ?_, ?_, ?_⟩
  · exact trodAll_mk1 (shut_bool Try.underlying4 true)
  · exact trodAll_below laid0 bel (by
      intro t ht
      simp at ht
      rcases ht with rfl | rfl | rfl <;> exact ⟨by kernel_rfl, of_decide_eq_true (by kernel_rfl)⟩) hA2
  · rfl
  · exact bel.frame _
  · exact fun h => by cases h
theorem presBack_holds : Rows.PresBackSaid :=
  OpenClaim.holds_of_wide 5 Try.f5 rfl rfl rfl rfl rfl rfl rfl ⟨rfl, rfl, rfl, rfl, rfl⟩ rfl rfl rfl rfl rfl (by kernel_rfl) Try.func5 (by kernel_rfl)
    (of_decide_eq_true (by kernel_rfl)) (by unfold Func.isWrapper; first | (rw [if_pos (by decide +kernel)]; kernel_rfl) | (rw [if_neg (by decide +kernel)]; exact ⟨rfl, rfl⟩))
    (fun os started H enc _ => presBack_lifted os started H enc)
#print axioms presBack_holds
end Go.Proofs.Ytljeinlapkgjeaa
