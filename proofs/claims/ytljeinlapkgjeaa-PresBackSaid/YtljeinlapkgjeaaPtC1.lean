/- A part of the proof: 3 texts joined. -/
import Derived.Test.YtljeinlapkgjeaaPtA11
import Derived.OpenShut
set_option linter.all false
/- Stanzas and names that are read: what they stand for. -/
namespace Go.Proofs.Ytljeinlapkgjeaa
open Go.ChangeShapes Go.WideShapes Go.ChangeAt Go.RowKit Go.Joins Go.Deep
theorem cellsStr : Try.prog.cellsOf 9 = 1 := by kernel_rfl
theorem cellsU8 : Try.prog.cellsOf 5 = 1 := by kernel_rfl
theorem cellsN3 : Try.prog.cellsOf 40 = 3 := by kernel_rfl
theorem cellsStz : Try.prog.cellsOf 42 = 8 := by kernel_rfl
theorem u8_of {n : Int} (h : (Lit.int .u8 n).wf = true) : ∃ k : UInt8, n = (k.toNat : Int) := by
  have hb : 0 ≤ n ∧ n ≤ 255 := bounds_u8 h
  refine ⟨UInt8.ofNat n.toNat, ?_⟩
  have : (UInt8.ofNat n.toNat).toNat = n.toNat := by simp; omega
  rw [this]; omega
theorem okWide_arr {P : Program} {w : World} {r : Reach} {base n : Nat} {t e : TypeId} {v : Value} (ht : P.underlying t = some (.array n e)) (h : Value.okWide P w r base t v) : ∃ cs, v = .agg cs ∧ cs.size = P.cellsOf t := by
  simp only [Value.okWide, ht] at h
  obtain ⟨cs, h1, h2, _⟩ := h
  exact ⟨cs, h1, h2⟩
set_option maxRecDepth 100000 in
theorem readN3 {H : Type} {enc : TypeId × Value → H} {W : World} {base b0 : Nat} {spare : Nat → Bool} {held : Bool} {r : Reach} {v : Value} {d : DataW H} {p : List MemPlace} (m : Mem)
    (hv : Value.okWide Try.prog W r b0 40 v) (h : DataW.Trod enc Try.prog W base spare held 40 v d p) : ∃ a b c : ByteArray, Rep m noBk v (.agg [.s a, .s b, .s c]) := by
  obtain ⟨cs, rfl, hsz⟩ := okWide_arr Try.underlying40 hv
  rw [cellsN3] at hsz
  obtain ⟨fuel, hf⟩ := h
  obtain ⟨xs, n, _, _, hl, hx, hall⟩ := DataW.trod_array Try.underlying40 hf
  rw [cellsStr] at hall
  obtain ⟨l, rfl⟩ : ∃ l : List Value, cs = l.toArray := ⟨cs.toList, by simp⟩
  match xs, hx with
  | [y0, y1, y2], _ =>
    match l, hsz with
    | [c0, c1, c2], _ =>
      obtain ⟨a, e0, _⟩ := DataW.trod_string Try.underlying9 (hall 0 (by omega))
      obtain ⟨b, e1, _⟩ := DataW.trod_string Try.underlying9 (hall 1 (by omega))
      obtain ⟨c, e2, _⟩ := DataW.trod_string Try.underlying9 (hall 2 (by omega))
      simp [Value.cells] at e0 e1 e2
      subst e0 e1 e2
      exact ⟨a, b, c, rep_lits (vs := [.string a, .string b, .string c]) (by intro v hv; simp at hv; rcases hv with rfl | rfl | rfl <;> rfl)⟩
set_option maxRecDepth 100000 in
theorem readStz {H : Type} {enc : TypeId × Value → H} {W : World} {base b0 : Nat} {spare : Nat → Bool} {held : Bool} {r : Reach} {v : Value} {d : DataW H} {p : List MemPlace} (m : Mem)
    (hv : Value.okWide Try.prog W r b0 42 v) (h : DataW.Trod enc Try.prog W base spare held 42 v d p) : ∃ s : StzD, Rep m noBk v (stzV s) := by
  obtain ⟨cs, rfl, hsz⟩ := okWide_struct Try.underlying42 hv
  rw [cellsStz] at hsz
  obtain ⟨fuel, hf⟩ := h
  obtain ⟨xs, n, _, _, hl, hx, hall⟩ := DataW.trod_struct Try.underlying42 hf
  obtain ⟨l, rfl⟩ : ∃ l : List Value, cs = l.toArray := ⟨cs.toList, by simp⟩
  match xs, hx with
  | [y0, y1, y2, y3, y4, y5, y6, y7], _ =>
    match l, hsz with
    | [c0, c1, c2, c3, c4, c5, c6, c7], _ =>
      have g0 : DataW.trod enc Try.prog W base spare held n 5 (([c0, c1, c2, c3, c4, c5, c6, c7].drop 0).take (Try.prog.cellsOf 5)) = some y0 := hall 0 _ rfl
      have g1 : DataW.trod enc Try.prog W base spare held n 9 (([c0, c1, c2, c3, c4, c5, c6, c7].drop 1).take (Try.prog.cellsOf 9)) = some y1 := hall 1 _ rfl
      have g2 : DataW.trod enc Try.prog W base spare held n 9 (([c0, c1, c2, c3, c4, c5, c6, c7].drop 2).take (Try.prog.cellsOf 9)) = some y2 := hall 2 _ rfl
      have g3 : DataW.trod enc Try.prog W base spare held n 9 (([c0, c1, c2, c3, c4, c5, c6, c7].drop 3).take (Try.prog.cellsOf 9)) = some y3 := hall 3 _ rfl
      have g4 : DataW.trod enc Try.prog W base spare held n 3 (([c0, c1, c2, c3, c4, c5, c6, c7].drop 4).take (Try.prog.cellsOf 3)) = some y4 := hall 4 _ rfl
      have g5 : DataW.trod enc Try.prog W base spare held n 3 (([c0, c1, c2, c3, c4, c5, c6, c7].drop 5).take (Try.prog.cellsOf 3)) = some y5 := hall 5 _ rfl
      have g6 : DataW.trod enc Try.prog W base spare held n 3 (([c0, c1, c2, c3, c4, c5, c6, c7].drop 6).take (Try.prog.cellsOf 3)) = some y6 := hall 6 _ rfl
      have g7 : DataW.trod enc Try.prog W base spare held n 3 (([c0, c1, c2, c3, c4, c5, c6, c7].drop 7).take (Try.prog.cellsOf 3)) = some y7 := hall 7 _ rfl
      rw [cellsU8] at g0
      rw [cellsStr] at g1 g2 g3
      rw [cellsInt] at g4 g5 g6 g7
      obtain ⟨k0, e0, _, wf⟩ := DataW.trod_int Try.underlying5 g0
      obtain ⟨a, e1, _⟩ := DataW.trod_string Try.underlying9 g1
      obtain ⟨b, e2, _⟩ := DataW.trod_string Try.underlying9 g2
      obtain ⟨c, e3, _⟩ := DataW.trod_string Try.underlying9 g3
      obtain ⟨n4, e4, _⟩ := DataW.trod_int Try.underlying3 g4
      obtain ⟨n5, e5, _⟩ := DataW.trod_int Try.underlying3 g5
      obtain ⟨n6, e6, _⟩ := DataW.trod_int Try.underlying3 g6
      obtain ⟨n7, e7, _⟩ := DataW.trod_int Try.underlying3 g7
      obtain ⟨k, rfl⟩ := u8_of wf
      simp [Value.cells] at e0 e1 e2 e3 e4 e5 e6 e7
      subst e0 e1 e2 e3 e4 e5 e6 e7
      exact ⟨⟨k, a, b, c, n4, n5, n6, n7⟩, rep_lits (vs := [.int .u8 k.toNat, .string a, .string b, .string c, .int .i64 n4, .int .i64 n5, .int .i64 n6, .int .i64 n7]) (by intro v hv; simp at hv; rcases hv with rfl | rfl | rfl | rfl | rfl | rfl | rfl | rfl <;> rfl)⟩
end Go.Proofs.Ytljeinlapkgjeaa
/- What is said of a resource is told as it was: plain laws. -/
namespace Go.Proofs.Ytljeinlapkgjeaa
theorem bare_no32 (l : List UInt8) (h : isBareL l = true) : ∀ c ∈ l, c ≠ 32 := by
  simp only [isBareL, Bool.and_eq_true, decide_eq_true_eq, beq_iff_eq] at h
  obtain ⟨h1, h2⟩ := h
  unfold bareT at h2
  rw [if_pos h1] at h2
  unfold parseL at h1 h2
  split at h1
  · simp at h1
  · rename_i hx
    rw [if_neg hx] at h2
    split at h1
    · rename_i hc
      rw [if_pos hc] at h2
      simp only [textL] at h2
      unfold checkA at hc
      split at hc
      · simp at hc
      · split at hc
        · simp at hc
        · split at hc
          · rename_i _ _ hn
            simp only [Bool.and_eq_true] at hn
            obtain ⟨⟨hn1, hn2⟩, _⟩ := hn
            have a1 : ∀ c ∈ ownL l, c ≠ 32 := by
              intro c hc e
              subst e
              simp only [nameL, Bool.and_eq_true, Bool.not_eq_true'] at hn1
              have := List.any_eq_false.1 hn1.1.2 _ hc
              revert this; decide
            have a2 : ∀ c ∈ placeL l, c ≠ 32 := by
              intro c hc e
              subst e
              simp only [hostP, Bool.and_eq_true] at hn2
              have := List.all_eq_true.1 hn2.2 _ hc
              revert this; decide
            intro c hc
            rw [← h2] at hc
            simp at hc
            rcases hc with hc | rfl | hc
            · exact a1 c hc
            · decide
            · exact a2 c hc
          · simp at hc
    · rename_i hc
      exact absurd h1 hc
theorem find_app (a r : List UInt8) (h : ∀ c ∈ a, c ≠ 32) : findL (a ++ 32 :: r) 32 = a.length := by
  unfold findL
  induction a with
  | nil => simp [List.findIdx_cons]
  | cons b a ih =>
    rw [List.cons_append, List.findIdx_cons, ih (fun c hc => h c (by simp [hc]))]
    have : (b == 32) = false := by simpa using h b (by simp)
    simp [this]
theorem key_list (u r : ByteArray) : (u ++ (⟨#[32]⟩ : ByteArray) ++ r).data.toList = u.data.toList ++ 32 :: r.data.toList := by simp
theorem ba_own (s : ByteArray) : ba s.data.toList = s := bl_inj (by rw [ba_list])
theorem named_bare {u r : ByteArray} (h : namedL u r = true) : isBareL u.data.toList = true ∧ resL r.data.toList = 0 := by
  simp only [namedL, Bool.and_eq_true, decide_eq_true_eq] at h
  exact ⟨h.2, h.1⟩
theorem named_of {u r : ByteArray} (h1 : isBareL u.data.toList = true) (h2 : resL r.data.toList = 0) : namedL u r = true := by simp [namedL, h1, h2]
/-- a key's parts are what it was made of. -/
theorem split_key {u r : ByteArray} (h : namedL u r = true) : splitV (keyL u r) = .tup [.s u, .s r, .i 0] := by
  obtain ⟨hb, hr⟩ := named_bare h
  have hk : keyL u r = u ++ (⟨#[32]⟩ : ByteArray) ++ r := if_pos h
  have hl := key_list u r
  rw [← hk] at hl
  have hf : findL (keyL u r).data.toList 32 = u.data.toList.length := by rw [hl]; exact find_app _ _ (bare_no32 _ hb)
  have eu : splitU (keyL u r) = u := by unfold splitU; rw [hf, hl, List.take_left]; exact ba_own u
  have er : splitR (keyL u r) = r := by
    unfold splitR
    rw [hf, hl]
    have : (u.data.toList ++ 32 :: r.data.toList).drop (u.data.toList.length + 1) = r.data.toList := by rw [← List.drop_drop, List.drop_left]; rfl
    rw [this]; exact ba_own r
  have := splitV_d (s := keyL u r) (d := true) (by rw [hf, hl]; simp) rfl (by rw [eu, hb]; rfl) (by rw [er, hr]; rfl)
  rw [this, eu, er]
/-- parts that a key has make it again. -/
theorem key_split {s : ByteArray} (h : splitE s = 0) : keyL (splitU s) (splitR s) = s := by
  unfold splitE at h
  split at h
  · rename_i hlt
    split at h
    · simp at h
    · rename_i hb
      have hn : namedL (splitU s) (splitR s) = true := named_of (by simpa using hb) h
      have hk : keyL (splitU s) (splitR s) = splitU s ++ (⟨#[32]⟩ : ByteArray) ++ splitR s := if_pos hn
      rw [hk]
      apply bl_inj
      rw [key_list]
      unfold splitU splitR
      rw [ba_list, ba_list]
      have he : s.data.toList[findL s.data.toList 32]'hlt = 32 := by
        have := List.findIdx_getElem (p := (· == (32 : UInt8))) (xs := s.data.toList) (w := hlt)
        exact beq_iff_eq.1 this
      have h1 : 32 :: s.data.toList.drop (findL s.data.toList 32 + 1) = s.data.toList.drop (findL s.data.toList 32) := by
        rw [List.drop_eq_getElem_cons hlt, he]
      rw [h1, List.take_append_drop]
  · simp at h
end Go.Proofs.Ytljeinlapkgjeaa
/- What is said is told, what is told is said: plain laws. -/
namespace Go.Proofs.Ytljeinlapkgjeaa
theorem check_bounds {p : PresD} (h : presCheckL p = 0) : (0 ≤ p.sh ∧ p.sh ≤ 4) ∧ (-128 ≤ p.prio ∧ p.prio ≤ 127) ∧ (0 ≤ p.seq ∧ p.seq ≤ 1099511627776) ∧ (p.on = false → p.sh = 0 ∧ p.prio = 0) := by
  obtain ⟨on, sh, prio, seq⟩ := p
  revert h
  simp only [presCheckL]
  grind
theorem checkS_zero {s : StzD} (h : checkS s = 0) : knownN s.kind.toNat = true ∧ extraL s = false ∧ rangeL s = true ∧ (hasC s.kind 117 = true → isBareL s.user.data.toList = true) ∧ resL s.res.data.toList = 0 := by
  unfold checkS at h
  repeat' split at h
  all_goals simp_all
theorem checkS_of {s : StzD} (h1 : knownN s.kind.toNat = true) (h2 : extraL s = false) (h3 : rangeL s = true) (h4 : s.name.size ≤ 24) (h5 : plainL s.name.data.toList = true) (h6 : isBareL s.user.data.toList = true) (h7 : resL s.res.data.toList = 0) : checkS s = 0 := by
  unfold checkS
  rw [if_neg (by simp [h1]), if_neg (by simp [h2]), if_neg (by simp [h3]), if_neg (by omega), if_neg (by simp [h5]), if_neg (by simp [h6]), h7]
theorem say_known {u r : ByteArray} {p : PresD} (hp : presCheckL p = 0) (hn : namedL u r = true) : checkS (sayD u r p) = 0 := by
  obtain ⟨b1, b2, b3, b4⟩ := check_bounds hp
  obtain ⟨hb, hr⟩ := named_bare hn
  have hneg : ¬ (presCheckL p ≠ 0 ∨ namedL u r = false) := by simp [hp, hn]
  have em : (⟨#[]⟩ : ByteArray).toList = [] := by simp
  have k34 : hasC 34 117 = true ∧ hasC 34 114 = true ∧ hasC 34 115 = true ∧ hasC 34 112 = true ∧ hasC 34 110 = true := by decide
  have k35 : hasC 35 117 = true ∧ hasC 35 114 = true ∧ hasC 35 110 = true := by decide
  cases ho : p.on with
  | true =>
    rw [sayD_on hneg ho]
    refine checkS_of (by show knownN 34 = true; decide) ?_ ?_ (Nat.zero_le _) (by show plainL [] = true; decide) hb hr
    · simp only [extraL, k34.1, k34.2.1, k34.2.2.1, k34.2.2.2.1, k34.2.2.2.2, em]; simp
    · simp only [rangeL]; simp; omega
  | false =>
    rw [sayD_off hneg ho]
    refine checkS_of (by show knownN 35 = true; decide) ?_ ?_ (Nat.zero_le _) (by show plainL [] = true; decide) hb hr
    · simp only [extraL, k35.1, k35.2.1, k35.2.2, em]; simp
    · simp only [rangeL]; simp; omega
theorem of_said {u r : ByteArray} {p : PresD} (hp : presCheckL p = 0) (hn : namedL u r = true) : ofV (sayD u r p) = .tup [.s u, .s r, presD p, .i 0] := by
  have hc := say_known hp hn
  obtain ⟨b1, b2, b3, b4⟩ := check_bounds hp
  have hneg : ¬ (presCheckL p ≠ 0 ∨ namedL u r = false) := by simp [hp, hn]
  cases ho : p.on with
  | true =>
    rw [sayD_on hneg ho] at hc ⊢
    have e : ofP ⟨34, u, r, ⟨#[]⟩, p.sh, p.prio, 0, p.seq⟩ = p := by
      cases p; simp only at ho; subst ho; rfl
    have := ofV_d (s := ⟨34, u, r, ⟨#[]⟩, p.sh, p.prio, 0, p.seq⟩) (.inl rfl) (by rw [hc]; rfl) (by rw [e, hp]; rfl)
    rw [this, e]
  | false =>
    rw [sayD_off hneg ho] at hc ⊢
    obtain ⟨z1, z2⟩ := b4 ho
    have e : ofP ⟨35, u, r, ⟨#[]⟩, 0, 0, 0, p.seq⟩ = p := by
      cases p; simp only at ho z1 z2; subst ho z1 z2; rfl
    have := ofV_d (s := ⟨35, u, r, ⟨#[]⟩, 0, 0, 0, p.seq⟩) (.inr rfl) (by rw [hc]; rfl) (by rw [e, hp]; rfl)
    rw [this, e]
theorem emp_of {b : ByteArray} (h : b.toList.isEmpty = true) : b = ⟨#[]⟩ := (Go.toList_nil_iff_emptyBytes b).1 (List.isEmpty_iff.1 h)
theorem said_of {s : StzD} (h : ofE s = 0) : sayD s.user s.res (ofP s) = s := by
  unfold ofE at h
  split at h
  · simp at h
  · rename_i hk
    split at h
    · rename_i hc; exact absurd h hc
    · rename_i hc
      have hc' : checkS s = 0 := by simpa using hc
      obtain ⟨_, he, _, hb, hr⟩ := checkS_zero hc'
      obtain ⟨_, _, _, b4⟩ := check_bounds h
      obtain ⟨kind, user, res, name, sh, prio, code, n⟩ := s
      have hkk : kind = 34 ∨ kind = 35 := by
        simp only [← UInt8.toNat_inj]
        have h34 : UInt8.toNat 34 = 34 := rfl
        have h35 : UInt8.toNat 35 = 35 := rfl
        rw [h34, h35]
        by_cases h1 : kind.toNat = 34
        · exact .inl h1
        · by_cases h2 : kind.toNat = 35
          · exact .inr h2
          · exact absurd ⟨h1, h2⟩ hk
      rcases hkk with rfl | rfl
      · have hn : namedL user res = true := named_of (hb (by show hasC 34 117 = true; decide)) hr
        have c1 : hasC 34 109 = false ∧ hasC 34 99 = false := by decide
        simp only [extraL, c1.1, c1.2] at he
        simp at he
        rw [sayD_on (fun g => g.elim (fun g => g h) (fun g => by rw [hn] at g; cases g)) rfl]
        have e1 : name = ⟨#[]⟩ := emp_of (by simp_all)
        simp_all [ofP]
      · have hn : namedL user res = true := named_of (hb (by show hasC 35 117 = true; decide)) hr
        have c1 : hasC 35 109 = false ∧ hasC 35 99 = false := by decide
        simp only [extraL, c1.1, c1.2] at he
        simp at he
        obtain ⟨z1, z2⟩ := b4 rfl
        rw [sayD_off (fun g => g.elim (fun g => g h) (fun g => by rw [hn] at g; cases g)) rfl]
        have e1 : name = ⟨#[]⟩ := emp_of (by simp_all)
        simp_all [ofP]
end Go.Proofs.Ytljeinlapkgjeaa
